/- Script: the document's digits, texts and parts. Script: the first line, laid: lemmas; each with the conditions that it states. -/
import Derived.Test.YtiofdmjecjcdbaaGreatDoorFh
import Derived.Test.YtiofdmjecjcdbaaGreatDoorG8
import Derived.Test.YtiofdmjecjcdbaaGreatDoorG19

namespace Go.Proofs.YtiofdmjecjcdbaaGreatDoor
open Go Go.Proofs Go.Sl
set_option maxRecDepth 100000
set_option maxHeartbeats 4000000
set_option linter.unusedSimpArgs false
set_option linter.unusedVariables false
attribute [local irreducible] evG evC spl thenC inBlockC noGotoC CallT retC RetG TurnG CutG pt ro exP star sep pureP
variable {R C : List HP} {K : Value → List HP → Prop}
theorem byteI_bq {n : Int} {k : Nat} (h : n = ((48 + k : Nat) : Int)) (hk : k < 10) : (⟨([n % 256].map byteI).toArray⟩ : ByteArray) = bq [UInt8.ofNat (48 + k)] := by
  have : byteI (n % 256) = UInt8.ofNat (48 + k) := by
    subst h
    unfold byteI
    congr 1
    omega
  show bq ([n % 256].map byteI) = _
  rw [List.map_cons, this]
  rfl
theorem rdig_ok {n : Int} (hn : inR n) (hK : K (.string (bq (dgL n))) R) : CallT Tryz.prog 43 #[.int .i64 n] R K := by
  generalize hk : n.natAbs = k
  induction k using Nat.strongRecOn generalizing n K with
  | _ k ih =>
    obtain ⟨h0, h1⟩ := hn
    have hl : ∀ m : Int, inR m → (bq (dgL m)).size ≤ 20 := fun m hm => by
      obtain ⟨g0, g1⟩ := hm
      rw [bq_size]
      unfold dgL
      split
      · have := upL_len 18 (-m).toNat (by omega)
        simp; omega
      · have := upL_len 18 m.toNat (by omega)
        omega
    by_cases hneg : n < 0
    · have e48 : 48 + (0 - (0 - (0 - n) % 10)) = ((48 + (-n).toNat % 10 : Nat) : Int) := by omega
      have hb := byteI_bq e48 (Nat.mod_lt _ (by decide))
      have hl3 : (⟨([(48 + (0 - (0 - (0 - n) % 10))) % 256].map byteI).toArray⟩ : ByteArray).size = 1 := rfl
      by_cases h10 : n ≤ -10
      · have hr2 : inR (0 - (0 - n) / 10) := ⟨by omega, by omega⟩
        have hlt : (0 - (0 - n) / 10).natAbs < k := by omega
        have hl2 := hl _ hr2
        have hu : dgL n = dgL (0 - (0 - n) / 10) ++ [UInt8.ofNat (48 + (-n).toNat % 10)] := by
          rw [dgL_neg hneg, dgL_neg (by omega), upL_ge (by omega)]
          rw [show (-(0 - (0 - n) / 10)).toNat = (-n).toNat / 10 by omega]
          rfl
        rw [hu, ← bq_app] at hK
        refine callT_intro mixed Tryz.func43 rfl (by decide) (by decide +kernel) (by exact Nat.le_of_ble_eq_true rfl) ?_
        repeat' (first
          | (show evG _ _ _ _ _ _ _; first | refine G_quoM ?_ | refine G_remM ?_)
          | (show evG _ _ _ _ _ _ _; first | refine G_add64 ?_ | refine G_quo ?_ | refine G_rem ?_ | refine G_pure0 ?_ | refine evG_nil ?_ | refine G_br ?_ ?_ | refine G_pure ?_ | refine G_conv64 ?_ | refine G_conv8 ?_ | refine G_convu ?_ | refine G_conv ?_ | refine G_cat ?_ | refine G_neg64 ?_ | refine G_bytesP ?_ | refine G_bytesstr ?_ | refine G_call ?_ | refine G_call0 ?_ | (refine G_buildSlice ?_; intro _) | (refine G_strrow ?_; intro _ _))
          | (show spl _ _ _; first | refine spl_no rfl ?_ | refine spl_yes rfl ?_)
          | (show evC _ _ _ _ _; first | refine c_seq ?_ | refine c_region (by exact rfl) ?_ | refine c_cond (by exact rfl) ?_ | refine c_ret ?_ | refine c_skip ?_ | refine c_block ?_ | refine c_exit ?_ | refine std ?_)
          | (show Br _ _ _; first | refine Br.t rfl ?_ | refine Br.f rfl ?_ | refine brs ?_ | (first | refine Br.mkN (fun h => ?_) (fun h => ?_) | refine Br.mk (fun h => ?_) (fun h => ?_)) <;> (try (first | contradiction | (exfalso; omega) | (exfalso; simp at h; done))))
          | refine stp ?_
          | (show CallT _ 43 _ _ _; refine CA (h := ih _ hlt hr2 ?_ rfl)))
        all_goals (show retC _ _ _ _ _ _; refine RETC ?_; exact ret_done ((by rw [hb]; exact hK)))
      · have hu : dgL n = [45] ++ [UInt8.ofNat (48 + (-n).toNat % 10)] := by
          rw [dgL_neg hneg, upL_lt (by omega), Nat.mod_eq_of_lt (by omega)]
          rfl
        rw [hu, ← bq_app] at hK
        refine callT_intro mixed Tryz.func43 rfl (by decide) (by decide +kernel) (by exact Nat.le_of_ble_eq_true rfl) ?_
        repeat' (first
          | (show evG _ _ _ _ _ _ _; first | refine G_quoM ?_ | refine G_remM ?_)
          | (show evG _ _ _ _ _ _ _; first | refine G_add64 ?_ | refine G_quo ?_ | refine G_rem ?_ | refine G_pure0 ?_ | refine evG_nil ?_ | refine G_br ?_ ?_ | refine G_pure ?_ | refine G_conv64 ?_ | refine G_conv8 ?_ | refine G_convu ?_ | refine G_conv ?_ | refine G_cat ?_ | refine G_neg64 ?_ | refine G_bytesP ?_ | refine G_bytesstr ?_ | refine G_call ?_ | refine G_call0 ?_ | (refine G_buildSlice ?_; intro _) | (refine G_strrow ?_; intro _ _))
          | (show spl _ _ _; first | refine spl_no rfl ?_ | refine spl_yes rfl ?_)
          | (show evC _ _ _ _ _; first | refine c_seq ?_ | refine c_region (by exact rfl) ?_ | refine c_cond (by exact rfl) ?_ | refine c_ret ?_ | refine c_skip ?_ | refine c_block ?_ | refine c_exit ?_ | refine std ?_)
          | (show Br _ _ _; first | refine Br.t rfl ?_ | refine Br.f rfl ?_ | refine brs ?_ | (first | refine Br.mkN (fun h => ?_) (fun h => ?_) | refine Br.mk (fun h => ?_) (fun h => ?_)) <;> (try (first | contradiction | (exfalso; omega) | (exfalso; simp at h; done))))
          | refine stp ?_)
        all_goals (show retC _ _ _ _ _ _; refine RETC ?_; exact ret_done ((by rw [hb]; exact hK)))
    · have e48 : 48 + n % 10 = ((48 + n.toNat % 10 : Nat) : Int) := by omega
      have hb := byteI_bq e48 (Nat.mod_lt _ (by decide))
      have hl3 : (⟨([(48 + n % 10) % 256].map byteI).toArray⟩ : ByteArray).size = 1 := rfl
      by_cases h10 : 10 ≤ n
      · have hr2 : inR (n / 10) := ⟨by omega, by omega⟩
        have hlt : (n / 10).natAbs < k := by omega
        have hl2 := hl _ hr2
        have hu : dgL n = dgL (n / 10) ++ [UInt8.ofNat (48 + n.toNat % 10)] := by
          rw [dgL_pos (by omega), dgL_pos (by omega), upL_ge (by omega)]
          rw [show (n / 10).toNat = n.toNat / 10 by omega]
        rw [hu, ← bq_app] at hK
        refine callT_intro mixed Tryz.func43 rfl (by decide) (by decide +kernel) (by exact Nat.le_of_ble_eq_true rfl) ?_
        repeat' (first
          | (show evG _ _ _ _ _ _ _; first | refine G_add64 ?_ | refine G_quo ?_ | refine G_rem ?_ | refine G_pure0 ?_ | refine evG_nil ?_ | refine G_br ?_ ?_ | refine G_pure ?_ | refine G_conv64 ?_ | refine G_conv8 ?_ | refine G_convu ?_ | refine G_conv ?_ | refine G_cat ?_ | refine G_neg64 ?_ | refine G_bytesP ?_ | refine G_bytesstr ?_ | refine G_call ?_ | refine G_call0 ?_ | (refine G_buildSlice ?_; intro _) | (refine G_strrow ?_; intro _ _))
          | (show spl _ _ _; first | refine spl_no rfl ?_ | refine spl_yes rfl ?_)
          | (show evC _ _ _ _ _; first | refine c_seq ?_ | refine c_region (by exact rfl) ?_ | refine c_cond (by exact rfl) ?_ | refine c_ret ?_ | refine c_skip ?_ | refine c_block ?_ | refine c_exit ?_ | refine std ?_)
          | (show Br _ _ _; first | refine Br.t rfl ?_ | refine Br.f rfl ?_ | refine brs ?_ | (first | refine Br.mkN (fun h => ?_) (fun h => ?_) | refine Br.mk (fun h => ?_) (fun h => ?_)) <;> (try (first | contradiction | (exfalso; omega) | (exfalso; simp at h; done))))
          | refine stp ?_
          | (show CallT _ 43 _ _ _; refine CA (h := ih _ hlt hr2 ?_ rfl)))
        all_goals (show retC _ _ _ _ _ _; refine RETC ?_; exact ret_done ((by rw [hb]; exact hK)))
      · have hu : dgL n = [] ++ [UInt8.ofNat (48 + n.toNat % 10)] := by
          rw [dgL_pos (by omega), upL_lt (by omega), Nat.mod_eq_of_lt (by omega)]
          rfl
        rw [hu, ← bq_app] at hK
        refine callT_intro mixed Tryz.func43 rfl (by decide) (by decide +kernel) (by exact Nat.le_of_ble_eq_true rfl) ?_
        repeat' (first
          | (show evG _ _ _ _ _ _ _; first | refine G_add64 ?_ | refine G_quo ?_ | refine G_rem ?_ | refine G_pure0 ?_ | refine evG_nil ?_ | refine G_br ?_ ?_ | refine G_pure ?_ | refine G_conv64 ?_ | refine G_conv8 ?_ | refine G_convu ?_ | refine G_conv ?_ | refine G_cat ?_ | refine G_neg64 ?_ | refine G_bytesP ?_ | refine G_bytesstr ?_ | refine G_call ?_ | refine G_call0 ?_ | (refine G_buildSlice ?_; intro _) | (refine G_strrow ?_; intro _ _))
          | (show spl _ _ _; first | refine spl_no rfl ?_ | refine spl_yes rfl ?_)
          | (show evC _ _ _ _ _; first | refine c_seq ?_ | refine c_region (by exact rfl) ?_ | refine c_cond (by exact rfl) ?_ | refine c_ret ?_ | refine c_skip ?_ | refine c_block ?_ | refine c_exit ?_ | refine std ?_)
          | (show Br _ _ _; first | refine Br.t rfl ?_ | refine Br.f rfl ?_ | refine brs ?_ | (first | refine Br.mkN (fun h => ?_) (fun h => ?_) | refine Br.mk (fun h => ?_) (fun h => ?_)) <;> (try (first | contradiction | (exfalso; omega) | (exfalso; simp at h; done))))
          | refine stp ?_)
        all_goals (show retC _ _ _ _ _ _; refine RETC ?_; exact ret_done ((by rw [hb]; exact hK)))
end Go.Proofs.YtiofdmjecjcdbaaGreatDoor


namespace Go.Proofs.YtiofdmjecjcdbaaGreatDoor
open Go Go.Proofs Go.Sl
set_option maxRecDepth 100000
set_option maxHeartbeats 4000000
set_option linter.unusedSimpArgs false
set_option linter.unusedVariables false
attribute [local irreducible] evG evC spl thenC inBlockC noGotoC CallT retC RetG TurnG CutG pt ro exP star sep pureP
variable {R C : List HP} {K : Value → List HP → Prop}
theorem dgL_len {n : Int} (hn : inR n) : (dgL n).length ≤ 20 := by
  obtain ⟨h0, h1⟩ := hn
  unfold dgL
  split
  · have := upL_len 18 (-n).toNat (by omega)
    simp; omega
  · have := upL_len 18 n.toNat (by omega)
    omega
def cfS (l : List Int) : List UInt8 := l.flatMap fun n => 32 :: dgL n
theorem joi_cf (t : List UInt8) : ∀ l : List Int, joi 32 (t :: l.map dgL) = t ++ cfS l
  | [] => by simp [joi, cfS]
  | n :: l => by
    rw [List.map_cons, joi_cons (by simp), joi_cf (dgL n) l]
    simp [cfS]
theorem hdS_eq (a b : List Int) : hdS (a ++ b) = titB ++ cfS a ++ cfS b := by
  unfold hdS hdP
  rw [joi_cf]
  simp [cfS]
theorem cfS_len : ∀ l : List Int, (∀ n ∈ l, inR n) → (cfS l).length ≤ 21 * l.length
  | [], _ => by simp [cfS]
  | n :: l, h => by
    have h1 := dgL_len (h n (by simp))
    have h2 := cfS_len l fun z hz => h z (List.mem_cons_of_mem _ hz)
    have e : cfS (n :: l) = 32 :: dgL n ++ cfS l := by simp [cfS]
    rw [e, List.length_append, List.length_cons, List.length_cons]
    omega
theorem hdS_len {ns : List Int} (h : ns.length = 18) (hr : ∀ n ∈ ns, inR n) : (hdS ns).length ≤ 389 := by
  have e := hdS_eq ns []
  rw [List.append_nil] at e
  have := cfS_len ns hr
  rw [e]
  simp [cfS, titB] at this ⊢
  omega
theorem rconf_ok {w st it sb si stg ev wa stl : Int} (hr : ∀ n ∈ [w, st, it, sb, si, stg, ev, wa, stl], inR n) (hK : K (.string (bq (cfS [w, st, it, sb, si, stg, ev, wa, stl]))) R) : CallT Tryz.prog 38 #[.agg #[.int .i64 w, .int .i64 st, .int .i64 it, .int .i64 sb, .int .i64 si, .int .i64 stg, .int .i64 ev, .int .i64 wa, .int .i64 stl]] R K := by
  refine callT_intro mixed Tryz.func38 rfl (by decide) (by decide +kernel) (by exact Nat.le_of_ble_eq_true rfl) ?_
  repeat' (first
    | (show evG _ _ _ _ _ _ _; first | refine G_add64 ?_ | refine G_pure0 ?_ | refine G_load ?_ | refine evG_nil ?_ | refine G_br ?_ ?_ | refine G_field ?_ | refine G_pure ?_ | refine G_loadV ?_ | refine G_loadV0 ?_ | refine G_loadV2 ?_ | refine G_index ?_ | refine G_indexA ?_ | refine G_cat ?_ | refine G_call ?_ | refine G_call0 ?_ | (refine G_box ?_; intro _) | (refine G_buildSlice ?_; intro _) | (refine G_indexV ?_; intro _ _ hA; subst hA))
    | (show spl _ _ _; first | refine spl_no rfl ?_ | refine spl_yes rfl ?_)
    | (show evC _ _ _ _ _; first | refine c_seq ?_ | refine c_region (by exact rfl) ?_ | refine c_cond (by exact rfl) ?_ | refine c_ret ?_ | refine c_skip ?_ | refine c_block ?_ | refine c_exit ?_ | refine std ?_)
    | (show Br _ _ _; first | refine Br.t rfl ?_ | refine Br.f rfl ?_ | refine brs ?_ | (first | refine Br.mkN (fun h => ?_) (fun h => ?_) | refine Br.mk (fun h => ?_) (fun h => ?_)) <;> (try (first | contradiction | (exfalso; omega) | (exfalso; simp at h; done))))
    | refine stp ?_)
  rename_i t1 r3
  generalize hX : [w, st, it, sb, si, stg, ev, wa, stl] = X at hr hK
  refine LOOP (fun k f C' => ∃ j : Nat, j + k = 9 ∧ C' = pt r3 [.int .i64 w, .int .i64 st, .int .i64 it, .int .i64 sb, .int .i64 si, .int .i64 stg, .int .i64 ev, .int .i64 wa, .int .i64 stl] 3 :: R ∧ Agree f [(3, .slice (some ⟨r3, 0, none⟩) 9 9), (4, .string (bq (cfS (X.take j)))), (5, .int .i64 j)]) 9 (turn 9 ⟨0, by omega, rfl, rfl, rfl, rfl, trivial⟩) ?_
  rintro n1 f C' ⟨j, hj, rfl, hA⟩
  refine c_fr _ hA ?_
  simp only [updL]
  have hX9 : X.length = 9 := by rw [← hX]; rfl
  have hv : View (pt r3 [.int .i64 w, .int .i64 st, .int .i64 it, .int .i64 sb, .int .i64 si, .int .i64 stg, .int .i64 ev, .int .i64 wa, .int .i64 stl] 3 :: R) (some ⟨r3, 0, none⟩) inC31 X := by rw [← hX]; exact view_pt
  by_cases hlt : j < 9
  · obtain ⟨x, hx⟩ : ∃ x, X[j]? = some x := ⟨_, List.getElem?_eq_getElem (by omega)⟩
    have hxr := hr x (List.mem_of_getElem? hx)
    have hl1 := cfS_len (X.take j) fun n hn => hr n (List.mem_of_mem_take hn)
    have hl2 : (X.take j).length ≤ 9 := by simp; omega
    have hl3 := bq_size (cfS (X.take j))
    have hl4 := dgL_len hxr
    have hl5 := bq_size (dgL x)
    have hst : bq (cfS (X.take (j + 1))) = bq (cfS (X.take j)) ++ ⟨#[32]⟩ ++ bq (dgL x) := by
      rw [List.take_add_one, hx, show (⟨#[32]⟩ : ByteArray) = bq [32] from rfl, bq_app, bq_app]
      simp [cfS]
    repeat' (first
      | (show evG _ _ _ _ _ _ _; first | refine G_add64 ?_ | refine G_pure0 ?_ | refine G_load ?_ | refine evG_nil ?_ | refine G_br ?_ ?_ | refine G_field ?_ | refine G_pure ?_ | refine G_loadV ?_ | refine G_loadV0 ?_ | refine G_loadV2 ?_ | refine G_index ?_ | refine G_indexA ?_ | refine G_cat ?_ | refine G_call ?_ | refine G_call0 ?_ | (refine G_box ?_; intro _) | (refine G_buildSlice ?_; intro _) | (refine G_indexV ?_; intro _ _ hA; subst hA))
      | (show spl _ _ _; first | refine spl_no rfl ?_ | refine spl_yes rfl ?_)
      | (show evC _ _ _ _ _; first | refine c_seq ?_ | refine c_region (by exact rfl) ?_ | refine c_cond (by exact rfl) ?_ | refine c_ret ?_ | refine c_skip ?_ | refine c_block ?_ | refine c_exit ?_ | refine std ?_)
      | (show Br _ _ _; first | refine Br.t rfl ?_ | refine Br.f rfl ?_ | refine brs ?_ | (first | refine Br.mkN (fun h => ?_) (fun h => ?_) | refine Br.mk (fun h => ?_) (fun h => ?_)) <;> (try (first | contradiction | (exfalso; omega) | (exfalso; simp at h; done))))
      | refine stp ?_
      | (show CallT _ 43 _ _ _; refine CA (h := rdig_ok hxr ?_)))
    all_goals (show TurnG _ _ _ _; exact turn (n1 - 1) ⟨j + 1, by omega, rfl, rfl, by rw [hst]; rfl, rfl, trivial⟩)
  · obtain rfl : j = 9 := by omega
    rw [List.take_of_length_le (by omega)]
    repeat' (first
      | (show evG _ _ _ _ _ _ _; first | refine G_add64 ?_ | refine G_pure0 ?_ | refine G_load ?_ | refine evG_nil ?_ | refine G_br ?_ ?_ | refine G_field ?_ | refine G_pure ?_ | refine G_loadV ?_ | refine G_loadV0 ?_ | refine G_loadV2 ?_ | refine G_index ?_ | refine G_indexA ?_ | refine G_cat ?_ | refine G_call ?_ | refine G_call0 ?_ | (refine G_box ?_; intro _) | (refine G_buildSlice ?_; intro _) | (refine G_indexV ?_; intro _ _ hA; subst hA))
      | (show spl _ _ _; first | refine spl_no rfl ?_ | refine spl_yes rfl ?_)
      | (show evC _ _ _ _ _; first | refine c_seq ?_ | refine c_region (by exact rfl) ?_ | refine c_cond (by exact rfl) ?_ | refine c_ret ?_ | refine c_skip ?_ | refine c_block ?_ | refine c_exit ?_ | refine std ?_)
      | (show Br _ _ _; first | refine Br.t rfl ?_ | refine Br.f rfl ?_ | refine brs ?_ | (first | refine Br.mkN (fun h => ?_) (fun h => ?_) | refine Br.mk (fun h => ?_) (fun h => ?_)) <;> (try (first | contradiction | (exfalso; omega) | (exfalso; simp at h; done))))
      | refine stp ?_)
    all_goals (show retC _ _ _ _ _ _; refine RETC ?_; exact ret_done (hK))
theorem rhead_ok {n0 n1 n2 n3 n4 n5 n6 n7 n8 n9 n10 n11 n12 n13 n14 n15 n16 n17 : Int} (hr : ∀ n ∈ [n0, n1, n2, n3, n4, n5, n6, n7, n8, n9, n10, n11, n12, n13, n14, n15, n16, n17], inR n) (hK : K (.string (bq (hdS [n0, n1, n2, n3, n4, n5, n6, n7, n8, n9, n10, n11, n12, n13, n14, n15, n16, n17]))) R) : CallT Tryz.prog 14 #[.agg #[.int .i64 n0, .int .i64 n1, .int .i64 n2, .int .i64 n3, .int .i64 n4, .int .i64 n5, .int .i64 n6, .int .i64 n7, .int .i64 n8], .agg #[.int .i64 n9, .int .i64 n10, .int .i64 n11, .int .i64 n12, .int .i64 n13, .int .i64 n14, .int .i64 n15, .int .i64 n16, .int .i64 n17]] R K := by
  have hra : ∀ n ∈ [n0, n1, n2, n3, n4, n5, n6, n7, n8], inR n := fun n hn => hr n (List.mem_append_left [n9, n10, n11, n12, n13, n14, n15, n16, n17] hn)
  have hrb : ∀ n ∈ [n9, n10, n11, n12, n13, n14, n15, n16, n17], inR n := fun n hn => hr n (List.mem_append_right [n0, n1, n2, n3, n4, n5, n6, n7, n8] hn)
  have e : bq (hdS [n0, n1, n2, n3, n4, n5, n6, n7, n8, n9, n10, n11, n12, n13, n14, n15, n16, n17]) = ⟨#[112, 97, 116, 101, 114, 110, 111, 115, 116, 101, 114]⟩ ++ bq (cfS [n0, n1, n2, n3, n4, n5, n6, n7, n8]) ++ bq (cfS [n9, n10, n11, n12, n13, n14, n15, n16, n17]) := by
    rw [show [n0, n1, n2, n3, n4, n5, n6, n7, n8, n9, n10, n11, n12, n13, n14, n15, n16, n17] = [n0, n1, n2, n3, n4, n5, n6, n7, n8] ++ [n9, n10, n11, n12, n13, n14, n15, n16, n17] from rfl, hdS_eq, ← bq_app, ← bq_app]
    rfl
  have hl1 := cfS_len _ hra
  have hl2 := cfS_len _ hrb
  have hl3 := bq_size (cfS [n0, n1, n2, n3, n4, n5, n6, n7, n8])
  have hl4 := bq_size (cfS [n9, n10, n11, n12, n13, n14, n15, n16, n17])
  simp only [List.length_cons, List.length_nil] at hl1 hl2
  rw [e] at hK
  refine callT_intro mixed Tryz.func14 rfl (by decide) (by decide +kernel) (by exact Nat.le_of_ble_eq_true rfl) ?_
  repeat' (first
    | (show evG _ _ _ _ _ _ _; first | refine G_add64 ?_ | refine G_pure0 ?_ | refine G_load ?_ | refine evG_nil ?_ | refine G_br ?_ ?_ | refine G_pure ?_ | refine G_loadV ?_ | refine G_loadV0 ?_ | refine G_loadV2 ?_ | refine G_cat ?_ | refine G_call ?_ | refine G_call0 ?_ | (refine G_box ?_; intro _))
    | (show spl _ _ _; first | refine spl_no rfl ?_ | refine spl_yes rfl ?_)
    | (show evC _ _ _ _ _; first | refine c_seq ?_ | refine c_region (by exact rfl) ?_ | refine c_cond (by exact rfl) ?_ | refine c_ret ?_ | refine c_skip ?_ | refine c_block ?_ | refine c_exit ?_ | (show evC _ (.region 1 _ true) _ _ _; refine c_draw (l := [(0, 0), (1, 1), (3, 1), (4, 1), (2, 1), (5, 0), (6, 0)]) (by decide +kernel) (by decide +kernel) (by exact rfl) ?_) | refine std ?_)
    | (show Br _ _ _; first | refine Br.t rfl ?_ | refine Br.f rfl ?_ | refine brs ?_ | (first | refine Br.mkN (fun h => ?_) (fun h => ?_) | refine Br.mk (fun h => ?_) (fun h => ?_)) <;> (try (first | contradiction | (exfalso; omega) | (exfalso; simp at h; done))))
    | refine stp ?_
    | (show CallT _ 38 _ _ _; first | refine CA (h := rconf_ok hra ?_) | refine CA (h := rconf_ok hrb ?_)))
  all_goals (show retC _ _ _ _ _ _; refine RETC ?_; exact ret_done (hK))
end Go.Proofs.YtiofdmjecjcdbaaGreatDoor

