/- Script: the first line, laid: lemmas; each with the conditions that it states. -/
import Derived.Test.YtiofdmjecjcdbaaGreatDoorFh
import Derived.Test.YtiofdmjecjcdbaaGreatDoorG19
import Derived.Test.YtiofdmjecjcdbaaGreatDoorG11

namespace Go.Proofs.YtiofdmjecjcdbaaGreatDoor
open Go Go.Proofs Go.Sl
set_option maxRecDepth 100000
set_option maxHeartbeats 4000000
set_option linter.unusedSimpArgs false
set_option linter.unusedVariables false
attribute [local irreducible] evG evC spl thenC inBlockC noGotoC CallT retC RetG TurnG CutG pt ro exP star sep pureP
variable {R C : List HP} {K : Value → List HP → Prop}
theorem sconf_ok {w st it sb si stg ev wa stl : Int} (hK : ∀ r, K (.slice (some ⟨r, 0, none⟩) 9 9) (pt r [.int .i64 w, .int .i64 st, .int .i64 it, .int .i64 sb, .int .i64 si, .int .i64 stg, .int .i64 ev, .int .i64 wa, .int .i64 stl] 3 :: R)) : CallT Tryz.prog 47 #[.agg #[.int .i64 w, .int .i64 st, .int .i64 it, .int .i64 sb, .int .i64 si, .int .i64 stg, .int .i64 ev, .int .i64 wa, .int .i64 stl]] R K := by
  refine callT_intro mixed Tryz.func47 rfl (by decide) (by decide +kernel) (by exact Nat.le_of_ble_eq_true rfl) ?_
  repeat' (first
    | (show evG _ _ _ _ _ _ _; first | refine G_pure0 ?_ | refine G_load ?_ | refine evG_nil ?_ | refine G_br ?_ ?_ | refine G_field ?_ | refine G_pure ?_ | refine G_loadV ?_ | refine G_loadV0 ?_ | refine G_loadV2 ?_ | (refine G_box ?_; intro _) | (refine G_buildSlice ?_; intro _))
    | (show spl _ _ _; first | refine spl_no rfl ?_ | refine spl_yes rfl ?_)
    | (show evC _ _ _ _ _; first | refine c_seq ?_ | refine c_region (by exact rfl) ?_ | refine c_cond (by exact rfl) ?_ | refine c_ret ?_ | refine c_skip ?_ | refine c_block ?_ | refine c_exit ?_ | refine std ?_)
    | (show Br _ _ _; first | refine Br.t rfl ?_ | refine Br.f rfl ?_ | refine brs ?_ | (first | refine Br.mkN (fun h => ?_) (fun h => ?_) | refine Br.mk (fun h => ?_) (fun h => ?_)) <;> (try (first | contradiction | (exfalso; omega) | (exfalso; simp at h; done))))
    | refine stp ?_)
  all_goals (show retC _ _ _ _ _ _; refine RETC ?_; exact ret_done (hK _))
theorem dgL_len {n : Int} (hn : inR n) : (dgL n).length ≤ 20 := by
  obtain ⟨h0, h1⟩ := hn
  unfold dgL
  split
  · have := upL_len 18 (-n).toNat (by omega)
    simp; omega
  · have := upL_len 18 n.toNat (by omega)
    omega
theorem add_ok {p : Nat} {A B : Option Addr} {n m c cb : Nat} {xs : List Int} {ss : List ByteArray} (hv : View C A inC31 xs) (hn : xs.length = n) (hn2 : n ≤ 1000) (hm : ss.length = m) (hm2 : m ≤ 1000) (hr : ∀ x ∈ xs, inR x)
    (hK : ∀ B' cb', K (.tuple #[]) (pt p [.slice B' (m + n) cb'] 58 :: row B' cb' 9 sgC (ss ++ xs.map fun x => bq (dgL x)) :: C)) : CallT Tryz.prog 46 #[.slice A n c, .pointer (some ⟨p, 0, none⟩)] (pt p [.slice B m cb] 58 :: row B cb 9 sgC ss :: C) K := by
  refine callT_intro mixed Tryz.func46 rfl (by decide) (by decide +kernel) (by exact Nat.le_of_ble_eq_true rfl) ?_
  repeat' (first
    | (show evG _ _ _ _ _ _ _; first | refine G_add64 ?_ | refine G_pure0 ?_ | refine G_load ?_ | refine evG_nil ?_ | refine G_br ?_ ?_ | refine G_pure ?_ | refine G_store ?_ | refine G_loadV ?_ | refine G_loadV0 ?_ | refine G_loadV2 ?_ | (refine G_append ?_; intro _ _) | (refine G_appendN ?_; intro _ _) | refine G_index ?_ | refine G_indexA ?_ | refine G_cat ?_ | refine G_call ?_ | refine G_call0 ?_ | (refine G_buildSlice ?_; intro _) | (refine G_indexV ?_; intro _ _ hA; subst hA))
    | (show spl _ _ _; first | refine spl_no rfl ?_ | refine spl_yes rfl ?_)
    | (show evC _ _ _ _ _; first | refine c_seq ?_ | refine c_region (by exact rfl) ?_ | refine c_cond (by exact rfl) ?_ | refine c_ret ?_ | refine c_skip ?_ | refine c_block ?_ | refine c_exit ?_ | (show evC _ (.region 3 _ true) _ _ _; refine c_draw (l := [(1, 0), (2, 1), (3, 1), (0, 2), (4, 1), (5, 1)]) (by decide +kernel) (by decide +kernel) (by exact rfl) ?_) | refine std ?_)
    | (show Br _ _ _; first | refine Br.t rfl ?_ | refine Br.f rfl ?_ | refine brs ?_ | (first | refine Br.mkN (fun h => ?_) (fun h => ?_) | refine Br.mk (fun h => ?_) (fun h => ?_)) <;> (try (first | contradiction | (exfalso; omega) | (exfalso; simp at h; done))))
    | refine stp ?_)
  refine LOOP (fun k f C' => ∃ (j mm c' : Nat) (B' : Option Addr), j + k = n ∧ mm = m + j ∧ C' = pt p [.slice B' mm c'] 58 :: row B' c' 9 sgC (ss ++ (xs.take j).map fun x => bq (dgL x)) :: C ∧ Agree f [(1, .pointer (some ⟨p, 0, none⟩)), (5, .slice A n c), (6, .int .i64 n), (7, .int .i64 j)]) n (turn n ⟨0, _, _, _, by omega, rfl, by rw [List.take_zero, List.map_nil, List.append_nil], rfl, rfl, rfl, rfl, trivial⟩) ?_
  rintro n1 f C' ⟨j, mm, c', B', hj, hmm, rfl, hA⟩
  refine c_fr _ hA ?_
  simp only [updL]
  by_cases hlt : j < n
  · obtain ⟨x, hx⟩ : ∃ x, xs[j]? = some x := ⟨_, List.getElem?_eq_getElem (by omega)⟩
    have hxr := hr x (List.mem_of_getElem? hx)
    have hvv : View (pt p [.slice B' mm c'] 58 :: row B' c' 9 sgC (ss ++ (xs.take j).map fun x => bq (dgL x)) :: C) A inC31 xs := view_there (view_there hv)
    have hrl : (ss ++ (xs.take j).map fun x => bq (dgL x)).length = mm := by simp; omega
    have hst : (xs.take (j + 1)).map (fun x => bq (dgL x)) = (xs.take j).map (fun x => bq (dgL x)) ++ [bq (dgL x)] := by rw [List.take_add_one, hx]; simp
    repeat' (first
      | (show evG _ _ _ _ _ _ _; first | refine G_add64 ?_ | refine G_pure0 ?_ | refine G_load ?_ | refine evG_nil ?_ | refine G_br ?_ ?_ | refine G_pure ?_ | refine G_store ?_ | refine G_loadV ?_ | refine G_loadV0 ?_ | refine G_loadV2 ?_ | (refine G_append ?_; intro _ _) | (refine G_appendN ?_; intro _ _) | refine G_index ?_ | refine G_indexA ?_ | refine G_cat ?_ | refine G_call ?_ | refine G_call0 ?_ | (refine G_buildSlice ?_; intro _) | (refine G_indexV ?_; intro _ _ hA; subst hA))
      | (show spl _ _ _; first | refine spl_no rfl ?_ | refine spl_yes rfl ?_)
      | (show evC _ _ _ _ _; first | refine c_seq ?_ | refine c_region (by exact rfl) ?_ | refine c_cond (by exact rfl) ?_ | refine c_ret ?_ | refine c_skip ?_ | refine c_block ?_ | refine c_exit ?_ | (show evC _ (.region 3 _ true) _ _ _; refine c_draw (l := [(1, 0), (2, 1), (3, 1), (0, 2), (4, 1), (5, 1)]) (by decide +kernel) (by decide +kernel) (by exact rfl) ?_) | refine std ?_)
      | (show Br _ _ _; first | refine Br.t rfl ?_ | refine Br.f rfl ?_ | refine brs ?_ | (first | refine Br.mkN (fun h => ?_) (fun h => ?_) | refine Br.mk (fun h => ?_) (fun h => ?_)) <;> (try (first | contradiction | (exfalso; omega) | (exfalso; simp at h; done))))
      | refine stp ?_
      | (show CallT _ 34 _ _ _; refine CA (h := number_ok hxr ?_)))
    all_goals (show TurnG _ _ _ _; exact turn (n1 - 1) ⟨j + 1, ((ss ++ (xs.take j).map fun x => bq (dgL x)) ++ [bq (dgL x)]).length, _, _, by omega, (by rw [List.length_append, hrl, hmm]; rfl), by rw [hst, ← List.append_assoc], rfl, rfl, rfl, rfl, trivial⟩)
  · obtain rfl : j = n := by omega
    rw [List.take_of_length_le (by omega)]
    subst hmm
    repeat' (first
      | (show evG _ _ _ _ _ _ _; first | refine G_add64 ?_ | refine G_pure0 ?_ | refine G_load ?_ | refine evG_nil ?_ | refine G_br ?_ ?_ | refine G_pure ?_ | refine G_store ?_ | refine G_loadV ?_ | refine G_loadV0 ?_ | refine G_loadV2 ?_ | (refine G_append ?_; intro _ _) | (refine G_appendN ?_; intro _ _) | refine G_index ?_ | refine G_indexA ?_ | refine G_cat ?_ | refine G_call ?_ | refine G_call0 ?_ | (refine G_buildSlice ?_; intro _) | (refine G_indexV ?_; intro _ _ hA; subst hA))
      | (show spl _ _ _; first | refine spl_no rfl ?_ | refine spl_yes rfl ?_)
      | (show evC _ _ _ _ _; first | refine c_seq ?_ | refine c_region (by exact rfl) ?_ | refine c_cond (by exact rfl) ?_ | refine c_ret ?_ | refine c_skip ?_ | refine c_block ?_ | refine c_exit ?_ | (show evC _ (.region 3 _ true) _ _ _; refine c_draw (l := [(1, 0), (2, 1), (3, 1), (0, 2), (4, 1), (5, 1)]) (by decide +kernel) (by decide +kernel) (by exact rfl) ?_) | refine std ?_)
      | (show Br _ _ _; first | refine Br.t rfl ?_ | refine Br.f rfl ?_ | refine brs ?_ | (first | refine Br.mkN (fun h => ?_) (fun h => ?_) | refine Br.mk (fun h => ?_) (fun h => ?_)) <;> (try (first | contradiction | (exfalso; omega) | (exfalso; simp at h; done))))
      | refine stp ?_)
    all_goals (show retC _ _ _ _ _ _; refine RETC ?_; exact ret_done (hK _ _))
theorem add0_ok {p r : Nat} {A : Option Addr} {n c : Nat} {xs : List Int} {s : ByteArray} (hv : View C A inC31 xs) (hn : xs.length = n) (hn2 : n ≤ 1000) (hr : ∀ x ∈ xs, inR x)
    (hK : ∀ B' cb', K (.tuple #[]) (pt p [.slice B' (1 + n) cb'] 58 :: row B' cb' 9 sgC ([s] ++ xs.map fun x => bq (dgL x)) :: C)) : CallT Tryz.prog 46 #[.slice A n c, .pointer (some ⟨p, 0, none⟩)] (pt p [.slice (some ⟨r, 0, none⟩) 1 1] 58 :: pt r [.string s] 9 :: C) K :=
  CallT.ent (Ent.trans (by exact entA) (Ent.trans (Ent.ptRow1 (r := r) (n := 1) (E := sgC) (e := 9) (xs := [s]) (v := Value.string) (C := pt p [.slice (some ⟨r, 0, none⟩) 1 1] 58 :: C) (fun _ => rfl) rfl) Ent.swap2)) (add_ok hv hn hn2 rfl (by decide) hr hK)
def cfS (l : List Int) : List UInt8 := l.flatMap fun n => 32 :: dgL n
theorem joi_cf (t : List UInt8) : ∀ l : List Int, joi 32 (t :: l.map dgL) = t ++ cfS l
  | [] => by simp [joi, cfS]
  | n :: l => by
    rw [List.map_cons, joi_cons (by simp), joi_cf (dgL n) l]
    simp [cfS]
theorem hdS_eq (a b : List Int) : hdS (a ++ b) = titB ++ cfS a ++ cfS b := by
  unfold hdS hdP
  rw [joi_cf]
  simp [cfS]
theorem cfS_len : ∀ l : List Int, (∀ n ∈ l, inR n) → (cfS l).length ≤ 21 * l.length
  | [], _ => by simp [cfS]
  | n :: l, h => by
    have h1 := dgL_len (h n (by simp))
    have h2 := cfS_len l fun z hz => h z (List.mem_cons_of_mem _ hz)
    have e : cfS (n :: l) = 32 :: dgL n ++ cfS l := by simp [cfS]
    rw [e, List.length_append, List.length_cons, List.length_cons]
    omega
theorem hdS_len {ns : List Int} (h : ns.length = 18) (hr : ∀ n ∈ ns, inR n) : (hdS ns).length ≤ 389 := by
  have e := hdS_eq ns []
  rw [List.append_nil] at e
  have := cfS_len ns hr
  rw [e]
  simp [cfS, titB] at this ⊢
  omega
theorem shead_ok {n0 n1 n2 n3 n4 n5 n6 n7 n8 n9 n10 n11 n12 n13 n14 n15 n16 n17 : Int} (hr : ∀ n ∈ [n0, n1, n2, n3, n4, n5, n6, n7, n8, n9, n10, n11, n12, n13, n14, n15, n16, n17], inR n) (hK : K (.string (bq (hdS [n0, n1, n2, n3, n4, n5, n6, n7, n8, n9, n10, n11, n12, n13, n14, n15, n16, n17]))) R) : CallT Tryz.prog 21 #[.agg #[.int .i64 n0, .int .i64 n1, .int .i64 n2, .int .i64 n3, .int .i64 n4, .int .i64 n5, .int .i64 n6, .int .i64 n7, .int .i64 n8], .agg #[.int .i64 n9, .int .i64 n10, .int .i64 n11, .int .i64 n12, .int .i64 n13, .int .i64 n14, .int .i64 n15, .int .i64 n16, .int .i64 n17]] R K := by
  have hra : ∀ n ∈ [n0, n1, n2, n3, n4, n5, n6, n7, n8], inR n := fun n hn => hr n (List.mem_append_left [n9, n10, n11, n12, n13, n14, n15, n16, n17] hn)
  have hrb : ∀ n ∈ [n9, n10, n11, n12, n13, n14, n15, n16, n17], inR n := fun n hn => hr n (List.mem_append_right [n0, n1, n2, n3, n4, n5, n6, n7, n8] hn)
  have hjl : (joi 32 (hdP [n0, n1, n2, n3, n4, n5, n6, n7, n8, n9, n10, n11, n12, n13, n14, n15, n16, n17])).length ≤ 100000000 := by have := hdS_len (ns := [n0, n1, n2, n3, n4, n5, n6, n7, n8, n9, n10, n11, n12, n13, n14, n15, n16, n17]) rfl hr; unfold hdS at this; omega
  have hjp : hdP [n0, n1, n2, n3, n4, n5, n6, n7, n8, n9, n10, n11, n12, n13, n14, n15, n16, n17] ≠ [] := by simp [hdP]
  have hj3 : 19 ≤ 1000000 := by decide
  refine callT_intro mixed Tryz.func21 rfl (by decide) (by decide +kernel) (by exact Nat.le_of_ble_eq_true rfl) ?_
  repeat' (first
    | (show evG _ _ _ _ _ _ _; first | refine G_pure0 ?_ | refine G_load ?_ | refine evG_nil ?_ | refine G_br ?_ ?_ | refine G_pure ?_ | refine G_store ?_ | refine G_loadV ?_ | refine G_loadV0 ?_ | refine G_loadV2 ?_ | refine G_call ?_ | refine G_call0 ?_ | refine G_callv ?_ | refine G_callv0 ?_ | (refine G_box ?_; intro _) | (refine G_alloc ?_; intro _) | (refine G_buildSlice ?_; intro _))
    | (show spl _ _ _; first | refine spl_no rfl ?_ | refine spl_yes rfl ?_)
    | (show evC _ _ _ _ _; first | refine c_seq ?_ | refine c_region (by exact rfl) ?_ | refine c_cond (by exact rfl) ?_ | refine c_ret ?_ | refine c_skip ?_ | refine c_block ?_ | refine c_exit ?_ | refine std ?_)
    | (show Br _ _ _; first | refine Br.t rfl ?_ | refine Br.f rfl ?_ | refine brs ?_ | (first | refine Br.mkN (fun h => ?_) (fun h => ?_) | refine Br.mk (fun h => ?_) (fun h => ?_)) <;> (try (first | contradiction | (exfalso; omega) | (exfalso; simp at h; done))))
    | refine stp ?_
    | (show CallT _ 47 _ _ _; refine CA (h := sconf_ok (fun _ => ?_)))
    | (show CallT _ 46 _ _ _; first | refine CA (h := add0_ok (s := ⟨#[112, 97, 116, 101, 114, 110, 111, 115, 116, 101, 114]⟩) (xs := [n0, n1, n2, n3, n4, n5, n6, n7, n8]) (by exact viewA) rfl (by decide) hra (fun _ _ => ?_)) | refine CA (h := add_ok (ss := [⟨#[112, 97, 116, 101, 114, 110, 111, 115, 116, 101, 114]⟩] ++ [n0, n1, n2, n3, n4, n5, n6, n7, n8].map fun x => bq (dgL x)) (xs := [n9, n10, n11, n12, n13, n14, n15, n16, n17]) (by exact viewA) rfl (by decide) rfl (by simp) hrb (fun _ _ => ?_)))
    | (show CallT _ 37 _ _ _; refine CA (h := joins_ok (ps := hdP [n0, n1, n2, n3, n4, n5, n6, n7, n8, n9, n10, n11, n12, n13, n14, n15, n16, n17]) rfl hjp hj3 hjl ?_)))
  all_goals (show retC _ _ _ _ _ _; refine RETC ?_; exact ret_done (hK))
end Go.Proofs.YtiofdmjecjcdbaaGreatDoor

