/- Script: the document's digits, texts and parts: lemmas; each with the conditions that it states. -/
import Derived.Test.YtiofdmjecjcdbaaGreatDoorFh
import Derived.Test.YtiofdmjecjcdbaaGreatDoorG8

namespace Go.Proofs.YtiofdmjecjcdbaaGreatDoor
open Go Go.Proofs Go.Sl
set_option maxRecDepth 100000
set_option maxHeartbeats 4000000
set_option linter.unusedSimpArgs false
set_option linter.unusedVariables false
attribute [local irreducible] evG evC spl thenC inBlockC noGotoC CallT retC RetG TurnG CutG pt ro exP star sep pureP
variable {R C : List HP} {K : Value → List HP → Prop}
theorem byteI_bq {n : Int} {k : Nat} (h : n = ((48 + k : Nat) : Int)) (hk : k < 10) : (⟨([n % 256].map byteI).toArray⟩ : ByteArray) = bq [UInt8.ofNat (48 + k)] := by
  have : byteI (n % 256) = UInt8.ofNat (48 + k) := by
    subst h
    unfold byteI
    congr 1
    omega
  show bq ([n % 256].map byteI) = _
  rw [List.map_cons, this]
  rfl
theorem rdig_ok {n : Int} (hn : inR n) (hK : K (.string (bq (dgL n))) R) : CallT Tryz.prog 43 #[.int .i64 n] R K := by
  generalize hk : n.natAbs = k
  induction k using Nat.strongRecOn generalizing n K with
  | _ k ih =>
    obtain ⟨h0, h1⟩ := hn
    have hl : ∀ m : Int, inR m → (bq (dgL m)).size ≤ 20 := fun m hm => by
      obtain ⟨g0, g1⟩ := hm
      rw [bq_size]
      unfold dgL
      split
      · have := upL_len 18 (-m).toNat (by omega)
        simp; omega
      · have := upL_len 18 m.toNat (by omega)
        omega
    by_cases hneg : n < 0
    · have e48 : 48 + (0 - (0 - (0 - n) % 10)) = ((48 + (-n).toNat % 10 : Nat) : Int) := by omega
      have hb := byteI_bq e48 (Nat.mod_lt _ (by decide))
      have hl3 : (⟨([(48 + (0 - (0 - (0 - n) % 10))) % 256].map byteI).toArray⟩ : ByteArray).size = 1 := rfl
      by_cases h10 : n ≤ -10
      · have hr2 : inR (0 - (0 - n) / 10) := ⟨by omega, by omega⟩
        have hlt : (0 - (0 - n) / 10).natAbs < k := by omega
        have hl2 := hl _ hr2
        have hu : dgL n = dgL (0 - (0 - n) / 10) ++ [UInt8.ofNat (48 + (-n).toNat % 10)] := by
          rw [dgL_neg hneg, dgL_neg (by omega), upL_ge (by omega)]
          rw [show (-(0 - (0 - n) / 10)).toNat = (-n).toNat / 10 by omega]
          rfl
        rw [hu, ← bq_app] at hK
        refine callT_intro mixed Tryz.func43 rfl (by decide) (by decide +kernel) (by exact Nat.le_of_ble_eq_true rfl) ?_
        repeat' (first
          | (show evG _ _ _ _ _ _ _; first | refine G_quoM ?_ | refine G_remM ?_)
          | (show evG _ _ _ _ _ _ _; first | refine G_add64 ?_ | refine G_quo ?_ | refine G_rem ?_ | refine G_pure0 ?_ | refine evG_nil ?_ | refine G_br ?_ ?_ | refine G_pure ?_ | refine G_conv64 ?_ | refine G_conv8 ?_ | refine G_convu ?_ | refine G_conv ?_ | refine G_cat ?_ | refine G_neg64 ?_ | refine G_bytesP ?_ | refine G_bytesstr ?_ | refine G_call ?_ | refine G_call0 ?_ | (refine G_buildSlice ?_; intro _) | (refine G_strrow ?_; intro _ _))
          | (show spl _ _ _; first | refine spl_no rfl ?_ | refine spl_yes rfl ?_)
          | (show evC _ _ _ _ _; first | refine c_seq ?_ | refine c_region (by exact rfl) ?_ | refine c_cond (by exact rfl) ?_ | refine c_ret ?_ | refine c_skip ?_ | refine c_block ?_ | refine c_exit ?_ | refine std ?_)
          | (show Br _ _ _; first | refine Br.t rfl ?_ | refine Br.f rfl ?_ | refine brs ?_ | (first | refine Br.mkN (fun h => ?_) (fun h => ?_) | refine Br.mk (fun h => ?_) (fun h => ?_)) <;> (try (first | contradiction | (exfalso; omega) | (exfalso; simp at h; done))))
          | refine stp ?_
          | (show CallT _ 43 _ _ _; refine CA (h := ih _ hlt hr2 ?_ rfl)))
        all_goals (show retC _ _ _ _ _ _; refine RETC ?_; exact ret_done ((by rw [hb]; exact hK)))
      · have hu : dgL n = [45] ++ [UInt8.ofNat (48 + (-n).toNat % 10)] := by
          rw [dgL_neg hneg, upL_lt (by omega), Nat.mod_eq_of_lt (by omega)]
          rfl
        rw [hu, ← bq_app] at hK
        refine callT_intro mixed Tryz.func43 rfl (by decide) (by decide +kernel) (by exact Nat.le_of_ble_eq_true rfl) ?_
        repeat' (first
          | (show evG _ _ _ _ _ _ _; first | refine G_quoM ?_ | refine G_remM ?_)
          | (show evG _ _ _ _ _ _ _; first | refine G_add64 ?_ | refine G_quo ?_ | refine G_rem ?_ | refine G_pure0 ?_ | refine evG_nil ?_ | refine G_br ?_ ?_ | refine G_pure ?_ | refine G_conv64 ?_ | refine G_conv8 ?_ | refine G_convu ?_ | refine G_conv ?_ | refine G_cat ?_ | refine G_neg64 ?_ | refine G_bytesP ?_ | refine G_bytesstr ?_ | refine G_call ?_ | refine G_call0 ?_ | (refine G_buildSlice ?_; intro _) | (refine G_strrow ?_; intro _ _))
          | (show spl _ _ _; first | refine spl_no rfl ?_ | refine spl_yes rfl ?_)
          | (show evC _ _ _ _ _; first | refine c_seq ?_ | refine c_region (by exact rfl) ?_ | refine c_cond (by exact rfl) ?_ | refine c_ret ?_ | refine c_skip ?_ | refine c_block ?_ | refine c_exit ?_ | refine std ?_)
          | (show Br _ _ _; first | refine Br.t rfl ?_ | refine Br.f rfl ?_ | refine brs ?_ | (first | refine Br.mkN (fun h => ?_) (fun h => ?_) | refine Br.mk (fun h => ?_) (fun h => ?_)) <;> (try (first | contradiction | (exfalso; omega) | (exfalso; simp at h; done))))
          | refine stp ?_)
        all_goals (show retC _ _ _ _ _ _; refine RETC ?_; exact ret_done ((by rw [hb]; exact hK)))
    · have e48 : 48 + n % 10 = ((48 + n.toNat % 10 : Nat) : Int) := by omega
      have hb := byteI_bq e48 (Nat.mod_lt _ (by decide))
      have hl3 : (⟨([(48 + n % 10) % 256].map byteI).toArray⟩ : ByteArray).size = 1 := rfl
      by_cases h10 : 10 ≤ n
      · have hr2 : inR (n / 10) := ⟨by omega, by omega⟩
        have hlt : (n / 10).natAbs < k := by omega
        have hl2 := hl _ hr2
        have hu : dgL n = dgL (n / 10) ++ [UInt8.ofNat (48 + n.toNat % 10)] := by
          rw [dgL_pos (by omega), dgL_pos (by omega), upL_ge (by omega)]
          rw [show (n / 10).toNat = n.toNat / 10 by omega]
        rw [hu, ← bq_app] at hK
        refine callT_intro mixed Tryz.func43 rfl (by decide) (by decide +kernel) (by exact Nat.le_of_ble_eq_true rfl) ?_
        repeat' (first
          | (show evG _ _ _ _ _ _ _; first | refine G_add64 ?_ | refine G_quo ?_ | refine G_rem ?_ | refine G_pure0 ?_ | refine evG_nil ?_ | refine G_br ?_ ?_ | refine G_pure ?_ | refine G_conv64 ?_ | refine G_conv8 ?_ | refine G_convu ?_ | refine G_conv ?_ | refine G_cat ?_ | refine G_neg64 ?_ | refine G_bytesP ?_ | refine G_bytesstr ?_ | refine G_call ?_ | refine G_call0 ?_ | (refine G_buildSlice ?_; intro _) | (refine G_strrow ?_; intro _ _))
          | (show spl _ _ _; first | refine spl_no rfl ?_ | refine spl_yes rfl ?_)
          | (show evC _ _ _ _ _; first | refine c_seq ?_ | refine c_region (by exact rfl) ?_ | refine c_cond (by exact rfl) ?_ | refine c_ret ?_ | refine c_skip ?_ | refine c_block ?_ | refine c_exit ?_ | refine std ?_)
          | (show Br _ _ _; first | refine Br.t rfl ?_ | refine Br.f rfl ?_ | refine brs ?_ | (first | refine Br.mkN (fun h => ?_) (fun h => ?_) | refine Br.mk (fun h => ?_) (fun h => ?_)) <;> (try (first | contradiction | (exfalso; omega) | (exfalso; simp at h; done))))
          | refine stp ?_
          | (show CallT _ 43 _ _ _; refine CA (h := ih _ hlt hr2 ?_ rfl)))
        all_goals (show retC _ _ _ _ _ _; refine RETC ?_; exact ret_done ((by rw [hb]; exact hK)))
      · have hu : dgL n = [] ++ [UInt8.ofNat (48 + n.toNat % 10)] := by
          rw [dgL_pos (by omega), upL_lt (by omega), Nat.mod_eq_of_lt (by omega)]
          rfl
        rw [hu, ← bq_app] at hK
        refine callT_intro mixed Tryz.func43 rfl (by decide) (by decide +kernel) (by exact Nat.le_of_ble_eq_true rfl) ?_
        repeat' (first
          | (show evG _ _ _ _ _ _ _; first | refine G_add64 ?_ | refine G_quo ?_ | refine G_rem ?_ | refine G_pure0 ?_ | refine evG_nil ?_ | refine G_br ?_ ?_ | refine G_pure ?_ | refine G_conv64 ?_ | refine G_conv8 ?_ | refine G_convu ?_ | refine G_conv ?_ | refine G_cat ?_ | refine G_neg64 ?_ | refine G_bytesP ?_ | refine G_bytesstr ?_ | refine G_call ?_ | refine G_call0 ?_ | (refine G_buildSlice ?_; intro _) | (refine G_strrow ?_; intro _ _))
          | (show spl _ _ _; first | refine spl_no rfl ?_ | refine spl_yes rfl ?_)
          | (show evC _ _ _ _ _; first | refine c_seq ?_ | refine c_region (by exact rfl) ?_ | refine c_cond (by exact rfl) ?_ | refine c_ret ?_ | refine c_skip ?_ | refine c_block ?_ | refine c_exit ?_ | refine std ?_)
          | (show Br _ _ _; first | refine Br.t rfl ?_ | refine Br.f rfl ?_ | refine brs ?_ | (first | refine Br.mkN (fun h => ?_) (fun h => ?_) | refine Br.mk (fun h => ?_) (fun h => ?_)) <;> (try (first | contradiction | (exfalso; omega) | (exfalso; simp at h; done))))
          | refine stp ?_)
        all_goals (show retC _ _ _ _ _ _; refine RETC ?_; exact ret_done ((by rw [hb]; exact hK)))
theorem rplainT_ok {c : UInt8} (h : plB c = true) (hK : K (.bool true) R) : CallT Tryz.prog 68 #[.int .u8 c.toNat] R K := by
  have hl := c.toNat_lt
  unfold plB at h
  simp only [Bool.or_eq_true, Bool.and_eq_true, decide_eq_true_eq] at h
  refine callT_intro mixed Tryz.func68 rfl (by decide) (by decide +kernel) (by exact Nat.le_of_ble_eq_true rfl) ?_
  repeat' (first
    | (show evG _ _ _ _ _ _ _; first | refine G_pure0 ?_ | refine evG_nil ?_ | refine G_br ?_ ?_ | refine G_pure ?_ | refine G_eql_agg ?_ | refine G_skip ?_ | refine G_skip0 ?_)
    | (show spl _ _ _; first | refine spl_no rfl ?_ | refine spl_yes rfl ?_)
    | (show evC _ _ _ _ _; first | refine c_seq ?_ | refine c_region (by exact rfl) ?_ | refine c_cond (by exact rfl) ?_ | refine c_ret ?_ | refine c_skip ?_ | refine c_block ?_ | refine c_exit ?_ | refine std ?_)
    | (show Br _ _ _; first | refine Br.t rfl ?_ | refine Br.f rfl ?_ | refine brs ?_ | (first | refine Br.mkN (fun h => ?_) (fun h => ?_) | refine Br.mk (fun h => ?_) (fun h => ?_)) <;> (try (first | contradiction | (exfalso; omega) | (exfalso; simp at h; done))))
    | refine stp ?_)
  all_goals first
    | (show retC _ _ _ _ _ _; refine RETC ?_; exact ret_done (hK))
    | (exfalso; omega)
    | (show retC _ _ _ _ _ _; refine RETC ?_; exact ret_done (kb hK (by simp <;> omega)))
theorem rplainF_ok {c : UInt8} (h : plB c = false) (hK : K (.bool false) R) : CallT Tryz.prog 68 #[.int .u8 c.toNat] R K := by
  have hl := c.toNat_lt
  unfold plB at h
  simp only [Bool.or_eq_false_iff, Bool.and_eq_false_iff, decide_eq_false_iff_not] at h
  refine callT_intro mixed Tryz.func68 rfl (by decide) (by decide +kernel) (by exact Nat.le_of_ble_eq_true rfl) ?_
  repeat' (first
    | (show evG _ _ _ _ _ _ _; first | refine G_pure0 ?_ | refine evG_nil ?_ | refine G_br ?_ ?_ | refine G_pure ?_ | refine G_eql_agg ?_ | refine G_skip ?_ | refine G_skip0 ?_)
    | (show spl _ _ _; first | refine spl_no rfl ?_ | refine spl_yes rfl ?_)
    | (show evC _ _ _ _ _; first | refine c_seq ?_ | refine c_region (by exact rfl) ?_ | refine c_cond (by exact rfl) ?_ | refine c_ret ?_ | refine c_skip ?_ | refine c_block ?_ | refine c_exit ?_ | refine std ?_)
    | (show Br _ _ _; first | refine Br.t rfl ?_ | refine Br.f rfl ?_ | refine brs ?_ | (first | refine Br.mkN (fun h => ?_) (fun h => ?_) | refine Br.mk (fun h => ?_) (fun h => ?_)) <;> (try (first | contradiction | (exfalso; omega) | (exfalso; simp at h; done))))
    | refine stp ?_)
  all_goals first
    | (exfalso; omega)
    | (show retC _ _ _ _ _ _; refine RETC ?_; exact ret_done (kb hK (by simp <;> omega)))
    | (show retC _ _ _ _ _ _; refine RETC ?_; exact ret_done (hK))
theorem hex_cut16 : ∀ n < 16, hexS.extract n (n + 1) = bq [hexD n] := by
  have h : ∀ n < 16, (hexS.extract n (n + 1)).data.toList = [hexD n] := by decide +kernel
  exact fun n hn => by rw [← h n hn, bq_data]
theorem rhex_ok {n : Int} {k : Nat} (hn : n = k) (hk : k < 16) (hK : K (.string (bq [hexD k])) R) : CallT Tryz.prog 69 #[.int .i64 n] R K := by
  have e1 : n.toNat = k := by omega
  have e2 : (n + 1).toNat = k + 1 := by omega
  have e3 : (⟨#[48, 49, 50, 51, 52, 53, 54, 55, 56, 57, 65, 66, 67, 68, 69, 70]⟩ : ByteArray).size = 16 := by decide
  refine callT_intro mixed Tryz.func69 rfl (by decide) (by decide +kernel) (by exact Nat.le_of_ble_eq_true rfl) ?_
  repeat' (first
    | (show evG _ _ _ _ _ _ _; first | refine G_add64 ?_ | refine G_pure0 ?_ | refine evG_nil ?_ | refine G_br ?_ ?_ | refine G_pure ?_ | refine G_slh ?_ | refine G_slo ?_ | refine G_shi ?_ | refine G_cat ?_ | (refine G_sliceR ?_; intro _) | (refine G_sliceO ?_; intro _))
    | (show spl _ _ _; first | refine spl_no rfl ?_ | refine spl_yes rfl ?_)
    | (show evC _ _ _ _ _; first | refine c_seq ?_ | refine c_region (by exact rfl) ?_ | refine c_cond (by exact rfl) ?_ | refine c_ret ?_ | refine c_skip ?_ | refine c_block ?_ | refine c_exit ?_ | refine std ?_)
    | (show Br _ _ _; first | refine Br.t rfl ?_ | refine Br.f rfl ?_ | refine brs ?_ | (first | refine Br.mkN (fun h => ?_) (fun h => ?_) | refine Br.mk (fun h => ?_) (fun h => ?_)) <;> (try (first | contradiction | (exfalso; omega) | (exfalso; simp at h; done))))
    | refine stp ?_)
  all_goals (show retC _ _ _ _ _ _; refine RETC ?_; exact ret_done ((by rw [e1, e2, hex_cut16 k hk]; exact hK)))
theorem ext_bq {s : ByteArray} {a b : Nat} : s.extract a b = bq ((s.data.toList.drop a).take (b - a)) := by
  rw [← bq_data (s.extract a b), Lib.extract_data]
theorem ext_one {s : ByteArray} {j : Nat} {b : UInt8} (h : s.data.toList[j]? = some b) : s.extract j (j + 1) = bq [b] := by
  rw [ext_bq]
  obtain ⟨h1, h2⟩ := List.getElem?_eq_some_iff.1 h
  rw [List.drop_eq_getElem_cons h1, h2, show j + 1 - j = 1 by omega]
  rfl
theorem rtext_ok {s : ByteArray} (hs : s.size ≤ 1000000) (hK : K (.string (bq (txtL s.data.toList))) R) : CallT Tryz.prog 44 #[.string s] R K := by
  by_cases h0 : s = ⟨#[]⟩
  · subst h0
    refine callT_intro mixed Tryz.func44 rfl (by decide) (by decide +kernel) (by exact Nat.le_of_ble_eq_true rfl) ?_
    repeat' (first
      | (show evG _ _ _ _ _ _ _; first | refine G_add64 ?_ | refine G_quo ?_ | refine G_rem ?_ | refine G_pure0 ?_ | refine evG_nil ?_ | refine G_br ?_ ?_ | refine G_pure ?_ | refine G_indexS ?_ | refine G_conv64 ?_ | refine G_conv8 ?_ | refine G_convu ?_ | refine G_conv ?_ | refine G_slh ?_ | refine G_slo ?_ | refine G_shi ?_ | refine G_cat ?_ | refine G_eql_agg ?_ | refine G_bytesP ?_ | refine G_bytesstr ?_ | refine G_call ?_ | refine G_call0 ?_ | (refine G_strrow ?_; intro _ _) | (refine G_sliceR ?_; intro _) | (refine G_sliceO ?_; intro _))
      | (show spl _ _ _; first | refine spl_no rfl ?_ | refine spl_yes rfl ?_)
      | (show evC _ _ _ _ _; first | refine c_seq ?_ | refine c_region (by exact rfl) ?_ | refine c_cond (by exact rfl) ?_ | refine c_ret ?_ | refine c_skip ?_ | refine c_block ?_ | refine c_exit ?_ | (show evC _ (.region 9 _ true) _ _ _; refine c_draw (l := [(2, 0), (3, 0), (4, 0), (5, 0), (6, 0), (7, 1), (9, 1), (10, 1), (11, 1), (12, 1), (13, 1), (14, 1), (0, 2), (1, 2), (8, 1), (15, 0), (16, 0)]) (by decide +kernel) (by decide +kernel) (by exact rfl) ?_) | refine std ?_)
      | (show Br _ _ _; first | refine Br.t (by decide +kernel) ?_ | refine Br.f (by decide +kernel) ?_ | refine Br.t rfl ?_ | refine Br.f rfl ?_ | refine brs ?_ | (first | refine Br.mkN (fun h => ?_) (fun h => ?_) | refine Br.mk (fun h => ?_) (fun h => ?_)) <;> (try (first | contradiction | (exfalso; omega) | (exfalso; simp at h; done))))
      | refine stp ?_)
    all_goals (show retC _ _ _ _ _ _; refine RETC ?_; exact ret_done (hK))
  · have hb0 : (s.toList == (⟨#[]⟩ : ByteArray).toList) = false := tl_ne h0
    have hl0 : s.data.toList ≠ [] := fun h => h0 (by rw [← bq_data s, h]; rfl)
    have htx : txtL s.data.toList = s.data.toList.flatMap escL := by unfold txtL; rw [if_neg hl0]
    rw [htx] at hK
    refine callT_intro mixed Tryz.func44 rfl (by decide) (by decide +kernel) (by exact Nat.le_of_ble_eq_true rfl) ?_
    repeat' (first
      | (show evG _ _ _ _ _ _ _; first | refine G_add64 ?_ | refine G_quo ?_ | refine G_rem ?_ | refine G_pure0 ?_ | refine evG_nil ?_ | refine G_br ?_ ?_ | refine G_pure ?_ | refine G_indexS ?_ | refine G_conv64 ?_ | refine G_conv8 ?_ | refine G_convu ?_ | refine G_conv ?_ | refine G_slh ?_ | refine G_slo ?_ | refine G_shi ?_ | refine G_cat ?_ | refine G_eql_agg ?_ | refine G_bytesP ?_ | refine G_bytesstr ?_ | refine G_call ?_ | refine G_call0 ?_ | (refine G_strrow ?_; intro _ _) | (refine G_sliceR ?_; intro _) | (refine G_sliceO ?_; intro _))
      | (show spl _ _ _; first | refine spl_no rfl ?_ | refine spl_yes rfl ?_)
      | (show evC _ _ _ _ _; first | refine c_seq ?_ | refine c_region (by exact rfl) ?_ | refine c_cond (by exact rfl) ?_ | refine c_ret ?_ | refine c_skip ?_ | refine c_block ?_ | refine c_exit ?_ | (show evC _ (.region 9 _ true) _ _ _; refine c_draw (l := [(2, 0), (3, 0), (4, 0), (5, 0), (6, 0), (7, 1), (9, 1), (10, 1), (11, 1), (12, 1), (13, 1), (14, 1), (0, 2), (1, 2), (8, 1), (15, 0), (16, 0)]) (by decide +kernel) (by decide +kernel) (by exact rfl) ?_) | refine std ?_)
      | (show Br _ _ _; first | refine Br.t rfl ?_ | refine Br.f rfl ?_ | refine brs ?_ | (first | refine Br.mkN (fun h => ?_) (fun h => ?_) | refine Br.mk (fun h => ?_) (fun h => ?_)) <;> (try (first | contradiction | (exfalso; omega) | (exfalso; simp at h; done))))
      | refine stp ?_)
    refine LOOP (fun m a C' => ∃ (j : Nat), j + m = s.size ∧ C' = R ∧ Agree a [(0, .string s), (3, .string (bq ((s.data.toList.take j).flatMap escL))), (4, .int .i64 j)]) s.size (turn s.size ⟨0, by omega, rfl, rfl, rfl, rfl, trivial⟩) ?_
    rintro n1 a C' ⟨j, hj, rfl, ha⟩
    refine c_fr _ ha ?_
    simp only [updL]
    have hle := esc_le (s.data.toList.take j)
    have hle2 : (s.data.toList.take j).length ≤ j := by simp; omega
    have hsz := bq_size ((s.data.toList.take j).flatMap escL)
    by_cases hlt : j < s.size
    · obtain ⟨b, hb⟩ : ∃ b, s.data.toList[j]? = some b := ⟨_, List.getElem?_eq_getElem (by rw [bqlen]; exact hlt)⟩
      have hb1 : s[((j : Nat) : Int).toNat]? = some b := by rw [bget_l]; exact hb
      have et := esc_take hb
      have hbl := b.toNat_lt
      cases hp : plB b
      · have ee : escL b = [37, hexD (b.toNat / 16), hexD (b.toNat % 16)] := by unfold escL; rw [hp]; rfl
        have hx1 : ((b.toNat : Nat) : Int) / 16 = ((b.toNat / 16 : Nat) : Int) := by omega
        have hx2 : ((b.toNat : Nat) : Int) % 16 = ((b.toNat % 16 : Nat) : Int) := by omega
        have hl1 : b.toNat / 16 < 16 := by omega
        have hl2 : b.toNat % 16 < 16 := by omega
        have hq1 := bq_size [hexD (b.toNat / 16)]
        have hq2 := bq_size [hexD (b.toNat % 16)]
        simp only [List.length_cons, List.length_nil] at hq1 hq2
        repeat' (first
          | (show evG _ _ _ _ _ _ _; first | refine G_add64 ?_ | refine G_quo ?_ | refine G_rem ?_ | refine G_pure0 ?_ | refine evG_nil ?_ | refine G_br ?_ ?_ | refine G_pure ?_ | refine G_indexS ?_ | refine G_conv64 ?_ | refine G_conv8 ?_ | refine G_convu ?_ | refine G_conv ?_ | refine G_slh ?_ | refine G_slo ?_ | refine G_shi ?_ | refine G_cat ?_ | refine G_eql_agg ?_ | refine G_bytesP ?_ | refine G_bytesstr ?_ | refine G_call ?_ | refine G_call0 ?_ | (refine G_strrow ?_; intro _ _) | (refine G_sliceR ?_; intro _) | (refine G_sliceO ?_; intro _))
          | (show spl _ _ _; first | refine spl_no rfl ?_ | refine spl_yes rfl ?_)
          | (show evC _ _ _ _ _; first | refine c_seq ?_ | refine c_region (by exact rfl) ?_ | refine c_cond (by exact rfl) ?_ | refine c_ret ?_ | refine c_skip ?_ | refine c_block ?_ | refine c_exit ?_ | (show evC _ (.region 9 _ true) _ _ _; refine c_draw (l := [(2, 0), (3, 0), (4, 0), (5, 0), (6, 0), (7, 1), (9, 1), (10, 1), (11, 1), (12, 1), (13, 1), (14, 1), (0, 2), (1, 2), (8, 1), (15, 0), (16, 0)]) (by decide +kernel) (by decide +kernel) (by exact rfl) ?_) | refine std ?_)
          | (show Br _ _ _; first | refine Br.t rfl ?_ | refine Br.f rfl ?_ | refine brs ?_ | (first | refine Br.mkN (fun h => ?_) (fun h => ?_) | refine Br.mk (fun h => ?_) (fun h => ?_)) <;> (try (first | contradiction | (exfalso; omega) | (exfalso; simp at h; done))))
          | refine stp ?_
          | (show CallT _ 68 _ _ _; refine CA (h := rplainF_ok hp ?_))
          | (show CallT _ 69 _ _ _; first | refine CA (h := rhex_ok hx1 hl1 ?_) | refine CA (h := rhex_ok hx2 hl2 ?_)))
        all_goals (show TurnG _ _ _ _; exact turn (n1 - 1) ⟨j + 1, by omega, rfl, rfl, by rw [et, ee, ← bq_app, show bq [37, hexD (b.toNat / 16), hexD (b.toNat % 16)] = bq [37] ++ (bq [hexD (b.toNat / 16)] ++ bq [hexD (b.toNat % 16)]) by rw [bq_app, bq_app]; rfl, ← ByteArray.append_assoc, ← ByteArray.append_assoc]; rfl, rfl, trivial⟩)
      · have ee : escL b = [b] := by unfold escL; rw [hp]; rfl
        have hx := ext_one hb
        have hxs := ext_le s ((j : Nat) : Int).toNat (((j : Nat) : Int) + 1).toNat
        repeat' (first
          | (show evG _ _ _ _ _ _ _; first | refine G_add64 ?_ | refine G_quo ?_ | refine G_rem ?_ | refine G_pure0 ?_ | refine evG_nil ?_ | refine G_br ?_ ?_ | refine G_pure ?_ | refine G_indexS ?_ | refine G_conv64 ?_ | refine G_conv8 ?_ | refine G_convu ?_ | refine G_conv ?_ | refine G_slh ?_ | refine G_slo ?_ | refine G_shi ?_ | refine G_cat ?_ | refine G_eql_agg ?_ | refine G_bytesP ?_ | refine G_bytesstr ?_ | refine G_call ?_ | refine G_call0 ?_ | (refine G_strrow ?_; intro _ _) | (refine G_sliceR ?_; intro _) | (refine G_sliceO ?_; intro _))
          | (show spl _ _ _; first | refine spl_no rfl ?_ | refine spl_yes rfl ?_)
          | (show evC _ _ _ _ _; first | refine c_seq ?_ | refine c_region (by exact rfl) ?_ | refine c_cond (by exact rfl) ?_ | refine c_ret ?_ | refine c_skip ?_ | refine c_block ?_ | refine c_exit ?_ | (show evC _ (.region 9 _ true) _ _ _; refine c_draw (l := [(2, 0), (3, 0), (4, 0), (5, 0), (6, 0), (7, 1), (9, 1), (10, 1), (11, 1), (12, 1), (13, 1), (14, 1), (0, 2), (1, 2), (8, 1), (15, 0), (16, 0)]) (by decide +kernel) (by decide +kernel) (by exact rfl) ?_) | refine std ?_)
          | (show Br _ _ _; first | refine Br.t rfl ?_ | refine Br.f rfl ?_ | refine brs ?_ | (first | refine Br.mkN (fun h => ?_) (fun h => ?_) | refine Br.mk (fun h => ?_) (fun h => ?_)) <;> (try (first | contradiction | (exfalso; omega) | (exfalso; simp at h; done))))
          | refine stp ?_
          | (show CallT _ 68 _ _ _; refine CA (h := rplainT_ok hp ?_)))
        all_goals (show TurnG _ _ _ _; exact turn (n1 - 1) ⟨j + 1, by omega, rfl, rfl, by rw [et, ee, ← bq_app, ← hx]; rfl, rfl, trivial⟩)
    · obtain rfl : j = s.size := by omega
      rw [List.take_of_length_le (by rw [bqlen]; omega)] at hle hsz ⊢
      repeat' (first
        | (show evG _ _ _ _ _ _ _; first | refine G_add64 ?_ | refine G_quo ?_ | refine G_rem ?_ | refine G_pure0 ?_ | refine evG_nil ?_ | refine G_br ?_ ?_ | refine G_pure ?_ | refine G_indexS ?_ | refine G_conv64 ?_ | refine G_conv8 ?_ | refine G_convu ?_ | refine G_conv ?_ | refine G_slh ?_ | refine G_slo ?_ | refine G_shi ?_ | refine G_cat ?_ | refine G_eql_agg ?_ | refine G_bytesP ?_ | refine G_bytesstr ?_ | refine G_call ?_ | refine G_call0 ?_ | (refine G_strrow ?_; intro _ _) | (refine G_sliceR ?_; intro _) | (refine G_sliceO ?_; intro _))
        | (show spl _ _ _; first | refine spl_no rfl ?_ | refine spl_yes rfl ?_)
        | (show evC _ _ _ _ _; first | refine c_seq ?_ | refine c_region (by exact rfl) ?_ | refine c_cond (by exact rfl) ?_ | refine c_ret ?_ | refine c_skip ?_ | refine c_block ?_ | refine c_exit ?_ | (show evC _ (.region 9 _ true) _ _ _; refine c_draw (l := [(2, 0), (3, 0), (4, 0), (5, 0), (6, 0), (7, 1), (9, 1), (10, 1), (11, 1), (12, 1), (13, 1), (14, 1), (0, 2), (1, 2), (8, 1), (15, 0), (16, 0)]) (by decide +kernel) (by decide +kernel) (by exact rfl) ?_) | refine std ?_)
        | (show Br _ _ _; first | refine Br.t rfl ?_ | refine Br.f rfl ?_ | refine brs ?_ | (first | refine Br.mkN (fun h => ?_) (fun h => ?_) | refine Br.mk (fun h => ?_) (fun h => ?_)) <;> (try (first | contradiction | (exfalso; omega) | (exfalso; simp at h; done))))
        | refine stp ?_)
      all_goals (show retC _ _ _ _ _ _; refine RETC ?_; exact ret_done (hK))
end Go.Proofs.YtiofdmjecjcdbaaGreatDoor

