/- Script: the document's digits, texts and parts: lemmas; each with the conditions that it states. -/
import Derived.Test.YtiofdmjecjcdbaaGreatDoorFh
import Derived.Test.YtiofdmjecjcdbaaGreatDoorG8

namespace Go.Proofs.YtiofdmjecjcdbaaGreatDoor
open Go Go.Proofs Go.Sl
set_option maxRecDepth 100000
set_option maxHeartbeats 4000000
set_option linter.unusedSimpArgs false
set_option linter.unusedVariables false
attribute [local irreducible] evG evC spl thenC inBlockC noGotoC CallT retC RetG TurnG CutG pt ro exP star sep pureP
variable {R C : List HP} {K : Value → List HP → Prop}
theorem byteI_bq {n : Int} {k : Nat} (h : n = ((48 + k : Nat) : Int)) (hk : k < 10) : (⟨([n % 256].map byteI).toArray⟩ : ByteArray) = bq [UInt8.ofNat (48 + k)] := by
  have : byteI (n % 256) = UInt8.ofNat (48 + k) := by
    subst h
    unfold byteI
    congr 1
    omega
  show bq ([n % 256].map byteI) = _
  rw [List.map_cons, this]
  rfl
theorem rdig_ok {n : Int} (hn : inR n) (hK : K (.string (bq (dgL n))) R) : CallT Tryz.prog 43 #[.int .i64 n] R K := by
  generalize hk : n.natAbs = k
  induction k using Nat.strongRecOn generalizing n K with
  | _ k ih =>
    obtain ⟨h0, h1⟩ := hn
    have hl : ∀ m : Int, inR m → (bq (dgL m)).size ≤ 20 := fun m hm => by
      obtain ⟨g0, g1⟩ := hm
      rw [bq_size]
      unfold dgL
      split
      · have := upL_len 18 (-m).toNat (by omega)
        simp; omega
      · have := upL_len 18 m.toNat (by omega)
        omega
    by_cases hneg : n < 0
    · have e48 : 48 + (0 - (0 - (0 - n) % 10)) = ((48 + (-n).toNat % 10 : Nat) : Int) := by omega
      have hb := byteI_bq e48 (Nat.mod_lt _ (by decide))
      have hl3 : (⟨([(48 + (0 - (0 - (0 - n) % 10))) % 256].map byteI).toArray⟩ : ByteArray).size = 1 := rfl
      by_cases h10 : n ≤ -10
      · have hr2 : inR (0 - (0 - n) / 10) := ⟨by omega, by omega⟩
        have hlt : (0 - (0 - n) / 10).natAbs < k := by omega
        have hl2 := hl _ hr2
        have hu : dgL n = dgL (0 - (0 - n) / 10) ++ [UInt8.ofNat (48 + (-n).toNat % 10)] := by
          rw [dgL_neg hneg, dgL_neg (by omega), upL_ge (by omega)]
          rw [show (-(0 - (0 - n) / 10)).toNat = (-n).toNat / 10 by omega]
          rfl
        rw [hu, ← bq_app] at hK
        refine callT_intro mixed Tryz.func43 rfl (by decide) (by decide +kernel) (by exact Nat.le_of_ble_eq_true rfl) ?_
        repeat' (first
          | (show evG _ _ _ _ _ _ _; first | refine G_quoM ?_ | refine G_remM ?_)
          | (show evG _ _ _ _ _ _ _; first | refine G_add64 ?_ | refine G_quo ?_ | refine G_rem ?_ | refine G_pure0 ?_ | refine evG_nil ?_ | refine G_br ?_ ?_ | refine G_pure ?_ | refine G_conv64 ?_ | refine G_conv8 ?_ | refine G_convu ?_ | refine G_conv ?_ | refine G_cat ?_ | refine G_neg64 ?_ | refine G_bytesP ?_ | refine G_bytesstr ?_ | refine G_call ?_ | refine G_call0 ?_ | (refine G_buildSlice ?_; intro _) | (refine G_strrow ?_; intro _ _))
          | (show spl _ _ _; first | refine spl_no rfl ?_ | refine spl_yes rfl ?_)
          | (show evC _ _ _ _ _; first | refine c_seq ?_ | refine c_region (by exact rfl) ?_ | refine c_cond (by exact rfl) ?_ | refine c_ret ?_ | refine c_skip ?_ | refine c_block ?_ | refine c_exit ?_ | refine std ?_)
          | (show Br _ _ _; first | refine Br.t rfl ?_ | refine Br.f rfl ?_ | refine brs ?_ | (first | refine Br.mkN (fun h => ?_) (fun h => ?_) | refine Br.mk (fun h => ?_) (fun h => ?_)) <;> (try (first | contradiction | (exfalso; omega) | (exfalso; simp at h; done))))
          | refine stp ?_
          | (show CallT _ 43 _ _ _; refine CA (h := ih _ hlt hr2 ?_ rfl)))
        all_goals (show retC _ _ _ _ _ _; refine RETC ?_; exact ret_done ((by rw [hb]; exact hK)))
      · have hu : dgL n = [45] ++ [UInt8.ofNat (48 + (-n).toNat % 10)] := by
          rw [dgL_neg hneg, upL_lt (by omega), Nat.mod_eq_of_lt (by omega)]
          rfl
        rw [hu, ← bq_app] at hK
        refine callT_intro mixed Tryz.func43 rfl (by decide) (by decide +kernel) (by exact Nat.le_of_ble_eq_true rfl) ?_
        repeat' (first
          | (show evG _ _ _ _ _ _ _; first | refine G_quoM ?_ | refine G_remM ?_)
          | (show evG _ _ _ _ _ _ _; first | refine G_add64 ?_ | refine G_quo ?_ | refine G_rem ?_ | refine G_pure0 ?_ | refine evG_nil ?_ | refine G_br ?_ ?_ | refine G_pure ?_ | refine G_conv64 ?_ | refine G_conv8 ?_ | refine G_convu ?_ | refine G_conv ?_ | refine G_cat ?_ | refine G_neg64 ?_ | refine G_bytesP ?_ | refine G_bytesstr ?_ | refine G_call ?_ | refine G_call0 ?_ | (refine G_buildSlice ?_; intro _) | (refine G_strrow ?_; intro _ _))
          | (show spl _ _ _; first | refine spl_no rfl ?_ | refine spl_yes rfl ?_)
          | (show evC _ _ _ _ _; first | refine c_seq ?_ | refine c_region (by exact rfl) ?_ | refine c_cond (by exact rfl) ?_ | refine c_ret ?_ | refine c_skip ?_ | refine c_block ?_ | refine c_exit ?_ | refine std ?_)
          | (show Br _ _ _; first | refine Br.t rfl ?_ | refine Br.f rfl ?_ | refine brs ?_ | (first | refine Br.mkN (fun h => ?_) (fun h => ?_) | refine Br.mk (fun h => ?_) (fun h => ?_)) <;> (try (first | contradiction | (exfalso; omega) | (exfalso; simp at h; done))))
          | refine stp ?_)
        all_goals (show retC _ _ _ _ _ _; refine RETC ?_; exact ret_done ((by rw [hb]; exact hK)))
    · have e48 : 48 + n % 10 = ((48 + n.toNat % 10 : Nat) : Int) := by omega
      have hb := byteI_bq e48 (Nat.mod_lt _ (by decide))
      have hl3 : (⟨([(48 + n % 10) % 256].map byteI).toArray⟩ : ByteArray).size = 1 := rfl
      by_cases h10 : 10 ≤ n
      · have hr2 : inR (n / 10) := ⟨by omega, by omega⟩
        have hlt : (n / 10).natAbs < k := by omega
        have hl2 := hl _ hr2
        have hu : dgL n = dgL (n / 10) ++ [UInt8.ofNat (48 + n.toNat % 10)] := by
          rw [dgL_pos (by omega), dgL_pos (by omega), upL_ge (by omega)]
          rw [show (n / 10).toNat = n.toNat / 10 by omega]
        rw [hu, ← bq_app] at hK
        refine callT_intro mixed Tryz.func43 rfl (by decide) (by decide +kernel) (by exact Nat.le_of_ble_eq_true rfl) ?_
        repeat' (first
          | (show evG _ _ _ _ _ _ _; first | refine G_add64 ?_ | refine G_quo ?_ | refine G_rem ?_ | refine G_pure0 ?_ | refine evG_nil ?_ | refine G_br ?_ ?_ | refine G_pure ?_ | refine G_conv64 ?_ | refine G_conv8 ?_ | refine G_convu ?_ | refine G_conv ?_ | refine G_cat ?_ | refine G_neg64 ?_ | refine G_bytesP ?_ | refine G_bytesstr ?_ | refine G_call ?_ | refine G_call0 ?_ | (refine G_buildSlice ?_; intro _) | (refine G_strrow ?_; intro _ _))
          | (show spl _ _ _; first | refine spl_no rfl ?_ | refine spl_yes rfl ?_)
          | (show evC _ _ _ _ _; first | refine c_seq ?_ | refine c_region (by exact rfl) ?_ | refine c_cond (by exact rfl) ?_ | refine c_ret ?_ | refine c_skip ?_ | refine c_block ?_ | refine c_exit ?_ | refine std ?_)
          | (show Br _ _ _; first | refine Br.t rfl ?_ | refine Br.f rfl ?_ | refine brs ?_ | (first | refine Br.mkN (fun h => ?_) (fun h => ?_) | refine Br.mk (fun h => ?_) (fun h => ?_)) <;> (try (first | contradiction | (exfalso; omega) | (exfalso; simp at h; done))))
          | refine stp ?_
          | (show CallT _ 43 _ _ _; refine CA (h := ih _ hlt hr2 ?_ rfl)))
        all_goals (show retC _ _ _ _ _ _; refine RETC ?_; exact ret_done ((by rw [hb]; exact hK)))
      · have hu : dgL n = [] ++ [UInt8.ofNat (48 + n.toNat % 10)] := by
          rw [dgL_pos (by omega), upL_lt (by omega), Nat.mod_eq_of_lt (by omega)]
          rfl
        rw [hu, ← bq_app] at hK
        refine callT_intro mixed Tryz.func43 rfl (by decide) (by decide +kernel) (by exact Nat.le_of_ble_eq_true rfl) ?_
        repeat' (first
          | (show evG _ _ _ _ _ _ _; first | refine G_add64 ?_ | refine G_quo ?_ | refine G_rem ?_ | refine G_pure0 ?_ | refine evG_nil ?_ | refine G_br ?_ ?_ | refine G_pure ?_ | refine G_conv64 ?_ | refine G_conv8 ?_ | refine G_convu ?_ | refine G_conv ?_ | refine G_cat ?_ | refine G_neg64 ?_ | refine G_bytesP ?_ | refine G_bytesstr ?_ | refine G_call ?_ | refine G_call0 ?_ | (refine G_buildSlice ?_; intro _) | (refine G_strrow ?_; intro _ _))
          | (show spl _ _ _; first | refine spl_no rfl ?_ | refine spl_yes rfl ?_)
          | (show evC _ _ _ _ _; first | refine c_seq ?_ | refine c_region (by exact rfl) ?_ | refine c_cond (by exact rfl) ?_ | refine c_ret ?_ | refine c_skip ?_ | refine c_block ?_ | refine c_exit ?_ | refine std ?_)
          | (show Br _ _ _; first | refine Br.t rfl ?_ | refine Br.f rfl ?_ | refine brs ?_ | (first | refine Br.mkN (fun h => ?_) (fun h => ?_) | refine Br.mk (fun h => ?_) (fun h => ?_)) <;> (try (first | contradiction | (exfalso; omega) | (exfalso; simp at h; done))))
          | refine stp ?_)
        all_goals (show retC _ _ _ _ _ _; refine RETC ?_; exact ret_done ((by rw [hb]; exact hK)))
theorem rplainT_ok {c : UInt8} (h : plB c = true) (hK : K (.bool true) R) : CallT Tryz.prog 68 #[.int .u8 c.toNat] R K := by
  have hl := c.toNat_lt
  unfold plB at h
  simp only [Bool.or_eq_true, Bool.and_eq_true, decide_eq_true_eq] at h
  refine callT_intro mixed Tryz.func68 rfl (by decide) (by decide +kernel) (by exact Nat.le_of_ble_eq_true rfl) ?_
  repeat' (first
    | (show evG _ _ _ _ _ _ _; first | refine G_pure0 ?_ | refine evG_nil ?_ | refine G_br ?_ ?_ | refine G_pure ?_ | refine G_eql_agg ?_ | refine G_skip ?_ | refine G_skip0 ?_)
    | (show spl _ _ _; first | refine spl_no rfl ?_ | refine spl_yes rfl ?_)
    | (show evC _ _ _ _ _; first | refine c_seq ?_ | refine c_region (by exact rfl) ?_ | refine c_cond (by exact rfl) ?_ | refine c_ret ?_ | refine c_skip ?_ | refine c_block ?_ | refine c_exit ?_ | refine std ?_)
    | (show Br _ _ _; first | refine Br.t rfl ?_ | refine Br.f rfl ?_ | refine brs ?_ | (first | refine Br.mkN (fun h => ?_) (fun h => ?_) | refine Br.mk (fun h => ?_) (fun h => ?_)) <;> (try (first | contradiction | (exfalso; omega) | (exfalso; simp at h; done))))
    | refine stp ?_)
  all_goals first
    | (show retC _ _ _ _ _ _; refine RETC ?_; exact ret_done (hK))
    | (exfalso; omega)
    | (show retC _ _ _ _ _ _; refine RETC ?_; exact ret_done (kb hK (by simp <;> omega)))
theorem rplainF_ok {c : UInt8} (h : plB c = false) (hK : K (.bool false) R) : CallT Tryz.prog 68 #[.int .u8 c.toNat] R K := by
  have hl := c.toNat_lt
  unfold plB at h
  simp only [Bool.or_eq_false_iff, Bool.and_eq_false_iff, decide_eq_false_iff_not] at h
  refine callT_intro mixed Tryz.func68 rfl (by decide) (by decide +kernel) (by exact Nat.le_of_ble_eq_true rfl) ?_
  repeat' (first
    | (show evG _ _ _ _ _ _ _; first | refine G_pure0 ?_ | refine evG_nil ?_ | refine G_br ?_ ?_ | refine G_pure ?_ | refine G_eql_agg ?_ | refine G_skip ?_ | refine G_skip0 ?_)
    | (show spl _ _ _; first | refine spl_no rfl ?_ | refine spl_yes rfl ?_)
    | (show evC _ _ _ _ _; first | refine c_seq ?_ | refine c_region (by exact rfl) ?_ | refine c_cond (by exact rfl) ?_ | refine c_ret ?_ | refine c_skip ?_ | refine c_block ?_ | refine c_exit ?_ | refine std ?_)
    | (show Br _ _ _; first | refine Br.t rfl ?_ | refine Br.f rfl ?_ | refine brs ?_ | (first | refine Br.mkN (fun h => ?_) (fun h => ?_) | refine Br.mk (fun h => ?_) (fun h => ?_)) <;> (try (first | contradiction | (exfalso; omega) | (exfalso; simp at h; done))))
    | refine stp ?_)
  all_goals first
    | (exfalso; omega)
    | (show retC _ _ _ _ _ _; refine RETC ?_; exact ret_done (kb hK (by simp <;> omega)))
    | (show retC _ _ _ _ _ _; refine RETC ?_; exact ret_done (hK))
theorem hex_cut16 : ∀ n < 16, hexS.extract n (n + 1) = bq [hexD n] := by
  have h : ∀ n < 16, (hexS.extract n (n + 1)).data.toList = [hexD n] := by decide +kernel
  exact fun n hn => by rw [← h n hn, bq_data]
theorem rhex_ok {n : Int} {k : Nat} (hn : n = k) (hk : k < 16) (hK : K (.string (bq [hexD k])) R) : CallT Tryz.prog 69 #[.int .i64 n] R K := by
  have e1 : n.toNat = k := by omega
  have e2 : (n + 1).toNat = k + 1 := by omega
  have e3 : (⟨#[48, 49, 50, 51, 52, 53, 54, 55, 56, 57, 65, 66, 67, 68, 69, 70]⟩ : ByteArray).size = 16 := by decide
  refine callT_intro mixed Tryz.func69 rfl (by decide) (by decide +kernel) (by exact Nat.le_of_ble_eq_true rfl) ?_
  repeat' (first
    | (show evG _ _ _ _ _ _ _; first | refine G_add64 ?_ | refine G_pure0 ?_ | refine evG_nil ?_ | refine G_br ?_ ?_ | refine G_pure ?_ | refine G_slh ?_ | refine G_slo ?_ | refine G_shi ?_ | refine G_cat ?_ | (refine G_sliceR ?_; intro _) | (refine G_sliceO ?_; intro _))
    | (show spl _ _ _; first | refine spl_no rfl ?_ | refine spl_yes rfl ?_)
    | (show evC _ _ _ _ _; first | refine c_seq ?_ | refine c_region (by exact rfl) ?_ | refine c_cond (by exact rfl) ?_ | refine c_ret ?_ | refine c_skip ?_ | refine c_block ?_ | refine c_exit ?_ | refine std ?_)
    | (show Br _ _ _; first | refine Br.t rfl ?_ | refine Br.f rfl ?_ | refine brs ?_ | (first | refine Br.mkN (fun h => ?_) (fun h => ?_) | refine Br.mk (fun h => ?_) (fun h => ?_)) <;> (try (first | contradiction | (exfalso; omega) | (exfalso; simp at h; done))))
    | refine stp ?_)
  all_goals (show retC _ _ _ _ _ _; refine RETC ?_; exact ret_done ((by rw [e1, e2, hex_cut16 k hk]; exact hK)))
theorem ext_bq {s : ByteArray} {a b : Nat} : s.extract a b = bq ((s.data.toList.drop a).take (b - a)) := by
  rw [← bq_data (s.extract a b), Lib.extract_data]
theorem rdigit_ok {c : UInt8} (hK : K (.int .i64 (unhex c)) R) : CallT Tryz.prog 76 #[.int .u8 c.toNat] R K := by
  refine callT_intro mixed Tryz.func76 rfl (by decide) (by decide +kernel) (by exact Nat.le_of_ble_eq_true rfl) ?_
  repeat' (first
    | (show evG _ _ _ _ _ _ _; first | refine G_add64 ?_ | refine G_pure0 ?_ | refine evG_nil ?_ | refine G_br ?_ ?_ | refine G_pure ?_ | refine G_indexS ?_ | refine G_cat ?_ | refine G_eql_agg ?_ | refine G_call ?_ | refine G_call0 ?_)
    | (show spl _ _ _; first | refine spl_no rfl ?_ | refine spl_yes rfl ?_)
    | (show evC _ _ _ _ _; first | refine c_seq ?_ | refine c_region (by exact rfl) ?_ | refine c_cond (by exact rfl) ?_ | refine c_ret ?_ | refine c_skip ?_ | refine c_block ?_ | refine c_exit ?_ | refine std ?_)
    | (show Br _ _ _; first | refine Br.t rfl ?_ | refine Br.f rfl ?_ | refine brs ?_ | (first | refine Br.mkN (fun h => ?_) (fun h => ?_) | refine Br.mk (fun h => ?_) (fun h => ?_)) <;> (try (first | contradiction | (exfalso; omega) | (exfalso; simp at h; done))))
    | refine stp ?_)
  refine LOOP (fun m a C' => ∃ j : Nat, j + m = 16 ∧ C' = R ∧ (∀ i < j, hexD i ≠ c) ∧ Agree a [(0, .int .u8 c.toNat), (3, .int .i64 j)]) 16 (turn 16 ⟨0, by omega, rfl, by simp, rfl, rfl, trivial⟩) ?_
  rintro n1 a C' ⟨j, hj, rfl, hno, ha⟩
  refine c_fr _ ha ?_
  simp only [updL]
  by_cases hlt : j < 16
  · have hx : (bq [hexD j])[((0 : Int)).toNat]? = some (hexD j) := by rw [bget_bq]; rfl
    have hq := bq_size [hexD j]
    simp only [List.length_cons, List.length_nil] at hq
    by_cases he : hexD j = c
    · have hu : unhex c = ((j : Nat) : Int) := by rw [← he]; exact unhex_hexD hlt
      rw [hu] at hK
      have he2 : ((hexD j).toNat : Int) = (c.toNat : Int) := by rw [he]
      repeat' (first
        | (show evG _ _ _ _ _ _ _; first | refine G_add64 ?_ | refine G_pure0 ?_ | refine evG_nil ?_ | refine G_br ?_ ?_ | refine G_pure ?_ | refine G_indexS ?_ | refine G_cat ?_ | refine G_eql_agg ?_ | refine G_call ?_ | refine G_call0 ?_)
        | (show spl _ _ _; first | refine spl_no rfl ?_ | refine spl_yes rfl ?_)
        | (show evC _ _ _ _ _; first | refine c_seq ?_ | refine c_region (by exact rfl) ?_ | refine c_cond (by exact rfl) ?_ | refine c_ret ?_ | refine c_skip ?_ | refine c_block ?_ | refine c_exit ?_ | refine std ?_)
        | (show Br _ _ _; first | refine Br.t rfl ?_ | refine Br.f rfl ?_ | refine brs ?_ | (first | refine Br.mkN (fun h => ?_) (fun h => ?_) | refine Br.mk (fun h => ?_) (fun h => ?_)) <;> (try (first | contradiction | (exfalso; omega) | (exfalso; simp at h; done))))
        | refine stp ?_
        | (show CallT _ 69 _ _ _; refine CA (h := rhex_ok rfl hlt ?_)))
      all_goals first
        | (show retC _ _ _ _ _ _; refine RETC ?_; exact ret_done (hK))
        | (exfalso; omega)
    · have he2 : ¬ ((hexD j).toNat : Int) = (c.toNat : Int) := fun e => he (UInt8.toNat_inj.1 (by omega))
      repeat' (first
        | (show evG _ _ _ _ _ _ _; first | refine G_add64 ?_ | refine G_pure0 ?_ | refine evG_nil ?_ | refine G_br ?_ ?_ | refine G_pure ?_ | refine G_indexS ?_ | refine G_cat ?_ | refine G_eql_agg ?_ | refine G_call ?_ | refine G_call0 ?_)
        | (show spl _ _ _; first | refine spl_no rfl ?_ | refine spl_yes rfl ?_)
        | (show evC _ _ _ _ _; first | refine c_seq ?_ | refine c_region (by exact rfl) ?_ | refine c_cond (by exact rfl) ?_ | refine c_ret ?_ | refine c_skip ?_ | refine c_block ?_ | refine c_exit ?_ | refine std ?_)
        | (show Br _ _ _; first | refine Br.t rfl ?_ | refine Br.f rfl ?_ | refine brs ?_ | (first | refine Br.mkN (fun h => ?_) (fun h => ?_) | refine Br.mk (fun h => ?_) (fun h => ?_)) <;> (try (first | contradiction | (exfalso; omega) | (exfalso; simp at h; done))))
        | refine stp ?_
        | (show CallT _ 69 _ _ _; refine CA (h := rhex_ok rfl hlt ?_)))
      all_goals first
        | (show TurnG _ _ _ _; exact turn (n1 - 1) ⟨j + 1, by omega, rfl, (fun i hi => if h : i = j then h ▸ he else hno i (by omega)), rfl, rfl, trivial⟩)
        | (exfalso; omega)
  · have hu : unhex c = -1 := by
      rcases (show unhex c < 0 ∨ 0 ≤ unhex c by omega) with h | h
      · unfold unhex at h ⊢; split at h <;> (try split at h) <;> simp_all <;> omega
      · obtain ⟨h1, h2⟩ := hexD_unhex h
        exact absurd h2 (hno _ (by omega))
    rw [hu] at hK
    repeat' (first
      | (show evG _ _ _ _ _ _ _; first | refine G_add64 ?_ | refine G_pure0 ?_ | refine evG_nil ?_ | refine G_br ?_ ?_ | refine G_pure ?_ | refine G_indexS ?_ | refine G_cat ?_ | refine G_eql_agg ?_ | refine G_call ?_ | refine G_call0 ?_)
      | (show spl _ _ _; first | refine spl_no rfl ?_ | refine spl_yes rfl ?_)
      | (show evC _ _ _ _ _; first | refine c_seq ?_ | refine c_region (by exact rfl) ?_ | refine c_cond (by exact rfl) ?_ | refine c_ret ?_ | refine c_skip ?_ | refine c_block ?_ | refine c_exit ?_ | refine std ?_)
      | (show Br _ _ _; first | refine Br.t rfl ?_ | refine Br.f rfl ?_ | refine brs ?_ | (first | refine Br.mkN (fun h => ?_) (fun h => ?_) | refine Br.mk (fun h => ?_) (fun h => ?_)) <;> (try (first | contradiction | (exfalso; omega) | (exfalso; simp at h; done))))
      | refine stp ?_)
    all_goals (show retC _ _ _ _ _ _; refine RETC ?_; exact ret_done (hK))
/-- the parts between a byte, as they are cut -/
theorem spl1_cut {c : UInt8} {l : List UInt8} {at_ j : Nat} (h : at_ ≤ j) (hj : l[j]? = some c) (hn : ∀ b ∈ (l.drop at_).take (j - at_), b ≠ c) : spl1 c (l.drop at_) = (l.drop at_).take (j - at_) :: spl1 c (l.drop (j + 1)) := by
  have h1 : (l.drop at_)[j - at_]? = some c := by rw [List.getElem?_drop, show at_ + (j - at_) = j by omega]; exact hj
  have := cut_at h1
  conv => lhs; rw [this]
  rw [spl1_app _ hn, List.drop_drop, show at_ + (j - at_ + 1) = j + 1 by omega]
theorem rsplit_ok {s : ByteArray} {c : UInt8} (hs : s.size ≤ 1000000) (hK : ∀ A cp, K (.slice A (spl1 c s.data.toList).length cp) (row A cp 9 sgC ((spl1 c s.data.toList).map bq) :: R)) : CallT Tryz.prog 27 #[.string s, .int .u8 c.toNat] R K := by
  have hl := bqlen (s := s)
  refine callT_intro mixed Tryz.func27 rfl (by decide) (by decide +kernel) (by exact Nat.le_of_ble_eq_true rfl) ?_
  repeat' (first
    | (show evG _ _ _ _ _ _ _; first | refine G_add64 ?_ | refine G_pure0 ?_ | refine evG_nil ?_ | refine G_br ?_ ?_ | refine G_pure ?_ | (refine G_append ?_; intro _ _) | (refine G_appendN ?_; intro _ _) | refine G_indexS ?_ | refine G_slh ?_ | refine G_slo ?_ | refine G_shi ?_ | refine G_cat ?_ | refine G_eql_agg ?_ | (refine G_buildSlice ?_; intro _) | (refine G_sliceR ?_; intro _) | (refine G_sliceO ?_; intro _))
    | (show spl _ _ _; first | refine spl_no rfl ?_ | refine spl_yes rfl ?_)
    | (show evC _ _ _ _ _; first | refine c_seq ?_ | refine c_region (by exact rfl) ?_ | refine c_cond (by exact rfl) ?_ | refine c_ret ?_ | refine c_skip ?_ | refine c_block ?_ | refine c_exit ?_ | refine std ?_)
    | (show Br _ _ _; first | refine Br.t rfl ?_ | refine Br.f rfl ?_ | refine brs ?_ | (first | refine Br.mkN (fun h => ?_) (fun h => ?_) | refine Br.mk (fun h => ?_) (fun h => ?_)) <;> (try (first | contradiction | (exfalso; omega) | (exfalso; simp at h; done))))
    | refine stp ?_)
  refine LOOP (fun m a C' => ∃ (j at_ n cp : Nat) (A : Option Addr) (out : List (List UInt8)), j + m = s.size ∧ at_ ≤ j ∧ n = out.length ∧ n ≤ j ∧ out ++ spl1 c (s.data.toList.drop at_) = spl1 c s.data.toList ∧ (∀ b ∈ (s.data.toList.drop at_).take (j - at_), b ≠ c) ∧ C' = row A cp 9 sgC (out.map bq) :: R ∧ Agree a [(0, .string s), (1, .int .u8 c.toNat), (5, .slice A n cp), (6, .int .i64 at_), (7, .int .i64 j)]) s.size (turn s.size ⟨0, 0, 0, 0, none, [], by omega, by omega, rfl, by omega, rfl, by simp, rfl, rfl, rfl, rfl, rfl, rfl, trivial⟩) ?_
  rintro n1 a C' ⟨j, at_, n, cp, A, out, hj, hat, hn, hnj, hsp, hno, rfl, ha⟩
  refine c_fr _ ha ?_
  simp only [updL]
  have hrl : (out.map bq).length = n := by simp; omega
  by_cases hlt : j < s.size
  · obtain ⟨b, hb⟩ : ∃ b, s.data.toList[j]? = some b := ⟨_, List.getElem?_eq_getElem (by omega)⟩
    have hb1 : s[((j : Nat) : Int).toNat]? = some b := by rw [bget_l]; exact hb
    have hex : s.extract ((at_ : Nat) : Int).toNat ((j : Nat) : Int).toNat = bq ((s.data.toList.drop at_).take (j - at_)) := ext_bq
    by_cases he : b = c
    · subst he
      have hc := spl1_cut hat hb hno
      have ho : (out ++ [(s.data.toList.drop at_).take (j - at_)]).map bq = out.map bq ++ [s.extract ((at_ : Nat) : Int).toNat ((j : Nat) : Int).toNat] := by rw [List.map_append, hex]; rfl
      repeat' (first
        | (show evG _ _ _ _ _ _ _; first | refine G_add64 ?_ | refine G_pure0 ?_ | refine evG_nil ?_ | refine G_br ?_ ?_ | refine G_pure ?_ | (refine G_append ?_; intro _ _) | (refine G_appendN ?_; intro _ _) | refine G_indexS ?_ | refine G_slh ?_ | refine G_slo ?_ | refine G_shi ?_ | refine G_cat ?_ | refine G_eql_agg ?_ | (refine G_buildSlice ?_; intro _) | (refine G_sliceR ?_; intro _) | (refine G_sliceO ?_; intro _))
        | (show spl _ _ _; first | refine spl_no rfl ?_ | refine spl_yes rfl ?_)
        | (show evC _ _ _ _ _; first | refine c_seq ?_ | refine c_region (by exact rfl) ?_ | refine c_cond (by exact rfl) ?_ | refine c_ret ?_ | refine c_skip ?_ | refine c_block ?_ | refine c_exit ?_ | refine std ?_)
        | (show Br _ _ _; first | refine Br.t rfl ?_ | refine Br.f rfl ?_ | refine brs ?_ | (first | refine Br.mkN (fun h => ?_) (fun h => ?_) | refine Br.mk (fun h => ?_) (fun h => ?_)) <;> (try (first | contradiction | (exfalso; omega) | (exfalso; simp at h; done))))
        | refine stp ?_)
      all_goals (show TurnG _ _ _ _; exact turn (n1 - 1) ⟨j + 1, j + 1, _, _, _, out ++ [(s.data.toList.drop at_).take (j - at_)], by omega, by omega, by simp, by simp; omega, by rw [List.append_assoc, ← hsp, hc]; rfl, by simp, by rw [ho], rfl, rfl, rfl, rfl, rfl, trivial⟩)
    · have he2 : ¬ ((b.toNat : Nat) : Int) = ((c.toNat : Nat) : Int) := fun e => he (UInt8.toNat_inj.1 (by omega))
      have hno2 : ∀ x ∈ (s.data.toList.drop at_).take (j + 1 - at_), x ≠ c := by
        intro x hx
        have e : (s.data.toList.drop at_).take (j + 1 - at_) = (s.data.toList.drop at_).take (j - at_) ++ [b] := by
          rw [show j + 1 - at_ = j - at_ + 1 by omega, List.take_add_one, List.getElem?_drop, show at_ + (j - at_) = j by omega, hb]
          rfl
        rw [e] at hx
        rcases List.mem_append.1 hx with hx | hx
        · exact hno x hx
        · rw [List.mem_singleton] at hx; subst hx; exact he
      repeat' (first
        | (show evG _ _ _ _ _ _ _; first | refine G_add64 ?_ | refine G_pure0 ?_ | refine evG_nil ?_ | refine G_br ?_ ?_ | refine G_pure ?_ | (refine G_append ?_; intro _ _) | (refine G_appendN ?_; intro _ _) | refine G_indexS ?_ | refine G_slh ?_ | refine G_slo ?_ | refine G_shi ?_ | refine G_cat ?_ | refine G_eql_agg ?_ | (refine G_buildSlice ?_; intro _) | (refine G_sliceR ?_; intro _) | (refine G_sliceO ?_; intro _))
        | (show spl _ _ _; first | refine spl_no rfl ?_ | refine spl_yes rfl ?_)
        | (show evC _ _ _ _ _; first | refine c_seq ?_ | refine c_region (by exact rfl) ?_ | refine c_cond (by exact rfl) ?_ | refine c_ret ?_ | refine c_skip ?_ | refine c_block ?_ | refine c_exit ?_ | refine std ?_)
        | (show Br _ _ _; first | refine Br.t rfl ?_ | refine Br.f rfl ?_ | refine brs ?_ | (first | refine Br.mkN (fun h => ?_) (fun h => ?_) | refine Br.mk (fun h => ?_) (fun h => ?_)) <;> (try (first | contradiction | (exfalso; omega) | (exfalso; simp at h; done))))
        | refine stp ?_)
      all_goals first
        | (show TurnG _ _ _ _; exact turn (n1 - 1) ⟨j + 1, at_, n, cp, A, out, by omega, by omega, hn, by omega, hsp, hno2, rfl, rfl, rfl, rfl, rfl, rfl, trivial⟩)
        | (exfalso; omega)
  · obtain rfl : j = s.size := by omega
    have hex : s.extract ((at_ : Nat) : Int).toNat s.size = bq (s.data.toList.drop at_) := by
      rw [ext_bq, List.take_of_length_le (by simp)]
      rfl
    rw [List.take_of_length_le (by simp)] at hno
    rw [spl1_one hno] at hsp
    have e2 : (spl1 c s.data.toList).map bq = out.map bq ++ [s.extract ((at_ : Nat) : Int).toNat s.size] := by rw [hex, ← hsp, List.map_append]; rfl
    have e3 : (spl1 c s.data.toList).length = (out.map bq ++ [s.extract ((at_ : Nat) : Int).toNat s.size]).length := by rw [← e2, List.length_map]
    rw [e2, e3] at hK
    repeat' (first
      | (show evG _ _ _ _ _ _ _; first | refine G_add64 ?_ | refine G_pure0 ?_ | refine evG_nil ?_ | refine G_br ?_ ?_ | refine G_pure ?_ | (refine G_append ?_; intro _ _) | (refine G_appendN ?_; intro _ _) | refine G_indexS ?_ | refine G_slh ?_ | refine G_slo ?_ | refine G_shi ?_ | refine G_cat ?_ | refine G_eql_agg ?_ | (refine G_buildSlice ?_; intro _) | (refine G_sliceR ?_; intro _) | (refine G_sliceO ?_; intro _))
      | (show spl _ _ _; first | refine spl_no rfl ?_ | refine spl_yes rfl ?_)
      | (show evC _ _ _ _ _; first | refine c_seq ?_ | refine c_region (by exact rfl) ?_ | refine c_cond (by exact rfl) ?_ | refine c_ret ?_ | refine c_skip ?_ | refine c_block ?_ | refine c_exit ?_ | refine std ?_)
      | (show Br _ _ _; first | refine Br.t rfl ?_ | refine Br.f rfl ?_ | refine brs ?_ | (first | refine Br.mkN (fun h => ?_) (fun h => ?_) | refine Br.mk (fun h => ?_) (fun h => ?_)) <;> (try (first | contradiction | (exfalso; omega) | (exfalso; simp at h; done))))
      | refine stp ?_)
    all_goals (show retC _ _ _ _ _ _; refine RETC ?_; exact ret_done (hK _ _))
end Go.Proofs.YtiofdmjecjcdbaaGreatDoor

