/- Trace: the next move: lemmas; each with the conditions that it states. -/

import Derived.Test.YtgdfmbnbknhhiaaJ2
namespace Go.Proofs.Ytgdfmbnbknhhiaa
open Go Go.Proofs Go.Sl
set_option maxRecDepth 100000
set_option maxHeartbeats 4000000
set_option linter.unusedSimpArgs false
set_option linter.unusedVariables false
attribute [local irreducible] evG evC spl thenC inBlockC noGotoC CallT retC RetG TurnG CutG pt ro exP star sep pureP
variable {R C : List HP} {K : Value → List HP → Prop}
/-- the next move -/
def mvAt (t : ByteArray) : Mv := ⟨nAt t 0 1, nAt t 2 6, nAt t 6 10, t.extract 12 (12 + (nAt t 10 12).toNat), nAt t 1 2 == 1⟩
def nxE (t : ByteArray) : Int := if t.size < 12 then 5 else if (t.size : Int) < 12 + nAt t 10 12 then 5 else if 1 < nAt t 1 2 ∨ mvOk (nAt t 0 1) (nAt t 2 6) (nAt t 6 10) (t.extract 12 (12 + (nAt t 10 12).toNat)) = false then 6 else 0
theorem takeAt_ok {p i : Nat} {w : Int} {s : ByteArray} (h0 : 0 ≤ w) (h : (i : Int) + w ≤ s.size) (hK : K (.string (s.extract i (i + w.toNat))) (scanP p (s.extract (i + w.toNat) s.size) false :: R)) : CallT Try.prog 83 #[.pointer (some ⟨p, 0, none⟩), .int .i64 w] (scanP p (s.extract i s.size) false :: R) K := by
  obtain ⟨t1, t2, t3⟩ := sc_take (s := s) (at_ := i) (n := w) (by omega) h0 h
  have e : ((i : Int) + w).toNat = i + w.toNat := by omega
  rw [e] at t2 t3
  rw [Int.toNat_natCast] at t1 t2 t3
  refine takeY_ok t1 ?_
  rw [t3, t2]
  exact hK
theorem takeEnd_ok {p i : Nat} {w : Int} {s : ByteArray} (hi : i ≤ s.size) (h : (s.size : Int) < i + w) (hK : K (.string ⟨#[]⟩) (scanP p (s.extract i s.size) true :: R)) : CallT Try.prog 83 #[.pointer (some ⟨p, 0, none⟩), .int .i64 w] (scanP p (s.extract i s.size) false :: R) K := by
  refine takeX_ok ?_ hK
  exact sc_no (.inr (.inr (by simp; omega)))
theorem takeBad_ok {p : Nat} {w : Int} {s : ByteArray} (hK : K (.string ⟨#[]⟩) (scanP p s true :: R)) : CallT Try.prog 83 #[.pointer (some ⟨p, 0, none⟩), .int .i64 w] (scanP p s true :: R) K :=
  takeX_ok (sc_no (.inl rfl)) hK
theorem leftAt_ok {p i : Nat} {s : ByteArray} {bad : Bool} (hi : i ≤ s.size) (hK : K (.int .i64 ((s.size : Int) - i)) (scanP p (s.extract i s.size) bad :: R)) : CallT Try.prog 89 #[.pointer (some ⟨p, 0, none⟩)] (scanP p (s.extract i s.size) bad :: R) K := by
  refine left_ok _ _ _ (ki hK ?_)
  simp; omega
attribute [local irreducible] ByteArray.extract nAt scanP
theorem nextB_ok {t : ByteArray} (hs : t.size < 1000000000000000) (h : nxE t ≠ 0) (hK : K (.tuple #[.agg #[.int .i64 0, .int .i64 0, .int .i64 0, .string ⟨#[]⟩, .bool false], .int .i64 0, .int .i64 (nxE t)]) R) : CallT Try.prog 66 #[.string t] R K := by
  have r1 := nAt_rng t 1 2
  have r5 := nAt_rng t 10 12
  simp only [show (2 : Nat) - 1 = 1 from rfl, show (12 : Nat) - 10 = 2 from rfl, pow256.1, pow256_2] at r1 r5
  unfold nxE at h hK
  by_cases h12 : t.size < 12
  · rw [if_pos h12] at hK
    rcases (by omega : t.size = 0 ∨ t.size = 1 ∨ (2 ≤ t.size ∧ t.size < 6) ∨ (6 ≤ t.size ∧ t.size < 10) ∨ (10 ≤ t.size ∧ t.size < 12)) with h | h | h | h | h
    all_goals
      refine callT_intro mixed Try.func66 rfl (by decide) (by decide +kernel) (by exact Nat.le_of_ble_eq_true rfl) ?_
      repeat' (first
        | (show evG _ _ _ _ _ _ _; first | refine G_andNot0 ?_ | refine G_andNot1 ?_ | refine G_add64 ?_ | refine G_sub64 ?_ | refine G_mul64 ?_ | refine G_quo ?_ | refine G_rem ?_ | refine G_shl8 ?_ | refine G_orb ?_ | refine G_shr ?_ | refine G_pure0 ?_ | refine G_load ?_ | refine evG_nil ?_ | refine G_br ?_ ?_ | refine G_field ?_ | refine G_pure ?_ | refine G_store ?_ | refine G_loadV ?_ | refine G_loadV0 ?_ | refine G_loadV2 ?_ | (refine G_append ?_; intro _ _) | (refine G_appendN ?_; intro _ _) | refine G_not ?_ | refine G_index ?_ | refine G_indexA ?_ | refine G_indexS ?_ | refine G_conv64 ?_ | refine G_conv8 ?_ | refine G_convu ?_ | refine G_conv ?_ | refine G_build ?_ | refine G_slh ?_ | refine G_slo ?_ | refine G_shi ?_ | refine G_cat ?_ | refine G_min ?_ | refine G_max ?_ | refine G_neg64 ?_ | refine G_eql_agg ?_ | refine G_neq_agg ?_ | refine G_bytesP ?_ | refine G_bytesstr ?_ | refine G_call ?_ | refine G_call0 ?_ | refine G_callv ?_ | refine G_callv0 ?_ | (refine G_box ?_; intro _) | (refine G_alloc ?_; intro _) | (refine G_buildSlice ?_; intro _) | (refine G_strrow ?_; intro _ _) | (refine G_indexV ?_; intro _ _ hA; subst hA) | (refine G_sliceR ?_; intro _) | (refine G_sliceO ?_; intro _) | refine G_skip ?_ | refine G_skip0 ?_)
        | (show spl _ _ _; first | refine spl_no rfl ?_ | refine spl_yes rfl ?_)
        | (show evC _ _ _ _ _; first | refine c_seq ?_ | refine c_region (by exact rfl) ?_ | refine c_cond (by exact rfl) ?_ | refine c_ret ?_ | refine c_skip ?_ | refine c_block ?_ | refine c_exit ?_  | refine c_draw (l := [(3, 0), (4, 1), (0, 1), (1, 1), (2, 1), (6, 1), (5, 1), (7, 0), (8, 0)]) (by decide +kernel) (by decide +kernel) (by exact rfl) ?_ | refine c_draw (by exact rfl) (by decide +kernel) (by exact rfl) ?_ | refine c_drawT (by exact rfl) (by decide +kernel) (by exact rfl) ?_ | refine c_scope ?_ | refine c_label ?_)
        | (show Br _ _ _; first | refine Br.t rfl ?_ | refine Br.f rfl ?_ | refine Br.t (beq_self_eq_true _) ?_ | refine Br.f (not_beq_self _) ?_ | refine Br.t (by assumption) ?_ | refine Br.f (by assumption) ?_ | refine Br.t (nb_f (by assumption)) ?_ | refine Br.f (nb_t (by assumption)) ?_ | (refine Br.mk (fun h => ?_) (fun h => ?_) <;> (try simp only [Bool.and_eq_true, Bool.or_eq_true, Bool.and_eq_false_iff, Bool.or_eq_false_iff, decide_eq_true_eq, decide_eq_false_iff_not, beq_iff_eq, bne_iff_ne, beq_eq_false_iff_ne, bne_eq_false_iff_eq, ne_eq, Bool.not_eq_true', Bool.not_eq_false', not_true_eq_false, not_false_eq_true, Int.not_lt, Int.not_le, gt_iff_lt, ge_iff_le] at h) <;> (try (first | contradiction | (exfalso; omega)))))
        | (show thenC _ _ _ _ _; first | refine t_n ?_ | refine t_r ?_ | refine t_e ?_)
        | (show inBlockC _ _ _ _ _; first | refine b_n ?_ | refine b_r ?_ | refine b_hit rfl ?_ | refine b_miss rfl ?_)
        | (show noGotoC _ _ _ _; first | refine g_n ?_ | refine g_r ?_ | refine g_e ?_)
        | (show CallT _ 56 _ _ _; refine CA (h := over0_ok (fun p => ?_)))
        | (show CallT _ 57 _ _ _; refine CA (h := uAt_ok (i := 0) (j := 1) (by decide) (by decide) (by omega) ?_))
        | (show CallT _ 57 _ _ _; refine CA (h := uAt_ok (i := 1) (j := 2) (by decide) (by decide) (by omega) ?_))
        | (show CallT _ 57 _ _ _; refine CA (h := uAt_ok (i := 2) (j := 6) (by decide) (by decide) (by omega) ?_))
        | (show CallT _ 57 _ _ _; refine CA (h := uAt_ok (i := 6) (j := 10) (by decide) (by decide) (by omega) ?_))
        | (show CallT _ 57 _ _ _; refine CA (h := uAt_ok (i := 10) (j := 12) (by decide) (by decide) (by omega) ?_))
        | (show CallT _ 57 _ _ _; refine CA (h := uEnd_ok (by decide) (by omega) (by omega) ?_))
        | (show CallT _ 57 _ _ _; refine CA (h := uBad_ok ?_))
        | (show CallT _ 83 _ _ _; refine CA (h := takeBad_ok ?_))
        | (show CallT _ 58 _ _ _; refine CA (h := bad_ok _ _ _ ?_)))
      all_goals (refine RETC ?_; exact ret_done (hK))
  · rw [if_neg h12] at h hK
    by_cases hl : (t.size : Int) < 12 + nAt t 10 12
    · rw [if_pos hl] at hK
      refine callT_intro mixed Try.func66 rfl (by decide) (by decide +kernel) (by exact Nat.le_of_ble_eq_true rfl) ?_
      repeat' (first
        | (show evG _ _ _ _ _ _ _; first | refine G_andNot0 ?_ | refine G_andNot1 ?_ | refine G_add64 ?_ | refine G_sub64 ?_ | refine G_mul64 ?_ | refine G_quo ?_ | refine G_rem ?_ | refine G_shl8 ?_ | refine G_orb ?_ | refine G_shr ?_ | refine G_pure0 ?_ | refine G_load ?_ | refine evG_nil ?_ | refine G_br ?_ ?_ | refine G_field ?_ | refine G_pure ?_ | refine G_store ?_ | refine G_loadV ?_ | refine G_loadV0 ?_ | refine G_loadV2 ?_ | (refine G_append ?_; intro _ _) | (refine G_appendN ?_; intro _ _) | refine G_not ?_ | refine G_index ?_ | refine G_indexA ?_ | refine G_indexS ?_ | refine G_conv64 ?_ | refine G_conv8 ?_ | refine G_convu ?_ | refine G_conv ?_ | refine G_build ?_ | refine G_slh ?_ | refine G_slo ?_ | refine G_shi ?_ | refine G_cat ?_ | refine G_min ?_ | refine G_max ?_ | refine G_neg64 ?_ | refine G_eql_agg ?_ | refine G_neq_agg ?_ | refine G_bytesP ?_ | refine G_bytesstr ?_ | refine G_call ?_ | refine G_call0 ?_ | refine G_callv ?_ | refine G_callv0 ?_ | (refine G_box ?_; intro _) | (refine G_alloc ?_; intro _) | (refine G_buildSlice ?_; intro _) | (refine G_strrow ?_; intro _ _) | (refine G_indexV ?_; intro _ _ hA; subst hA) | (refine G_sliceR ?_; intro _) | (refine G_sliceO ?_; intro _) | refine G_skip ?_ | refine G_skip0 ?_)
        | (show spl _ _ _; first | refine spl_no rfl ?_ | refine spl_yes rfl ?_)
        | (show evC _ _ _ _ _; first | refine c_seq ?_ | refine c_region (by exact rfl) ?_ | refine c_cond (by exact rfl) ?_ | refine c_ret ?_ | refine c_skip ?_ | refine c_block ?_ | refine c_exit ?_  | refine c_draw (l := [(3, 0), (4, 1), (0, 1), (1, 1), (2, 1), (6, 1), (5, 1), (7, 0), (8, 0)]) (by decide +kernel) (by decide +kernel) (by exact rfl) ?_ | refine c_draw (by exact rfl) (by decide +kernel) (by exact rfl) ?_ | refine c_drawT (by exact rfl) (by decide +kernel) (by exact rfl) ?_ | refine c_scope ?_ | refine c_label ?_)
        | (show Br _ _ _; first | refine Br.t rfl ?_ | refine Br.f rfl ?_ | refine Br.t (beq_self_eq_true _) ?_ | refine Br.f (not_beq_self _) ?_ | refine Br.t (by assumption) ?_ | refine Br.f (by assumption) ?_ | refine Br.t (nb_f (by assumption)) ?_ | refine Br.f (nb_t (by assumption)) ?_ | (refine Br.mk (fun h => ?_) (fun h => ?_) <;> (try simp only [Bool.and_eq_true, Bool.or_eq_true, Bool.and_eq_false_iff, Bool.or_eq_false_iff, decide_eq_true_eq, decide_eq_false_iff_not, beq_iff_eq, bne_iff_ne, beq_eq_false_iff_ne, bne_eq_false_iff_eq, ne_eq, Bool.not_eq_true', Bool.not_eq_false', not_true_eq_false, not_false_eq_true, Int.not_lt, Int.not_le, gt_iff_lt, ge_iff_le] at h) <;> (try (first | contradiction | (exfalso; omega)))))
        | (show thenC _ _ _ _ _; first | refine t_n ?_ | refine t_r ?_ | refine t_e ?_)
        | (show inBlockC _ _ _ _ _; first | refine b_n ?_ | refine b_r ?_ | refine b_hit rfl ?_ | refine b_miss rfl ?_)
        | (show noGotoC _ _ _ _; first | refine g_n ?_ | refine g_r ?_ | refine g_e ?_)
        | (show CallT _ 56 _ _ _; refine CA (h := over0_ok (fun p => ?_)))
        | (show CallT _ 57 _ _ _; refine CA (h := uAt_ok (i := 0) (j := 1) (by decide) (by decide) (by omega) ?_))
        | (show CallT _ 57 _ _ _; refine CA (h := uAt_ok (i := 1) (j := 2) (by decide) (by decide) (by omega) ?_))
        | (show CallT _ 57 _ _ _; refine CA (h := uAt_ok (i := 2) (j := 6) (by decide) (by decide) (by omega) ?_))
        | (show CallT _ 57 _ _ _; refine CA (h := uAt_ok (i := 6) (j := 10) (by decide) (by decide) (by omega) ?_))
        | (show CallT _ 57 _ _ _; refine CA (h := uAt_ok (i := 10) (j := 12) (by decide) (by decide) (by omega) ?_))
        | (show CallT _ 83 _ _ _; refine CA (h := takeEnd_ok (i := 12) (by omega) (by omega) ?_))
        | (show CallT _ 58 _ _ _; refine CA (h := bad_ok _ _ _ ?_)))
      all_goals (refine RETC ?_; exact ret_done (hK))
    · rw [if_neg hl] at h hK
      by_cases hb : 1 < nAt t 1 2 ∨ mvOk (nAt t 0 1) (nAt t 2 6) (nAt t 6 10) (t.extract 12 (12 + (nAt t 10 12).toNat)) = false
      · rw [if_pos hb] at hK
        cases hok : mvOk (nAt t 0 1) (nAt t 2 6) (nAt t 6 10) (t.extract 12 (12 + (nAt t 10 12).toNat))
        · refine callT_intro mixed Try.func66 rfl (by decide) (by decide +kernel) (by exact Nat.le_of_ble_eq_true rfl) ?_
          repeat' (first
            | (show evG _ _ _ _ _ _ _; first | refine G_andNot0 ?_ | refine G_andNot1 ?_ | refine G_add64 ?_ | refine G_sub64 ?_ | refine G_mul64 ?_ | refine G_quo ?_ | refine G_rem ?_ | refine G_shl8 ?_ | refine G_orb ?_ | refine G_shr ?_ | refine G_pure0 ?_ | refine G_load ?_ | refine evG_nil ?_ | refine G_br ?_ ?_ | refine G_field ?_ | refine G_pure ?_ | refine G_store ?_ | refine G_loadV ?_ | refine G_loadV0 ?_ | refine G_loadV2 ?_ | (refine G_append ?_; intro _ _) | (refine G_appendN ?_; intro _ _) | refine G_not ?_ | refine G_index ?_ | refine G_indexA ?_ | refine G_indexS ?_ | refine G_conv64 ?_ | refine G_conv8 ?_ | refine G_convu ?_ | refine G_conv ?_ | refine G_build ?_ | refine G_slh ?_ | refine G_slo ?_ | refine G_shi ?_ | refine G_cat ?_ | refine G_min ?_ | refine G_max ?_ | refine G_neg64 ?_ | refine G_eql_agg ?_ | refine G_neq_agg ?_ | refine G_bytesP ?_ | refine G_bytesstr ?_ | refine G_call ?_ | refine G_call0 ?_ | refine G_callv ?_ | refine G_callv0 ?_ | (refine G_box ?_; intro _) | (refine G_alloc ?_; intro _) | (refine G_buildSlice ?_; intro _) | (refine G_strrow ?_; intro _ _) | (refine G_indexV ?_; intro _ _ hA; subst hA) | (refine G_sliceR ?_; intro _) | (refine G_sliceO ?_; intro _) | refine G_skip ?_ | refine G_skip0 ?_)
            | (show spl _ _ _; first | refine spl_no rfl ?_ | refine spl_yes rfl ?_)
            | (show evC _ _ _ _ _; first | refine c_seq ?_ | refine c_region (by exact rfl) ?_ | refine c_cond (by exact rfl) ?_ | refine c_ret ?_ | refine c_skip ?_ | refine c_block ?_ | refine c_exit ?_  | refine c_draw (l := [(3, 0), (4, 1), (0, 1), (1, 1), (2, 1), (6, 1), (5, 1), (7, 0), (8, 0)]) (by decide +kernel) (by decide +kernel) (by exact rfl) ?_ | refine c_draw (by exact rfl) (by decide +kernel) (by exact rfl) ?_ | refine c_drawT (by exact rfl) (by decide +kernel) (by exact rfl) ?_ | refine c_scope ?_ | refine c_label ?_)
            | (show Br _ _ _; first | refine Br.t rfl ?_ | refine Br.f rfl ?_ | refine Br.t (beq_self_eq_true _) ?_ | refine Br.f (not_beq_self _) ?_ | refine Br.t (by assumption) ?_ | refine Br.f (by assumption) ?_ | refine Br.t (nb_f (by assumption)) ?_ | refine Br.f (nb_t (by assumption)) ?_ | (refine Br.mk (fun h => ?_) (fun h => ?_) <;> (try simp only [Bool.and_eq_true, Bool.or_eq_true, Bool.and_eq_false_iff, Bool.or_eq_false_iff, decide_eq_true_eq, decide_eq_false_iff_not, beq_iff_eq, bne_iff_ne, beq_eq_false_iff_ne, bne_eq_false_iff_eq, ne_eq, Bool.not_eq_true', Bool.not_eq_false', not_true_eq_false, not_false_eq_true, Int.not_lt, Int.not_le, gt_iff_lt, ge_iff_le] at h) <;> (try (first | contradiction | (exfalso; omega)))))
            | (show thenC _ _ _ _ _; first | refine t_n ?_ | refine t_r ?_ | refine t_e ?_)
            | (show inBlockC _ _ _ _ _; first | refine b_n ?_ | refine b_r ?_ | refine b_hit rfl ?_ | refine b_miss rfl ?_)
            | (show noGotoC _ _ _ _; first | refine g_n ?_ | refine g_r ?_ | refine g_e ?_)
            | (show CallT _ 56 _ _ _; refine CA (h := over0_ok (fun p => ?_)))
            | (show CallT _ 57 _ _ _; refine CA (h := uAt_ok (i := 0) (j := 1) (by decide) (by decide) (by omega) ?_))
            | (show CallT _ 57 _ _ _; refine CA (h := uAt_ok (i := 1) (j := 2) (by decide) (by decide) (by omega) ?_))
            | (show CallT _ 57 _ _ _; refine CA (h := uAt_ok (i := 2) (j := 6) (by decide) (by decide) (by omega) ?_))
            | (show CallT _ 57 _ _ _; refine CA (h := uAt_ok (i := 6) (j := 10) (by decide) (by decide) (by omega) ?_))
            | (show CallT _ 57 _ _ _; refine CA (h := uAt_ok (i := 10) (j := 12) (by decide) (by decide) (by omega) ?_))
            | (show CallT _ 83 _ _ _; refine CA (h := takeAt_ok (i := 12) (by omega) (by omega) ?_))
            | (show CallT _ 58 _ _ _; refine CA (h := bad_ok _ _ _ ?_))
            | (show CallT _ 28 _ _ _; refine CA (h := tcheckB_ok (by assumption) ?_)))
          all_goals (refine RETC ?_; exact ret_done (hK))
        · have hb1 : 1 < nAt t 1 2 := hb.resolve_right (by rw [hok]; decide)
          refine callT_intro mixed Try.func66 rfl (by decide) (by decide +kernel) (by exact Nat.le_of_ble_eq_true rfl) ?_
          repeat' (first
            | (show evG _ _ _ _ _ _ _; first | refine G_andNot0 ?_ | refine G_andNot1 ?_ | refine G_add64 ?_ | refine G_sub64 ?_ | refine G_mul64 ?_ | refine G_quo ?_ | refine G_rem ?_ | refine G_shl8 ?_ | refine G_orb ?_ | refine G_shr ?_ | refine G_pure0 ?_ | refine G_load ?_ | refine evG_nil ?_ | refine G_br ?_ ?_ | refine G_field ?_ | refine G_pure ?_ | refine G_store ?_ | refine G_loadV ?_ | refine G_loadV0 ?_ | refine G_loadV2 ?_ | (refine G_append ?_; intro _ _) | (refine G_appendN ?_; intro _ _) | refine G_not ?_ | refine G_index ?_ | refine G_indexA ?_ | refine G_indexS ?_ | refine G_conv64 ?_ | refine G_conv8 ?_ | refine G_convu ?_ | refine G_conv ?_ | refine G_build ?_ | refine G_slh ?_ | refine G_slo ?_ | refine G_shi ?_ | refine G_cat ?_ | refine G_min ?_ | refine G_max ?_ | refine G_neg64 ?_ | refine G_eql_agg ?_ | refine G_neq_agg ?_ | refine G_bytesP ?_ | refine G_bytesstr ?_ | refine G_call ?_ | refine G_call0 ?_ | refine G_callv ?_ | refine G_callv0 ?_ | (refine G_box ?_; intro _) | (refine G_alloc ?_; intro _) | (refine G_buildSlice ?_; intro _) | (refine G_strrow ?_; intro _ _) | (refine G_indexV ?_; intro _ _ hA; subst hA) | (refine G_sliceR ?_; intro _) | (refine G_sliceO ?_; intro _) | refine G_skip ?_ | refine G_skip0 ?_)
            | (show spl _ _ _; first | refine spl_no rfl ?_ | refine spl_yes rfl ?_)
            | (show evC _ _ _ _ _; first | refine c_seq ?_ | refine c_region (by exact rfl) ?_ | refine c_cond (by exact rfl) ?_ | refine c_ret ?_ | refine c_skip ?_ | refine c_block ?_ | refine c_exit ?_  | refine c_draw (l := [(3, 0), (4, 1), (0, 1), (1, 1), (2, 1), (6, 1), (5, 1), (7, 0), (8, 0)]) (by decide +kernel) (by decide +kernel) (by exact rfl) ?_ | refine c_draw (by exact rfl) (by decide +kernel) (by exact rfl) ?_ | refine c_drawT (by exact rfl) (by decide +kernel) (by exact rfl) ?_ | refine c_scope ?_ | refine c_label ?_)
            | (show Br _ _ _; first | refine Br.t rfl ?_ | refine Br.f rfl ?_ | refine Br.t (beq_self_eq_true _) ?_ | refine Br.f (not_beq_self _) ?_ | refine Br.t (by assumption) ?_ | refine Br.f (by assumption) ?_ | refine Br.t (nb_f (by assumption)) ?_ | refine Br.f (nb_t (by assumption)) ?_ | (refine Br.mk (fun h => ?_) (fun h => ?_) <;> (try simp only [Bool.and_eq_true, Bool.or_eq_true, Bool.and_eq_false_iff, Bool.or_eq_false_iff, decide_eq_true_eq, decide_eq_false_iff_not, beq_iff_eq, bne_iff_ne, beq_eq_false_iff_ne, bne_eq_false_iff_eq, ne_eq, Bool.not_eq_true', Bool.not_eq_false', not_true_eq_false, not_false_eq_true, Int.not_lt, Int.not_le, gt_iff_lt, ge_iff_le] at h) <;> (try (first | contradiction | (exfalso; omega)))))
            | (show thenC _ _ _ _ _; first | refine t_n ?_ | refine t_r ?_ | refine t_e ?_)
            | (show inBlockC _ _ _ _ _; first | refine b_n ?_ | refine b_r ?_ | refine b_hit rfl ?_ | refine b_miss rfl ?_)
            | (show noGotoC _ _ _ _; first | refine g_n ?_ | refine g_r ?_ | refine g_e ?_)
            | (show CallT _ 56 _ _ _; refine CA (h := over0_ok (fun p => ?_)))
            | (show CallT _ 57 _ _ _; refine CA (h := uAt_ok (i := 0) (j := 1) (by decide) (by decide) (by omega) ?_))
            | (show CallT _ 57 _ _ _; refine CA (h := uAt_ok (i := 1) (j := 2) (by decide) (by decide) (by omega) ?_))
            | (show CallT _ 57 _ _ _; refine CA (h := uAt_ok (i := 2) (j := 6) (by decide) (by decide) (by omega) ?_))
            | (show CallT _ 57 _ _ _; refine CA (h := uAt_ok (i := 6) (j := 10) (by decide) (by decide) (by omega) ?_))
            | (show CallT _ 57 _ _ _; refine CA (h := uAt_ok (i := 10) (j := 12) (by decide) (by decide) (by omega) ?_))
            | (show CallT _ 83 _ _ _; refine CA (h := takeAt_ok (i := 12) (by omega) (by omega) ?_))
            | (show CallT _ 58 _ _ _; refine CA (h := bad_ok _ _ _ ?_)))
          all_goals (refine RETC ?_; exact ret_done (hK))
      · rw [if_neg hb] at h; exact absurd rfl h
theorem nextA_ok {t : ByteArray} (hs : t.size < 1000000000000000) (h : nxE t = 0) (hK : K (.tuple #[.agg #[.int .i64 (nAt t 0 1), .int .i64 (nAt t 2 6), .int .i64 (nAt t 6 10), .string (t.extract 12 (12 + (nAt t 10 12).toNat)), .bool (nAt t 1 2 == 1)], .int .i64 (12 + nAt t 10 12), .int .i64 0]) R) : CallT Try.prog 66 #[.string t] R K := by
  have r5 := nAt_rng t 10 12
  simp only [show (12 : Nat) - 10 = 2 from rfl, pow256_2] at r5
  unfold nxE at h
  split at h
  · cases h
  split at h
  · cases h
  split at h
  · cases h
  rename_i h1 h2 h3
  have hb : nAt t 1 2 ≤ 1 := by omega
  have hok : mvOk (nAt t 0 1) (nAt t 2 6) (nAt t 6 10) (t.extract 12 (12 + (nAt t 10 12).toNat)) = true := by
    cases hx : mvOk (nAt t 0 1) (nAt t 2 6) (nAt t 6 10) (t.extract 12 (12 + (nAt t 10 12).toNat))
    · exact absurd (Or.inr hx) h3
    · rfl
  have e : (t.size : Int) - ((t.size : Int) - ((12 + (nAt t 10 12).toNat : Nat) : Int)) = 12 + nAt t 10 12 := by omega
  refine callT_intro mixed Try.func66 rfl (by decide) (by decide +kernel) (by exact Nat.le_of_ble_eq_true rfl) ?_
  repeat' (first
    | (show evG _ _ _ _ _ _ _; first | refine G_andNot0 ?_ | refine G_andNot1 ?_ | refine G_add64 ?_ | refine G_sub64 ?_ | refine G_mul64 ?_ | refine G_quo ?_ | refine G_rem ?_ | refine G_shl8 ?_ | refine G_orb ?_ | refine G_shr ?_ | refine G_pure0 ?_ | refine G_load ?_ | refine evG_nil ?_ | refine G_br ?_ ?_ | refine G_field ?_ | refine G_pure ?_ | refine G_store ?_ | refine G_loadV ?_ | refine G_loadV0 ?_ | refine G_loadV2 ?_ | (refine G_append ?_; intro _ _) | (refine G_appendN ?_; intro _ _) | refine G_not ?_ | refine G_index ?_ | refine G_indexA ?_ | refine G_indexS ?_ | refine G_conv64 ?_ | refine G_conv8 ?_ | refine G_convu ?_ | refine G_conv ?_ | refine G_build ?_ | refine G_slh ?_ | refine G_slo ?_ | refine G_shi ?_ | refine G_cat ?_ | refine G_min ?_ | refine G_max ?_ | refine G_neg64 ?_ | refine G_eql_agg ?_ | refine G_neq_agg ?_ | refine G_bytesP ?_ | refine G_bytesstr ?_ | refine G_call ?_ | refine G_call0 ?_ | refine G_callv ?_ | refine G_callv0 ?_ | (refine G_box ?_; intro _) | (refine G_alloc ?_; intro _) | (refine G_buildSlice ?_; intro _) | (refine G_strrow ?_; intro _ _) | (refine G_indexV ?_; intro _ _ hA; subst hA) | (refine G_sliceR ?_; intro _) | (refine G_sliceO ?_; intro _) | refine G_skip ?_ | refine G_skip0 ?_)
    | (show spl _ _ _; first | refine spl_no rfl ?_ | refine spl_yes rfl ?_)
    | (show evC _ _ _ _ _; first | refine c_seq ?_ | refine c_region (by exact rfl) ?_ | refine c_cond (by exact rfl) ?_ | refine c_ret ?_ | refine c_skip ?_ | refine c_block ?_ | refine c_exit ?_  | refine c_draw (l := [(3, 0), (4, 1), (0, 1), (1, 1), (2, 1), (6, 1), (5, 1), (7, 0), (8, 0)]) (by decide +kernel) (by decide +kernel) (by exact rfl) ?_ | refine c_draw (by exact rfl) (by decide +kernel) (by exact rfl) ?_ | refine c_drawT (by exact rfl) (by decide +kernel) (by exact rfl) ?_ | refine c_scope ?_ | refine c_label ?_)
    | (show Br _ _ _; first | refine Br.t rfl ?_ | refine Br.f rfl ?_ | refine Br.t (beq_self_eq_true _) ?_ | refine Br.f (not_beq_self _) ?_ | refine Br.t (by assumption) ?_ | refine Br.f (by assumption) ?_ | refine Br.t (nb_f (by assumption)) ?_ | refine Br.f (nb_t (by assumption)) ?_ | (refine Br.mk (fun h => ?_) (fun h => ?_) <;> (try simp only [Bool.and_eq_true, Bool.or_eq_true, Bool.and_eq_false_iff, Bool.or_eq_false_iff, decide_eq_true_eq, decide_eq_false_iff_not, beq_iff_eq, bne_iff_ne, beq_eq_false_iff_ne, bne_eq_false_iff_eq, ne_eq, Bool.not_eq_true', Bool.not_eq_false', not_true_eq_false, not_false_eq_true, Int.not_lt, Int.not_le, gt_iff_lt, ge_iff_le] at h) <;> (try (first | contradiction | (exfalso; omega)))))
    | (show thenC _ _ _ _ _; first | refine t_n ?_ | refine t_r ?_ | refine t_e ?_)
    | (show inBlockC _ _ _ _ _; first | refine b_n ?_ | refine b_r ?_ | refine b_hit rfl ?_ | refine b_miss rfl ?_)
    | (show noGotoC _ _ _ _; first | refine g_n ?_ | refine g_r ?_ | refine g_e ?_)
    | (show CallT _ 56 _ _ _; refine CA (h := over0_ok (fun p => ?_)))
    | (show CallT _ 57 _ _ _; refine CA (h := uAt_ok (i := 0) (j := 1) (by decide) (by decide) (by omega) ?_))
    | (show CallT _ 57 _ _ _; refine CA (h := uAt_ok (i := 1) (j := 2) (by decide) (by decide) (by omega) ?_))
    | (show CallT _ 57 _ _ _; refine CA (h := uAt_ok (i := 2) (j := 6) (by decide) (by decide) (by omega) ?_))
    | (show CallT _ 57 _ _ _; refine CA (h := uAt_ok (i := 6) (j := 10) (by decide) (by decide) (by omega) ?_))
    | (show CallT _ 57 _ _ _; refine CA (h := uAt_ok (i := 10) (j := 12) (by decide) (by decide) (by omega) ?_))
    | (show CallT _ 83 _ _ _; refine CA (h := takeAt_ok (i := 12) (by omega) (by omega) ?_))
    | (show CallT _ 58 _ _ _; refine CA (h := bad_ok _ _ _ ?_))
    | (show CallT _ 28 _ _ _; refine CA (h := tcheckA_ok (by assumption) ?_))
    | (show CallT _ 89 _ _ _; refine CA (h := leftAt_ok (i := 12 + (nAt t 10 12).toNat) (by omega) ?_)))
  all_goals (refine RETC ?_; exact ret_done (kv hK (by rw [e])))
end Go.Proofs.Ytgdfmbnbknhhiaa
