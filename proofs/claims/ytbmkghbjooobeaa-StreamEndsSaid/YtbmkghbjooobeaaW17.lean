/- Stream: a reset drops all: lemmas; each with the conditions that it states. -/
import Derived.Test.YtbmkghbjooobeaaW14
import Derived.Test.YtbmkghbjooobeaaW16
import Derived.Test.YtbmkghbjooobeaaW10

namespace Go.Proofs.Ytbmkghbjooobeaa
open Go Go.Proofs Go.Sl
set_option maxRecDepth 100000
set_option maxHeartbeats 4000000
set_option linter.unusedSimpArgs false
set_option linter.unusedVariables false
attribute [local irreducible] evG evC spl thenC inBlockC noGotoC CallT retC RetG TurnG CutG pt ro exP star sep pureP
variable {R C : List HP} {K : Value → List HP → Prop}
variable {kd w st it sb si sg ev wa stl ex : Int} {data : ByteArray}
theorem streamEndsB_ok (hk0 : 0 ≤ kd ∧ kd ≤ 255) (hkd : kd % 2 = 0) (hK : ∀ R, K (.bool true) R) : CallT Try.prog 15 #[.agg #[.int .u8 kd, .int .i64 w, .int .i64 st, .int .i64 it, .int .i64 sb, .int .i64 si, .int .i64 sg, .int .i64 ev, .int .i64 wa, .int .i64 stl, .string data, .int .i64 ex]] C K := by
  have hsz : ((([] : List UInt8) ++ data.data.toList).length : Int) = (data.size : Nat) := by rw [List.nil_append]; exact congrArg _ Array.length_toList
  by_cases hz : 256 < data.size
  · refine callT_intro mixed Try.func15 rfl (by decide) (by decide +kernel) (by exact Nat.le_of_ble_eq_true rfl) ?_
    repeat' (first
      | (show spl _ _ _; rw [hkd])
      | (show evG _ _ _ _ _ _ _; first | refine G_andNot0 ?_ | refine G_andNot1 ?_ | refine G_add64 ?_ | refine G_sub64 ?_ | refine G_mul64 ?_ | refine G_quo ?_ | refine G_rem ?_ | refine G_shl8 ?_ | refine G_orb ?_ | refine G_shr ?_ | refine G_pure0 ?_ | refine G_load ?_ | refine evG_nil ?_ | refine G_br ?_ ?_ | refine G_field ?_ | refine G_pure ?_ | refine G_store ?_ | refine G_loadV ?_ | refine G_loadV0 ?_ | refine G_loadV2 ?_ | (refine G_append ?_; intro _ _) | (refine G_appendN ?_; intro _ _) | refine G_not ?_ | refine G_index ?_ | refine G_indexA ?_ | refine G_indexS ?_ | refine G_conv64 ?_ | refine G_conv8 ?_ | refine G_convu ?_ | refine G_conv ?_ | refine G_build ?_ | refine G_slh ?_ | refine G_slo ?_ | refine G_shi ?_ | refine G_cat ?_ | refine G_min ?_ | refine G_max ?_ | refine G_neg64 ?_ | refine G_eql_agg ?_ | refine G_neq_agg ?_ | refine G_bytesP ?_ | refine G_bytesstr ?_ | refine G_call ?_ | refine G_call0 ?_ | refine G_callv ?_ | refine G_callv0 ?_ | (refine G_box ?_; intro _) | (refine G_alloc ?_; intro _) | (refine G_buildSlice ?_; intro _) | (refine G_strrow ?_; intro _ _) | (refine G_indexV ?_; intro _ _ hA; subst hA) | (refine G_sliceR ?_; intro _) | (refine G_sliceO ?_; intro _) | refine G_skip ?_ | refine G_skip0 ?_)
      | (show spl _ _ _; first | refine spl_no rfl ?_ | refine spl_yes rfl ?_)
      | (show evC _ _ _ _ _; first | refine c_seq ?_ | refine c_region (by exact rfl) ?_ | refine c_cond (by exact rfl) ?_ | refine c_ret ?_ | refine c_skip ?_ | refine c_block ?_ | refine c_exit ?_  | refine c_draw (l := [(8, 1), (0, 1), (1, 1), (2, 1), (3, 1), (9, 0), (10, 1), (4, 2), (5, 2), (6, 2), (7, 2), (11, 0), (12, 0)]) (by decide +kernel) (by decide +kernel) (by exact rfl) ?_ | refine c_draw (by exact rfl) (by decide +kernel) (by exact rfl) ?_ | refine c_drawT (by exact rfl) (by decide +kernel) (by exact rfl) ?_ | refine c_scope ?_ | refine c_label ?_)
      | (show Br _ _ _; first | refine Br.t rfl ?_ | refine Br.f rfl ?_ | refine Br.t (beq_self_eq_true _) ?_ | refine Br.f (not_beq_self _) ?_ | refine Br.t (by assumption) ?_ | refine Br.f (by assumption) ?_ | refine Br.t (nb_f (by assumption)) ?_ | refine Br.f (nb_t (by assumption)) ?_ | (refine Br.mk (fun h => ?_) (fun h => ?_) <;> (try simp only [Bool.and_eq_true, Bool.or_eq_true, Bool.and_eq_false_iff, Bool.or_eq_false_iff, decide_eq_true_eq, decide_eq_false_iff_not, beq_iff_eq, bne_iff_ne, beq_eq_false_iff_ne, bne_eq_false_iff_eq, ne_eq, Bool.not_eq_true', Bool.not_eq_false', not_true_eq_false, not_false_eq_true, Int.not_lt, Int.not_le, gt_iff_lt, ge_iff_le] at h) <;> (try (first | contradiction | (exfalso; omega)))))
      | (show thenC _ _ _ _ _; first | refine t_n ?_ | refine t_r ?_ | refine t_e ?_)
      | (show inBlockC _ _ _ _ _; first | refine b_n ?_ | refine b_r ?_ | refine b_hit rfl ?_ | refine b_miss rfl ?_)
      | (show noGotoC _ _ _ _; first | refine g_n ?_ | refine g_r ?_ | refine g_e ?_)
      | (show CallT _ 64 _ _ _; refine CA (h := conf24R_ok (fun w2 it2 sb2 si2 sg2 ev2 wa2 stl2 b1 b2 b3 b4 b5 => ?_)))
      | (show CallT _ 54 _ _ _; obtain ⟨cap, rfl⟩ : ∃ m : Nat, sb2 = m := ⟨sb2.toNat, by omega⟩; refine CA (h := snewB_ok (by omega) (by omega) (chkS_conf b1 b2) (fun s li t r => ?_)))
      | (show CallT _ 56 _ _ _; refine CA (h := awake24_ok ?_)))
    all_goals (show retC _ _ _ _ _ _; refine RETC ?_; exact ret_done (hK _))
  by_cases he : ex = 4 ∨ ex = 5
  · refine callT_intro mixed Try.func15 rfl (by decide) (by decide +kernel) (by exact Nat.le_of_ble_eq_true rfl) ?_
    repeat' (first
      | (show spl _ _ _; rw [hkd])
      | (show evG _ _ _ _ _ _ _; first | refine G_andNot0 ?_ | refine G_andNot1 ?_ | refine G_add64 ?_ | refine G_sub64 ?_ | refine G_mul64 ?_ | refine G_quo ?_ | refine G_rem ?_ | refine G_shl8 ?_ | refine G_orb ?_ | refine G_shr ?_ | refine G_pure0 ?_ | refine G_load ?_ | refine evG_nil ?_ | refine G_br ?_ ?_ | refine G_field ?_ | refine G_pure ?_ | refine G_store ?_ | refine G_loadV ?_ | refine G_loadV0 ?_ | refine G_loadV2 ?_ | (refine G_append ?_; intro _ _) | (refine G_appendN ?_; intro _ _) | refine G_not ?_ | refine G_index ?_ | refine G_indexA ?_ | refine G_indexS ?_ | refine G_conv64 ?_ | refine G_conv8 ?_ | refine G_convu ?_ | refine G_conv ?_ | refine G_build ?_ | refine G_slh ?_ | refine G_slo ?_ | refine G_shi ?_ | refine G_cat ?_ | refine G_min ?_ | refine G_max ?_ | refine G_neg64 ?_ | refine G_eql_agg ?_ | refine G_neq_agg ?_ | refine G_bytesP ?_ | refine G_bytesstr ?_ | refine G_call ?_ | refine G_call0 ?_ | refine G_callv ?_ | refine G_callv0 ?_ | (refine G_box ?_; intro _) | (refine G_alloc ?_; intro _) | (refine G_buildSlice ?_; intro _) | (refine G_strrow ?_; intro _ _) | (refine G_indexV ?_; intro _ _ hA; subst hA) | (refine G_sliceR ?_; intro _) | (refine G_sliceO ?_; intro _) | refine G_skip ?_ | refine G_skip0 ?_)
      | (show spl _ _ _; first | refine spl_no rfl ?_ | refine spl_yes rfl ?_)
      | (show evC _ _ _ _ _; first | refine c_seq ?_ | refine c_region (by exact rfl) ?_ | refine c_cond (by exact rfl) ?_ | refine c_ret ?_ | refine c_skip ?_ | refine c_block ?_ | refine c_exit ?_  | refine c_draw (l := [(8, 1), (0, 1), (1, 1), (2, 1), (3, 1), (9, 0), (10, 1), (4, 2), (5, 2), (6, 2), (7, 2), (11, 0), (12, 0)]) (by decide +kernel) (by decide +kernel) (by exact rfl) ?_ | refine c_draw (by exact rfl) (by decide +kernel) (by exact rfl) ?_ | refine c_drawT (by exact rfl) (by decide +kernel) (by exact rfl) ?_ | refine c_scope ?_ | refine c_label ?_)
      | (show Br _ _ _; first | refine Br.t rfl ?_ | refine Br.f rfl ?_ | refine Br.t (beq_self_eq_true _) ?_ | refine Br.f (not_beq_self _) ?_ | refine Br.t (by assumption) ?_ | refine Br.f (by assumption) ?_ | refine Br.t (nb_f (by assumption)) ?_ | refine Br.f (nb_t (by assumption)) ?_ | (refine Br.mk (fun h => ?_) (fun h => ?_) <;> (try simp only [Bool.and_eq_true, Bool.or_eq_true, Bool.and_eq_false_iff, Bool.or_eq_false_iff, decide_eq_true_eq, decide_eq_false_iff_not, beq_iff_eq, bne_iff_ne, beq_eq_false_iff_ne, bne_eq_false_iff_eq, ne_eq, Bool.not_eq_true', Bool.not_eq_false', not_true_eq_false, not_false_eq_true, Int.not_lt, Int.not_le, gt_iff_lt, ge_iff_le] at h) <;> (try (first | contradiction | (exfalso; omega)))))
      | (show thenC _ _ _ _ _; first | refine t_n ?_ | refine t_r ?_ | refine t_e ?_)
      | (show inBlockC _ _ _ _ _; first | refine b_n ?_ | refine b_r ?_ | refine b_hit rfl ?_ | refine b_miss rfl ?_)
      | (show noGotoC _ _ _ _; first | refine g_n ?_ | refine g_r ?_ | refine g_e ?_)
      | (show CallT _ 64 _ _ _; refine CA (h := conf24R_ok (fun w2 it2 sb2 si2 sg2 ev2 wa2 stl2 b1 b2 b3 b4 b5 => ?_)))
      | (show CallT _ 54 _ _ _; obtain ⟨cap, rfl⟩ : ∃ m : Nat, sb2 = m := ⟨sb2.toNat, by omega⟩; refine CA (h := snewB_ok (by omega) (by omega) (chkS_conf b1 b2) (fun s li t r => ?_)))
      | (show CallT _ 56 _ _ _; refine CA (h := awake24_ok ?_))
      | (show CallT _ 68 _ _ _; refine CA (h := sofferB_ok (.inl rfl) (by omega) ?_))
      | (show CallT _ 63 _ _ _; refine CA (h := srx_ok ?_))
      | (show CallT _ 40 _ _ _; refine CA (h := rxBask_ok ?_))
      | (show CallT _ 41 _ _ _; refine CA (h := rxBgrant_ok ?_))
      | (show CallT _ 65 _ _ _; by_cases hx : max (w2 + pdue w2 w2 0 - 0) 0 < (data.size : Int) <;> first | refine CA (h := scomeBX_ok (.inl rfl) rfl hx ?_) | refine CA (h := scomeB_ok (.inl rfl) rfl (by omega) (by omega) ?_))
      | (show CallT _ 44 _ _ _; refine CA (h := rxBkept_ok ?_))
      | (show CallT _ 72 _ _ _; refine CA (h := sendB_ok he (.inl rfl) ?_))
      | (show CallT _ 24 _ _ _; refine CA (h := txB_fact (fun hT => ?_)); obtain ⟨q1, q2, q3, q4, q5, q6, q7⟩ := hT; simp only [List.length_nil] at q1; refine txBtold_ok ?_)
      | (show CallT _ 73 _ _ _; refine CA (h := sgoneB_ok (b := true) rfl ?_))
      | (show CallT _ 25 _ _ _; refine CA (h := waiting_ok (by omega) ?_))
      | (show CallT _ 62 _ _ _; refine CA (h := stx_ok ?_))
      | (show CallT _ 68 _ _ _; refine CA (h := sofferX_ok (by omega) ?_))
      | (show CallT _ 69 _ _ _; refine CA (h := stakeX_ok (by omega) ?_))
      | (show CallT _ 70 _ _ _; refine CA (h := sfinishX_ok (by omega) ?_))
      | (show CallT _ 71 _ _ _; refine CA (h := sameF_ok ?_))
      | (show CallT _ 72 _ _ _; refine CA (h := sendX_ok (.inl rfl) rfl ?_)))
    all_goals (show retC _ _ _ _ _ _; refine RETC ?_; exact ret_done (hK _))
  · refine callT_intro mixed Try.func15 rfl (by decide) (by decide +kernel) (by exact Nat.le_of_ble_eq_true rfl) ?_
    repeat' (first
      | (show spl _ _ _; rw [hkd])
      | (show evG _ _ _ _ _ _ _; first | refine G_andNot0 ?_ | refine G_andNot1 ?_ | refine G_add64 ?_ | refine G_sub64 ?_ | refine G_mul64 ?_ | refine G_quo ?_ | refine G_rem ?_ | refine G_shl8 ?_ | refine G_orb ?_ | refine G_shr ?_ | refine G_pure0 ?_ | refine G_load ?_ | refine evG_nil ?_ | refine G_br ?_ ?_ | refine G_field ?_ | refine G_pure ?_ | refine G_store ?_ | refine G_loadV ?_ | refine G_loadV0 ?_ | refine G_loadV2 ?_ | (refine G_append ?_; intro _ _) | (refine G_appendN ?_; intro _ _) | refine G_not ?_ | refine G_index ?_ | refine G_indexA ?_ | refine G_indexS ?_ | refine G_conv64 ?_ | refine G_conv8 ?_ | refine G_convu ?_ | refine G_conv ?_ | refine G_build ?_ | refine G_slh ?_ | refine G_slo ?_ | refine G_shi ?_ | refine G_cat ?_ | refine G_min ?_ | refine G_max ?_ | refine G_neg64 ?_ | refine G_eql_agg ?_ | refine G_neq_agg ?_ | refine G_bytesP ?_ | refine G_bytesstr ?_ | refine G_call ?_ | refine G_call0 ?_ | refine G_callv ?_ | refine G_callv0 ?_ | (refine G_box ?_; intro _) | (refine G_alloc ?_; intro _) | (refine G_buildSlice ?_; intro _) | (refine G_strrow ?_; intro _ _) | (refine G_indexV ?_; intro _ _ hA; subst hA) | (refine G_sliceR ?_; intro _) | (refine G_sliceO ?_; intro _) | refine G_skip ?_ | refine G_skip0 ?_)
      | (show spl _ _ _; first | refine spl_no rfl ?_ | refine spl_yes rfl ?_)
      | (show evC _ _ _ _ _; first | refine c_seq ?_ | refine c_region (by exact rfl) ?_ | refine c_cond (by exact rfl) ?_ | refine c_ret ?_ | refine c_skip ?_ | refine c_block ?_ | refine c_exit ?_  | refine c_draw (l := [(8, 1), (0, 1), (1, 1), (2, 1), (3, 1), (9, 0), (10, 1), (4, 2), (5, 2), (6, 2), (7, 2), (11, 0), (12, 0)]) (by decide +kernel) (by decide +kernel) (by exact rfl) ?_ | refine c_draw (by exact rfl) (by decide +kernel) (by exact rfl) ?_ | refine c_drawT (by exact rfl) (by decide +kernel) (by exact rfl) ?_ | refine c_scope ?_ | refine c_label ?_)
      | (show Br _ _ _; first | refine Br.t rfl ?_ | refine Br.f rfl ?_ | refine Br.t (beq_self_eq_true _) ?_ | refine Br.f (not_beq_self _) ?_ | refine Br.t (by assumption) ?_ | refine Br.f (by assumption) ?_ | refine Br.t (nb_f (by assumption)) ?_ | refine Br.f (nb_t (by assumption)) ?_ | (refine Br.mk (fun h => ?_) (fun h => ?_) <;> (try simp only [Bool.and_eq_true, Bool.or_eq_true, Bool.and_eq_false_iff, Bool.or_eq_false_iff, decide_eq_true_eq, decide_eq_false_iff_not, beq_iff_eq, bne_iff_ne, beq_eq_false_iff_ne, bne_eq_false_iff_eq, ne_eq, Bool.not_eq_true', Bool.not_eq_false', not_true_eq_false, not_false_eq_true, Int.not_lt, Int.not_le, gt_iff_lt, ge_iff_le] at h) <;> (try (first | contradiction | (exfalso; omega)))))
      | (show thenC _ _ _ _ _; first | refine t_n ?_ | refine t_r ?_ | refine t_e ?_)
      | (show inBlockC _ _ _ _ _; first | refine b_n ?_ | refine b_r ?_ | refine b_hit rfl ?_ | refine b_miss rfl ?_)
      | (show noGotoC _ _ _ _; first | refine g_n ?_ | refine g_r ?_ | refine g_e ?_)
      | (show CallT _ 64 _ _ _; refine CA (h := conf24R_ok (fun w2 it2 sb2 si2 sg2 ev2 wa2 stl2 b1 b2 b3 b4 b5 => ?_)))
      | (show CallT _ 54 _ _ _; obtain ⟨cap, rfl⟩ : ∃ m : Nat, sb2 = m := ⟨sb2.toNat, by omega⟩; refine CA (h := snewB_ok (by omega) (by omega) (chkS_conf b1 b2) (fun s li t r => ?_)))
      | (show CallT _ 56 _ _ _; refine CA (h := awake24_ok ?_))
      | (show CallT _ 68 _ _ _; refine CA (h := sofferB_ok (.inl rfl) (by omega) ?_))
      | (show CallT _ 63 _ _ _; refine CA (h := srx_ok ?_))
      | (show CallT _ 40 _ _ _; refine CA (h := rxBask_ok ?_))
      | (show CallT _ 41 _ _ _; refine CA (h := rxBgrant_ok ?_))
      | (show CallT _ 65 _ _ _; by_cases hx : max (w2 + pdue w2 w2 0 - 0) 0 < (data.size : Int) <;> first | refine CA (h := scomeBX_ok (.inl rfl) rfl hx ?_) | refine CA (h := scomeB_ok (.inl rfl) rfl (by omega) (by omega) ?_))
      | (show CallT _ 44 _ _ _; refine CA (h := rxBkept_ok ?_))
      | (show CallT _ 72 _ _ _; refine CA (h := sendE_ok (by omega) ?_))
      | (show CallT _ 55 _ _ _; refine CA (h := lstate_ok ?_)))
    all_goals (show retC _ _ _ _ _ _; refine RETC ?_; exact ret_done (hK _))
theorem streamEndsI_ok (hk0 : 0 ≤ kd ∧ kd ≤ 255) (hkd : kd % 2 = 1) (hK : ∀ R, K (.bool true) R) : CallT Try.prog 15 #[.agg #[.int .u8 kd, .int .i64 w, .int .i64 st, .int .i64 it, .int .i64 sb, .int .i64 si, .int .i64 sg, .int .i64 ev, .int .i64 wa, .int .i64 stl, .string data, .int .i64 ex]] C K := by
  have hsz : ((([] : List UInt8) ++ data.data.toList).length : Int) = (data.size : Nat) := by rw [List.nil_append]; exact congrArg _ Array.length_toList
  by_cases hz : 256 < data.size
  · refine callT_intro mixed Try.func15 rfl (by decide) (by decide +kernel) (by exact Nat.le_of_ble_eq_true rfl) ?_
    repeat' (first
      | (show spl _ _ _; rw [hkd])
      | (show evG _ _ _ _ _ _ _; first | refine G_andNot0 ?_ | refine G_andNot1 ?_ | refine G_add64 ?_ | refine G_sub64 ?_ | refine G_mul64 ?_ | refine G_quo ?_ | refine G_rem ?_ | refine G_shl8 ?_ | refine G_orb ?_ | refine G_shr ?_ | refine G_pure0 ?_ | refine G_load ?_ | refine evG_nil ?_ | refine G_br ?_ ?_ | refine G_field ?_ | refine G_pure ?_ | refine G_store ?_ | refine G_loadV ?_ | refine G_loadV0 ?_ | refine G_loadV2 ?_ | (refine G_append ?_; intro _ _) | (refine G_appendN ?_; intro _ _) | refine G_not ?_ | refine G_index ?_ | refine G_indexA ?_ | refine G_indexS ?_ | refine G_conv64 ?_ | refine G_conv8 ?_ | refine G_convu ?_ | refine G_conv ?_ | refine G_build ?_ | refine G_slh ?_ | refine G_slo ?_ | refine G_shi ?_ | refine G_cat ?_ | refine G_min ?_ | refine G_max ?_ | refine G_neg64 ?_ | refine G_eql_agg ?_ | refine G_neq_agg ?_ | refine G_bytesP ?_ | refine G_bytesstr ?_ | refine G_call ?_ | refine G_call0 ?_ | refine G_callv ?_ | refine G_callv0 ?_ | (refine G_box ?_; intro _) | (refine G_alloc ?_; intro _) | (refine G_buildSlice ?_; intro _) | (refine G_strrow ?_; intro _ _) | (refine G_indexV ?_; intro _ _ hA; subst hA) | (refine G_sliceR ?_; intro _) | (refine G_sliceO ?_; intro _) | refine G_skip ?_ | refine G_skip0 ?_)
      | (show spl _ _ _; first | refine spl_no rfl ?_ | refine spl_yes rfl ?_)
      | (show evC _ _ _ _ _; first | refine c_seq ?_ | refine c_region (by exact rfl) ?_ | refine c_cond (by exact rfl) ?_ | refine c_ret ?_ | refine c_skip ?_ | refine c_block ?_ | refine c_exit ?_  | refine c_draw (l := [(8, 1), (0, 1), (1, 1), (2, 1), (3, 1), (9, 0), (10, 1), (4, 2), (5, 2), (6, 2), (7, 2), (11, 0), (12, 0)]) (by decide +kernel) (by decide +kernel) (by exact rfl) ?_ | refine c_draw (by exact rfl) (by decide +kernel) (by exact rfl) ?_ | refine c_drawT (by exact rfl) (by decide +kernel) (by exact rfl) ?_ | refine c_scope ?_ | refine c_label ?_)
      | (show Br _ _ _; first | refine Br.t rfl ?_ | refine Br.f rfl ?_ | refine Br.t (beq_self_eq_true _) ?_ | refine Br.f (not_beq_self _) ?_ | refine Br.t (by assumption) ?_ | refine Br.f (by assumption) ?_ | refine Br.t (nb_f (by assumption)) ?_ | refine Br.f (nb_t (by assumption)) ?_ | (refine Br.mk (fun h => ?_) (fun h => ?_) <;> (try simp only [Bool.and_eq_true, Bool.or_eq_true, Bool.and_eq_false_iff, Bool.or_eq_false_iff, decide_eq_true_eq, decide_eq_false_iff_not, beq_iff_eq, bne_iff_ne, beq_eq_false_iff_ne, bne_eq_false_iff_eq, ne_eq, Bool.not_eq_true', Bool.not_eq_false', not_true_eq_false, not_false_eq_true, Int.not_lt, Int.not_le, gt_iff_lt, ge_iff_le] at h) <;> (try (first | contradiction | (exfalso; omega)))))
      | (show thenC _ _ _ _ _; first | refine t_n ?_ | refine t_r ?_ | refine t_e ?_)
      | (show inBlockC _ _ _ _ _; first | refine b_n ?_ | refine b_r ?_ | refine b_hit rfl ?_ | refine b_miss rfl ?_)
      | (show noGotoC _ _ _ _; first | refine g_n ?_ | refine g_r ?_ | refine g_e ?_)
      | (show CallT _ 64 _ _ _; refine CA (h := conf24R_ok (fun w2 it2 sb2 si2 sg2 ev2 wa2 stl2 b1 b2 b3 b4 b5 => ?_)))
      | (show CallT _ 54 _ _ _; obtain ⟨cap, rfl⟩ : ∃ m : Nat, si2 = m := ⟨si2.toNat, by omega⟩; refine CA (h := snewI_ok (by omega) (by omega) (by omega) (chkS_conf b1 b2) (fun s li t r => ?_)))
      | (show CallT _ 56 _ _ _; refine CA (h := awake24_ok ?_)))
    all_goals (show retC _ _ _ _ _ _; refine RETC ?_; exact ret_done (hK _))
  by_cases he : ex = 4 ∨ ex = 5
  · refine callT_intro mixed Try.func15 rfl (by decide) (by decide +kernel) (by exact Nat.le_of_ble_eq_true rfl) ?_
    repeat' (first
      | (show spl _ _ _; rw [hkd])
      | (show evG _ _ _ _ _ _ _; first | refine G_andNot0 ?_ | refine G_andNot1 ?_ | refine G_add64 ?_ | refine G_sub64 ?_ | refine G_mul64 ?_ | refine G_quo ?_ | refine G_rem ?_ | refine G_shl8 ?_ | refine G_orb ?_ | refine G_shr ?_ | refine G_pure0 ?_ | refine G_load ?_ | refine evG_nil ?_ | refine G_br ?_ ?_ | refine G_field ?_ | refine G_pure ?_ | refine G_store ?_ | refine G_loadV ?_ | refine G_loadV0 ?_ | refine G_loadV2 ?_ | (refine G_append ?_; intro _ _) | (refine G_appendN ?_; intro _ _) | refine G_not ?_ | refine G_index ?_ | refine G_indexA ?_ | refine G_indexS ?_ | refine G_conv64 ?_ | refine G_conv8 ?_ | refine G_convu ?_ | refine G_conv ?_ | refine G_build ?_ | refine G_slh ?_ | refine G_slo ?_ | refine G_shi ?_ | refine G_cat ?_ | refine G_min ?_ | refine G_max ?_ | refine G_neg64 ?_ | refine G_eql_agg ?_ | refine G_neq_agg ?_ | refine G_bytesP ?_ | refine G_bytesstr ?_ | refine G_call ?_ | refine G_call0 ?_ | refine G_callv ?_ | refine G_callv0 ?_ | (refine G_box ?_; intro _) | (refine G_alloc ?_; intro _) | (refine G_buildSlice ?_; intro _) | (refine G_strrow ?_; intro _ _) | (refine G_indexV ?_; intro _ _ hA; subst hA) | (refine G_sliceR ?_; intro _) | (refine G_sliceO ?_; intro _) | refine G_skip ?_ | refine G_skip0 ?_)
      | (show spl _ _ _; first | refine spl_no rfl ?_ | refine spl_yes rfl ?_)
      | (show evC _ _ _ _ _; first | refine c_seq ?_ | refine c_region (by exact rfl) ?_ | refine c_cond (by exact rfl) ?_ | refine c_ret ?_ | refine c_skip ?_ | refine c_block ?_ | refine c_exit ?_  | refine c_draw (l := [(8, 1), (0, 1), (1, 1), (2, 1), (3, 1), (9, 0), (10, 1), (4, 2), (5, 2), (6, 2), (7, 2), (11, 0), (12, 0)]) (by decide +kernel) (by decide +kernel) (by exact rfl) ?_ | refine c_draw (by exact rfl) (by decide +kernel) (by exact rfl) ?_ | refine c_drawT (by exact rfl) (by decide +kernel) (by exact rfl) ?_ | refine c_scope ?_ | refine c_label ?_)
      | (show Br _ _ _; first | refine Br.t rfl ?_ | refine Br.f rfl ?_ | refine Br.t (beq_self_eq_true _) ?_ | refine Br.f (not_beq_self _) ?_ | refine Br.t (by assumption) ?_ | refine Br.f (by assumption) ?_ | refine Br.t (nb_f (by assumption)) ?_ | refine Br.f (nb_t (by assumption)) ?_ | (refine Br.mk (fun h => ?_) (fun h => ?_) <;> (try simp only [Bool.and_eq_true, Bool.or_eq_true, Bool.and_eq_false_iff, Bool.or_eq_false_iff, decide_eq_true_eq, decide_eq_false_iff_not, beq_iff_eq, bne_iff_ne, beq_eq_false_iff_ne, bne_eq_false_iff_eq, ne_eq, Bool.not_eq_true', Bool.not_eq_false', not_true_eq_false, not_false_eq_true, Int.not_lt, Int.not_le, gt_iff_lt, ge_iff_le] at h) <;> (try (first | contradiction | (exfalso; omega)))))
      | (show thenC _ _ _ _ _; first | refine t_n ?_ | refine t_r ?_ | refine t_e ?_)
      | (show inBlockC _ _ _ _ _; first | refine b_n ?_ | refine b_r ?_ | refine b_hit rfl ?_ | refine b_miss rfl ?_)
      | (show noGotoC _ _ _ _; first | refine g_n ?_ | refine g_r ?_ | refine g_e ?_)
      | (show CallT _ 64 _ _ _; refine CA (h := conf24R_ok (fun w2 it2 sb2 si2 sg2 ev2 wa2 stl2 b1 b2 b3 b4 b5 => ?_)))
      | (show CallT _ 54 _ _ _; obtain ⟨cap, rfl⟩ : ∃ m : Nat, si2 = m := ⟨si2.toNat, by omega⟩; refine CA (h := snewI_ok (by omega) (by omega) (by omega) (chkS_conf b1 b2) (fun s li t r => ?_)))
      | (show CallT _ 56 _ _ _; refine CA (h := awake24_ok ?_))
      | (show CallT _ 68 _ _ _; refine CA (h := sofferI_ok (.inl rfl) (by omega) (fun v9 e9 l9 ac9 dr9 hq1 hq2 hq3 => ?_)))
      | (show CallT _ 63 _ _ _; refine CA (h := srx_ok ?_))
      | (show CallT _ 40 _ _ _; refine CA (h := rxIask_ok (by omega) ?_))
      | (show CallT _ 41 _ _ _; refine CA (h := rxIgrant_ok ?_))
      | (show CallT _ 65 _ _ _; by_cases hx : 0 + idue it2 0 (0 + min 3 (2147483647 - 0)) [] < 1 <;> first | refine CA (h := scomeIX_ok (.inl rfl) rfl (.inr rfl) hx ?_) | refine CA (h := scomeI_ok (.inl rfl) rfl (.inr rfl) (by omega) (by omega) ?_))
      | (show CallT _ 44 _ _ _; refine CA (h := rxIkept_ok ?_))
      | (show CallT _ 72 _ _ _; refine CA (h := sendI_ok he (.inl rfl) ?_))
      | (show CallT _ 24 _ _ _; refine CA (h := txI_fact (fun hT => ?_)); obtain ⟨q1, q2, q3, q4, q5, q6, q7, q8, q9⟩ := hT; simp only [List.length_nil] at q1; refine txItold_ok ?_)
      | (show CallT _ 73 _ _ _; refine CA (h := sgoneI_ok (b := true) rfl ?_))
      | (show CallT _ 25 _ _ _; refine CA (h := waiting_ok (by omega) ?_))
      | (show CallT _ 62 _ _ _; refine CA (h := stx_ok ?_))
      | (show CallT _ 68 _ _ _; refine CA (h := sofferX_ok (by omega) ?_))
      | (show CallT _ 69 _ _ _; refine CA (h := stakeX_ok (by omega) ?_))
      | (show CallT _ 70 _ _ _; refine CA (h := sfinishX_ok (by omega) ?_))
      | (show CallT _ 71 _ _ _; refine CA (h := sameF_ok ?_))
      | (show CallT _ 72 _ _ _; refine CA (h := sendX_ok (.inl rfl) rfl ?_)))
    all_goals (show retC _ _ _ _ _ _; refine RETC ?_; exact ret_done (hK _))
  · refine callT_intro mixed Try.func15 rfl (by decide) (by decide +kernel) (by exact Nat.le_of_ble_eq_true rfl) ?_
    repeat' (first
      | (show spl _ _ _; rw [hkd])
      | (show evG _ _ _ _ _ _ _; first | refine G_andNot0 ?_ | refine G_andNot1 ?_ | refine G_add64 ?_ | refine G_sub64 ?_ | refine G_mul64 ?_ | refine G_quo ?_ | refine G_rem ?_ | refine G_shl8 ?_ | refine G_orb ?_ | refine G_shr ?_ | refine G_pure0 ?_ | refine G_load ?_ | refine evG_nil ?_ | refine G_br ?_ ?_ | refine G_field ?_ | refine G_pure ?_ | refine G_store ?_ | refine G_loadV ?_ | refine G_loadV0 ?_ | refine G_loadV2 ?_ | (refine G_append ?_; intro _ _) | (refine G_appendN ?_; intro _ _) | refine G_not ?_ | refine G_index ?_ | refine G_indexA ?_ | refine G_indexS ?_ | refine G_conv64 ?_ | refine G_conv8 ?_ | refine G_convu ?_ | refine G_conv ?_ | refine G_build ?_ | refine G_slh ?_ | refine G_slo ?_ | refine G_shi ?_ | refine G_cat ?_ | refine G_min ?_ | refine G_max ?_ | refine G_neg64 ?_ | refine G_eql_agg ?_ | refine G_neq_agg ?_ | refine G_bytesP ?_ | refine G_bytesstr ?_ | refine G_call ?_ | refine G_call0 ?_ | refine G_callv ?_ | refine G_callv0 ?_ | (refine G_box ?_; intro _) | (refine G_alloc ?_; intro _) | (refine G_buildSlice ?_; intro _) | (refine G_strrow ?_; intro _ _) | (refine G_indexV ?_; intro _ _ hA; subst hA) | (refine G_sliceR ?_; intro _) | (refine G_sliceO ?_; intro _) | refine G_skip ?_ | refine G_skip0 ?_)
      | (show spl _ _ _; first | refine spl_no rfl ?_ | refine spl_yes rfl ?_)
      | (show evC _ _ _ _ _; first | refine c_seq ?_ | refine c_region (by exact rfl) ?_ | refine c_cond (by exact rfl) ?_ | refine c_ret ?_ | refine c_skip ?_ | refine c_block ?_ | refine c_exit ?_  | refine c_draw (l := [(8, 1), (0, 1), (1, 1), (2, 1), (3, 1), (9, 0), (10, 1), (4, 2), (5, 2), (6, 2), (7, 2), (11, 0), (12, 0)]) (by decide +kernel) (by decide +kernel) (by exact rfl) ?_ | refine c_draw (by exact rfl) (by decide +kernel) (by exact rfl) ?_ | refine c_drawT (by exact rfl) (by decide +kernel) (by exact rfl) ?_ | refine c_scope ?_ | refine c_label ?_)
      | (show Br _ _ _; first | refine Br.t rfl ?_ | refine Br.f rfl ?_ | refine Br.t (beq_self_eq_true _) ?_ | refine Br.f (not_beq_self _) ?_ | refine Br.t (by assumption) ?_ | refine Br.f (by assumption) ?_ | refine Br.t (nb_f (by assumption)) ?_ | refine Br.f (nb_t (by assumption)) ?_ | (refine Br.mk (fun h => ?_) (fun h => ?_) <;> (try simp only [Bool.and_eq_true, Bool.or_eq_true, Bool.and_eq_false_iff, Bool.or_eq_false_iff, decide_eq_true_eq, decide_eq_false_iff_not, beq_iff_eq, bne_iff_ne, beq_eq_false_iff_ne, bne_eq_false_iff_eq, ne_eq, Bool.not_eq_true', Bool.not_eq_false', not_true_eq_false, not_false_eq_true, Int.not_lt, Int.not_le, gt_iff_lt, ge_iff_le] at h) <;> (try (first | contradiction | (exfalso; omega)))))
      | (show thenC _ _ _ _ _; first | refine t_n ?_ | refine t_r ?_ | refine t_e ?_)
      | (show inBlockC _ _ _ _ _; first | refine b_n ?_ | refine b_r ?_ | refine b_hit rfl ?_ | refine b_miss rfl ?_)
      | (show noGotoC _ _ _ _; first | refine g_n ?_ | refine g_r ?_ | refine g_e ?_)
      | (show CallT _ 64 _ _ _; refine CA (h := conf24R_ok (fun w2 it2 sb2 si2 sg2 ev2 wa2 stl2 b1 b2 b3 b4 b5 => ?_)))
      | (show CallT _ 54 _ _ _; obtain ⟨cap, rfl⟩ : ∃ m : Nat, si2 = m := ⟨si2.toNat, by omega⟩; refine CA (h := snewI_ok (by omega) (by omega) (by omega) (chkS_conf b1 b2) (fun s li t r => ?_)))
      | (show CallT _ 56 _ _ _; refine CA (h := awake24_ok ?_))
      | (show CallT _ 68 _ _ _; refine CA (h := sofferI_ok (.inl rfl) (by omega) (fun v9 e9 l9 ac9 dr9 hq1 hq2 hq3 => ?_)))
      | (show CallT _ 63 _ _ _; refine CA (h := srx_ok ?_))
      | (show CallT _ 40 _ _ _; refine CA (h := rxIask_ok (by omega) ?_))
      | (show CallT _ 41 _ _ _; refine CA (h := rxIgrant_ok ?_))
      | (show CallT _ 65 _ _ _; by_cases hx : 0 + idue it2 0 (0 + min 3 (2147483647 - 0)) [] < 1 <;> first | refine CA (h := scomeIX_ok (.inl rfl) rfl (.inr rfl) hx ?_) | refine CA (h := scomeI_ok (.inl rfl) rfl (.inr rfl) (by omega) (by omega) ?_))
      | (show CallT _ 44 _ _ _; refine CA (h := rxIkept_ok ?_))
      | (show CallT _ 72 _ _ _; refine CA (h := sendE_ok (by omega) ?_))
      | (show CallT _ 55 _ _ _; refine CA (h := lstate_ok ?_)))
    all_goals (show retC _ _ _ _ _ _; refine RETC ?_; exact ret_done (hK _))
theorem streamEnds_ok (hk0 : 0 ≤ kd ∧ kd ≤ 255) (hK : ∀ R, K (.bool true) R) : CallT Try.prog 15 #[.agg #[.int .u8 kd, .int .i64 w, .int .i64 st, .int .i64 it, .int .i64 sb, .int .i64 si, .int .i64 sg, .int .i64 ev, .int .i64 wa, .int .i64 stl, .string data, .int .i64 ex]] C K := by
  by_cases k0 : kd % 2 = 0
  · exact streamEndsB_ok hk0 k0 hK
  · exact streamEndsI_ok hk0 (by omega) hK
theorem good_ends {W : World} {n : Nat} {cs : List Value} (hg : Go.Sl.Good Try.prog W n 115 cs) : ∃ (kd w st it sb si sg ev wa stl : Int) (data : ByteArray) (ex : Int), (0 ≤ kd ∧ kd ≤ 255) ∧ cs = [.int .u8 kd, .int .i64 w, .int .i64 st, .int .i64 it, .int .i64 sb, .int .i64 si, .int .i64 sg, .int .i64 ev, .int .i64 wa, .int .i64 stl, .string data, .int .i64 ex] := by
  have hz : Try.prog.cellsOf 115 = 12 := by kernel_rfl
  have hz2 : Try.prog.cellsOf 76 = 9 := by kernel_rfl
  obtain ⟨m2, k3, k4⟩ := good_struct Try.underlying115 hg
  obtain ⟨kd, r0, hw⟩ := good_int Try.underlying5 (k4 0 _ rfl)
  obtain ⟨data, r1, _⟩ := good_string Try.underlying9 (k4 2 _ rfl)
  obtain ⟨ex, r2, _⟩ := good_int Try.underlying3 (k4 3 _ rfl)
  have hc := k4 1 _ rfl
  obtain ⟨_, w, st, it, sb, si, stg, ev, wa, stl, q0, q1, q2, q3, q4, q5, q6, q7, q8⟩ := good_conf hc
  have go : ∀ (j : Nat) (v : Value), j + 1 ≤ 9 → List.take 1 (List.drop j (List.take (Try.prog.cellsOf 76) (List.drop 1 cs))) = [v] → (cs.drop (1 + j)).take 1 = [v] := fun j v hj h => by
    rw [hz2, part_in hj] at h; exact h
  exact ⟨kd, w, st, it, sb, si, stg, ev, wa, stl, data, ex, wf8 hw, cells12 (k3.trans hz) r0 (go 0 _ (by omega) q0) (go 1 _ (by omega) q1) (go 2 _ (by omega) q2) (go 3 _ (by omega) q3) (go 4 _ (by omega) q4) (go 5 _ (by omega) q5) (go 6 _ (by omega) q6) (go 7 _ (by omega) q7) (go 8 _ (by omega) q8) r1 r2⟩
end Go.Proofs.Ytbmkghbjooobeaa

