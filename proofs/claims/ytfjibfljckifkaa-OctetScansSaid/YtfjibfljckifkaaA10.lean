/- The law OctetBack, its walk: lemmas; each with the conditions that it states. -/
import Derived.Test.YtfjibfljckifkaaA9
namespace Go.Proofs.Ytfjibfljckifkaa
open Go Go.Proofs Go.Sl
set_option maxRecDepth 100000
set_option maxHeartbeats 4000000
set_option linter.unusedSimpArgs false
set_option linter.unusedVariables false
attribute [local irreducible] evG evC spl thenC inBlockC noGotoC CallT retC RetG TurnG CutG pt ro exP star sep pureP
variable {R C : List HP} {K : Value → List HP → Prop}
theorem back_facts {ps : List Pc} {behind : ByteArray} (h : layE ps = 0) : (layS ps ++ behind).data.toList = allB ps ++ behind.data.toList := by
  obtain ⟨_, _, _, h4⟩ := lay_size h
  simp [h4]
theorem octetBack_ok {A : Option Addr} {n c : Nat} {ps : List Pc} {behind : ByteArray} (hn : ps.length = n) (hnc : n ≤ c) (hn2 : n < 1000000000000000) (hb : behind.size < 1000000000000000) : CallT Try.prog 7 #[.slice A n c, .string behind] (rrow A pcC ps :: R) (fun v _ => v = .bool true) := by
  have l1 := layS_le ps
  have l2 := layS_le ((ps.drop (Int.toNat 0)).take (Int.toNat 40 - Int.toNat 0))
  have k1 : takeOk behind.size behind false = true := by unfold takeOk; simp
  have k2 : (takeS behind.size behind false).toList = behind.toList := by
    unfold takeS; rw [k1, toList_data, toList_data]; simp
  refine callT_intro mixed Try.func7 rfl (by decide) (by decide +kernel) (by exact Nat.le_of_ble_eq_true rfl) ?_
  by_cases h40 : 40 < n
  · have hl : ((ps.drop (Int.toNat 0)).take (Int.toNat 40 - Int.toNat 0)).length = Int.toNat 40 - Int.toNat 0 := by simp; omega
    repeat' (first
      | (show evG _ _ _ _ _ _ _; first | refine G_add64 ?_ | refine G_sub64 ?_ | refine G_mul64 ?_ | refine G_quo ?_ | refine G_rem ?_ | refine G_shl8 ?_ | refine G_orb ?_ | refine G_shr ?_ | refine G_pure0 ?_ | refine G_load ?_ | refine evG_nil ?_ | refine G_field ?_ | refine G_pure ?_ | refine G_store ?_ | refine G_loadV ?_ | refine G_loadV0 ?_ | refine G_loadV2 ?_ | (refine G_append ?_; intro _ _) | (refine G_appendN ?_; intro _ _) | refine G_not ?_ | refine G_index ?_ | refine G_indexA ?_ | refine G_indexS ?_ | refine G_conv64 ?_ | refine G_conv8 ?_ | refine G_convu ?_ | refine G_conv ?_ | refine G_build ?_ | refine G_slh ?_ | refine G_slo ?_ | refine G_shi ?_ | refine G_cat ?_ | refine G_min ?_ | refine G_max ?_ | refine G_neg64 ?_ | refine G_eql_agg ?_ | refine G_neq_agg ?_ | refine G_bytesP ?_ | refine G_bytesstr ?_ | refine G_call ?_ | refine G_call0 ?_ | refine G_callv ?_ | refine G_callv0 ?_ | (refine G_box ?_; intro _) | (refine G_alloc ?_; intro _) | (refine G_buildSlice ?_; intro _) | (refine G_strrow ?_; intro _ _) | (refine G_indexV ?_; intro _ _ hA; subst hA) | (refine G_sliceR ?_; intro _) | (refine G_sliceO ?_; intro _) | refine G_skip ?_ | refine G_skip0 ?_)
      | (show spl _ _ _; first | refine spl_no rfl ?_ | refine spl_yes rfl ?_)
      | (show evC _ _ _ _ _; first | refine c_seq ?_ | refine c_region (by exact rfl) ?_ | refine c_cond (by exact rfl) ?_ | refine c_ret ?_ | refine c_skip ?_ | refine c_block ?_ | refine c_exit ?_ | refine c_draw (by exact rfl) (by decide +kernel) (by exact rfl) ?_ | refine c_scope ?_ | refine c_label ?_)
      | (show Br _ _ _; first | refine Br.t rfl ?_ | refine Br.f rfl ?_ | refine Br.t (beq_self_eq_true _) ?_ | refine Br.f (not_beq_self _) ?_ | refine Br.t (by assumption) ?_ | refine Br.f (by assumption) ?_ | (refine Br.mk (fun h => ?_) (fun h => ?_) <;> (try simp only [decide_eq_true_eq, decide_eq_false_iff_not, beq_iff_eq, bne_iff_ne, beq_eq_false_iff_ne, bne_eq_false_iff_eq, ne_eq, Bool.not_eq_true', Bool.not_eq_false', not_true_eq_false, not_false_eq_true, Int.not_lt, Int.not_le, gt_iff_lt, ge_iff_le] at h) <;> (try (first | contradiction | (exfalso; omega)))))
      | (show thenC _ _ _ _ _; first | refine t_n ?_ | refine t_r ?_ | refine t_e ?_)
      | (show inBlockC _ _ _ _ _; first | refine b_n ?_ | refine b_r ?_ | refine b_hit rfl ?_ | refine b_miss rfl ?_)
      | (show noGotoC _ _ _ _; first | refine g_n ?_ | refine g_r ?_ | refine g_e ?_)
      | (show CallT _ 31 _ _ _; refine CA (h := lay_ok (by ((repeat (first | exact view_row | exact view_rrow | exact view_pt | assumption | apply view_there)) <;> exact view_row)) (by assumption) (by decide) ?_))
      | (show CallT _ 29 _ _ _; refine CA (h := awake1_ok ?_))
      | (show CallT _ 22 _ _ _; refine CA (h := over_ok _ (fun p => ?_)))
      | (show CallT _ 23 _ _ _; refine CA (h := restY_ok (by assumption) ?_))
      | (show CallT _ 27 _ _ _; refine CA (h := bad_ok _ _ _ ?_))
      | (show CallT _ 32 _ _ _; refine CA (h := size_ok (by ((repeat (first | exact view_row | exact view_rrow | exact view_pt | assumption | apply view_there)) <;> exact view_row)) (by first | assumption | exact rfl) (by omega) ?_))
      | refine back_loop (C0 := _) (ps := _) (u0 := _) (by ((repeat (first | exact view_row | exact view_rrow | exact view_pt | assumption | apply view_there)) <;> exact view_row)) (by assumption) (by omega) (lay_size (by assumption)).1 (back_facts (by assumption)) ⟨rfl, rfl, rfl, rfl, trivial⟩ (Ent.refl _) _ rfl (fun a => ?_))
    all_goals first
      | (refine RETC ?_; exact ret_done (congrArg Value.bool (by rw [layS_bad (by assumption)]; exact beq_self_eq_true _)))
      | (refine RETC ?_; exact ret_done (congrArg Value.bool (by rw [(lay_size (by assumption)).2.1]; exact beq_self_eq_true _)))
  · have hl := hn
    repeat' (first
      | (show evG _ _ _ _ _ _ _; first | refine G_add64 ?_ | refine G_sub64 ?_ | refine G_mul64 ?_ | refine G_quo ?_ | refine G_rem ?_ | refine G_shl8 ?_ | refine G_orb ?_ | refine G_shr ?_ | refine G_pure0 ?_ | refine G_load ?_ | refine evG_nil ?_ | refine G_field ?_ | refine G_pure ?_ | refine G_store ?_ | refine G_loadV ?_ | refine G_loadV0 ?_ | refine G_loadV2 ?_ | (refine G_append ?_; intro _ _) | (refine G_appendN ?_; intro _ _) | refine G_not ?_ | refine G_index ?_ | refine G_indexA ?_ | refine G_indexS ?_ | refine G_conv64 ?_ | refine G_conv8 ?_ | refine G_convu ?_ | refine G_conv ?_ | refine G_build ?_ | refine G_slh ?_ | refine G_slo ?_ | refine G_shi ?_ | refine G_cat ?_ | refine G_min ?_ | refine G_max ?_ | refine G_neg64 ?_ | refine G_eql_agg ?_ | refine G_neq_agg ?_ | refine G_bytesP ?_ | refine G_bytesstr ?_ | refine G_call ?_ | refine G_call0 ?_ | refine G_callv ?_ | refine G_callv0 ?_ | (refine G_box ?_; intro _) | (refine G_alloc ?_; intro _) | (refine G_buildSlice ?_; intro _) | (refine G_strrow ?_; intro _ _) | (refine G_indexV ?_; intro _ _ hA; subst hA) | (refine G_sliceR ?_; intro _) | (refine G_sliceO ?_; intro _) | refine G_skip ?_ | refine G_skip0 ?_)
      | (show spl _ _ _; first | refine spl_no rfl ?_ | refine spl_yes rfl ?_)
      | (show evC _ _ _ _ _; first | refine c_seq ?_ | refine c_region (by exact rfl) ?_ | refine c_cond (by exact rfl) ?_ | refine c_ret ?_ | refine c_skip ?_ | refine c_block ?_ | refine c_exit ?_ | refine c_draw (by exact rfl) (by decide +kernel) (by exact rfl) ?_ | refine c_scope ?_ | refine c_label ?_)
      | (show Br _ _ _; first | refine Br.t rfl ?_ | refine Br.f rfl ?_ | refine Br.t (beq_self_eq_true _) ?_ | refine Br.f (not_beq_self _) ?_ | refine Br.t (by assumption) ?_ | refine Br.f (by assumption) ?_ | (refine Br.mk (fun h => ?_) (fun h => ?_) <;> (try simp only [decide_eq_true_eq, decide_eq_false_iff_not, beq_iff_eq, bne_iff_ne, beq_eq_false_iff_ne, bne_eq_false_iff_eq, ne_eq, Bool.not_eq_true', Bool.not_eq_false', not_true_eq_false, not_false_eq_true, Int.not_lt, Int.not_le, gt_iff_lt, ge_iff_le] at h) <;> (try (first | contradiction | (exfalso; omega)))))
      | (show thenC _ _ _ _ _; first | refine t_n ?_ | refine t_r ?_ | refine t_e ?_)
      | (show inBlockC _ _ _ _ _; first | refine b_n ?_ | refine b_r ?_ | refine b_hit rfl ?_ | refine b_miss rfl ?_)
      | (show noGotoC _ _ _ _; first | refine g_n ?_ | refine g_r ?_ | refine g_e ?_)
      | (show CallT _ 31 _ _ _; refine CA (h := lay_ok (by ((repeat (first | exact view_row | exact view_rrow | exact view_pt | assumption | apply view_there)) <;> exact view_row)) (by assumption) (by omega) ?_))
      | (show CallT _ 29 _ _ _; refine CA (h := awake1_ok ?_))
      | (show CallT _ 22 _ _ _; refine CA (h := over_ok _ (fun p => ?_)))
      | (show CallT _ 23 _ _ _; refine CA (h := restY_ok (by assumption) ?_))
      | (show CallT _ 27 _ _ _; refine CA (h := bad_ok _ _ _ ?_))
      | (show CallT _ 32 _ _ _; refine CA (h := size_ok (by ((repeat (first | exact view_row | exact view_rrow | exact view_pt | assumption | apply view_there)) <;> exact view_row)) (by first | assumption | exact rfl) (by omega) ?_))
      | refine back_loop (C0 := _) (ps := _) (u0 := _) (by ((repeat (first | exact view_row | exact view_rrow | exact view_pt | assumption | apply view_there)) <;> exact view_row)) (by assumption) (by omega) (lay_size (by assumption)).1 (back_facts (by assumption)) ⟨rfl, rfl, rfl, rfl, trivial⟩ (Ent.refl _) _ rfl (fun a => ?_))
    all_goals first
      | (refine RETC ?_; exact ret_done (congrArg Value.bool (by rw [layS_bad (by assumption)]; exact beq_self_eq_true _)))
      | (refine RETC ?_; exact ret_done (congrArg Value.bool (by rw [(lay_size (by assumption)).2.1]; exact beq_self_eq_true _)))
end Go.Proofs.Ytfjibfljckifkaa
