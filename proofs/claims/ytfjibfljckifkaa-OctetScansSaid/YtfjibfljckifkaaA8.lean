/- The law OctetOrders: lemmas; each with the conditions that it states. -/
import Derived.Test.YtfjibfljckifkaaA7
namespace Go.Proofs.Ytfjibfljckifkaa
open Go Go.Proofs Go.Sl
set_option maxRecDepth 100000
set_option maxHeartbeats 4000000
set_option linter.unusedSimpArgs false
set_option linter.unusedVariables false
attribute [local irreducible] evG evC spl thenC inBlockC noGotoC CallT retC RetG TurnG CutG pt ro exP star sep pureP
variable {R C : List HP} {K : Value → List HP → Prop}
theorem lay1 {a w : Int} (hw : 1 ≤ w ∧ w ≤ 4) (h : layE [⟨a, w, ⟨#[]⟩⟩] = 0) : 0 ≤ a ∧ a < 256 ^ w.toNat ∧ (layS [⟨a, w, ⟨#[]⟩⟩]).toList = wB a w := by
  have h1 : pcMay a w = 0 := by
    by_cases h2 : pcMay a w = 0
    · exact h2
    · unfold layE at h
      simp only [firstE, h2, if_false] at h
  have h2 : 0 ≤ a ∧ ¬ 0 < a / 2 ^ (8 * w).toNat := by
    unfold pcMay at h1
    split at h1
    · cases h1
    · split at h1
      · cases h1
      · omega
  refine ⟨h2.1, ?_, ?_⟩
  · have e : (2 : Int) ^ (8 * w).toNat = 256 ^ w.toNat := by
      have : (8 * w).toNat = 8 * w.toNat := by omega
      rw [this, Int.pow_mul]; rfl
    rw [e] at h2
    have hq : (0 : Int) < 256 ^ w.toNat := Int.pow_pos (by decide)
    generalize (256 : Int) ^ w.toNat = q at *
    have h3 := Int.emod_lt_of_pos a hq
    have h4 := Int.emod_def a q
    have h5 : a / q = 0 := by
      have : 0 ≤ a / q := Int.ediv_nonneg h2.1 (by omega)
      omega
    rw [h5] at h4
    omega
  · unfold layS
    rw [if_pos h, toList_data]
    simp [allB, pcB]
theorem orders {a b w : Int} (hw : 1 ≤ w ∧ w ≤ 4) (h1 : layE [⟨a, w, ⟨#[]⟩⟩] = 0) (h2 : layE [⟨b, w, ⟨#[]⟩⟩] = 0) :
    Op.bytesLess (layS [⟨a, w, ⟨#[]⟩⟩]).toList (layS [⟨b, w, ⟨#[]⟩⟩]).toList = decide (a < b) ∧ ((layS [⟨a, w, ⟨#[]⟩⟩]).toList == (layS [⟨b, w, ⟨#[]⟩⟩]).toList) = (a == b) := by
  obtain ⟨a1, a2, a3⟩ := lay1 hw h1
  obtain ⟨b1, b2, b3⟩ := lay1 hw h2
  obtain ⟨k, rfl⟩ : ∃ k : Nat, w = k := ⟨w.toNat, by omega⟩
  rw [Int.toNat_natCast] at a2 b2
  have na := num_wB a k
  have nb := num_wB b k
  rw [Int.emod_eq_of_lt a1 a2] at na
  rw [Int.emod_eq_of_lt b1 b2] at nb
  have hl : (wB a k).length = (wB b k).length := by rw [wB_len, wB_len]
  rw [a3, b3]
  refine ⟨by rw [bytesLess_num _ _ hl, na, nb], ?_⟩
  by_cases h : a = b
  · subst h; rw [beq_self_eq_true, beq_self_eq_true]
  · have : ¬ wB a k = wB b k := fun e => h (by rw [← na, ← nb, e])
    rw [beq_eq_false_iff_ne.2 this, beq_eq_false_iff_ne.2 h]
theorem octetOrders_ok {a b w : Int} (hw : 0 ≤ w ∧ w ≤ 255) (hK : K (.bool true) R) : CallT Try.prog 8 #[.int .i64 a, .int .i64 b, .int .u8 w] R K := by
  have ho := orders (a := a) (b := b) (w := w % 4 + 1) (by omega)
  refine callT_intro mixed Try.func8 rfl (by decide) (by decide +kernel) (by exact Nat.le_of_ble_eq_true rfl) ?_
  repeat' (first
    | (show evG _ _ _ _ _ _ _; first | refine G_add64 ?_ | refine G_sub64 ?_ | refine G_mul64 ?_ | refine G_quo ?_ | refine G_rem ?_ | refine G_shl8 ?_ | refine G_orb ?_ | refine G_shr ?_ | refine G_pure0 ?_ | refine G_load ?_ | refine evG_nil ?_ | refine G_field ?_ | refine G_pure ?_ | refine G_store ?_ | refine G_loadV ?_ | refine G_loadV0 ?_ | refine G_loadV2 ?_ | (refine G_append ?_; intro _ _) | (refine G_appendN ?_; intro _ _) | refine G_not ?_ | refine G_index ?_ | refine G_indexA ?_ | refine G_indexS ?_ | refine G_conv64 ?_ | refine G_conv8 ?_ | refine G_convu ?_ | refine G_conv ?_ | refine G_build ?_ | refine G_slh ?_ | refine G_slo ?_ | refine G_shi ?_ | refine G_cat ?_ | refine G_min ?_ | refine G_max ?_ | refine G_neg64 ?_ | refine G_eql_agg ?_ | refine G_neq_agg ?_ | refine G_bytesP ?_ | refine G_bytesstr ?_ | refine G_call ?_ | refine G_call0 ?_ | refine G_callv ?_ | refine G_callv0 ?_ | (refine G_box ?_; intro _) | (refine G_alloc ?_; intro _) | (refine G_buildSlice ?_; intro _) | (refine G_strrow ?_; intro _ _) | (refine G_indexV ?_; intro _ _ hA; subst hA) | (refine G_sliceR ?_; intro _) | (refine G_sliceO ?_; intro _) | refine G_skip ?_ | refine G_skip0 ?_)
    | (show spl _ _ _; first | refine spl_no rfl ?_ | refine spl_yes rfl ?_)
    | (show evC _ _ _ _ _; first | refine c_seq ?_ | refine c_region (by exact rfl) ?_ | refine c_cond (by exact rfl) ?_ | refine c_ret ?_ | refine c_skip ?_ | refine c_block ?_ | refine c_exit ?_ | refine c_draw (by exact rfl) (by decide +kernel) (by exact rfl) ?_ | refine c_scope ?_ | refine c_label ?_)
    | (show Br _ _ _; first | refine Br.t rfl ?_ | refine Br.f rfl ?_ | refine Br.t (beq_self_eq_true _) ?_ | refine Br.f (not_beq_self _) ?_ | refine Br.t (by assumption) ?_ | refine Br.f (by assumption) ?_ | (refine Br.mk (fun h => ?_) (fun h => ?_) <;> (try simp only [decide_eq_true_eq, decide_eq_false_iff_not, beq_iff_eq, bne_iff_ne, beq_eq_false_iff_ne, bne_eq_false_iff_eq, ne_eq, Bool.not_eq_true', Bool.not_eq_false', not_true_eq_false, not_false_eq_true, Int.not_lt, Int.not_le, gt_iff_lt, ge_iff_le] at h) <;> (try (first | contradiction | (exfalso; omega)))))
    | (show thenC _ _ _ _ _; first | refine t_n ?_ | refine t_r ?_ | refine t_e ?_)
    | (show inBlockC _ _ _ _ _; first | refine b_n ?_ | refine b_r ?_ | refine b_hit rfl ?_ | refine b_miss rfl ?_)
    | (show noGotoC _ _ _ _; first | refine g_n ?_ | refine g_r ?_ | refine g_e ?_)
    | (show CallT _ 33 _ _ _; refine CA (h := u_ok ?_))
    | (show CallT _ 31 _ _ _; refine CA (h := lay_ok (by ((repeat (first | exact view_row | exact view_rrow | exact view_pt | assumption | apply view_there)) <;> exact view_row)) (by exact rfl) (by decide) ?_))
    | (show CallT _ 29 _ _ _; refine CA (h := awake1_ok ?_)))
  all_goals first
    | (refine RETC ?_; exact ret_done (hK))
    | (refine RETC ?_; exact ret_done (kb hK (by have ho2 := ho (by assumption) (by assumption); rw [ho2.2]; simp)))
    | (exfalso; have ho2 := ho (by assumption) (by assumption); simp_all)
    | skip
end Go.Proofs.Ytfjibfljckifkaa
