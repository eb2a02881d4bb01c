/- Split: what must come at any rate; a nil splitter: lemmas; each with the conditions that it states. -/
import Derived.Test.YtgaekagocbcebaaP4

namespace Go.Proofs.Ytgaekagocbcebaa
open Go Go.Proofs Go.Sl
set_option maxRecDepth 100000
set_option maxHeartbeats 4000000
set_option linter.unusedSimpArgs false
set_option linter.unusedVariables false
attribute [local irreducible] evG evC spl thenC inBlockC noGotoC CallT retC RetG TurnG CutG pt ro exP star sep pureP
attribute [local irreducible] ByteArray.extract nAt scanP
variable {R C : List HP} {K : Value → List HP → Prop}
theorem awake4_ok (hK : K (.bool true) R) : CallT Try.prog 15 #[] R K := by
  have e1 : frB 0 1 false ⟨#[97, 98]⟩ 0 0 0 false 0 0 0 [] = ⟨#[0, 0, 2, 0, 0, 0, 0, 0, 1, 97, 98]⟩ := by decide +kernel
  have e2 : RightP 0 1 false ⟨#[97, 98]⟩ 0 0 0 false 0 0 0 [] := (chk_iff _ _ _ _ _ _ _ _ _ _ _ _).1 (by decide +kernel)
  have e3 : pF [0, 0, 2, 0, 0, 0, 0, 0, 1, 97] = ([], [0, 0, 2, 0, 0, 0, 0, 0, 1, 97], 0) := by decide +kernel
  have e4 : pF [0, 0, 2, 0, 0, 0, 0, 0, 1, 97, 98] = ([⟨#[0, 0, 2, 0, 0, 0, 0, 0, 1, 97, 98]⟩], [], 0) := by decide +kernel
  have e5 : (cfr ⟨#[0, 0, 2, 0, 0, 0, 0, 0, 1, 97, 98]⟩).d = ⟨#[97, 98]⟩ := by decide +kernel
  have c0 : ∀ {R : List HP} {K : Value → List HP → Prop}, K (.string ⟨#[0, 0, 2, 0, 0, 0, 0, 0, 1, 97, 98]⟩) R → CallT Try.prog 36 #[.agg #[.int .i64 0, .int .i64 1, .bool false, .string ⟨#[97, 98]⟩, .int .i64 0, .int .i64 0, .int .i64 0, .bool false, .int .i64 0, .int .i64 0, .int .i64 0, .slice none 0 0]] R K := fun {R K} hk => rlay3_ok e2 view_nil rfl (by rw [e1]; exact hk)
  have c1 : ∀ {x : Nat} {u : ByteArray} {R : List HP} {K : Value → List HP → Prop}, u = ⟨#[0, 0, 2, 0, 0, 0, 0, 0, 1, 97]⟩ → (∀ F c, K (.tuple #[.slice F 0 c, .int .i64 0]) (row F c 28 fmC [] :: allP fmP [] :: spP x [0, 0, 2, 0, 0, 0, 0, 0, 1, 97] 0 :: R)) → CallT Try.prog 16 #[.pointer (some ⟨x, 0, none⟩), .string u] (spP x [] 0 :: R) K := fun {x u R K} hu hk => by
    subst hu
    refine feed_ok (by decide) fun F c fs hfs => ?_
    have e3' : pF ([] ++ (ByteArray.mk #[0, 0, 2, 0, 0, 0, 0, 0, 1, 97]).data.toList) = ([], [0, 0, 2, 0, 0, 0, 0, 0, 1, 97], 0) := e3
    rw [e3'] at hfs ⊢
    obtain rfl : fs = [] := by simpa using hfs
    exact hk F c
  have c2 : ∀ {x : Nat} {u : ByteArray} {R : List HP} {K : Value → List HP → Prop}, u = ⟨#[98]⟩ → (∀ F c t st e k on w xx cc la n pa pn pc ps, K (.tuple #[.slice F 1 c, .int .i64 0]) (row F c 28 fmC [⟨t, st, e, ⟨#[97, 98]⟩, k, on, w, xx, cc, la, n, pa, pn, pc, ps⟩] :: allP fmP [⟨t, st, e, ⟨#[97, 98]⟩, k, on, w, xx, cc, la, n, pa, pn, pc, ps⟩] :: spP x [] 0 :: R)) → CallT Try.prog 16 #[.pointer (some ⟨x, 0, none⟩), .string u] (spP x [0, 0, 2, 0, 0, 0, 0, 0, 1, 97] 0 :: R) K := fun {x u R K} hu hk => by
    subst hu
    refine feed_ok (by decide) fun F c fs hfs => ?_
    have e4' : pF ([0, 0, 2, 0, 0, 0, 0, 0, 1, 97] ++ (ByteArray.mk #[98]).data.toList) = ([⟨#[0, 0, 2, 0, 0, 0, 0, 0, 1, 97, 98]⟩], [], 0) := e4
    rw [e4'] at hfs ⊢
    cases fs with
    | nil => cases hfs
    | cons y l =>
      simp only [List.map_cons, List.map_nil, List.cons.injEq] at hfs
      obtain ⟨h1, h2⟩ := hfs
      obtain rfl : l = [] := by simpa using h2
      have hd : y.d = ⟨#[97, 98]⟩ := by
        have := congrArg Fm.d h1
        exact Eq.trans this e5
      obtain ⟨t, st, e, d, k, on, w, xx, cc, la, n, pa, pn, pc, ps⟩ := y
      simp only at hd
      subst hd
      exact hk F c t st e k on w xx cc la n pa pn pc ps
  have hs11 : (ByteArray.mk #[0, 0, 2, 0, 0, 0, 0, 0, 1, 97, 98]).size = 11 := rfl
  refine callT_intro mixed Try.func15 rfl (by decide) (by decide +kernel) (by exact Nat.le_of_ble_eq_true rfl) ?_
  repeat' (first
    | (show evG _ _ _ _ _ _ _; first | refine G_andNot0 ?_ | refine G_andNot1 ?_ | refine G_add64 ?_ | refine G_sub64 ?_ | refine G_mul64 ?_ | refine G_quo ?_ | refine G_rem ?_ | refine G_shl8 ?_ | refine G_orb ?_ | refine G_shr ?_ | refine G_pure0 ?_ | refine G_load ?_ | refine evG_nil ?_ | refine G_br ?_ ?_ | refine G_field ?_ | refine G_pure ?_ | refine G_store ?_ | refine G_loadV ?_ | refine G_loadV0 ?_ | refine G_loadV2 ?_ | (refine G_append ?_; intro _ _) | (refine G_appendN ?_; intro _ _) | refine G_not ?_ | refine G_index ?_ | refine G_indexA ?_ | refine G_indexS ?_ | refine G_conv64 ?_ | refine G_conv8 ?_ | refine G_convu ?_ | refine G_conv ?_ | refine G_build ?_ | refine G_slh ?_ | refine G_slo ?_ | refine G_shi ?_ | refine G_cat ?_ | refine G_min ?_ | refine G_max ?_ | refine G_neg64 ?_ | refine G_eql_agg ?_ | refine G_neq_agg ?_ | refine G_bytesP ?_ | refine G_bytesstr ?_ | refine G_call ?_ | refine G_call0 ?_ | refine G_callv ?_ | refine G_callv0 ?_ | (refine G_box ?_; intro _) | (refine G_alloc ?_; intro _) | (refine G_buildSlice ?_; intro _) | (refine G_strrow ?_; intro _ _) | (refine G_indexV ?_; intro _ _ hA; subst hA) | (refine G_sliceR ?_; intro _) | (refine G_sliceO ?_; intro _) | refine G_skip ?_ | refine G_skip0 ?_)
    | (show spl _ _ _; first | refine spl_no rfl ?_ | refine spl_yes rfl ?_)
    | (show evC _ _ _ _ _; first | refine c_seq ?_ | refine c_region (by exact rfl) ?_ | refine c_cond (by exact rfl) ?_ | refine c_ret ?_ | refine c_skip ?_ | refine c_block ?_ | refine c_exit ?_  | refine c_draw (by exact rfl) (by decide +kernel) (by exact rfl) ?_ | refine c_drawT (by exact rfl) (by decide +kernel) (by exact rfl) ?_ | refine c_scope ?_ | refine c_label ?_)
    | (show Br _ _ _; first | refine Br.t (by decide +kernel) ?_ | refine Br.f (by decide +kernel) ?_ | refine Br.t rfl ?_ | refine Br.f rfl ?_ | refine Br.t (beq_self_eq_true _) ?_ | refine Br.f (not_beq_self _) ?_ | refine Br.t (by assumption) ?_ | refine Br.f (by assumption) ?_ | refine Br.t (nb_f (by assumption)) ?_ | refine Br.f (nb_t (by assumption)) ?_ | (refine Br.mk (fun h => ?_) (fun h => ?_) <;> (try simp only [Bool.and_eq_true, Bool.or_eq_true, Bool.and_eq_false_iff, Bool.or_eq_false_iff, decide_eq_true_eq, decide_eq_false_iff_not, beq_iff_eq, bne_iff_ne, beq_eq_false_iff_ne, bne_eq_false_iff_eq, ne_eq, Bool.not_eq_true', Bool.not_eq_false', not_true_eq_false, not_false_eq_true, Int.not_lt, Int.not_le, gt_iff_lt, ge_iff_le] at h) <;> (try (first | contradiction | (exfalso; omega)))))
    | (show thenC _ _ _ _ _; first | refine t_n ?_ | refine t_r ?_ | refine t_e ?_)
    | (show inBlockC _ _ _ _ _; first | refine b_n ?_ | refine b_r ?_ | refine b_hit rfl ?_ | refine b_miss rfl ?_)
    | (show noGotoC _ _ _ _; first | refine g_n ?_ | refine g_r ?_ | refine g_e ?_)
    | (show CallT _ 14 _ _ _; refine CA (h := snew_ok (fun x => ?_)))
    | (show CallT _ 36 _ _ _; refine CA (h := c0 ?_))
    | (show CallT _ 16 _ _ _; first | refine CA (h := c1 (by decide +kernel) (fun F1 b1 => ?_)) | refine CA (h := c2 (by decide +kernel) (fun F2 b2 t st e k on w xx cc la n pa pn pc ps => ?_)))
    | (show CallT _ 17 _ _ _; refine CA (h := kept_ok ?_)))
  (refine RETC ?_; exact ret_done (hK))
theorem splitNone_ok {s : ByteArray} (hK : ∀ C, K (.bool true) C) : CallT Try.prog 6 #[.string s] R K := by
  refine callT_intro mixed Try.func6 rfl (by decide) (by decide +kernel) (by exact Nat.le_of_ble_eq_true rfl) ?_
  repeat' (first
    | (show evG _ _ _ _ _ _ _; first | refine G_andNot0 ?_ | refine G_andNot1 ?_ | refine G_add64 ?_ | refine G_sub64 ?_ | refine G_mul64 ?_ | refine G_quo ?_ | refine G_rem ?_ | refine G_shl8 ?_ | refine G_orb ?_ | refine G_shr ?_ | refine G_pure0 ?_ | refine G_load ?_ | refine evG_nil ?_ | refine G_br ?_ ?_ | refine G_field ?_ | refine G_pure ?_ | refine G_store ?_ | refine G_loadV ?_ | refine G_loadV0 ?_ | refine G_loadV2 ?_ | (refine G_append ?_; intro _ _) | (refine G_appendN ?_; intro _ _) | refine G_not ?_ | refine G_index ?_ | refine G_indexA ?_ | refine G_indexS ?_ | refine G_conv64 ?_ | refine G_conv8 ?_ | refine G_convu ?_ | refine G_conv ?_ | refine G_build ?_ | refine G_slh ?_ | refine G_slo ?_ | refine G_shi ?_ | refine G_cat ?_ | refine G_min ?_ | refine G_max ?_ | refine G_neg64 ?_ | refine G_eql_agg ?_ | refine G_neq_agg ?_ | refine G_bytesP ?_ | refine G_bytesstr ?_ | refine G_call ?_ | refine G_call0 ?_ | refine G_callv ?_ | refine G_callv0 ?_ | (refine G_box ?_; intro _) | (refine G_alloc ?_; intro _) | (refine G_buildSlice ?_; intro _) | (refine G_strrow ?_; intro _ _) | (refine G_indexV ?_; intro _ _ hA; subst hA) | (refine G_sliceR ?_; intro _) | (refine G_sliceO ?_; intro _) | refine G_skip ?_ | refine G_skip0 ?_)
    | (show spl _ _ _; first | refine spl_no rfl ?_ | refine spl_yes rfl ?_)
    | (show evC _ _ _ _ _; first | refine c_seq ?_ | refine c_region (by exact rfl) ?_ | refine c_cond (by exact rfl) ?_ | refine c_ret ?_ | refine c_skip ?_ | refine c_block ?_ | refine c_exit ?_  | refine c_draw (by exact rfl) (by decide +kernel) (by exact rfl) ?_ | refine c_drawT (by exact rfl) (by decide +kernel) (by exact rfl) ?_ | refine c_scope ?_ | refine c_label ?_)
    | (show Br _ _ _; first | refine Br.t rfl ?_ | refine Br.f rfl ?_ | refine Br.t (beq_self_eq_true _) ?_ | refine Br.f (not_beq_self _) ?_ | refine Br.t (by assumption) ?_ | refine Br.f (by assumption) ?_ | refine Br.t (nb_f (by assumption)) ?_ | refine Br.f (nb_t (by assumption)) ?_ | (refine Br.mk (fun h => ?_) (fun h => ?_) <;> (try simp only [Bool.and_eq_true, Bool.or_eq_true, Bool.and_eq_false_iff, Bool.or_eq_false_iff, decide_eq_true_eq, decide_eq_false_iff_not, beq_iff_eq, bne_iff_ne, beq_eq_false_iff_ne, bne_eq_false_iff_eq, ne_eq, Bool.not_eq_true', Bool.not_eq_false', not_true_eq_false, not_false_eq_true, Int.not_lt, Int.not_le, gt_iff_lt, ge_iff_le] at h) <;> (try (first | contradiction | (exfalso; omega)))))
    | (show thenC _ _ _ _ _; first | refine t_n ?_ | refine t_r ?_ | refine t_e ?_)
    | (show inBlockC _ _ _ _ _; first | refine b_n ?_ | refine b_r ?_ | refine b_hit rfl ?_ | refine b_miss rfl ?_)
    | (show noGotoC _ _ _ _; first | refine g_n ?_ | refine g_r ?_ | refine g_e ?_)
    | (show CallT _ 16 _ _ _; refine CA (h := feed0_ok ?_))
    | (show CallT _ 15 _ _ _; refine CA (h := awake4_ok ?_))
    | (show CallT _ 17 _ _ _; refine CA (h := kept0_ok ?_))
    | (show CallT _ 18 _ _ _; refine CA (h := broken0_ok ?_)))
  all_goals (refine RETC ?_; exact ret_done (kb (hK _) (by simp)))
end Go.Proofs.Ytgaekagocbcebaa
