/- Outq: the document's Push: lemmas; each with the conditions that it states. -/
import Derived.Test.YtgdfmbnbknhhiaaM2
import Derived.Test.YtgdfmbnbknhhiaaT15

namespace Go.Proofs.Ytgdfmbnbknhhiaa
open Go Go.Proofs Go.Sl
set_option maxRecDepth 100000
set_option maxHeartbeats 4000000
set_option linter.unusedSimpArgs false
set_option linter.unusedVariables false
attribute [local irreducible] evG evC spl thenC inBlockC noGotoC CallT retC RetG TurnG CutG pt ro exP star sep pureP
variable {R C : List HP} {K : Value → List HP → Prop}
theorem like_no {f z : Fm} (hc : chkF f = true) (h : likeB f z = false) (hz : 0 ≤ z.n ∧ z.n ≤ 2147483647) : f.t < 10 ∨ z.t ≠ f.t ∨ z.st ≠ f.st ∨ 2147483647 < z.n + f.n := by
  have h1 := ((chkF_iff f).1 hc).1
  unfold likeB at h
  simp only [Bool.and_eq_false_iff, Bool.or_eq_false_iff, decide_eq_false_iff_not] at h
  omega
theorem like_yes {f z : Fm} (h : likeB f z = true) : 10 ≤ f.t ∧ z.t = f.t ∧ z.st = f.st ∧ z.n + f.n ≤ 2147483647 := by
  unfold likeB at h
  simp only [Bool.and_eq_true, Bool.or_eq_true, decide_eq_true_eq] at h
  omega
theorem r25A_ok {A : Option Addr} {n c : Nat} {f : Fm} (hc : chkF f = false) (hf : FmV C f) (hfn : f.pn < 1000000000000000) (hK : K (.tuple #[.slice A n c, .int .i64 2]) C) : CallT Try.prog 45 #[.slice A n c, .agg #[.int .i64 f.t, .int .i64 f.st, .bool f.e, .string f.d, .int .i64 f.k, .int .i64 f.on, .int .i64 f.w, .bool f.x, .int .i64 f.c, .int .i64 f.la, .int .i64 f.n, .slice f.pa f.pn f.pc]] C K := by
  unfold chkF at hc
  refine callT_intro mixed Try.func45 rfl (by decide) (by decide +kernel) (by exact Nat.le_of_ble_eq_true rfl) ?_
  repeat' (first
    | (show evG _ _ _ _ _ _ _; first | refine G_andNot0 ?_ | refine G_andNot1 ?_ | refine G_add64 ?_ | refine G_sub64 ?_ | refine G_mul64 ?_ | refine G_quo ?_ | refine G_rem ?_ | refine G_shl8 ?_ | refine G_orb ?_ | refine G_shr ?_ | refine G_pure0 ?_ | refine G_load ?_ | refine evG_nil ?_ | refine G_br ?_ ?_ | refine G_field ?_ | refine G_pure ?_ | refine G_store ?_ | refine G_loadV ?_ | refine G_loadV0 ?_ | refine G_loadV2 ?_ | (refine G_append ?_; intro _ _) | (refine G_appendN ?_; intro _ _) | refine G_not ?_ | refine G_index ?_ | refine G_indexA ?_ | refine G_indexS ?_ | refine G_conv64 ?_ | refine G_conv8 ?_ | refine G_convu ?_ | refine G_conv ?_ | refine G_build ?_ | refine G_slh ?_ | refine G_slo ?_ | refine G_shi ?_ | refine G_cat ?_ | refine G_min ?_ | refine G_max ?_ | refine G_neg64 ?_ | refine G_eql_agg ?_ | refine G_neq_agg ?_ | refine G_bytesP ?_ | refine G_bytesstr ?_ | refine G_call ?_ | refine G_call0 ?_ | refine G_callv ?_ | refine G_callv0 ?_ | (refine G_box ?_; intro _) | (refine G_alloc ?_; intro _) | (refine G_buildSlice ?_; intro _) | (refine G_strrow ?_; intro _ _) | (refine G_indexV ?_; intro _ _ hA; subst hA) | (refine G_sliceR ?_; intro _) | (refine G_sliceO ?_; intro _) | refine G_skip ?_ | refine G_skip0 ?_)
    | (show spl _ _ _; first | refine spl_no rfl ?_ | refine spl_yes rfl ?_)
    | (show evC _ _ _ _ _; first | refine c_seq ?_ | refine c_region (by exact rfl) ?_ | refine c_cond (by exact rfl) ?_ | refine c_ret ?_ | refine c_skip ?_ | refine c_block ?_ | refine c_exit ?_  | refine c_draw (by exact rfl) (by decide +kernel) (by exact rfl) ?_ | refine c_drawT (by exact rfl) (by decide +kernel) (by exact rfl) ?_ | refine c_scope ?_ | refine c_label ?_)
    | (show Br _ _ _; first | refine Br.t rfl ?_ | refine Br.f rfl ?_ | refine Br.t (beq_self_eq_true _) ?_ | refine Br.f (not_beq_self _) ?_ | refine Br.t (by assumption) ?_ | refine Br.f (by assumption) ?_ | refine Br.t (nb_f (by assumption)) ?_ | refine Br.f (nb_t (by assumption)) ?_ | (refine Br.mk (fun h => ?_) (fun h => ?_) <;> (try simp only [Bool.and_eq_true, Bool.or_eq_true, Bool.and_eq_false_iff, Bool.or_eq_false_iff, decide_eq_true_eq, decide_eq_false_iff_not, beq_iff_eq, bne_iff_ne, beq_eq_false_iff_ne, bne_eq_false_iff_eq, ne_eq, Bool.not_eq_true', Bool.not_eq_false', not_true_eq_false, not_false_eq_true, Int.not_lt, Int.not_le, gt_iff_lt, ge_iff_le] at h) <;> (try (first | contradiction | (exfalso; omega)))))
    | (show thenC _ _ _ _ _; first | refine t_n ?_ | refine t_r ?_ | refine t_e ?_)
    | (show inBlockC _ _ _ _ _; first | refine b_n ?_ | refine b_r ?_ | refine b_hit rfl ?_ | refine b_miss rfl ?_)
    | (show noGotoC _ _ _ _; first | refine g_n ?_ | refine g_r ?_ | refine g_e ?_)
    | (show CallT _ 51 _ _ _; refine CA (h := rright3_ok (ps := f.ps) (view_there hf.1) hf.2 hfn ?_)))
  all_goals (refine RETC ?_; exact ret_done (hK))
theorem r25K_ok {A : Option Addr} {n c : Nat} {f : Fm} (hc : chkF f = true) (ht : f.t < 2) (hf : FmV C f) (hfn : f.pn < 1000000000000000) (hK : K (.tuple #[.slice A n c, .int .i64 13]) C) : CallT Try.prog 45 #[.slice A n c, .agg #[.int .i64 f.t, .int .i64 f.st, .bool f.e, .string f.d, .int .i64 f.k, .int .i64 f.on, .int .i64 f.w, .bool f.x, .int .i64 f.c, .int .i64 f.la, .int .i64 f.n, .slice f.pa f.pn f.pc]] C K := by
  unfold chkF at hc
  refine callT_intro mixed Try.func45 rfl (by decide) (by decide +kernel) (by exact Nat.le_of_ble_eq_true rfl) ?_
  repeat' (first
    | (show evG _ _ _ _ _ _ _; first | refine G_andNot0 ?_ | refine G_andNot1 ?_ | refine G_add64 ?_ | refine G_sub64 ?_ | refine G_mul64 ?_ | refine G_quo ?_ | refine G_rem ?_ | refine G_shl8 ?_ | refine G_orb ?_ | refine G_shr ?_ | refine G_pure0 ?_ | refine G_load ?_ | refine evG_nil ?_ | refine G_br ?_ ?_ | refine G_field ?_ | refine G_pure ?_ | refine G_store ?_ | refine G_loadV ?_ | refine G_loadV0 ?_ | refine G_loadV2 ?_ | (refine G_append ?_; intro _ _) | (refine G_appendN ?_; intro _ _) | refine G_not ?_ | refine G_index ?_ | refine G_indexA ?_ | refine G_indexS ?_ | refine G_conv64 ?_ | refine G_conv8 ?_ | refine G_convu ?_ | refine G_conv ?_ | refine G_build ?_ | refine G_slh ?_ | refine G_slo ?_ | refine G_shi ?_ | refine G_cat ?_ | refine G_min ?_ | refine G_max ?_ | refine G_neg64 ?_ | refine G_eql_agg ?_ | refine G_neq_agg ?_ | refine G_bytesP ?_ | refine G_bytesstr ?_ | refine G_call ?_ | refine G_call0 ?_ | refine G_callv ?_ | refine G_callv0 ?_ | (refine G_box ?_; intro _) | (refine G_alloc ?_; intro _) | (refine G_buildSlice ?_; intro _) | (refine G_strrow ?_; intro _ _) | (refine G_indexV ?_; intro _ _ hA; subst hA) | (refine G_sliceR ?_; intro _) | (refine G_sliceO ?_; intro _) | refine G_skip ?_ | refine G_skip0 ?_)
    | (show spl _ _ _; first | refine spl_no rfl ?_ | refine spl_yes rfl ?_)
    | (show evC _ _ _ _ _; first | refine c_seq ?_ | refine c_region (by exact rfl) ?_ | refine c_cond (by exact rfl) ?_ | refine c_ret ?_ | refine c_skip ?_ | refine c_block ?_ | refine c_exit ?_  | refine c_draw (by exact rfl) (by decide +kernel) (by exact rfl) ?_ | refine c_drawT (by exact rfl) (by decide +kernel) (by exact rfl) ?_ | refine c_scope ?_ | refine c_label ?_)
    | (show Br _ _ _; first | refine Br.t rfl ?_ | refine Br.f rfl ?_ | refine Br.t (beq_self_eq_true _) ?_ | refine Br.f (not_beq_self _) ?_ | refine Br.t (by assumption) ?_ | refine Br.f (by assumption) ?_ | refine Br.t (nb_f (by assumption)) ?_ | refine Br.f (nb_t (by assumption)) ?_ | (refine Br.mk (fun h => ?_) (fun h => ?_) <;> (try simp only [Bool.and_eq_true, Bool.or_eq_true, Bool.and_eq_false_iff, Bool.or_eq_false_iff, decide_eq_true_eq, decide_eq_false_iff_not, beq_iff_eq, bne_iff_ne, beq_eq_false_iff_ne, bne_eq_false_iff_eq, ne_eq, Bool.not_eq_true', Bool.not_eq_false', not_true_eq_false, not_false_eq_true, Int.not_lt, Int.not_le, gt_iff_lt, ge_iff_le] at h) <;> (try (first | contradiction | (exfalso; omega)))))
    | (show thenC _ _ _ _ _; first | refine t_n ?_ | refine t_r ?_ | refine t_e ?_)
    | (show inBlockC _ _ _ _ _; first | refine b_n ?_ | refine b_r ?_ | refine b_hit rfl ?_ | refine b_miss rfl ?_)
    | (show noGotoC _ _ _ _; first | refine g_n ?_ | refine g_r ?_ | refine g_e ?_)
    | (show CallT _ 51 _ _ _; refine CA (h := rright3_ok (ps := f.ps) (view_there hf.1) hf.2 hfn ?_)))
  all_goals (refine RETC ?_; exact ret_done (hK))
def fresh (f : Fm) (n : Int) : Fm := ⟨f.t, f.st, false, ⟨#[]⟩, 0, 0, 0, false, 0, 0, n, none, 0, 0, []⟩
theorem r25M_ok {A : Option Addr} {n c j : Nat} {f y : Fm} {ys : List Fm} (hc : chkF f = true) (ht : 2 ≤ f.t) (hf : FmV C f) (hfn : f.pn < 1000000000000000) (hv : View C A fmC ys) (hn : ys.length = n) (hl : n ≤ 1000) (hr : ∀ z ∈ ys, 0 ≤ z.n ∧ z.n ≤ 2147483647) (hj : ys[j]? = some y) (hy : likeB f y = true) (hb : ∀ i z, i < j → ys[i]? = some z → likeB f z = false) (hK : ∀ A' c', K (.tuple #[.slice A' n c', .int .i64 0]) (row A' c' 65 fmC (ys.set j (fresh f (y.n + f.n))) :: C)) : CallT Try.prog 45 #[.slice A n c, .agg #[.int .i64 f.t, .int .i64 f.st, .bool f.e, .string f.d, .int .i64 f.k, .int .i64 f.on, .int .i64 f.w, .bool f.x, .int .i64 f.c, .int .i64 f.la, .int .i64 f.n, .slice f.pa f.pn f.pc]] C K := by
  subst hn
  have hnn := right_n hc
  have hyr := hr y (List.mem_of_getElem? hj)
  have hyy := like_yes hy
  have hc' := hc
  unfold chkF at hc
  have hjl : j < ys.length := (List.getElem?_eq_some_iff.1 hj).1
  refine callT_intro mixed Try.func45 rfl (by decide) (by decide +kernel) (by exact Nat.le_of_ble_eq_true rfl) ?_
  repeat' (first
    | (show evG _ _ _ _ _ _ _; first | refine G_andNot0 ?_ | refine G_andNot1 ?_ | refine G_add64 ?_ | refine G_sub64 ?_ | refine G_mul64 ?_ | refine G_quo ?_ | refine G_rem ?_ | refine G_shl8 ?_ | refine G_orb ?_ | refine G_shr ?_ | refine G_pure0 ?_ | refine G_load ?_ | refine evG_nil ?_ | refine G_br ?_ ?_ | refine G_field ?_ | refine G_pure ?_ | refine G_store ?_ | refine G_loadV ?_ | refine G_loadV0 ?_ | refine G_loadV2 ?_ | (refine G_append ?_; intro _ _) | (refine G_appendN ?_; intro _ _) | refine G_not ?_ | refine G_index ?_ | refine G_indexA ?_ | refine G_indexS ?_ | refine G_conv64 ?_ | refine G_conv8 ?_ | refine G_convu ?_ | refine G_conv ?_ | refine G_build ?_ | refine G_slh ?_ | refine G_slo ?_ | refine G_shi ?_ | refine G_cat ?_ | refine G_min ?_ | refine G_max ?_ | refine G_neg64 ?_ | refine G_eql_agg ?_ | refine G_neq_agg ?_ | refine G_bytesP ?_ | refine G_bytesstr ?_ | refine G_call ?_ | refine G_call0 ?_ | refine G_callv ?_ | refine G_callv0 ?_ | (refine G_box ?_; intro _) | (refine G_alloc ?_; intro _) | (refine G_buildSlice ?_; intro _) | (refine G_strrow ?_; intro _ _) | (refine G_indexV ?_; intro _ _ hA; subst hA) | (refine G_sliceR ?_; intro _) | (refine G_sliceO ?_; intro _) | refine G_skip ?_ | refine G_skip0 ?_)
    | (show spl _ _ _; first | refine spl_no rfl ?_ | refine spl_yes rfl ?_)
    | (show evC _ _ _ _ _; first | refine c_seq ?_ | refine c_region (by exact rfl) ?_ | refine c_cond (by exact rfl) ?_ | refine c_ret ?_ | refine c_skip ?_ | refine c_block ?_ | refine c_exit ?_  | refine c_draw (by exact rfl) (by decide +kernel) (by exact rfl) ?_ | refine c_drawT (by exact rfl) (by decide +kernel) (by exact rfl) ?_ | refine c_scope ?_ | refine c_label ?_)
    | (show Br _ _ _; first | refine Br.t rfl ?_ | refine Br.f rfl ?_ | refine Br.t (beq_self_eq_true _) ?_ | refine Br.f (not_beq_self _) ?_ | refine Br.t (by assumption) ?_ | refine Br.f (by assumption) ?_ | refine Br.t (nb_f (by assumption)) ?_ | refine Br.f (nb_t (by assumption)) ?_ | (refine Br.mk (fun h => ?_) (fun h => ?_) <;> (try simp only [Bool.and_eq_true, Bool.or_eq_true, Bool.and_eq_false_iff, Bool.or_eq_false_iff, decide_eq_true_eq, decide_eq_false_iff_not, beq_iff_eq, bne_iff_ne, beq_eq_false_iff_ne, bne_eq_false_iff_eq, ne_eq, Bool.not_eq_true', Bool.not_eq_false', not_true_eq_false, not_false_eq_true, Int.not_lt, Int.not_le, gt_iff_lt, ge_iff_le] at h) <;> (try (first | contradiction | (exfalso; omega)))))
    | (show thenC _ _ _ _ _; first | refine t_n ?_ | refine t_r ?_ | refine t_e ?_)
    | (show inBlockC _ _ _ _ _; first | refine b_n ?_ | refine b_r ?_ | refine b_hit rfl ?_ | refine b_miss rfl ?_)
    | (show noGotoC _ _ _ _; first | refine g_n ?_ | refine g_r ?_ | refine g_e ?_)
    | (show CallT _ 51 _ _ _; refine CA (h := rright3_ok (ps := f.ps) (view_there hf.1) hf.2 hfn ?_)))
  rename_i r
  refine LOOP (fun m a C' => ∃ i : Nat, i + m = j + 1 ∧ 0 < m ∧ C' = pt r [.int .i64 f.t, .int .i64 f.st, .bool f.e, .string f.d, .int .i64 f.k, .int .i64 f.on, .int .i64 f.w, .bool f.x, .int .i64 f.c, .int .i64 f.la, .int .i64 f.n, .slice f.pa f.pn f.pc] 65 :: C ∧ Agree a [(0, .slice A ys.length c), (3, .pointer (some ⟨r, 0, none⟩)), (6, .int .i64 i)]) (j + 1) (turn (j + 1) ⟨0, by omega, by omega, rfl, rfl, rfl, rfl, trivial⟩) ?_
  rintro n1 a C' ⟨i, hi, h0, rfl, ha⟩
  refine c_fr _ ha ?_
  simp only [updL]
  by_cases hlt : i < j
  · obtain ⟨z, hz, hd⟩ := at_drop (l := ys) (j := i) (by omega)
    have hzr := hr z (List.mem_of_getElem? hz)
    have hzl := like_no hc' (hb i z hlt hz) hzr
    repeat' (first
      | (show evG _ _ _ _ _ _ _; first | refine G_andNot0 ?_ | refine G_andNot1 ?_ | refine G_add64 ?_ | refine G_sub64 ?_ | refine G_mul64 ?_ | refine G_quo ?_ | refine G_rem ?_ | refine G_shl8 ?_ | refine G_orb ?_ | refine G_shr ?_ | refine G_pure0 ?_ | refine G_load ?_ | refine evG_nil ?_ | refine G_br ?_ ?_ | refine G_field ?_ | refine G_pure ?_ | refine G_store ?_ | refine G_loadV ?_ | refine G_loadV0 ?_ | refine G_loadV2 ?_ | (refine G_append ?_; intro _ _) | (refine G_appendN ?_; intro _ _) | refine G_not ?_ | refine G_index ?_ | refine G_indexA ?_ | refine G_indexS ?_ | refine G_conv64 ?_ | refine G_conv8 ?_ | refine G_convu ?_ | refine G_conv ?_ | refine G_build ?_ | refine G_slh ?_ | refine G_slo ?_ | refine G_shi ?_ | refine G_cat ?_ | refine G_min ?_ | refine G_max ?_ | refine G_neg64 ?_ | refine G_eql_agg ?_ | refine G_neq_agg ?_ | refine G_bytesP ?_ | refine G_bytesstr ?_ | refine G_call ?_ | refine G_call0 ?_ | refine G_callv ?_ | refine G_callv0 ?_ | (refine G_box ?_; intro _) | (refine G_alloc ?_; intro _) | (refine G_buildSlice ?_; intro _) | (refine G_strrow ?_; intro _ _) | (refine G_indexV ?_; intro _ _ hA; subst hA) | (refine G_sliceR ?_; intro _) | (refine G_sliceO ?_; intro _) | refine G_skip ?_ | refine G_skip0 ?_)
      | (show spl _ _ _; first | refine spl_no rfl ?_ | refine spl_yes rfl ?_)
      | (show evC _ _ _ _ _; first | refine c_seq ?_ | refine c_region (by exact rfl) ?_ | refine c_cond (by exact rfl) ?_ | refine c_ret ?_ | refine c_skip ?_ | refine c_block ?_ | refine c_exit ?_  | refine c_draw (by exact rfl) (by decide +kernel) (by exact rfl) ?_ | refine c_drawT (by exact rfl) (by decide +kernel) (by exact rfl) ?_ | refine c_scope ?_ | refine c_label ?_)
      | (show Br _ _ _; first | refine Br.t rfl ?_ | refine Br.f rfl ?_ | refine Br.t (beq_self_eq_true _) ?_ | refine Br.f (not_beq_self _) ?_ | refine Br.t (by assumption) ?_ | refine Br.f (by assumption) ?_ | refine Br.t (nb_f (by assumption)) ?_ | refine Br.f (nb_t (by assumption)) ?_ | (refine Br.mk (fun h => ?_) (fun h => ?_) <;> (try simp only [Bool.and_eq_true, Bool.or_eq_true, Bool.and_eq_false_iff, Bool.or_eq_false_iff, decide_eq_true_eq, decide_eq_false_iff_not, beq_iff_eq, bne_iff_ne, beq_eq_false_iff_ne, bne_eq_false_iff_eq, ne_eq, Bool.not_eq_true', Bool.not_eq_false', not_true_eq_false, not_false_eq_true, Int.not_lt, Int.not_le, gt_iff_lt, ge_iff_le] at h) <;> (try (first | contradiction | (exfalso; omega)))))
      | (show thenC _ _ _ _ _; first | refine t_n ?_ | refine t_r ?_ | refine t_e ?_)
      | (show inBlockC _ _ _ _ _; first | refine b_n ?_ | refine b_r ?_ | refine b_hit rfl ?_ | refine b_miss rfl ?_)
      | (show noGotoC _ _ _ _; first | refine g_n ?_ | refine g_r ?_ | refine g_e ?_))
    all_goals exact turn (n1 - 1) ⟨i + 1, by omega, by omega, rfl, rfl, rfl, rfl, trivial⟩
  · obtain rfl : i = j := by omega
    repeat' (first
      | (show evG _ _ _ _ _ _ _; first | refine G_andNot0 ?_ | refine G_andNot1 ?_ | refine G_add64 ?_ | refine G_sub64 ?_ | refine G_mul64 ?_ | refine G_quo ?_ | refine G_rem ?_ | refine G_shl8 ?_ | refine G_orb ?_ | refine G_shr ?_ | refine G_pure0 ?_ | refine G_load ?_ | refine evG_nil ?_ | refine G_br ?_ ?_ | refine G_field ?_ | refine G_pure ?_ | refine G_store ?_ | refine G_loadV ?_ | refine G_loadV0 ?_ | refine G_loadV2 ?_ | (refine G_append ?_; intro _ _) | (refine G_appendN ?_; intro _ _) | refine G_not ?_ | refine G_index ?_ | refine G_indexA ?_ | refine G_indexS ?_ | refine G_conv64 ?_ | refine G_conv8 ?_ | refine G_convu ?_ | refine G_conv ?_ | refine G_build ?_ | refine G_slh ?_ | refine G_slo ?_ | refine G_shi ?_ | refine G_cat ?_ | refine G_min ?_ | refine G_max ?_ | refine G_neg64 ?_ | refine G_eql_agg ?_ | refine G_neq_agg ?_ | refine G_bytesP ?_ | refine G_bytesstr ?_ | refine G_call ?_ | refine G_call0 ?_ | refine G_callv ?_ | refine G_callv0 ?_ | (refine G_box ?_; intro _) | (refine G_alloc ?_; intro _) | (refine G_buildSlice ?_; intro _) | (refine G_strrow ?_; intro _ _) | (refine G_indexV ?_; intro _ _ hA; subst hA) | (refine G_sliceR ?_; intro _) | (refine G_sliceO ?_; intro _) | refine G_skip ?_ | refine G_skip0 ?_)
      | (show spl _ _ _; first | refine spl_no rfl ?_ | refine spl_yes rfl ?_)
      | (show evC _ _ _ _ _; first | refine c_seq ?_ | refine c_region (by exact rfl) ?_ | refine c_cond (by exact rfl) ?_ | refine c_ret ?_ | refine c_skip ?_ | refine c_block ?_ | refine c_exit ?_  | refine c_draw (by exact rfl) (by decide +kernel) (by exact rfl) ?_ | refine c_drawT (by exact rfl) (by decide +kernel) (by exact rfl) ?_ | refine c_scope ?_ | refine c_label ?_)
      | (show Br _ _ _; first | refine Br.t rfl ?_ | refine Br.f rfl ?_ | refine Br.t (beq_self_eq_true _) ?_ | refine Br.f (not_beq_self _) ?_ | refine Br.t (by assumption) ?_ | refine Br.f (by assumption) ?_ | refine Br.t (nb_f (by assumption)) ?_ | refine Br.f (nb_t (by assumption)) ?_ | (refine Br.mk (fun h => ?_) (fun h => ?_) <;> (try simp only [Bool.and_eq_true, Bool.or_eq_true, Bool.and_eq_false_iff, Bool.or_eq_false_iff, decide_eq_true_eq, decide_eq_false_iff_not, beq_iff_eq, bne_iff_ne, beq_eq_false_iff_ne, bne_eq_false_iff_eq, ne_eq, Bool.not_eq_true', Bool.not_eq_false', not_true_eq_false, not_false_eq_true, Int.not_lt, Int.not_le, gt_iff_lt, ge_iff_le] at h) <;> (try (first | contradiction | (exfalso; omega)))))
      | (show thenC _ _ _ _ _; first | refine t_n ?_ | refine t_r ?_ | refine t_e ?_)
      | (show inBlockC _ _ _ _ _; first | refine b_n ?_ | refine b_r ?_ | refine b_hit rfl ?_ | refine b_miss rfl ?_)
      | (show noGotoC _ _ _ _; first | refine g_n ?_ | refine g_r ?_ | refine g_e ?_)
      | (show evG _ _ _ _ _ _ _; first | refine G_storeE ?_ | refine G_storeE0 ?_ | (refine G_appendU ?_; intro _ _) | (refine G_appendNU ?_; intro _ _) | (refine G_appendZU ?_; intro _ _) | (refine G_buildSlice0 ?_; intro _)))
    all_goals (refine RETC ?_; exact ret_done (hK _ _))
end Go.Proofs.Ytgdfmbnbknhhiaa
