/- Trace: Lay and All, Of and Data, the next move: lemmas; each with the conditions that it states. -/

import Derived.Test.YtgdfmbnbknhhiaaJ1
namespace Go.Proofs.Ytgdfmbnbknhhiaa
open Go Go.Proofs Go.Sl
set_option maxRecDepth 100000
set_option maxHeartbeats 4000000
set_option linter.unusedSimpArgs false
set_option linter.unusedVariables false
attribute [local irreducible] evG evC spl thenC inBlockC noGotoC CallT retC RetG TurnG CutG pt ro exP star sep pureP
variable {R C : List HP} {K : Value → List HP → Prop}
def Mv.ok (m : Mv) : Bool := mvOk m.w m.st m.n m.s
def Mv.b (m : Mv) : List UInt8 := oneL m.w m.st m.n m.s m.e
/-- moves' bytes -/
def allL (l : List Mv) : List UInt8 := l.flatMap Mv.b
theorem allL_snoc (l : List Mv) (m : Mv) : allL (l ++ [m]) = allL l ++ m.b := by simp [allL]
theorem mv_len {m : Mv} (h : m.ok = true) : m.b.length ≤ 268 := by
  unfold Mv.ok mvOk at h
  simp only [Bool.and_eq_true, decide_eq_true_eq] at h
  unfold Mv.b
  rw [oneL_len]; omega
theorem allL_len : ∀ {l : List Mv}, l.all Mv.ok = true → (allL l).length ≤ 268 * l.length
  | [], _ => by simp [allL]
  | m :: l, h => by
    simp only [List.all_cons, Bool.and_eq_true] at h
    have h1 := mv_len h.1
    have h2 := allL_len h.2
    have : allL (m :: l) = m.b ++ allL l := rfl
    rw [this, List.length_append, List.length_cons]
    omega
def layLE (l : List Mv) : Int := if 256 < l.length then 4 else if l.all Mv.ok = true then 0 else 2
def layLS (l : List Mv) : ByteArray := if layLE l = 0 then ⟨(allL l).toArray⟩ else ⟨#[]⟩
theorem tlay_ok {A : Option Addr} {n c : Nat} {xs : List Mv} (hv : View C A mvC xs) (hn : xs.length = n) (hn2 : n < 1000000000000000) (hK : K (.tuple #[.string (layLS xs), .int .i64 (layLE xs)]) C) : CallT Try.prog 30 #[.slice A n c] C K := by
  by_cases hbig : 256 < n
  · have e1 : layLE xs = 4 := by unfold layLE; rw [if_pos (by omega)]
    have e2 : layLS xs = ⟨#[]⟩ := by unfold layLS; rw [e1]; rfl
    rw [e1, e2] at hK
    refine callT_intro mixed Try.func30 rfl (by decide) (by decide +kernel) (by exact Nat.le_of_ble_eq_true rfl) ?_
    repeat' (first
      | (show evG _ _ _ _ _ _ _; first | refine G_andNot0 ?_ | refine G_andNot1 ?_ | refine G_add64 ?_ | refine G_sub64 ?_ | refine G_mul64 ?_ | refine G_quo ?_ | refine G_rem ?_ | refine G_shl8 ?_ | refine G_orb ?_ | refine G_shr ?_ | refine G_pure0 ?_ | refine G_load ?_ | refine evG_nil ?_ | refine G_br ?_ ?_ | refine G_field ?_ | refine G_pure ?_ | refine G_store ?_ | refine G_loadV ?_ | refine G_loadV0 ?_ | refine G_loadV2 ?_ | (refine G_append ?_; intro _ _) | (refine G_appendN ?_; intro _ _) | refine G_not ?_ | refine G_index ?_ | refine G_indexA ?_ | refine G_indexS ?_ | refine G_conv64 ?_ | refine G_conv8 ?_ | refine G_convu ?_ | refine G_conv ?_ | refine G_build ?_ | refine G_slh ?_ | refine G_slo ?_ | refine G_shi ?_ | refine G_cat ?_ | refine G_min ?_ | refine G_max ?_ | refine G_neg64 ?_ | refine G_eql_agg ?_ | refine G_neq_agg ?_ | refine G_bytesP ?_ | refine G_bytesstr ?_ | refine G_call ?_ | refine G_call0 ?_ | refine G_callv ?_ | refine G_callv0 ?_ | (refine G_box ?_; intro _) | (refine G_alloc ?_; intro _) | (refine G_buildSlice ?_; intro _) | (refine G_strrow ?_; intro _ _) | (refine G_indexV ?_; intro _ _ hA; subst hA) | (refine G_sliceR ?_; intro _) | (refine G_sliceO ?_; intro _) | refine G_skip ?_ | refine G_skip0 ?_)
      | (show spl _ _ _; first | refine spl_no rfl ?_ | refine spl_yes rfl ?_)
      | (show evC _ _ _ _ _; first | refine c_seq ?_ | refine c_region (by exact rfl) ?_ | refine c_cond (by exact rfl) ?_ | refine c_ret ?_ | refine c_skip ?_ | refine c_block ?_ | refine c_exit ?_  | refine c_draw (by exact rfl) (by decide +kernel) (by exact rfl) ?_ | refine c_drawT (by exact rfl) (by decide +kernel) (by exact rfl) ?_ | refine c_scope ?_ | refine c_label ?_)
      | (show Br _ _ _; first | refine Br.t rfl ?_ | refine Br.f rfl ?_ | refine Br.t (beq_self_eq_true _) ?_ | refine Br.f (not_beq_self _) ?_ | refine Br.t (by assumption) ?_ | refine Br.f (by assumption) ?_ | refine Br.t (nb_f (by assumption)) ?_ | refine Br.f (nb_t (by assumption)) ?_ | (refine Br.mk (fun h => ?_) (fun h => ?_) <;> (try simp only [Bool.and_eq_true, Bool.or_eq_true, Bool.and_eq_false_iff, Bool.or_eq_false_iff, decide_eq_true_eq, decide_eq_false_iff_not, beq_iff_eq, bne_iff_ne, beq_eq_false_iff_ne, bne_eq_false_iff_eq, ne_eq, Bool.not_eq_true', Bool.not_eq_false', not_true_eq_false, not_false_eq_true, Int.not_lt, Int.not_le, gt_iff_lt, ge_iff_le] at h) <;> (try (first | contradiction | (exfalso; omega)))))
      | (show thenC _ _ _ _ _; first | refine t_n ?_ | refine t_r ?_ | refine t_e ?_)
      | (show inBlockC _ _ _ _ _; first | refine b_n ?_ | refine b_r ?_ | refine b_hit rfl ?_ | refine b_miss rfl ?_)
      | (show noGotoC _ _ _ _; first | refine g_n ?_ | refine g_r ?_ | refine g_e ?_))
    (refine RETC ?_; exact ret_done (hK))
  refine callT_intro mixed Try.func30 rfl (by decide) (by decide +kernel) (by exact Nat.le_of_ble_eq_true rfl) ?_
  repeat' (first
    | (show evG _ _ _ _ _ _ _; first | refine G_andNot0 ?_ | refine G_andNot1 ?_ | refine G_add64 ?_ | refine G_sub64 ?_ | refine G_mul64 ?_ | refine G_quo ?_ | refine G_rem ?_ | refine G_shl8 ?_ | refine G_orb ?_ | refine G_shr ?_ | refine G_pure0 ?_ | refine G_load ?_ | refine evG_nil ?_ | refine G_br ?_ ?_ | refine G_field ?_ | refine G_pure ?_ | refine G_store ?_ | refine G_loadV ?_ | refine G_loadV0 ?_ | refine G_loadV2 ?_ | (refine G_append ?_; intro _ _) | (refine G_appendN ?_; intro _ _) | refine G_not ?_ | refine G_index ?_ | refine G_indexA ?_ | refine G_indexS ?_ | refine G_conv64 ?_ | refine G_conv8 ?_ | refine G_convu ?_ | refine G_conv ?_ | refine G_build ?_ | refine G_slh ?_ | refine G_slo ?_ | refine G_shi ?_ | refine G_cat ?_ | refine G_min ?_ | refine G_max ?_ | refine G_neg64 ?_ | refine G_eql_agg ?_ | refine G_neq_agg ?_ | refine G_bytesP ?_ | refine G_bytesstr ?_ | refine G_call ?_ | refine G_call0 ?_ | refine G_callv ?_ | refine G_callv0 ?_ | (refine G_box ?_; intro _) | (refine G_alloc ?_; intro _) | (refine G_buildSlice ?_; intro _) | (refine G_strrow ?_; intro _ _) | (refine G_indexV ?_; intro _ _ hA; subst hA) | (refine G_sliceR ?_; intro _) | (refine G_sliceO ?_; intro _) | refine G_skip ?_ | refine G_skip0 ?_)
    | (show spl _ _ _; first | refine spl_no rfl ?_ | refine spl_yes rfl ?_)
    | (show evC _ _ _ _ _; first | refine c_seq ?_ | refine c_region (by exact rfl) ?_ | refine c_cond (by exact rfl) ?_ | refine c_ret ?_ | refine c_skip ?_ | refine c_block ?_ | refine c_exit ?_  | refine c_draw (by exact rfl) (by decide +kernel) (by exact rfl) ?_ | refine c_drawT (by exact rfl) (by decide +kernel) (by exact rfl) ?_ | refine c_scope ?_ | refine c_label ?_)
    | (show Br _ _ _; first | refine Br.t rfl ?_ | refine Br.f rfl ?_ | refine Br.t (beq_self_eq_true _) ?_ | refine Br.f (not_beq_self _) ?_ | refine Br.t (by assumption) ?_ | refine Br.f (by assumption) ?_ | refine Br.t (nb_f (by assumption)) ?_ | refine Br.f (nb_t (by assumption)) ?_ | (refine Br.mk (fun h => ?_) (fun h => ?_) <;> (try simp only [Bool.and_eq_true, Bool.or_eq_true, Bool.and_eq_false_iff, Bool.or_eq_false_iff, decide_eq_true_eq, decide_eq_false_iff_not, beq_iff_eq, bne_iff_ne, beq_eq_false_iff_ne, bne_eq_false_iff_eq, ne_eq, Bool.not_eq_true', Bool.not_eq_false', not_true_eq_false, not_false_eq_true, Int.not_lt, Int.not_le, gt_iff_lt, ge_iff_le] at h) <;> (try (first | contradiction | (exfalso; omega)))))
    | (show thenC _ _ _ _ _; first | refine t_n ?_ | refine t_r ?_ | refine t_e ?_)
    | (show inBlockC _ _ _ _ _; first | refine b_n ?_ | refine b_r ?_ | refine b_hit rfl ?_ | refine b_miss rfl ?_)
    | (show noGotoC _ _ _ _; first | refine g_n ?_ | refine g_r ?_ | refine g_e ?_))
  refine LOOP (fun m a C' => ∃ (j : Nat) (B : Option Addr) (k : Nat), j + m = n ∧ C' = row B k 5 byteC (allL (xs.take j)) :: C ∧ (xs.take j).all Mv.ok = true ∧ Agree a [(4, .slice B (allL (xs.take j)).length k), (11, .slice A n c), (12, .int .i64 n), (13, .int .i64 j)]) n
    (turn n ⟨0, none, 0, by omega, rfl, rfl, rfl, rfl, rfl, rfl, trivial⟩) ?_
  rintro n1 a C' ⟨j, B, k, hj, rfl, hall, ha⟩
  refine c_fr _ ha ?_
  simp only [updL]
  have hlen := allL_len hall
  rw [List.length_take] at hlen
  have hv2 : View (row B k 5 byteC (allL (xs.take j)) :: C) A mvC xs := view_there hv
  by_cases hlt : j < n
  · obtain ⟨x, hp, hd⟩ := at_drop (l := xs) (j := j) (by omega)
    have ht : xs.take (j + 1) = xs.take j ++ [x] := by rw [List.take_add_one, hp]; rfl
    cases hok : mvOk x.w x.st x.n x.s
    · have e1 : layLE xs = 2 := by
        unfold layLE
        rw [if_neg (by omega), if_neg]
        intro h
        have := List.all_eq_true.1 h x (List.mem_of_getElem? hp)
        unfold Mv.ok at this
        rw [hok] at this; cases this
      have e2 : layLS xs = ⟨#[]⟩ := by unfold layLS; rw [e1]; rfl
      rw [e1, e2] at hK
      repeat' (first
        | (show evG _ _ _ _ _ _ _; first | refine G_andNot0 ?_ | refine G_andNot1 ?_ | refine G_add64 ?_ | refine G_sub64 ?_ | refine G_mul64 ?_ | refine G_quo ?_ | refine G_rem ?_ | refine G_shl8 ?_ | refine G_orb ?_ | refine G_shr ?_ | refine G_pure0 ?_ | refine G_load ?_ | refine evG_nil ?_ | refine G_br ?_ ?_ | refine G_field ?_ | refine G_pure ?_ | refine G_store ?_ | refine G_loadV ?_ | refine G_loadV0 ?_ | refine G_loadV2 ?_ | (refine G_append ?_; intro _ _) | (refine G_appendN ?_; intro _ _) | refine G_not ?_ | refine G_index ?_ | refine G_indexA ?_ | refine G_indexS ?_ | refine G_conv64 ?_ | refine G_conv8 ?_ | refine G_convu ?_ | refine G_conv ?_ | refine G_build ?_ | refine G_slh ?_ | refine G_slo ?_ | refine G_shi ?_ | refine G_cat ?_ | refine G_min ?_ | refine G_max ?_ | refine G_neg64 ?_ | refine G_eql_agg ?_ | refine G_neq_agg ?_ | refine G_bytesP ?_ | refine G_bytesstr ?_ | refine G_call ?_ | refine G_call0 ?_ | refine G_callv ?_ | refine G_callv0 ?_ | (refine G_box ?_; intro _) | (refine G_alloc ?_; intro _) | (refine G_buildSlice ?_; intro _) | (refine G_strrow ?_; intro _ _) | (refine G_indexV ?_; intro _ _ hA; subst hA) | (refine G_sliceR ?_; intro _) | (refine G_sliceO ?_; intro _) | refine G_skip ?_ | refine G_skip0 ?_)
        | (show spl _ _ _; first | refine spl_no rfl ?_ | refine spl_yes rfl ?_)
        | (show evC _ _ _ _ _; first | refine c_seq ?_ | refine c_region (by exact rfl) ?_ | refine c_cond (by exact rfl) ?_ | refine c_ret ?_ | refine c_skip ?_ | refine c_block ?_ | refine c_exit ?_  | refine c_draw (by exact rfl) (by decide +kernel) (by exact rfl) ?_ | refine c_drawT (by exact rfl) (by decide +kernel) (by exact rfl) ?_ | refine c_scope ?_ | refine c_label ?_)
        | (show Br _ _ _; first | refine Br.t rfl ?_ | refine Br.f rfl ?_ | refine Br.t (beq_self_eq_true _) ?_ | refine Br.f (not_beq_self _) ?_ | refine Br.t (by assumption) ?_ | refine Br.f (by assumption) ?_ | refine Br.t (nb_f (by assumption)) ?_ | refine Br.f (nb_t (by assumption)) ?_ | (refine Br.mk (fun h => ?_) (fun h => ?_) <;> (try simp only [Bool.and_eq_true, Bool.or_eq_true, Bool.and_eq_false_iff, Bool.or_eq_false_iff, decide_eq_true_eq, decide_eq_false_iff_not, beq_iff_eq, bne_iff_ne, beq_eq_false_iff_ne, bne_eq_false_iff_eq, ne_eq, Bool.not_eq_true', Bool.not_eq_false', not_true_eq_false, not_false_eq_true, Int.not_lt, Int.not_le, gt_iff_lt, ge_iff_le] at h) <;> (try (first | contradiction | (exfalso; omega)))))
        | (show thenC _ _ _ _ _; first | refine t_n ?_ | refine t_r ?_ | refine t_e ?_)
        | (show inBlockC _ _ _ _ _; first | refine b_n ?_ | refine b_r ?_ | refine b_hit rfl ?_ | refine b_miss rfl ?_)
        | (show noGotoC _ _ _ _; first | refine g_n ?_ | refine g_r ?_ | refine g_e ?_)
        | (show CallT _ 28 _ _ _; refine CA (h := tcheckB_ok (by assumption) ?_)))
      (refine RETC ?_; exact ret_done (hK))
    · have hone := one_lay (e := x.e) hok
      have hxl : x.b.length ≤ 268 := mv_len hok
      have hol : (layS (mvPs x.w x.st x.n x.s x.e)).data.toList.length ≤ 268 := by rw [hone]; exact hxl
      have hn1 : allL (xs.take (j + 1)) = allL (xs.take j) ++ (layS (mvPs x.w x.st x.n x.s x.e)).data.toList := by rw [ht, allL_snoc, hone]; rfl
      repeat' (first
        | (show evG _ _ _ _ _ _ _; first | refine G_andNot0 ?_ | refine G_andNot1 ?_ | refine G_add64 ?_ | refine G_sub64 ?_ | refine G_mul64 ?_ | refine G_quo ?_ | refine G_rem ?_ | refine G_shl8 ?_ | refine G_orb ?_ | refine G_shr ?_ | refine G_pure0 ?_ | refine G_load ?_ | refine evG_nil ?_ | refine G_br ?_ ?_ | refine G_field ?_ | refine G_pure ?_ | refine G_store ?_ | refine G_loadV ?_ | refine G_loadV0 ?_ | refine G_loadV2 ?_ | (refine G_append ?_; intro _ _) | (refine G_appendN ?_; intro _ _) | refine G_not ?_ | refine G_index ?_ | refine G_indexA ?_ | refine G_indexS ?_ | refine G_conv64 ?_ | refine G_conv8 ?_ | refine G_convu ?_ | refine G_conv ?_ | refine G_build ?_ | refine G_slh ?_ | refine G_slo ?_ | refine G_shi ?_ | refine G_cat ?_ | refine G_min ?_ | refine G_max ?_ | refine G_neg64 ?_ | refine G_eql_agg ?_ | refine G_neq_agg ?_ | refine G_bytesP ?_ | refine G_bytesstr ?_ | refine G_call ?_ | refine G_call0 ?_ | refine G_callv ?_ | refine G_callv0 ?_ | (refine G_box ?_; intro _) | (refine G_alloc ?_; intro _) | (refine G_buildSlice ?_; intro _) | (refine G_strrow ?_; intro _ _) | (refine G_indexV ?_; intro _ _ hA; subst hA) | (refine G_sliceR ?_; intro _) | (refine G_sliceO ?_; intro _) | refine G_skip ?_ | refine G_skip0 ?_)
        | (show spl _ _ _; first | refine spl_no rfl ?_ | refine spl_yes rfl ?_)
        | (show evC _ _ _ _ _; first | refine c_seq ?_ | refine c_region (by exact rfl) ?_ | refine c_cond (by exact rfl) ?_ | refine c_ret ?_ | refine c_skip ?_ | refine c_block ?_ | refine c_exit ?_  | refine c_draw (by exact rfl) (by decide +kernel) (by exact rfl) ?_ | refine c_drawT (by exact rfl) (by decide +kernel) (by exact rfl) ?_ | refine c_scope ?_ | refine c_label ?_)
        | (show Br _ _ _; first | refine Br.t rfl ?_ | refine Br.f rfl ?_ | refine Br.t (beq_self_eq_true _) ?_ | refine Br.f (not_beq_self _) ?_ | refine Br.t (by assumption) ?_ | refine Br.f (by assumption) ?_ | refine Br.t (nb_f (by assumption)) ?_ | refine Br.f (nb_t (by assumption)) ?_ | (refine Br.mk (fun h => ?_) (fun h => ?_) <;> (try simp only [Bool.and_eq_true, Bool.or_eq_true, Bool.and_eq_false_iff, Bool.or_eq_false_iff, decide_eq_true_eq, decide_eq_false_iff_not, beq_iff_eq, bne_iff_ne, beq_eq_false_iff_ne, bne_eq_false_iff_eq, ne_eq, Bool.not_eq_true', Bool.not_eq_false', not_true_eq_false, not_false_eq_true, Int.not_lt, Int.not_le, gt_iff_lt, ge_iff_le] at h) <;> (try (first | contradiction | (exfalso; omega)))))
        | (show thenC _ _ _ _ _; first | refine t_n ?_ | refine t_r ?_ | refine t_e ?_)
        | (show inBlockC _ _ _ _ _; first | refine b_n ?_ | refine b_r ?_ | refine b_hit rfl ?_ | refine b_miss rfl ?_)
        | (show noGotoC _ _ _ _; first | refine g_n ?_ | refine g_r ?_ | refine g_e ?_)
        | (show CallT _ 28 _ _ _; refine CA (h := tcheckA_ok (by assumption) ?_))
        | (show CallT _ 64 _ _ _; refine CA (h := tone_ok ?_)))
      refine turn (n1 - 1) ⟨j + 1, _, _, by omega, by rw [hn1], ?_, by rw [hn1]; rfl, rfl, rfl, rfl, trivial⟩
      rw [ht, List.all_append, hall]
      simp only [List.all_cons, List.all_nil, Bool.and_true, Bool.true_and]
      exact hok
  · obtain rfl : j = n := by omega
    rw [List.take_of_length_le (by omega)] at hall ⊢
    have e1 : layLE xs = 0 := by unfold layLE; rw [if_neg (by omega), if_pos hall]
    have e2 : layLS xs = ⟨(allL xs).toArray⟩ := by unfold layLS; rw [if_pos e1]
    rw [e1, e2] at hK
    repeat' (first
      | (show evG _ _ _ _ _ _ _; first | refine G_andNot0 ?_ | refine G_andNot1 ?_ | refine G_add64 ?_ | refine G_sub64 ?_ | refine G_mul64 ?_ | refine G_quo ?_ | refine G_rem ?_ | refine G_shl8 ?_ | refine G_orb ?_ | refine G_shr ?_ | refine G_pure0 ?_ | refine G_load ?_ | refine evG_nil ?_ | refine G_br ?_ ?_ | refine G_field ?_ | refine G_pure ?_ | refine G_store ?_ | refine G_loadV ?_ | refine G_loadV0 ?_ | refine G_loadV2 ?_ | (refine G_append ?_; intro _ _) | (refine G_appendN ?_; intro _ _) | refine G_not ?_ | refine G_index ?_ | refine G_indexA ?_ | refine G_indexS ?_ | refine G_conv64 ?_ | refine G_conv8 ?_ | refine G_convu ?_ | refine G_conv ?_ | refine G_build ?_ | refine G_slh ?_ | refine G_slo ?_ | refine G_shi ?_ | refine G_cat ?_ | refine G_min ?_ | refine G_max ?_ | refine G_neg64 ?_ | refine G_eql_agg ?_ | refine G_neq_agg ?_ | refine G_bytesP ?_ | refine G_bytesstr ?_ | refine G_call ?_ | refine G_call0 ?_ | refine G_callv ?_ | refine G_callv0 ?_ | (refine G_box ?_; intro _) | (refine G_alloc ?_; intro _) | (refine G_buildSlice ?_; intro _) | (refine G_strrow ?_; intro _ _) | (refine G_indexV ?_; intro _ _ hA; subst hA) | (refine G_sliceR ?_; intro _) | (refine G_sliceO ?_; intro _) | refine G_skip ?_ | refine G_skip0 ?_)
      | (show spl _ _ _; first | refine spl_no rfl ?_ | refine spl_yes rfl ?_)
      | (show evC _ _ _ _ _; first | refine c_seq ?_ | refine c_region (by exact rfl) ?_ | refine c_cond (by exact rfl) ?_ | refine c_ret ?_ | refine c_skip ?_ | refine c_block ?_ | refine c_exit ?_  | refine c_draw (by exact rfl) (by decide +kernel) (by exact rfl) ?_ | refine c_drawT (by exact rfl) (by decide +kernel) (by exact rfl) ?_ | refine c_scope ?_ | refine c_label ?_)
      | (show Br _ _ _; first | refine Br.t rfl ?_ | refine Br.f rfl ?_ | refine Br.t (beq_self_eq_true _) ?_ | refine Br.f (not_beq_self _) ?_ | refine Br.t (by assumption) ?_ | refine Br.f (by assumption) ?_ | refine Br.t (nb_f (by assumption)) ?_ | refine Br.f (nb_t (by assumption)) ?_ | (refine Br.mk (fun h => ?_) (fun h => ?_) <;> (try simp only [Bool.and_eq_true, Bool.or_eq_true, Bool.and_eq_false_iff, Bool.or_eq_false_iff, decide_eq_true_eq, decide_eq_false_iff_not, beq_iff_eq, bne_iff_ne, beq_eq_false_iff_ne, bne_eq_false_iff_eq, ne_eq, Bool.not_eq_true', Bool.not_eq_false', not_true_eq_false, not_false_eq_true, Int.not_lt, Int.not_le, gt_iff_lt, ge_iff_le] at h) <;> (try (first | contradiction | (exfalso; omega)))))
      | (show thenC _ _ _ _ _; first | refine t_n ?_ | refine t_r ?_ | refine t_e ?_)
      | (show inBlockC _ _ _ _ _; first | refine b_n ?_ | refine b_r ?_ | refine b_hit rfl ?_ | refine b_miss rfl ?_)
      | (show noGotoC _ _ _ _; first | refine g_n ?_ | refine g_r ?_ | refine g_e ?_))
    (refine RETC ?_; exact ret_done (hK))
theorem rall_ok {A : Option Addr} {n c : Nat} {xs : List Mv} (hv : View C A mvC xs) (hn : xs.length = n) (hn2 : n ≤ 256) (hall : xs.all Mv.ok = true) (hK : K (.string ⟨(allL xs).toArray⟩) C) : CallT Try.prog 31 #[.slice A n c] C K := by
  refine callT_intro mixed Try.func31 rfl (by decide) (by decide +kernel) (by exact Nat.le_of_ble_eq_true rfl) ?_
  repeat' (first
    | (show evG _ _ _ _ _ _ _; first | refine G_andNot0 ?_ | refine G_andNot1 ?_ | refine G_add64 ?_ | refine G_sub64 ?_ | refine G_mul64 ?_ | refine G_quo ?_ | refine G_rem ?_ | refine G_shl8 ?_ | refine G_orb ?_ | refine G_shr ?_ | refine G_pure0 ?_ | refine G_load ?_ | refine evG_nil ?_ | refine G_br ?_ ?_ | refine G_field ?_ | refine G_pure ?_ | refine G_store ?_ | refine G_loadV ?_ | refine G_loadV0 ?_ | refine G_loadV2 ?_ | (refine G_append ?_; intro _ _) | (refine G_appendN ?_; intro _ _) | refine G_not ?_ | refine G_index ?_ | refine G_indexA ?_ | refine G_indexS ?_ | refine G_conv64 ?_ | refine G_conv8 ?_ | refine G_convu ?_ | refine G_conv ?_ | refine G_build ?_ | refine G_slh ?_ | refine G_slo ?_ | refine G_shi ?_ | refine G_cat ?_ | refine G_min ?_ | refine G_max ?_ | refine G_neg64 ?_ | refine G_eql_agg ?_ | refine G_neq_agg ?_ | refine G_bytesP ?_ | refine G_bytesstr ?_ | refine G_call ?_ | refine G_call0 ?_ | refine G_callv ?_ | refine G_callv0 ?_ | (refine G_box ?_; intro _) | (refine G_alloc ?_; intro _) | (refine G_buildSlice ?_; intro _) | (refine G_strrow ?_; intro _ _) | (refine G_indexV ?_; intro _ _ hA; subst hA) | (refine G_sliceR ?_; intro _) | (refine G_sliceO ?_; intro _) | refine G_skip ?_ | refine G_skip0 ?_)
    | (show spl _ _ _; first | refine spl_no rfl ?_ | refine spl_yes rfl ?_)
    | (show evC _ _ _ _ _; first | refine c_seq ?_ | refine c_region (by exact rfl) ?_ | refine c_cond (by exact rfl) ?_ | refine c_ret ?_ | refine c_skip ?_ | refine c_block ?_ | refine c_exit ?_  | refine c_draw (by exact rfl) (by decide +kernel) (by exact rfl) ?_ | refine c_drawT (by exact rfl) (by decide +kernel) (by exact rfl) ?_ | refine c_scope ?_ | refine c_label ?_)
    | (show Br _ _ _; first | refine Br.t rfl ?_ | refine Br.f rfl ?_ | refine Br.t (beq_self_eq_true _) ?_ | refine Br.f (not_beq_self _) ?_ | refine Br.t (by assumption) ?_ | refine Br.f (by assumption) ?_ | refine Br.t (nb_f (by assumption)) ?_ | refine Br.f (nb_t (by assumption)) ?_ | (refine Br.mk (fun h => ?_) (fun h => ?_) <;> (try simp only [Bool.and_eq_true, Bool.or_eq_true, Bool.and_eq_false_iff, Bool.or_eq_false_iff, decide_eq_true_eq, decide_eq_false_iff_not, beq_iff_eq, bne_iff_ne, beq_eq_false_iff_ne, bne_eq_false_iff_eq, ne_eq, Bool.not_eq_true', Bool.not_eq_false', not_true_eq_false, not_false_eq_true, Int.not_lt, Int.not_le, gt_iff_lt, ge_iff_le] at h) <;> (try (first | contradiction | (exfalso; omega)))))
    | (show thenC _ _ _ _ _; first | refine t_n ?_ | refine t_r ?_ | refine t_e ?_)
    | (show inBlockC _ _ _ _ _; first | refine b_n ?_ | refine b_r ?_ | refine b_hit rfl ?_ | refine b_miss rfl ?_)
    | (show noGotoC _ _ _ _; first | refine g_n ?_ | refine g_r ?_ | refine g_e ?_))
  refine LOOP (fun m a C' => ∃ (j : Nat), j + m = n ∧ C' = C ∧ Agree a [(3, .string ⟨(allL (xs.take j)).toArray⟩), (0, .slice A n c), (4, .int .i64 j)]) n
    (turn n ⟨0, by omega, rfl, rfl, rfl, rfl, trivial⟩) ?_
  rintro n1 a C' ⟨j, hj, rfl, ha⟩
  refine c_fr _ ha ?_
  simp only [updL]
  by_cases hlt : j < n
  · obtain ⟨x, hp, hd⟩ := at_drop (l := xs) (j := j) (by omega)
    have ht : xs.take (j + 1) = xs.take j ++ [x] := by rw [List.take_add_one, hp]; rfl
    have hok : mvOk x.w x.st x.n x.s = true := List.all_eq_true.1 hall x (List.mem_of_getElem? hp)
    have hxl : x.b.length ≤ 268 := mv_len hok
    have hl := allL_len (l := xs.take j) (List.all_eq_true.2 fun y hy => List.all_eq_true.1 hall y (List.mem_of_mem_take hy))
    rw [List.length_take] at hl
    have hs1 : (ByteArray.mk (allL (xs.take j)).toArray).size ≤ 100000 := by rw [ba_size]; omega
    have hs2 : (ByteArray.mk (oneL x.w x.st x.n x.s x.e).toArray).size ≤ 268 := by rw [ba_size]; exact hxl
    repeat' (first
      | (show evG _ _ _ _ _ _ _; first | refine G_andNot0 ?_ | refine G_andNot1 ?_ | refine G_add64 ?_ | refine G_sub64 ?_ | refine G_mul64 ?_ | refine G_quo ?_ | refine G_rem ?_ | refine G_shl8 ?_ | refine G_orb ?_ | refine G_shr ?_ | refine G_pure0 ?_ | refine G_load ?_ | refine evG_nil ?_ | refine G_br ?_ ?_ | refine G_field ?_ | refine G_pure ?_ | refine G_store ?_ | refine G_loadV ?_ | refine G_loadV0 ?_ | refine G_loadV2 ?_ | (refine G_append ?_; intro _ _) | (refine G_appendN ?_; intro _ _) | refine G_not ?_ | refine G_index ?_ | refine G_indexA ?_ | refine G_indexS ?_ | refine G_conv64 ?_ | refine G_conv8 ?_ | refine G_convu ?_ | refine G_conv ?_ | refine G_build ?_ | refine G_slh ?_ | refine G_slo ?_ | refine G_shi ?_ | refine G_cat ?_ | refine G_min ?_ | refine G_max ?_ | refine G_neg64 ?_ | refine G_eql_agg ?_ | refine G_neq_agg ?_ | refine G_bytesP ?_ | refine G_bytesstr ?_ | refine G_call ?_ | refine G_call0 ?_ | refine G_callv ?_ | refine G_callv0 ?_ | (refine G_box ?_; intro _) | (refine G_alloc ?_; intro _) | (refine G_buildSlice ?_; intro _) | (refine G_strrow ?_; intro _ _) | (refine G_indexV ?_; intro _ _ hA; subst hA) | (refine G_sliceR ?_; intro _) | (refine G_sliceO ?_; intro _) | refine G_skip ?_ | refine G_skip0 ?_)
      | (show spl _ _ _; first | refine spl_no rfl ?_ | refine spl_yes rfl ?_)
      | (show evC _ _ _ _ _; first | refine c_seq ?_ | refine c_region (by exact rfl) ?_ | refine c_cond (by exact rfl) ?_ | refine c_ret ?_ | refine c_skip ?_ | refine c_block ?_ | refine c_exit ?_  | refine c_draw (by exact rfl) (by decide +kernel) (by exact rfl) ?_ | refine c_drawT (by exact rfl) (by decide +kernel) (by exact rfl) ?_ | refine c_scope ?_ | refine c_label ?_)
      | (show Br _ _ _; first | refine Br.t rfl ?_ | refine Br.f rfl ?_ | refine Br.t (beq_self_eq_true _) ?_ | refine Br.f (not_beq_self _) ?_ | refine Br.t (by assumption) ?_ | refine Br.f (by assumption) ?_ | refine Br.t (nb_f (by assumption)) ?_ | refine Br.f (nb_t (by assumption)) ?_ | (refine Br.mk (fun h => ?_) (fun h => ?_) <;> (try simp only [Bool.and_eq_true, Bool.or_eq_true, Bool.and_eq_false_iff, Bool.or_eq_false_iff, decide_eq_true_eq, decide_eq_false_iff_not, beq_iff_eq, bne_iff_ne, beq_eq_false_iff_ne, bne_eq_false_iff_eq, ne_eq, Bool.not_eq_true', Bool.not_eq_false', not_true_eq_false, not_false_eq_true, Int.not_lt, Int.not_le, gt_iff_lt, ge_iff_le] at h) <;> (try (first | contradiction | (exfalso; omega)))))
      | (show thenC _ _ _ _ _; first | refine t_n ?_ | refine t_r ?_ | refine t_e ?_)
      | (show inBlockC _ _ _ _ _; first | refine b_n ?_ | refine b_r ?_ | refine b_hit rfl ?_ | refine b_miss rfl ?_)
      | (show noGotoC _ _ _ _; first | refine g_n ?_ | refine g_r ?_ | refine g_e ?_)
      | (show CallT _ 65 _ _ _; refine CA (h := rone_ok (by assumption) ?_)))
    refine turn (n1 - 1) ⟨j + 1, by omega, rfl, ?_, rfl, rfl, trivial⟩
    show Value.string _ = Value.string _
    rw [ht, allL_snoc]
    exact congrArg Value.string (ba_ext (by simp [Mv.b]))
  · obtain rfl : j = n := by omega
    rw [List.take_of_length_le (by omega)]
    repeat' (first
      | (show evG _ _ _ _ _ _ _; first | refine G_andNot0 ?_ | refine G_andNot1 ?_ | refine G_add64 ?_ | refine G_sub64 ?_ | refine G_mul64 ?_ | refine G_quo ?_ | refine G_rem ?_ | refine G_shl8 ?_ | refine G_orb ?_ | refine G_shr ?_ | refine G_pure0 ?_ | refine G_load ?_ | refine evG_nil ?_ | refine G_br ?_ ?_ | refine G_field ?_ | refine G_pure ?_ | refine G_store ?_ | refine G_loadV ?_ | refine G_loadV0 ?_ | refine G_loadV2 ?_ | (refine G_append ?_; intro _ _) | (refine G_appendN ?_; intro _ _) | refine G_not ?_ | refine G_index ?_ | refine G_indexA ?_ | refine G_indexS ?_ | refine G_conv64 ?_ | refine G_conv8 ?_ | refine G_convu ?_ | refine G_conv ?_ | refine G_build ?_ | refine G_slh ?_ | refine G_slo ?_ | refine G_shi ?_ | refine G_cat ?_ | refine G_min ?_ | refine G_max ?_ | refine G_neg64 ?_ | refine G_eql_agg ?_ | refine G_neq_agg ?_ | refine G_bytesP ?_ | refine G_bytesstr ?_ | refine G_call ?_ | refine G_call0 ?_ | refine G_callv ?_ | refine G_callv0 ?_ | (refine G_box ?_; intro _) | (refine G_alloc ?_; intro _) | (refine G_buildSlice ?_; intro _) | (refine G_strrow ?_; intro _ _) | (refine G_indexV ?_; intro _ _ hA; subst hA) | (refine G_sliceR ?_; intro _) | (refine G_sliceO ?_; intro _) | refine G_skip ?_ | refine G_skip0 ?_)
      | (show spl _ _ _; first | refine spl_no rfl ?_ | refine spl_yes rfl ?_)
      | (show evC _ _ _ _ _; first | refine c_seq ?_ | refine c_region (by exact rfl) ?_ | refine c_cond (by exact rfl) ?_ | refine c_ret ?_ | refine c_skip ?_ | refine c_block ?_ | refine c_exit ?_  | refine c_draw (by exact rfl) (by decide +kernel) (by exact rfl) ?_ | refine c_drawT (by exact rfl) (by decide +kernel) (by exact rfl) ?_ | refine c_scope ?_ | refine c_label ?_)
      | (show Br _ _ _; first | refine Br.t rfl ?_ | refine Br.f rfl ?_ | refine Br.t (beq_self_eq_true _) ?_ | refine Br.f (not_beq_self _) ?_ | refine Br.t (by assumption) ?_ | refine Br.f (by assumption) ?_ | refine Br.t (nb_f (by assumption)) ?_ | refine Br.f (nb_t (by assumption)) ?_ | (refine Br.mk (fun h => ?_) (fun h => ?_) <;> (try simp only [Bool.and_eq_true, Bool.or_eq_true, Bool.and_eq_false_iff, Bool.or_eq_false_iff, decide_eq_true_eq, decide_eq_false_iff_not, beq_iff_eq, bne_iff_ne, beq_eq_false_iff_ne, bne_eq_false_iff_eq, ne_eq, Bool.not_eq_true', Bool.not_eq_false', not_true_eq_false, not_false_eq_true, Int.not_lt, Int.not_le, gt_iff_lt, ge_iff_le] at h) <;> (try (first | contradiction | (exfalso; omega)))))
      | (show thenC _ _ _ _ _; first | refine t_n ?_ | refine t_r ?_ | refine t_e ?_)
      | (show inBlockC _ _ _ _ _; first | refine b_n ?_ | refine b_r ?_ | refine b_hit rfl ?_ | refine b_miss rfl ?_)
      | (show noGotoC _ _ _ _; first | refine g_n ?_ | refine g_r ?_ | refine g_e ?_))
    (refine RETC ?_; exact ret_done (hK))
/-- a stream's moves -/
def ofL (l : List Mv) (st : Int) : List Mv := l.filter fun m => m.st == st
def dataL (l : List Mv) (w : Int) : List UInt8 := (l.filter fun m => m.w == w).flatMap fun m => m.s.data.toList
theorem of_ok {A : Option Addr} {n c : Nat} {xs : List Mv} {st : Int} (hv : View C A mvC xs) (hn : xs.length = n) (hn2 : n ≤ 300) (hK : ∀ B k, K (.slice B (ofL xs st).length k) (row B k 44 mvC (ofL xs st) :: C)) : CallT Try.prog 35 #[.slice A n c, .int .i64 st] C K := by
  refine callT_intro mixed Try.func35 rfl (by decide) (by decide +kernel) (by exact Nat.le_of_ble_eq_true rfl) ?_
  repeat' (first
    | (show evG _ _ _ _ _ _ _; first | refine G_andNot0 ?_ | refine G_andNot1 ?_ | refine G_add64 ?_ | refine G_sub64 ?_ | refine G_mul64 ?_ | refine G_quo ?_ | refine G_rem ?_ | refine G_shl8 ?_ | refine G_orb ?_ | refine G_shr ?_ | refine G_pure0 ?_ | refine G_load ?_ | refine evG_nil ?_ | refine G_br ?_ ?_ | refine G_field ?_ | refine G_pure ?_ | refine G_store ?_ | refine G_loadV ?_ | refine G_loadV0 ?_ | refine G_loadV2 ?_ | (refine G_append ?_; intro _ _) | (refine G_appendN ?_; intro _ _) | refine G_not ?_ | refine G_index ?_ | refine G_indexA ?_ | refine G_indexS ?_ | refine G_conv64 ?_ | refine G_conv8 ?_ | refine G_convu ?_ | refine G_conv ?_ | refine G_build ?_ | refine G_slh ?_ | refine G_slo ?_ | refine G_shi ?_ | refine G_cat ?_ | refine G_min ?_ | refine G_max ?_ | refine G_neg64 ?_ | refine G_eql_agg ?_ | refine G_neq_agg ?_ | refine G_bytesP ?_ | refine G_bytesstr ?_ | refine G_call ?_ | refine G_call0 ?_ | refine G_callv ?_ | refine G_callv0 ?_ | (refine G_box ?_; intro _) | (refine G_alloc ?_; intro _) | (refine G_buildSlice ?_; intro _) | (refine G_strrow ?_; intro _ _) | (refine G_indexV ?_; intro _ _ hA; subst hA) | (refine G_sliceR ?_; intro _) | (refine G_sliceO ?_; intro _) | refine G_skip ?_ | refine G_skip0 ?_)
    | (show spl _ _ _; first | refine spl_no rfl ?_ | refine spl_yes rfl ?_)
    | (show evC _ _ _ _ _; first | refine c_seq ?_ | refine c_region (by exact rfl) ?_ | refine c_cond (by exact rfl) ?_ | refine c_ret ?_ | refine c_skip ?_ | refine c_block ?_ | refine c_exit ?_  | refine c_draw (by exact rfl) (by decide +kernel) (by exact rfl) ?_ | refine c_drawT (by exact rfl) (by decide +kernel) (by exact rfl) ?_ | refine c_scope ?_ | refine c_label ?_)
    | (show Br _ _ _; first | refine Br.t rfl ?_ | refine Br.f rfl ?_ | refine Br.t (beq_self_eq_true _) ?_ | refine Br.f (not_beq_self _) ?_ | refine Br.t (by assumption) ?_ | refine Br.f (by assumption) ?_ | refine Br.t (nb_f (by assumption)) ?_ | refine Br.f (nb_t (by assumption)) ?_ | (refine Br.mk (fun h => ?_) (fun h => ?_) <;> (try simp only [Bool.and_eq_true, Bool.or_eq_true, Bool.and_eq_false_iff, Bool.or_eq_false_iff, decide_eq_true_eq, decide_eq_false_iff_not, beq_iff_eq, bne_iff_ne, beq_eq_false_iff_ne, bne_eq_false_iff_eq, ne_eq, Bool.not_eq_true', Bool.not_eq_false', not_true_eq_false, not_false_eq_true, Int.not_lt, Int.not_le, gt_iff_lt, ge_iff_le] at h) <;> (try (first | contradiction | (exfalso; omega)))))
    | (show thenC _ _ _ _ _; first | refine t_n ?_ | refine t_r ?_ | refine t_e ?_)
    | (show inBlockC _ _ _ _ _; first | refine b_n ?_ | refine b_r ?_ | refine b_hit rfl ?_ | refine b_miss rfl ?_)
    | (show noGotoC _ _ _ _; first | refine g_n ?_ | refine g_r ?_ | refine g_e ?_))
  refine LOOP (fun m a C' => ∃ (j : Nat) (B : Option Addr) (k : Nat), j + m = n ∧ C' = row B k 44 mvC (ofL (xs.take j) st) :: C ∧ Agree a [(5, .slice B (ofL (xs.take j) st).length k), (1, .int .i64 st), (8, .slice A n c), (9, .int .i64 n), (10, .int .i64 j)]) n
    (turn n ⟨0, none, 0, by omega, rfl, rfl, rfl, rfl, rfl, rfl, trivial⟩) ?_
  rintro n1 a C' ⟨j, B, k, hj, rfl, ha⟩
  refine c_fr _ ha ?_
  simp only [updL]
  have hv2 : View (row B k 44 mvC (ofL (xs.take j) st) :: C) A mvC xs := view_there hv
  have hlen : (ofL (xs.take j) st).length ≤ j := by unfold ofL; exact Nat.le_trans (List.length_filter_le _ _) (by rw [List.length_take]; omega)
  by_cases hlt : j < n
  · obtain ⟨x, hp, hd⟩ := at_drop (l := xs) (j := j) (by omega)
    have ht : xs.take (j + 1) = xs.take j ++ [x] := by rw [List.take_add_one, hp]; rfl
    by_cases hst : x.st = st
    · have hn1 : ofL (xs.take (j + 1)) st = ofL (xs.take j) st ++ [x] := by rw [ht]; simp [ofL, hst]
      repeat' (first
        | (show evG _ _ _ _ _ _ _; first | refine G_andNot0 ?_ | refine G_andNot1 ?_ | refine G_add64 ?_ | refine G_sub64 ?_ | refine G_mul64 ?_ | refine G_quo ?_ | refine G_rem ?_ | refine G_shl8 ?_ | refine G_orb ?_ | refine G_shr ?_ | refine G_pure0 ?_ | refine G_load ?_ | refine evG_nil ?_ | refine G_br ?_ ?_ | refine G_field ?_ | refine G_pure ?_ | refine G_store ?_ | refine G_loadV ?_ | refine G_loadV0 ?_ | refine G_loadV2 ?_ | (refine G_append ?_; intro _ _) | (refine G_appendN ?_; intro _ _) | refine G_not ?_ | refine G_index ?_ | refine G_indexA ?_ | refine G_indexS ?_ | refine G_conv64 ?_ | refine G_conv8 ?_ | refine G_convu ?_ | refine G_conv ?_ | refine G_build ?_ | refine G_slh ?_ | refine G_slo ?_ | refine G_shi ?_ | refine G_cat ?_ | refine G_min ?_ | refine G_max ?_ | refine G_neg64 ?_ | refine G_eql_agg ?_ | refine G_neq_agg ?_ | refine G_bytesP ?_ | refine G_bytesstr ?_ | refine G_call ?_ | refine G_call0 ?_ | refine G_callv ?_ | refine G_callv0 ?_ | (refine G_box ?_; intro _) | (refine G_alloc ?_; intro _) | (refine G_buildSlice ?_; intro _) | (refine G_strrow ?_; intro _ _) | (refine G_indexV ?_; intro _ _ hA; subst hA) | (refine G_sliceR ?_; intro _) | (refine G_sliceO ?_; intro _) | refine G_skip ?_ | refine G_skip0 ?_)
        | (show spl _ _ _; first | refine spl_no rfl ?_ | refine spl_yes rfl ?_)
        | (show evC _ _ _ _ _; first | refine c_seq ?_ | refine c_region (by exact rfl) ?_ | refine c_cond (by exact rfl) ?_ | refine c_ret ?_ | refine c_skip ?_ | refine c_block ?_ | refine c_exit ?_  | refine c_draw (by exact rfl) (by decide +kernel) (by exact rfl) ?_ | refine c_drawT (by exact rfl) (by decide +kernel) (by exact rfl) ?_ | refine c_scope ?_ | refine c_label ?_)
        | (show Br _ _ _; first | refine Br.t rfl ?_ | refine Br.f rfl ?_ | refine Br.t (beq_self_eq_true _) ?_ | refine Br.f (not_beq_self _) ?_ | refine Br.t (by assumption) ?_ | refine Br.f (by assumption) ?_ | refine Br.t (nb_f (by assumption)) ?_ | refine Br.f (nb_t (by assumption)) ?_ | (refine Br.mk (fun h => ?_) (fun h => ?_) <;> (try simp only [Bool.and_eq_true, Bool.or_eq_true, Bool.and_eq_false_iff, Bool.or_eq_false_iff, decide_eq_true_eq, decide_eq_false_iff_not, beq_iff_eq, bne_iff_ne, beq_eq_false_iff_ne, bne_eq_false_iff_eq, ne_eq, Bool.not_eq_true', Bool.not_eq_false', not_true_eq_false, not_false_eq_true, Int.not_lt, Int.not_le, gt_iff_lt, ge_iff_le] at h) <;> (try (first | contradiction | (exfalso; omega)))))
        | (show thenC _ _ _ _ _; first | refine t_n ?_ | refine t_r ?_ | refine t_e ?_)
        | (show inBlockC _ _ _ _ _; first | refine b_n ?_ | refine b_r ?_ | refine b_hit rfl ?_ | refine b_miss rfl ?_)
        | (show noGotoC _ _ _ _; first | refine g_n ?_ | refine g_r ?_ | refine g_e ?_))
      exact turn (n1 - 1) ⟨j + 1, _, _, by omega, by rw [hn1], by rw [hn1]; rfl, rfl, rfl, rfl, rfl, trivial⟩
    · have hn1 : ofL (xs.take (j + 1)) st = ofL (xs.take j) st := by rw [ht]; simp [ofL, hst]
      repeat' (first
        | (show evG _ _ _ _ _ _ _; first | refine G_andNot0 ?_ | refine G_andNot1 ?_ | refine G_add64 ?_ | refine G_sub64 ?_ | refine G_mul64 ?_ | refine G_quo ?_ | refine G_rem ?_ | refine G_shl8 ?_ | refine G_orb ?_ | refine G_shr ?_ | refine G_pure0 ?_ | refine G_load ?_ | refine evG_nil ?_ | refine G_br ?_ ?_ | refine G_field ?_ | refine G_pure ?_ | refine G_store ?_ | refine G_loadV ?_ | refine G_loadV0 ?_ | refine G_loadV2 ?_ | (refine G_append ?_; intro _ _) | (refine G_appendN ?_; intro _ _) | refine G_not ?_ | refine G_index ?_ | refine G_indexA ?_ | refine G_indexS ?_ | refine G_conv64 ?_ | refine G_conv8 ?_ | refine G_convu ?_ | refine G_conv ?_ | refine G_build ?_ | refine G_slh ?_ | refine G_slo ?_ | refine G_shi ?_ | refine G_cat ?_ | refine G_min ?_ | refine G_max ?_ | refine G_neg64 ?_ | refine G_eql_agg ?_ | refine G_neq_agg ?_ | refine G_bytesP ?_ | refine G_bytesstr ?_ | refine G_call ?_ | refine G_call0 ?_ | refine G_callv ?_ | refine G_callv0 ?_ | (refine G_box ?_; intro _) | (refine G_alloc ?_; intro _) | (refine G_buildSlice ?_; intro _) | (refine G_strrow ?_; intro _ _) | (refine G_indexV ?_; intro _ _ hA; subst hA) | (refine G_sliceR ?_; intro _) | (refine G_sliceO ?_; intro _) | refine G_skip ?_ | refine G_skip0 ?_)
        | (show spl _ _ _; first | refine spl_no rfl ?_ | refine spl_yes rfl ?_)
        | (show evC _ _ _ _ _; first | refine c_seq ?_ | refine c_region (by exact rfl) ?_ | refine c_cond (by exact rfl) ?_ | refine c_ret ?_ | refine c_skip ?_ | refine c_block ?_ | refine c_exit ?_  | refine c_draw (by exact rfl) (by decide +kernel) (by exact rfl) ?_ | refine c_drawT (by exact rfl) (by decide +kernel) (by exact rfl) ?_ | refine c_scope ?_ | refine c_label ?_)
        | (show Br _ _ _; first | refine Br.t rfl ?_ | refine Br.f rfl ?_ | refine Br.t (beq_self_eq_true _) ?_ | refine Br.f (not_beq_self _) ?_ | refine Br.t (by assumption) ?_ | refine Br.f (by assumption) ?_ | refine Br.t (nb_f (by assumption)) ?_ | refine Br.f (nb_t (by assumption)) ?_ | (refine Br.mk (fun h => ?_) (fun h => ?_) <;> (try simp only [Bool.and_eq_true, Bool.or_eq_true, Bool.and_eq_false_iff, Bool.or_eq_false_iff, decide_eq_true_eq, decide_eq_false_iff_not, beq_iff_eq, bne_iff_ne, beq_eq_false_iff_ne, bne_eq_false_iff_eq, ne_eq, Bool.not_eq_true', Bool.not_eq_false', not_true_eq_false, not_false_eq_true, Int.not_lt, Int.not_le, gt_iff_lt, ge_iff_le] at h) <;> (try (first | contradiction | (exfalso; omega)))))
        | (show thenC _ _ _ _ _; first | refine t_n ?_ | refine t_r ?_ | refine t_e ?_)
        | (show inBlockC _ _ _ _ _; first | refine b_n ?_ | refine b_r ?_ | refine b_hit rfl ?_ | refine b_miss rfl ?_)
        | (show noGotoC _ _ _ _; first | refine g_n ?_ | refine g_r ?_ | refine g_e ?_))
      exact turn (n1 - 1) ⟨j + 1, _, _, by omega, by rw [hn1], by rw [hn1]; rfl, rfl, rfl, rfl, rfl, trivial⟩
  · obtain rfl : j = n := by omega
    rw [List.take_of_length_le (by omega)]
    repeat' (first
      | (show evG _ _ _ _ _ _ _; first | refine G_andNot0 ?_ | refine G_andNot1 ?_ | refine G_add64 ?_ | refine G_sub64 ?_ | refine G_mul64 ?_ | refine G_quo ?_ | refine G_rem ?_ | refine G_shl8 ?_ | refine G_orb ?_ | refine G_shr ?_ | refine G_pure0 ?_ | refine G_load ?_ | refine evG_nil ?_ | refine G_br ?_ ?_ | refine G_field ?_ | refine G_pure ?_ | refine G_store ?_ | refine G_loadV ?_ | refine G_loadV0 ?_ | refine G_loadV2 ?_ | (refine G_append ?_; intro _ _) | (refine G_appendN ?_; intro _ _) | refine G_not ?_ | refine G_index ?_ | refine G_indexA ?_ | refine G_indexS ?_ | refine G_conv64 ?_ | refine G_conv8 ?_ | refine G_convu ?_ | refine G_conv ?_ | refine G_build ?_ | refine G_slh ?_ | refine G_slo ?_ | refine G_shi ?_ | refine G_cat ?_ | refine G_min ?_ | refine G_max ?_ | refine G_neg64 ?_ | refine G_eql_agg ?_ | refine G_neq_agg ?_ | refine G_bytesP ?_ | refine G_bytesstr ?_ | refine G_call ?_ | refine G_call0 ?_ | refine G_callv ?_ | refine G_callv0 ?_ | (refine G_box ?_; intro _) | (refine G_alloc ?_; intro _) | (refine G_buildSlice ?_; intro _) | (refine G_strrow ?_; intro _ _) | (refine G_indexV ?_; intro _ _ hA; subst hA) | (refine G_sliceR ?_; intro _) | (refine G_sliceO ?_; intro _) | refine G_skip ?_ | refine G_skip0 ?_)
      | (show spl _ _ _; first | refine spl_no rfl ?_ | refine spl_yes rfl ?_)
      | (show evC _ _ _ _ _; first | refine c_seq ?_ | refine c_region (by exact rfl) ?_ | refine c_cond (by exact rfl) ?_ | refine c_ret ?_ | refine c_skip ?_ | refine c_block ?_ | refine c_exit ?_  | refine c_draw (by exact rfl) (by decide +kernel) (by exact rfl) ?_ | refine c_drawT (by exact rfl) (by decide +kernel) (by exact rfl) ?_ | refine c_scope ?_ | refine c_label ?_)
      | (show Br _ _ _; first | refine Br.t rfl ?_ | refine Br.f rfl ?_ | refine Br.t (beq_self_eq_true _) ?_ | refine Br.f (not_beq_self _) ?_ | refine Br.t (by assumption) ?_ | refine Br.f (by assumption) ?_ | refine Br.t (nb_f (by assumption)) ?_ | refine Br.f (nb_t (by assumption)) ?_ | (refine Br.mk (fun h => ?_) (fun h => ?_) <;> (try simp only [Bool.and_eq_true, Bool.or_eq_true, Bool.and_eq_false_iff, Bool.or_eq_false_iff, decide_eq_true_eq, decide_eq_false_iff_not, beq_iff_eq, bne_iff_ne, beq_eq_false_iff_ne, bne_eq_false_iff_eq, ne_eq, Bool.not_eq_true', Bool.not_eq_false', not_true_eq_false, not_false_eq_true, Int.not_lt, Int.not_le, gt_iff_lt, ge_iff_le] at h) <;> (try (first | contradiction | (exfalso; omega)))))
      | (show thenC _ _ _ _ _; first | refine t_n ?_ | refine t_r ?_ | refine t_e ?_)
      | (show inBlockC _ _ _ _ _; first | refine b_n ?_ | refine b_r ?_ | refine b_hit rfl ?_ | refine b_miss rfl ?_)
      | (show noGotoC _ _ _ _; first | refine g_n ?_ | refine g_r ?_ | refine g_e ?_))
    (refine RETC ?_; exact ret_done (hK _ _))
theorem data_ok {A : Option Addr} {n c : Nat} {xs : List Mv} {w st : Int} (hv : View C A mvC xs) (hn : xs.length = n) (hn2 : n ≤ 300) (hs : ∀ x ∈ xs, x.s.size ≤ 400) (hK : K (.string ⟨(dataL (ofL xs st) w).toArray⟩) C) : CallT Try.prog 36 #[.slice A n c, .int .i64 w, .int .i64 st] C K := by
  refine callT_intro mixed Try.func36 rfl (by decide) (by decide +kernel) (by exact Nat.le_of_ble_eq_true rfl) ?_
  repeat' (first
    | (show evG _ _ _ _ _ _ _; first | refine G_andNot0 ?_ | refine G_andNot1 ?_ | refine G_add64 ?_ | refine G_sub64 ?_ | refine G_mul64 ?_ | refine G_quo ?_ | refine G_rem ?_ | refine G_shl8 ?_ | refine G_orb ?_ | refine G_shr ?_ | refine G_pure0 ?_ | refine G_load ?_ | refine evG_nil ?_ | refine G_br ?_ ?_ | refine G_field ?_ | refine G_pure ?_ | refine G_store ?_ | refine G_loadV ?_ | refine G_loadV0 ?_ | refine G_loadV2 ?_ | (refine G_append ?_; intro _ _) | (refine G_appendN ?_; intro _ _) | refine G_not ?_ | refine G_index ?_ | refine G_indexA ?_ | refine G_indexS ?_ | refine G_conv64 ?_ | refine G_conv8 ?_ | refine G_convu ?_ | refine G_conv ?_ | refine G_build ?_ | refine G_slh ?_ | refine G_slo ?_ | refine G_shi ?_ | refine G_cat ?_ | refine G_min ?_ | refine G_max ?_ | refine G_neg64 ?_ | refine G_eql_agg ?_ | refine G_neq_agg ?_ | refine G_bytesP ?_ | refine G_bytesstr ?_ | refine G_call ?_ | refine G_call0 ?_ | refine G_callv ?_ | refine G_callv0 ?_ | (refine G_box ?_; intro _) | (refine G_alloc ?_; intro _) | (refine G_buildSlice ?_; intro _) | (refine G_strrow ?_; intro _ _) | (refine G_indexV ?_; intro _ _ hA; subst hA) | (refine G_sliceR ?_; intro _) | (refine G_sliceO ?_; intro _) | refine G_skip ?_ | refine G_skip0 ?_)
    | (show spl _ _ _; first | refine spl_no rfl ?_ | refine spl_yes rfl ?_)
    | (show evC _ _ _ _ _; first | refine c_seq ?_ | refine c_region (by exact rfl) ?_ | refine c_cond (by exact rfl) ?_ | refine c_ret ?_ | refine c_skip ?_ | refine c_block ?_ | refine c_exit ?_  | refine c_draw (by exact rfl) (by decide +kernel) (by exact rfl) ?_ | refine c_drawT (by exact rfl) (by decide +kernel) (by exact rfl) ?_ | refine c_scope ?_ | refine c_label ?_)
    | (show Br _ _ _; first | refine Br.t rfl ?_ | refine Br.f rfl ?_ | refine Br.t (beq_self_eq_true _) ?_ | refine Br.f (not_beq_self _) ?_ | refine Br.t (by assumption) ?_ | refine Br.f (by assumption) ?_ | refine Br.t (nb_f (by assumption)) ?_ | refine Br.f (nb_t (by assumption)) ?_ | (refine Br.mk (fun h => ?_) (fun h => ?_) <;> (try simp only [Bool.and_eq_true, Bool.or_eq_true, Bool.and_eq_false_iff, Bool.or_eq_false_iff, decide_eq_true_eq, decide_eq_false_iff_not, beq_iff_eq, bne_iff_ne, beq_eq_false_iff_ne, bne_eq_false_iff_eq, ne_eq, Bool.not_eq_true', Bool.not_eq_false', not_true_eq_false, not_false_eq_true, Int.not_lt, Int.not_le, gt_iff_lt, ge_iff_le] at h) <;> (try (first | contradiction | (exfalso; omega)))))
    | (show thenC _ _ _ _ _; first | refine t_n ?_ | refine t_r ?_ | refine t_e ?_)
    | (show inBlockC _ _ _ _ _; first | refine b_n ?_ | refine b_r ?_ | refine b_hit rfl ?_ | refine b_miss rfl ?_)
    | (show noGotoC _ _ _ _; first | refine g_n ?_ | refine g_r ?_ | refine g_e ?_)
    | (show CallT _ 35 _ _ _; refine CA (h := of_ok (by assumption) (by assumption) (by assumption) (fun B' k' => ?_))))
  generalize hys : ofL xs st = ys at *
  have hyl : ys.length ≤ 300 := by rw [← hys]; unfold ofL; exact Nat.le_trans (List.length_filter_le _ _) (by omega)
  have hy : ∀ x ∈ ys, x.s.size ≤ 400 := fun x hx => hs x (by rw [← hys] at hx; exact (List.mem_filter.1 hx).1)
  have hdl : ∀ j, (dataL (ys.take j) w).length ≤ 400 * j := by
    intro j
    induction j with
    | zero => simp [dataL]
    | succ j ih =>
      rcases Nat.lt_or_ge j ys.length with h | h
      · obtain ⟨x, hp, _⟩ := at_drop h
        have hx := hy x (List.mem_of_getElem? hp)
        rw [List.take_add_one, hp]
        simp only [dataL, List.filter_append, List.flatMap_append, List.length_append, Option.toList] at ih ⊢
        have : (List.flatMap (fun m => m.s.data.toList) (List.filter (fun m => m.w == w) [x])).length ≤ 400 := by
          by_cases h : x.w = w <;> simp [h]; omega
        omega
      · rw [List.take_of_length_le h] at ih; rw [List.take_of_length_le (by omega)]; omega
  refine LOOP (fun m a C' => ∃ (j : Nat) (B : Option Addr) (k : Nat), j + m = ys.length ∧ C' = row B k 5 byteC (dataL (ys.take j) w) :: row B' k' 44 mvC ys :: C ∧ Agree a [(7, .slice B (dataL (ys.take j) w).length k), (1, .int .i64 w), (12, .slice B' ys.length k'), (13, .int .i64 ys.length), (14, .int .i64 j)]) ys.length
    (turn ys.length ⟨0, none, 0, by omega, rfl, rfl, rfl, rfl, rfl, rfl, trivial⟩) ?_
  rintro n1 a C' ⟨j, B, k, hj, rfl, ha⟩
  refine c_fr _ ha ?_
  simp only [updL]
  have hl := hdl j
  by_cases hlt : j < ys.length
  · obtain ⟨x, hp, hd⟩ := at_drop (l := ys) (j := j) (by omega)
    have hx := hy x (List.mem_of_getElem? hp)
    have hx2 : x.s.data.toList.length ≤ 400 := by simp; omega
    have ht : ys.take (j + 1) = ys.take j ++ [x] := by rw [List.take_add_one, hp]; rfl
    by_cases hst : x.w = w
    · have hn1 : dataL (ys.take (j + 1)) w = dataL (ys.take j) w ++ x.s.data.toList := by rw [ht]; simp [dataL, hst]
      repeat' (first
        | (show evG _ _ _ _ _ _ _; first | refine G_andNot0 ?_ | refine G_andNot1 ?_ | refine G_add64 ?_ | refine G_sub64 ?_ | refine G_mul64 ?_ | refine G_quo ?_ | refine G_rem ?_ | refine G_shl8 ?_ | refine G_orb ?_ | refine G_shr ?_ | refine G_pure0 ?_ | refine G_load ?_ | refine evG_nil ?_ | refine G_br ?_ ?_ | refine G_field ?_ | refine G_pure ?_ | refine G_store ?_ | refine G_loadV ?_ | refine G_loadV0 ?_ | refine G_loadV2 ?_ | (refine G_append ?_; intro _ _) | (refine G_appendN ?_; intro _ _) | refine G_not ?_ | refine G_index ?_ | refine G_indexA ?_ | refine G_indexS ?_ | refine G_conv64 ?_ | refine G_conv8 ?_ | refine G_convu ?_ | refine G_conv ?_ | refine G_build ?_ | refine G_slh ?_ | refine G_slo ?_ | refine G_shi ?_ | refine G_cat ?_ | refine G_min ?_ | refine G_max ?_ | refine G_neg64 ?_ | refine G_eql_agg ?_ | refine G_neq_agg ?_ | refine G_bytesP ?_ | refine G_bytesstr ?_ | refine G_call ?_ | refine G_call0 ?_ | refine G_callv ?_ | refine G_callv0 ?_ | (refine G_box ?_; intro _) | (refine G_alloc ?_; intro _) | (refine G_buildSlice ?_; intro _) | (refine G_strrow ?_; intro _ _) | (refine G_indexV ?_; intro _ _ hA; subst hA) | (refine G_sliceR ?_; intro _) | (refine G_sliceO ?_; intro _) | refine G_skip ?_ | refine G_skip0 ?_)
        | (show spl _ _ _; first | refine spl_no rfl ?_ | refine spl_yes rfl ?_)
        | (show evC _ _ _ _ _; first | refine c_seq ?_ | refine c_region (by exact rfl) ?_ | refine c_cond (by exact rfl) ?_ | refine c_ret ?_ | refine c_skip ?_ | refine c_block ?_ | refine c_exit ?_  | refine c_draw (by exact rfl) (by decide +kernel) (by exact rfl) ?_ | refine c_drawT (by exact rfl) (by decide +kernel) (by exact rfl) ?_ | refine c_scope ?_ | refine c_label ?_)
        | (show Br _ _ _; first | refine Br.t rfl ?_ | refine Br.f rfl ?_ | refine Br.t (beq_self_eq_true _) ?_ | refine Br.f (not_beq_self _) ?_ | refine Br.t (by assumption) ?_ | refine Br.f (by assumption) ?_ | refine Br.t (nb_f (by assumption)) ?_ | refine Br.f (nb_t (by assumption)) ?_ | (refine Br.mk (fun h => ?_) (fun h => ?_) <;> (try simp only [Bool.and_eq_true, Bool.or_eq_true, Bool.and_eq_false_iff, Bool.or_eq_false_iff, decide_eq_true_eq, decide_eq_false_iff_not, beq_iff_eq, bne_iff_ne, beq_eq_false_iff_ne, bne_eq_false_iff_eq, ne_eq, Bool.not_eq_true', Bool.not_eq_false', not_true_eq_false, not_false_eq_true, Int.not_lt, Int.not_le, gt_iff_lt, ge_iff_le] at h) <;> (try (first | contradiction | (exfalso; omega)))))
        | (show thenC _ _ _ _ _; first | refine t_n ?_ | refine t_r ?_ | refine t_e ?_)
        | (show inBlockC _ _ _ _ _; first | refine b_n ?_ | refine b_r ?_ | refine b_hit rfl ?_ | refine b_miss rfl ?_)
        | (show noGotoC _ _ _ _; first | refine g_n ?_ | refine g_r ?_ | refine g_e ?_))
      exact turn (n1 - 1) ⟨j + 1, _, _, by omega, by rw [hn1], by rw [hn1]; rfl, rfl, rfl, rfl, rfl, trivial⟩
    · have hn1 : dataL (ys.take (j + 1)) w = dataL (ys.take j) w := by rw [ht]; simp [dataL, hst]
      repeat' (first
        | (show evG _ _ _ _ _ _ _; first | refine G_andNot0 ?_ | refine G_andNot1 ?_ | refine G_add64 ?_ | refine G_sub64 ?_ | refine G_mul64 ?_ | refine G_quo ?_ | refine G_rem ?_ | refine G_shl8 ?_ | refine G_orb ?_ | refine G_shr ?_ | refine G_pure0 ?_ | refine G_load ?_ | refine evG_nil ?_ | refine G_br ?_ ?_ | refine G_field ?_ | refine G_pure ?_ | refine G_store ?_ | refine G_loadV ?_ | refine G_loadV0 ?_ | refine G_loadV2 ?_ | (refine G_append ?_; intro _ _) | (refine G_appendN ?_; intro _ _) | refine G_not ?_ | refine G_index ?_ | refine G_indexA ?_ | refine G_indexS ?_ | refine G_conv64 ?_ | refine G_conv8 ?_ | refine G_convu ?_ | refine G_conv ?_ | refine G_build ?_ | refine G_slh ?_ | refine G_slo ?_ | refine G_shi ?_ | refine G_cat ?_ | refine G_min ?_ | refine G_max ?_ | refine G_neg64 ?_ | refine G_eql_agg ?_ | refine G_neq_agg ?_ | refine G_bytesP ?_ | refine G_bytesstr ?_ | refine G_call ?_ | refine G_call0 ?_ | refine G_callv ?_ | refine G_callv0 ?_ | (refine G_box ?_; intro _) | (refine G_alloc ?_; intro _) | (refine G_buildSlice ?_; intro _) | (refine G_strrow ?_; intro _ _) | (refine G_indexV ?_; intro _ _ hA; subst hA) | (refine G_sliceR ?_; intro _) | (refine G_sliceO ?_; intro _) | refine G_skip ?_ | refine G_skip0 ?_)
        | (show spl _ _ _; first | refine spl_no rfl ?_ | refine spl_yes rfl ?_)
        | (show evC _ _ _ _ _; first | refine c_seq ?_ | refine c_region (by exact rfl) ?_ | refine c_cond (by exact rfl) ?_ | refine c_ret ?_ | refine c_skip ?_ | refine c_block ?_ | refine c_exit ?_  | refine c_draw (by exact rfl) (by decide +kernel) (by exact rfl) ?_ | refine c_drawT (by exact rfl) (by decide +kernel) (by exact rfl) ?_ | refine c_scope ?_ | refine c_label ?_)
        | (show Br _ _ _; first | refine Br.t rfl ?_ | refine Br.f rfl ?_ | refine Br.t (beq_self_eq_true _) ?_ | refine Br.f (not_beq_self _) ?_ | refine Br.t (by assumption) ?_ | refine Br.f (by assumption) ?_ | refine Br.t (nb_f (by assumption)) ?_ | refine Br.f (nb_t (by assumption)) ?_ | (refine Br.mk (fun h => ?_) (fun h => ?_) <;> (try simp only [Bool.and_eq_true, Bool.or_eq_true, Bool.and_eq_false_iff, Bool.or_eq_false_iff, decide_eq_true_eq, decide_eq_false_iff_not, beq_iff_eq, bne_iff_ne, beq_eq_false_iff_ne, bne_eq_false_iff_eq, ne_eq, Bool.not_eq_true', Bool.not_eq_false', not_true_eq_false, not_false_eq_true, Int.not_lt, Int.not_le, gt_iff_lt, ge_iff_le] at h) <;> (try (first | contradiction | (exfalso; omega)))))
        | (show thenC _ _ _ _ _; first | refine t_n ?_ | refine t_r ?_ | refine t_e ?_)
        | (show inBlockC _ _ _ _ _; first | refine b_n ?_ | refine b_r ?_ | refine b_hit rfl ?_ | refine b_miss rfl ?_)
        | (show noGotoC _ _ _ _; first | refine g_n ?_ | refine g_r ?_ | refine g_e ?_))
      exact turn (n1 - 1) ⟨j + 1, _, _, by omega, by rw [hn1], by rw [hn1]; rfl, rfl, rfl, rfl, rfl, trivial⟩
  · obtain rfl : j = ys.length := by omega
    rw [List.take_of_length_le (by omega)]
    repeat' (first
      | (show evG _ _ _ _ _ _ _; first | refine G_andNot0 ?_ | refine G_andNot1 ?_ | refine G_add64 ?_ | refine G_sub64 ?_ | refine G_mul64 ?_ | refine G_quo ?_ | refine G_rem ?_ | refine G_shl8 ?_ | refine G_orb ?_ | refine G_shr ?_ | refine G_pure0 ?_ | refine G_load ?_ | refine evG_nil ?_ | refine G_br ?_ ?_ | refine G_field ?_ | refine G_pure ?_ | refine G_store ?_ | refine G_loadV ?_ | refine G_loadV0 ?_ | refine G_loadV2 ?_ | (refine G_append ?_; intro _ _) | (refine G_appendN ?_; intro _ _) | refine G_not ?_ | refine G_index ?_ | refine G_indexA ?_ | refine G_indexS ?_ | refine G_conv64 ?_ | refine G_conv8 ?_ | refine G_convu ?_ | refine G_conv ?_ | refine G_build ?_ | refine G_slh ?_ | refine G_slo ?_ | refine G_shi ?_ | refine G_cat ?_ | refine G_min ?_ | refine G_max ?_ | refine G_neg64 ?_ | refine G_eql_agg ?_ | refine G_neq_agg ?_ | refine G_bytesP ?_ | refine G_bytesstr ?_ | refine G_call ?_ | refine G_call0 ?_ | refine G_callv ?_ | refine G_callv0 ?_ | (refine G_box ?_; intro _) | (refine G_alloc ?_; intro _) | (refine G_buildSlice ?_; intro _) | (refine G_strrow ?_; intro _ _) | (refine G_indexV ?_; intro _ _ hA; subst hA) | (refine G_sliceR ?_; intro _) | (refine G_sliceO ?_; intro _) | refine G_skip ?_ | refine G_skip0 ?_)
      | (show spl _ _ _; first | refine spl_no rfl ?_ | refine spl_yes rfl ?_)
      | (show evC _ _ _ _ _; first | refine c_seq ?_ | refine c_region (by exact rfl) ?_ | refine c_cond (by exact rfl) ?_ | refine c_ret ?_ | refine c_skip ?_ | refine c_block ?_ | refine c_exit ?_  | refine c_draw (by exact rfl) (by decide +kernel) (by exact rfl) ?_ | refine c_drawT (by exact rfl) (by decide +kernel) (by exact rfl) ?_ | refine c_scope ?_ | refine c_label ?_)
      | (show Br _ _ _; first | refine Br.t rfl ?_ | refine Br.f rfl ?_ | refine Br.t (beq_self_eq_true _) ?_ | refine Br.f (not_beq_self _) ?_ | refine Br.t (by assumption) ?_ | refine Br.f (by assumption) ?_ | refine Br.t (nb_f (by assumption)) ?_ | refine Br.f (nb_t (by assumption)) ?_ | (refine Br.mk (fun h => ?_) (fun h => ?_) <;> (try simp only [Bool.and_eq_true, Bool.or_eq_true, Bool.and_eq_false_iff, Bool.or_eq_false_iff, decide_eq_true_eq, decide_eq_false_iff_not, beq_iff_eq, bne_iff_ne, beq_eq_false_iff_ne, bne_eq_false_iff_eq, ne_eq, Bool.not_eq_true', Bool.not_eq_false', not_true_eq_false, not_false_eq_true, Int.not_lt, Int.not_le, gt_iff_lt, ge_iff_le] at h) <;> (try (first | contradiction | (exfalso; omega)))))
      | (show thenC _ _ _ _ _; first | refine t_n ?_ | refine t_r ?_ | refine t_e ?_)
      | (show inBlockC _ _ _ _ _; first | refine b_n ?_ | refine b_r ?_ | refine b_hit rfl ?_ | refine b_miss rfl ?_)
      | (show noGotoC _ _ _ _; first | refine g_n ?_ | refine g_r ?_ | refine g_e ?_))
    (refine RETC ?_; exact ret_done (hK))
end Go.Proofs.Ytgdfmbnbknhhiaa
