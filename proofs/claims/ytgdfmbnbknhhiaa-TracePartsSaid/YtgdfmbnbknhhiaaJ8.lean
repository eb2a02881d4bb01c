/- Trace: the law on parts: lemmas; each with the conditions that it states. -/

import Derived.Test.YtgdfmbnbknhhiaaJ4
namespace Go.Proofs.Ytgdfmbnbknhhiaa
open Go Go.Proofs Go.Sl
set_option maxRecDepth 100000
set_option maxHeartbeats 4000000
set_option linter.unusedSimpArgs false
set_option linter.unusedVariables false
attribute [local irreducible] evG evC spl thenC inBlockC noGotoC CallT retC RetG TurnG CutG pt ro exP star sep pureP
variable {R C : List HP} {K : Value → List HP → Prop}
theorem ofL_snoc (l : List Mv) (x : Mv) (st : Int) : ofL (l ++ [x]) st = if x.st = st then ofL l st ++ [x] else ofL l st := by
  unfold ofL
  rw [List.filter_append]
  by_cases h : x.st = st <;> simp [h]
theorem dataL_snoc (l : List Mv) (x : Mv) (w : Int) : dataL (l ++ [x]) w = if x.w = w then dataL l w ++ x.s.data.toList else dataL l w := by
  unfold dataL
  rw [List.filter_append, List.flatMap_append]
  by_cases h : x.w = w <;> simp [h]
theorem data_parts (l : List Mv) (w st : Int) (k : Nat) : dataL (ofL l st) w = dataL (ofL (l.take k) st) w ++ dataL (ofL (l.drop k) st) w := by
  conv => lhs; rw [← List.take_append_drop k l]
  unfold ofL dataL
  rw [List.filter_append, List.filter_append, List.flatMap_append]
theorem dataL_le (w st : Int) : ∀ l : List Mv, (∀ x ∈ l, x.s.size ≤ 400) → (dataL (ofL l st) w).length ≤ 400 * l.length
  | [], _ => by simp [dataL, ofL]
  | x :: l, h => by
    have ih := dataL_le w st l fun y hy => h y (by simp [hy])
    have hx := h x (by simp)
    have hxl : x.s.data.toList.length = x.s.size := by simp
    have e : dataL (ofL (x :: l) st) w = dataL (ofL [x] st) w ++ dataL (ofL l st) w := by
      rw [data_parts (x :: l) w st 1]; rfl
    have h1 : (dataL (ofL [x] st) w).length ≤ 400 := by
      unfold dataL ofL
      by_cases h1 : x.st = st <;> by_cases h2 : x.w = w <;> simp [h1, h2] <;> omega
    rw [e, List.length_append, List.length_cons]
    omega
theorem traceParts_ok {A : Option Addr} {m c : Nat} {xs : List Mv} {w st k : Int} (hn : xs.length = m) (hm : m < 1000000000000000) (hmc : m ≤ c) (hk0 : 0 ≤ k) (hk1 : k ≤ 255) (hK : ∀ C, K (.bool true) C) : CallT Try.prog 9 #[.agg #[.slice A m c, .int .i64 w, .int .i64 st, .int .u8 k]] (rrow A mvC xs :: R) K := by
  subst hn
  cases hli : lightB xs
  · refine callT_intro mixed Try.func9 rfl (by decide) (by decide +kernel) (by exact Nat.le_of_ble_eq_true rfl) ?_
    repeat' (first
      | (show evG _ _ _ _ _ _ _; first | refine G_andNot0 ?_ | refine G_andNot1 ?_ | refine G_add64 ?_ | refine G_sub64 ?_ | refine G_mul64 ?_ | refine G_quo ?_ | refine G_rem ?_ | refine G_shl8 ?_ | refine G_orb ?_ | refine G_shr ?_ | refine G_pure0 ?_ | refine G_load ?_ | refine evG_nil ?_ | refine G_br ?_ ?_ | refine G_field ?_ | refine G_pure ?_ | refine G_store ?_ | refine G_loadV ?_ | refine G_loadV0 ?_ | refine G_loadV2 ?_ | (refine G_append ?_; intro _ _) | (refine G_appendN ?_; intro _ _) | refine G_not ?_ | refine G_index ?_ | refine G_indexA ?_ | refine G_indexS ?_ | refine G_conv64 ?_ | refine G_conv8 ?_ | refine G_convu ?_ | refine G_conv ?_ | refine G_build ?_ | refine G_slh ?_ | refine G_slo ?_ | refine G_shi ?_ | refine G_cat ?_ | refine G_min ?_ | refine G_max ?_ | refine G_neg64 ?_ | refine G_eql_agg ?_ | refine G_neq_agg ?_ | refine G_bytesP ?_ | refine G_bytesstr ?_ | refine G_call ?_ | refine G_call0 ?_ | refine G_callv ?_ | refine G_callv0 ?_ | (refine G_box ?_; intro _) | (refine G_alloc ?_; intro _) | (refine G_buildSlice ?_; intro _) | (refine G_strrow ?_; intro _ _) | (refine G_indexV ?_; intro _ _ hA; subst hA) | (refine G_sliceR ?_; intro _) | (refine G_sliceO ?_; intro _) | refine G_skip ?_ | refine G_skip0 ?_)
      | (show spl _ _ _; first | refine spl_no rfl ?_ | refine spl_yes rfl ?_)
      | (show evC _ _ _ _ _; first | refine c_seq ?_ | refine c_region (by exact rfl) ?_ | refine c_cond (by exact rfl) ?_ | refine c_ret ?_ | refine c_skip ?_ | refine c_block ?_ | refine c_exit ?_  | refine c_draw (l := [(0, 0), (1, 0), (2, 0), (3, 0), (4, 0), (5, 0), (6, 0), (7, 0), (8, 0), (9, 0), (10, 0), (11, 0)]) (by decide +kernel) (by decide +kernel) (by exact rfl) ?_ | refine c_draw (l := [(0, 1), (1, 0), (2, 0), (3, 0), (4, 1), (5, 1), (6, 1), (7, 0), (8, 0), (9, 0), (10, 0), (11, 0), (12, 1), (13, 1), (14, 0), (15, 0), (16, 0), (18, 0), (19, 0), (20, 0), (21, 0), (22, 0), (23, 1), (24, 1), (25, 1), (26, 1), (27, 1), (28, 1), (29, 1), (17, 2), (30, 0), (31, 0), (32, 0), (33, 0)]) (by decide +kernel) (by decide +kernel) (by exact rfl) ?_ | refine c_draw (by exact rfl) (by decide +kernel) (by exact rfl) ?_ | refine c_drawT (by exact rfl) (by decide +kernel) (by exact rfl) ?_ | refine c_scope ?_ | refine c_label ?_)
      | (show Br _ _ _; first | refine Br.t rfl ?_ | refine Br.f rfl ?_ | refine Br.t (beq_self_eq_true _) ?_ | refine Br.f (not_beq_self _) ?_ | refine Br.t (by assumption) ?_ | refine Br.f (by assumption) ?_ | refine Br.t (nb_f (by assumption)) ?_ | refine Br.f (nb_t (by assumption)) ?_ | (refine Br.mk (fun h => ?_) (fun h => ?_) <;> (try simp only [Bool.and_eq_true, Bool.or_eq_true, Bool.and_eq_false_iff, Bool.or_eq_false_iff, decide_eq_true_eq, decide_eq_false_iff_not, beq_iff_eq, bne_iff_ne, beq_eq_false_iff_ne, bne_eq_false_iff_eq, ne_eq, Bool.not_eq_true', Bool.not_eq_false', not_true_eq_false, not_false_eq_true, Int.not_lt, Int.not_le, gt_iff_lt, ge_iff_le] at h) <;> (try (first | contradiction | (exfalso; omega)))))
      | (show thenC _ _ _ _ _; first | refine t_n ?_ | refine t_r ?_ | refine t_e ?_)
      | (show inBlockC _ _ _ _ _; first | refine b_n ?_ | refine b_r ?_ | refine b_hit rfl ?_ | refine b_miss rfl ?_)
      | (show noGotoC _ _ _ _; first | refine g_n ?_ | refine g_r ?_ | refine g_e ?_)
      | (show CallT _ 26 _ _ _; refine CA (h := light_ok (by ((repeat (first | exact view_row | exact view_rrow | exact view_pt | assumption | apply view_there)) <;> exact view_row)) (by exact rfl) (by omega) ?_))
      | (show CallT _ 27 _ _ _; refine CA (h := awake34_ok ?_)))
    all_goals (refine RETC ?_; exact ret_done (hK _))
  have hn3 : xs.length ≤ 300 ∧ ∀ x ∈ xs, x.s.size ≤ 400 := by
    unfold lightB at hli
    simp only [Bool.and_eq_true, decide_eq_true_eq] at hli
    refine ⟨hli.1, fun x hx => ?_⟩
    rw [List.take_of_length_le hli.1] at hli
    simpa using List.all_eq_true.1 hli.2 x hx
  obtain ⟨hn3, hsz⟩ := hn3
  refine callT_intro mixed Try.func9 rfl (by decide) (by decide +kernel) (by exact Nat.le_of_ble_eq_true rfl) ?_
  repeat' (first
    | (show evG _ _ _ _ _ _ _; first | refine G_andNot0 ?_ | refine G_andNot1 ?_ | refine G_add64 ?_ | refine G_sub64 ?_ | refine G_mul64 ?_ | refine G_quo ?_ | refine G_rem ?_ | refine G_shl8 ?_ | refine G_orb ?_ | refine G_shr ?_ | refine G_pure0 ?_ | refine G_load ?_ | refine evG_nil ?_ | refine G_br ?_ ?_ | refine G_field ?_ | refine G_pure ?_ | refine G_store ?_ | refine G_loadV ?_ | refine G_loadV0 ?_ | refine G_loadV2 ?_ | (refine G_append ?_; intro _ _) | (refine G_appendN ?_; intro _ _) | refine G_not ?_ | refine G_index ?_ | refine G_indexA ?_ | refine G_indexS ?_ | refine G_conv64 ?_ | refine G_conv8 ?_ | refine G_convu ?_ | refine G_conv ?_ | refine G_build ?_ | refine G_slh ?_ | refine G_slo ?_ | refine G_shi ?_ | refine G_cat ?_ | refine G_min ?_ | refine G_max ?_ | refine G_neg64 ?_ | refine G_eql_agg ?_ | refine G_neq_agg ?_ | refine G_bytesP ?_ | refine G_bytesstr ?_ | refine G_call ?_ | refine G_call0 ?_ | refine G_callv ?_ | refine G_callv0 ?_ | (refine G_box ?_; intro _) | (refine G_alloc ?_; intro _) | (refine G_buildSlice ?_; intro _) | (refine G_strrow ?_; intro _ _) | (refine G_indexV ?_; intro _ _ hA; subst hA) | (refine G_sliceR ?_; intro _) | (refine G_sliceO ?_; intro _) | refine G_skip ?_ | refine G_skip0 ?_)
    | (show spl _ _ _; first | refine spl_no rfl ?_ | refine spl_yes rfl ?_)
    | (show evC _ _ _ _ _; first | refine c_seq ?_ | refine c_region (by exact rfl) ?_ | refine c_cond (by exact rfl) ?_ | refine c_ret ?_ | refine c_skip ?_ | refine c_block ?_ | refine c_exit ?_  | refine c_draw (l := [(0, 0), (1, 0), (2, 0), (3, 0), (4, 0), (5, 0), (6, 0), (7, 0), (8, 0), (9, 0), (10, 0), (11, 0)]) (by decide +kernel) (by decide +kernel) (by exact rfl) ?_ | refine c_draw (l := [(0, 1), (1, 0), (2, 0), (3, 0), (4, 1), (5, 1), (6, 1), (7, 0), (8, 0), (9, 0), (10, 0), (11, 0), (12, 1), (13, 1), (14, 0), (15, 0), (16, 0), (18, 0), (19, 0), (20, 0), (21, 0), (22, 0), (23, 1), (24, 1), (25, 1), (26, 1), (27, 1), (28, 1), (29, 1), (17, 2), (30, 0), (31, 0), (32, 0), (33, 0)]) (by decide +kernel) (by decide +kernel) (by exact rfl) ?_ | refine c_draw (by exact rfl) (by decide +kernel) (by exact rfl) ?_ | refine c_drawT (by exact rfl) (by decide +kernel) (by exact rfl) ?_ | refine c_scope ?_ | refine c_label ?_)
    | (show Br _ _ _; first | refine Br.t rfl ?_ | refine Br.f rfl ?_ | refine Br.t (beq_self_eq_true _) ?_ | refine Br.f (not_beq_self _) ?_ | refine Br.t (by assumption) ?_ | refine Br.f (by assumption) ?_ | refine Br.t (nb_f (by assumption)) ?_ | refine Br.f (nb_t (by assumption)) ?_ | (refine Br.mk (fun h => ?_) (fun h => ?_) <;> (try simp only [Bool.and_eq_true, Bool.or_eq_true, Bool.and_eq_false_iff, Bool.or_eq_false_iff, decide_eq_true_eq, decide_eq_false_iff_not, beq_iff_eq, bne_iff_ne, beq_eq_false_iff_ne, bne_eq_false_iff_eq, ne_eq, Bool.not_eq_true', Bool.not_eq_false', not_true_eq_false, not_false_eq_true, Int.not_lt, Int.not_le, gt_iff_lt, ge_iff_le] at h) <;> (try (first | contradiction | (exfalso; omega)))))
    | (show thenC _ _ _ _ _; first | refine t_n ?_ | refine t_r ?_ | refine t_e ?_)
    | (show inBlockC _ _ _ _ _; first | refine b_n ?_ | refine b_r ?_ | refine b_hit rfl ?_ | refine b_miss rfl ?_)
    | (show noGotoC _ _ _ _; first | refine g_n ?_ | refine g_r ?_ | refine g_e ?_)
    | (show CallT _ 26 _ _ _; refine CA (h := light_ok (by ((repeat (first | exact view_row | exact view_rrow | exact view_pt | assumption | apply view_there)) <;> exact view_row)) (by exact rfl) (by omega) ?_)))
  refine LOOP (fun m a C' => ∃ (j : Nat) (B : Option Addr) (kk : Nat), j + m = xs.length ∧ C' = row B kk 44 mvC (ofL (xs.take j) st) :: rrow A mvC xs :: R ∧ Agree a [(3, .slice A xs.length c), (4, .int .i64 w), (5, .int .i64 st), (6, .int .u8 k), (7, .slice B (ofL (xs.take j) st).length kk), (8, .string ⟨(dataL (ofL (xs.take j) st) w).toArray⟩), (9, .int .i64 j)]) xs.length
    (turn xs.length ⟨0, none, 0, by omega, rfl, rfl, rfl, rfl, rfl, rfl, rfl, rfl, trivial⟩) ?_
  rintro n1 a C' ⟨j, B, kk, hj, rfl, ha⟩
  refine c_fr _ ha ?_
  simp only [updL]
  have hlen : (ofL (xs.take j) st).length ≤ j := by unfold ofL; exact Nat.le_trans (List.length_filter_le _ _) (by rw [List.length_take]; omega)
  have hdl := dataL_le w st (xs.take j) fun x hx => hsz x (List.mem_of_mem_take hx)
  rw [List.length_take] at hdl
  have hds : (ByteArray.mk (dataL (ofL (xs.take j) st) w).toArray).size ≤ 200000 := by rw [ba_size]; omega
  by_cases hlt : j < xs.length
  · obtain ⟨x, hp, hd⟩ := at_drop (l := xs) (j := j) (by omega)
    have hxs := hsz x (List.mem_of_getElem? hp)
    have ht : xs.take (j + 1) = xs.take j ++ [x] := by rw [List.take_add_one, hp]; rfl
    have ho := ofL_snoc (xs.take j) x st
    rw [← ht] at ho
    by_cases hst : x.st = st
    · rw [if_pos hst] at ho
      have hd2 := dataL_snoc (ofL (xs.take j) st) x w
      rw [← ho] at hd2
      by_cases hw : x.w = w
      · rw [if_pos hw] at hd2
        repeat' (first
          | (show evG _ _ _ _ _ _ _; first | refine G_andNot0 ?_ | refine G_andNot1 ?_ | refine G_add64 ?_ | refine G_sub64 ?_ | refine G_mul64 ?_ | refine G_quo ?_ | refine G_rem ?_ | refine G_shl8 ?_ | refine G_orb ?_ | refine G_shr ?_ | refine G_pure0 ?_ | refine G_load ?_ | refine evG_nil ?_ | refine G_br ?_ ?_ | refine G_field ?_ | refine G_pure ?_ | refine G_store ?_ | refine G_loadV ?_ | refine G_loadV0 ?_ | refine G_loadV2 ?_ | (refine G_append ?_; intro _ _) | (refine G_appendN ?_; intro _ _) | refine G_not ?_ | refine G_index ?_ | refine G_indexA ?_ | refine G_indexS ?_ | refine G_conv64 ?_ | refine G_conv8 ?_ | refine G_convu ?_ | refine G_conv ?_ | refine G_build ?_ | refine G_slh ?_ | refine G_slo ?_ | refine G_shi ?_ | refine G_cat ?_ | refine G_min ?_ | refine G_max ?_ | refine G_neg64 ?_ | refine G_eql_agg ?_ | refine G_neq_agg ?_ | refine G_bytesP ?_ | refine G_bytesstr ?_ | refine G_call ?_ | refine G_call0 ?_ | refine G_callv ?_ | refine G_callv0 ?_ | (refine G_box ?_; intro _) | (refine G_alloc ?_; intro _) | (refine G_buildSlice ?_; intro _) | (refine G_strrow ?_; intro _ _) | (refine G_indexV ?_; intro _ _ hA; subst hA) | (refine G_sliceR ?_; intro _) | (refine G_sliceO ?_; intro _) | refine G_skip ?_ | refine G_skip0 ?_)
          | (show spl _ _ _; first | refine spl_no rfl ?_ | refine spl_yes rfl ?_)
          | (show evC _ _ _ _ _; first | refine c_seq ?_ | refine c_region (by exact rfl) ?_ | refine c_cond (by exact rfl) ?_ | refine c_ret ?_ | refine c_skip ?_ | refine c_block ?_ | refine c_exit ?_  | refine c_draw (l := [(0, 0), (1, 0), (2, 0), (3, 0), (4, 0), (5, 0), (6, 0), (7, 0), (8, 0), (9, 0), (10, 0), (11, 0)]) (by decide +kernel) (by decide +kernel) (by exact rfl) ?_ | refine c_draw (l := [(0, 1), (1, 0), (2, 0), (3, 0), (4, 1), (5, 1), (6, 1), (7, 0), (8, 0), (9, 0), (10, 0), (11, 0), (12, 1), (13, 1), (14, 0), (15, 0), (16, 0), (18, 0), (19, 0), (20, 0), (21, 0), (22, 0), (23, 1), (24, 1), (25, 1), (26, 1), (27, 1), (28, 1), (29, 1), (17, 2), (30, 0), (31, 0), (32, 0), (33, 0)]) (by decide +kernel) (by decide +kernel) (by exact rfl) ?_ | refine c_draw (by exact rfl) (by decide +kernel) (by exact rfl) ?_ | refine c_drawT (by exact rfl) (by decide +kernel) (by exact rfl) ?_ | refine c_scope ?_ | refine c_label ?_)
          | (show Br _ _ _; first | refine Br.t rfl ?_ | refine Br.f rfl ?_ | refine Br.t (beq_self_eq_true _) ?_ | refine Br.f (not_beq_self _) ?_ | refine Br.t (by assumption) ?_ | refine Br.f (by assumption) ?_ | refine Br.t (nb_f (by assumption)) ?_ | refine Br.f (nb_t (by assumption)) ?_ | (refine Br.mk (fun h => ?_) (fun h => ?_) <;> (try simp only [Bool.and_eq_true, Bool.or_eq_true, Bool.and_eq_false_iff, Bool.or_eq_false_iff, decide_eq_true_eq, decide_eq_false_iff_not, beq_iff_eq, bne_iff_ne, beq_eq_false_iff_ne, bne_eq_false_iff_eq, ne_eq, Bool.not_eq_true', Bool.not_eq_false', not_true_eq_false, not_false_eq_true, Int.not_lt, Int.not_le, gt_iff_lt, ge_iff_le] at h) <;> (try (first | contradiction | (exfalso; omega)))))
          | (show thenC _ _ _ _ _; first | refine t_n ?_ | refine t_r ?_ | refine t_e ?_)
          | (show inBlockC _ _ _ _ _; first | refine b_n ?_ | refine b_r ?_ | refine b_hit rfl ?_ | refine b_miss rfl ?_)
          | (show noGotoC _ _ _ _; first | refine g_n ?_ | refine g_r ?_ | refine g_e ?_))
        refine turn (n1 - 1) ⟨j + 1, _, _, by omega, by rw [ho], rfl, rfl, rfl, rfl, by rw [ho]; rfl, ?_, rfl, trivial⟩
        show Value.string _ = Value.string _
        rw [hd2]
        exact congrArg Value.string (ba_ext (by simp))
      · rw [if_neg hw] at hd2
        repeat' (first
          | (show evG _ _ _ _ _ _ _; first | refine G_andNot0 ?_ | refine G_andNot1 ?_ | refine G_add64 ?_ | refine G_sub64 ?_ | refine G_mul64 ?_ | refine G_quo ?_ | refine G_rem ?_ | refine G_shl8 ?_ | refine G_orb ?_ | refine G_shr ?_ | refine G_pure0 ?_ | refine G_load ?_ | refine evG_nil ?_ | refine G_br ?_ ?_ | refine G_field ?_ | refine G_pure ?_ | refine G_store ?_ | refine G_loadV ?_ | refine G_loadV0 ?_ | refine G_loadV2 ?_ | (refine G_append ?_; intro _ _) | (refine G_appendN ?_; intro _ _) | refine G_not ?_ | refine G_index ?_ | refine G_indexA ?_ | refine G_indexS ?_ | refine G_conv64 ?_ | refine G_conv8 ?_ | refine G_convu ?_ | refine G_conv ?_ | refine G_build ?_ | refine G_slh ?_ | refine G_slo ?_ | refine G_shi ?_ | refine G_cat ?_ | refine G_min ?_ | refine G_max ?_ | refine G_neg64 ?_ | refine G_eql_agg ?_ | refine G_neq_agg ?_ | refine G_bytesP ?_ | refine G_bytesstr ?_ | refine G_call ?_ | refine G_call0 ?_ | refine G_callv ?_ | refine G_callv0 ?_ | (refine G_box ?_; intro _) | (refine G_alloc ?_; intro _) | (refine G_buildSlice ?_; intro _) | (refine G_strrow ?_; intro _ _) | (refine G_indexV ?_; intro _ _ hA; subst hA) | (refine G_sliceR ?_; intro _) | (refine G_sliceO ?_; intro _) | refine G_skip ?_ | refine G_skip0 ?_)
          | (show spl _ _ _; first | refine spl_no rfl ?_ | refine spl_yes rfl ?_)
          | (show evC _ _ _ _ _; first | refine c_seq ?_ | refine c_region (by exact rfl) ?_ | refine c_cond (by exact rfl) ?_ | refine c_ret ?_ | refine c_skip ?_ | refine c_block ?_ | refine c_exit ?_  | refine c_draw (l := [(0, 0), (1, 0), (2, 0), (3, 0), (4, 0), (5, 0), (6, 0), (7, 0), (8, 0), (9, 0), (10, 0), (11, 0)]) (by decide +kernel) (by decide +kernel) (by exact rfl) ?_ | refine c_draw (l := [(0, 1), (1, 0), (2, 0), (3, 0), (4, 1), (5, 1), (6, 1), (7, 0), (8, 0), (9, 0), (10, 0), (11, 0), (12, 1), (13, 1), (14, 0), (15, 0), (16, 0), (18, 0), (19, 0), (20, 0), (21, 0), (22, 0), (23, 1), (24, 1), (25, 1), (26, 1), (27, 1), (28, 1), (29, 1), (17, 2), (30, 0), (31, 0), (32, 0), (33, 0)]) (by decide +kernel) (by decide +kernel) (by exact rfl) ?_ | refine c_draw (by exact rfl) (by decide +kernel) (by exact rfl) ?_ | refine c_drawT (by exact rfl) (by decide +kernel) (by exact rfl) ?_ | refine c_scope ?_ | refine c_label ?_)
          | (show Br _ _ _; first | refine Br.t rfl ?_ | refine Br.f rfl ?_ | refine Br.t (beq_self_eq_true _) ?_ | refine Br.f (not_beq_self _) ?_ | refine Br.t (by assumption) ?_ | refine Br.f (by assumption) ?_ | refine Br.t (nb_f (by assumption)) ?_ | refine Br.f (nb_t (by assumption)) ?_ | (refine Br.mk (fun h => ?_) (fun h => ?_) <;> (try simp only [Bool.and_eq_true, Bool.or_eq_true, Bool.and_eq_false_iff, Bool.or_eq_false_iff, decide_eq_true_eq, decide_eq_false_iff_not, beq_iff_eq, bne_iff_ne, beq_eq_false_iff_ne, bne_eq_false_iff_eq, ne_eq, Bool.not_eq_true', Bool.not_eq_false', not_true_eq_false, not_false_eq_true, Int.not_lt, Int.not_le, gt_iff_lt, ge_iff_le] at h) <;> (try (first | contradiction | (exfalso; omega)))))
          | (show thenC _ _ _ _ _; first | refine t_n ?_ | refine t_r ?_ | refine t_e ?_)
          | (show inBlockC _ _ _ _ _; first | refine b_n ?_ | refine b_r ?_ | refine b_hit rfl ?_ | refine b_miss rfl ?_)
          | (show noGotoC _ _ _ _; first | refine g_n ?_ | refine g_r ?_ | refine g_e ?_))
        exact turn (n1 - 1) ⟨j + 1, _, _, by omega, by rw [ho], rfl, rfl, rfl, rfl, by rw [ho]; rfl, by rw [hd2]; rfl, rfl, trivial⟩
    · rw [if_neg hst] at ho
      repeat' (first
        | (show evG _ _ _ _ _ _ _; first | refine G_andNot0 ?_ | refine G_andNot1 ?_ | refine G_add64 ?_ | refine G_sub64 ?_ | refine G_mul64 ?_ | refine G_quo ?_ | refine G_rem ?_ | refine G_shl8 ?_ | refine G_orb ?_ | refine G_shr ?_ | refine G_pure0 ?_ | refine G_load ?_ | refine evG_nil ?_ | refine G_br ?_ ?_ | refine G_field ?_ | refine G_pure ?_ | refine G_store ?_ | refine G_loadV ?_ | refine G_loadV0 ?_ | refine G_loadV2 ?_ | (refine G_append ?_; intro _ _) | (refine G_appendN ?_; intro _ _) | refine G_not ?_ | refine G_index ?_ | refine G_indexA ?_ | refine G_indexS ?_ | refine G_conv64 ?_ | refine G_conv8 ?_ | refine G_convu ?_ | refine G_conv ?_ | refine G_build ?_ | refine G_slh ?_ | refine G_slo ?_ | refine G_shi ?_ | refine G_cat ?_ | refine G_min ?_ | refine G_max ?_ | refine G_neg64 ?_ | refine G_eql_agg ?_ | refine G_neq_agg ?_ | refine G_bytesP ?_ | refine G_bytesstr ?_ | refine G_call ?_ | refine G_call0 ?_ | refine G_callv ?_ | refine G_callv0 ?_ | (refine G_box ?_; intro _) | (refine G_alloc ?_; intro _) | (refine G_buildSlice ?_; intro _) | (refine G_strrow ?_; intro _ _) | (refine G_indexV ?_; intro _ _ hA; subst hA) | (refine G_sliceR ?_; intro _) | (refine G_sliceO ?_; intro _) | refine G_skip ?_ | refine G_skip0 ?_)
        | (show spl _ _ _; first | refine spl_no rfl ?_ | refine spl_yes rfl ?_)
        | (show evC _ _ _ _ _; first | refine c_seq ?_ | refine c_region (by exact rfl) ?_ | refine c_cond (by exact rfl) ?_ | refine c_ret ?_ | refine c_skip ?_ | refine c_block ?_ | refine c_exit ?_  | refine c_draw (l := [(0, 0), (1, 0), (2, 0), (3, 0), (4, 0), (5, 0), (6, 0), (7, 0), (8, 0), (9, 0), (10, 0), (11, 0)]) (by decide +kernel) (by decide +kernel) (by exact rfl) ?_ | refine c_draw (l := [(0, 1), (1, 0), (2, 0), (3, 0), (4, 1), (5, 1), (6, 1), (7, 0), (8, 0), (9, 0), (10, 0), (11, 0), (12, 1), (13, 1), (14, 0), (15, 0), (16, 0), (18, 0), (19, 0), (20, 0), (21, 0), (22, 0), (23, 1), (24, 1), (25, 1), (26, 1), (27, 1), (28, 1), (29, 1), (17, 2), (30, 0), (31, 0), (32, 0), (33, 0)]) (by decide +kernel) (by decide +kernel) (by exact rfl) ?_ | refine c_draw (by exact rfl) (by decide +kernel) (by exact rfl) ?_ | refine c_drawT (by exact rfl) (by decide +kernel) (by exact rfl) ?_ | refine c_scope ?_ | refine c_label ?_)
        | (show Br _ _ _; first | refine Br.t rfl ?_ | refine Br.f rfl ?_ | refine Br.t (beq_self_eq_true _) ?_ | refine Br.f (not_beq_self _) ?_ | refine Br.t (by assumption) ?_ | refine Br.f (by assumption) ?_ | refine Br.t (nb_f (by assumption)) ?_ | refine Br.f (nb_t (by assumption)) ?_ | (refine Br.mk (fun h => ?_) (fun h => ?_) <;> (try simp only [Bool.and_eq_true, Bool.or_eq_true, Bool.and_eq_false_iff, Bool.or_eq_false_iff, decide_eq_true_eq, decide_eq_false_iff_not, beq_iff_eq, bne_iff_ne, beq_eq_false_iff_ne, bne_eq_false_iff_eq, ne_eq, Bool.not_eq_true', Bool.not_eq_false', not_true_eq_false, not_false_eq_true, Int.not_lt, Int.not_le, gt_iff_lt, ge_iff_le] at h) <;> (try (first | contradiction | (exfalso; omega)))))
        | (show thenC _ _ _ _ _; first | refine t_n ?_ | refine t_r ?_ | refine t_e ?_)
        | (show inBlockC _ _ _ _ _; first | refine b_n ?_ | refine b_r ?_ | refine b_hit rfl ?_ | refine b_miss rfl ?_)
        | (show noGotoC _ _ _ _; first | refine g_n ?_ | refine g_r ?_ | refine g_e ?_))
      exact turn (n1 - 1) ⟨j + 1, _, _, by omega, by rw [ho], rfl, rfl, rfl, rfl, by rw [ho]; rfl, by rw [ho]; rfl, rfl, trivial⟩
  · have : j = xs.length := by omega
    subst this
    rw [List.take_of_length_le (Nat.le_refl _)] at hlen hdl hds ⊢
    have hkk : 0 ≤ k % ((xs.length : Int) + 1) ∧ k % ((xs.length : Int) + 1) ≤ xs.length := ⟨Int.emod_nonneg _ (by omega), by have := Int.emod_lt_of_pos k (show (0 : Int) < xs.length + 1 by omega); omega⟩
    have hp := data_parts xs w st (k % ((xs.length : Int) + 1)).toNat
    have t1 : ∀ l : List Mv, (∀ x ∈ l, x ∈ xs) → l.length ≤ xs.length → (ByteArray.mk (dataL (ofL l st) w).toArray).size ≤ 200000 := fun l h1 h2 => by
      have := dataL_le w st l fun x hx => hsz x (h1 x hx)
      rw [ba_size]; omega
    have s1 : (ByteArray.mk (dataL (ofL (List.take ((k % ((xs.length : Int) + 1)).toNat - Int.toNat 0) (List.drop (Int.toNat 0) xs)) st) w).toArray).size ≤ 200000 := t1 _ (fun x hx => List.mem_of_mem_drop (List.mem_of_mem_take hx)) (by first | (simp; done) | (simp; omega))
    have s2 : (ByteArray.mk (dataL (ofL (List.take (((xs.length : Nat) : Int).toNat - (k % ((xs.length : Int) + 1)).toNat) (List.drop (k % ((xs.length : Int) + 1)).toNat xs)) st) w).toArray).size ≤ 200000 := t1 _ (fun x hx => List.mem_of_mem_drop (List.mem_of_mem_take hx)) (by first | (simp; done) | (simp; omega))
    have e0 : ByteArray.mk (dataL (ofL xs st) w).toArray = ByteArray.mk (dataL (ofL (List.take ((k % ((xs.length : Int) + 1)).toNat - Int.toNat 0) (List.drop (Int.toNat 0) xs)) st) w).toArray ++ ByteArray.mk (dataL (ofL (List.take (((xs.length : Nat) : Int).toNat - (k % ((xs.length : Int) + 1)).toNat) (List.drop (k % ((xs.length : Int) + 1)).toNat xs)) st) w).toArray := by
      refine ba_ext ?_
      rw [List.take_of_length_le (l := List.drop (k % ((xs.length : Int) + 1)).toNat xs) (by rw [List.length_drop, Int.toNat_natCast]; exact Nat.le_refl _)]
      simp only [ByteArray.data_append, Array.toList_append]
      exact hp
    repeat' (first
      | (show evG _ _ _ _ _ _ _; first | refine G_andNot0 ?_ | refine G_andNot1 ?_ | refine G_add64 ?_ | refine G_sub64 ?_ | refine G_mul64 ?_ | refine G_quo ?_ | refine G_rem ?_ | refine G_shl8 ?_ | refine G_orb ?_ | refine G_shr ?_ | refine G_pure0 ?_ | refine G_load ?_ | refine evG_nil ?_ | refine G_br ?_ ?_ | refine G_field ?_ | refine G_pure ?_ | refine G_store ?_ | refine G_loadV ?_ | refine G_loadV0 ?_ | refine G_loadV2 ?_ | (refine G_append ?_; intro _ _) | (refine G_appendN ?_; intro _ _) | refine G_not ?_ | refine G_index ?_ | refine G_indexA ?_ | refine G_indexS ?_ | refine G_conv64 ?_ | refine G_conv8 ?_ | refine G_convu ?_ | refine G_conv ?_ | refine G_build ?_ | refine G_slh ?_ | refine G_slo ?_ | refine G_shi ?_ | refine G_cat ?_ | refine G_min ?_ | refine G_max ?_ | refine G_neg64 ?_ | refine G_eql_agg ?_ | refine G_neq_agg ?_ | refine G_bytesP ?_ | refine G_bytesstr ?_ | refine G_call ?_ | refine G_call0 ?_ | refine G_callv ?_ | refine G_callv0 ?_ | (refine G_box ?_; intro _) | (refine G_alloc ?_; intro _) | (refine G_buildSlice ?_; intro _) | (refine G_strrow ?_; intro _ _) | (refine G_indexV ?_; intro _ _ hA; subst hA) | (refine G_sliceR ?_; intro _) | (refine G_sliceO ?_; intro _) | refine G_skip ?_ | refine G_skip0 ?_)
      | (show spl _ _ _; first | refine spl_no rfl ?_ | refine spl_yes rfl ?_)
      | (show evC _ _ _ _ _; first | refine c_seq ?_ | refine c_region (by exact rfl) ?_ | refine c_cond (by exact rfl) ?_ | refine c_ret ?_ | refine c_skip ?_ | refine c_block ?_ | refine c_exit ?_  | refine c_draw (l := [(0, 0), (1, 0), (2, 0), (3, 0), (4, 0), (5, 0), (6, 0), (7, 0), (8, 0), (9, 0), (10, 0), (11, 0)]) (by decide +kernel) (by decide +kernel) (by exact rfl) ?_ | refine c_draw (l := [(0, 1), (1, 0), (2, 0), (3, 0), (4, 1), (5, 1), (6, 1), (7, 0), (8, 0), (9, 0), (10, 0), (11, 0), (12, 1), (13, 1), (14, 0), (15, 0), (16, 0), (18, 0), (19, 0), (20, 0), (21, 0), (22, 0), (23, 1), (24, 1), (25, 1), (26, 1), (27, 1), (28, 1), (29, 1), (17, 2), (30, 0), (31, 0), (32, 0), (33, 0)]) (by decide +kernel) (by decide +kernel) (by exact rfl) ?_ | refine c_draw (by exact rfl) (by decide +kernel) (by exact rfl) ?_ | refine c_drawT (by exact rfl) (by decide +kernel) (by exact rfl) ?_ | refine c_scope ?_ | refine c_label ?_)
      | (show Br _ _ _; first | refine Br.t rfl ?_ | refine Br.f rfl ?_ | refine Br.t (beq_self_eq_true _) ?_ | refine Br.f (not_beq_self _) ?_ | refine Br.t (by assumption) ?_ | refine Br.f (by assumption) ?_ | refine Br.t (nb_f (by assumption)) ?_ | refine Br.f (nb_t (by assumption)) ?_ | (refine Br.mk (fun h => ?_) (fun h => ?_) <;> (try simp only [Bool.and_eq_true, Bool.or_eq_true, Bool.and_eq_false_iff, Bool.or_eq_false_iff, decide_eq_true_eq, decide_eq_false_iff_not, beq_iff_eq, bne_iff_ne, beq_eq_false_iff_ne, bne_eq_false_iff_eq, ne_eq, Bool.not_eq_true', Bool.not_eq_false', not_true_eq_false, not_false_eq_true, Int.not_lt, Int.not_le, gt_iff_lt, ge_iff_le] at h) <;> (try (first | contradiction | (exfalso; omega)))))
      | (show thenC _ _ _ _ _; first | refine t_n ?_ | refine t_r ?_ | refine t_e ?_)
      | (show inBlockC _ _ _ _ _; first | refine b_n ?_ | refine b_r ?_ | refine b_hit rfl ?_ | refine b_miss rfl ?_)
      | (show noGotoC _ _ _ _; first | refine g_n ?_ | refine g_r ?_ | refine g_e ?_)
      | (show CallT _ 27 _ _ _; refine CA (h := awake34_ok ?_))
      | (show CallT _ 35 _ _ _; refine CA (h := of_ok (xs := xs) (by ((repeat (first | exact view_row | exact view_rrow | exact view_pt | assumption | apply view_there)) <;> exact view_row)) (by exact rfl) (by omega) (fun B k => ?_)))
      | (show CallT _ 34 _ _ _; refine CA (h := sameT_ok (xs := ofL xs st) (by ((repeat (first | exact view_row | exact view_rrow | exact view_pt | assumption | apply view_there)) <;> exact view_row)) (by ((repeat (first | exact view_row | exact view_rrow | exact view_pt | assumption | apply view_there)) <;> exact view_row)) (by exact rfl) (by omega) ?_))
      | (show CallT _ 36 _ _ _; refine CA (h := data_ok (xs := xs) (by ((repeat (first | exact view_row | exact view_rrow | exact view_pt | assumption | apply view_there)) <;> exact view_row)) (by exact rfl) (by omega) hsz ?_))
      | (show CallT _ 36 _ _ _; refine CA (h := data_ok (by ((repeat (first | exact view_row | exact view_rrow | exact view_pt | assumption | apply view_there)) <;> exact view_row)) (by first | exact rfl | (simp; done) | (simp; omega)) (by omega) (fun x hx => hsz x (List.mem_of_mem_drop (List.mem_of_mem_take hx))) ?_)))
    all_goals (refine RETC ?_; exact ret_done (kb (hK _) (by rw [← e0]; simp)))
end Go.Proofs.Ytgdfmbnbknhhiaa
