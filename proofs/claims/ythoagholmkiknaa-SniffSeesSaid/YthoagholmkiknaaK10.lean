/- Frame: a payload by the document: lemmas; each with the conditions that it states. -/
import Derived.Test.YthoagholmkiknaaFh
import Derived.Test.YthoagholmkiknaaKe

namespace Go.Proofs.Ythoagholmkiknaa
open Go Go.Proofs Go.Sl
set_option maxRecDepth 100000
set_option maxHeartbeats 4000000
set_option linter.unusedSimpArgs false
set_option linter.unusedVariables false
attribute [local irreducible] evG evC spl thenC inBlockC noGotoC CallT retC RetG TurnG CutG pt ro exP star sep pureP
variable {R C : List HP} {K : Value → List HP → Prop}
theorem rB_nn {n w : Int} (h : 0 ≤ n) : rB n w = ⟨(wB n w).toArray⟩ := by unfold rB; rw [if_neg (by omega)]
theorem wB_1 (n : Int) : wB n 1 = [byteI n] := by
  unfold wB
  simp
theorem rpayload_ok {t st : Int} {e : Bool} {d : ByteArray} {k on w : Int} {x : Bool} {c la n : Int} {pa : Option Addr} {pn pc : Nat} {ps : List Pr} (h : RightP t st e d k on w x c la n ps) (hv : View C pa prC ps) (hn : ps.length = pn) (hK : K (.string ⟨(payL t d k on w x c la n ps).toArray⟩) C) : CallT Try.prog 26 #[.agg #[.int .i64 t, .int .i64 st, .bool e, .string d, .int .i64 k, .int .i64 on, .int .i64 w, .bool x, .int .i64 c, .int .i64 la, .int .i64 n, .slice pa pn pc]] C K := by
  subst hn
  obtain ⟨h1, h2, h3, h4, h5, h6, h7, h8, h9, h10, h11, h12, h13, h14, h15, h16, h17, h18, h19, h20, h21⟩ := h
  rw [n31_iff] at h18 h19 h20
  have rb : ∀ n w : Int, 0 ≤ w → w ≤ 4 → (rB n w).size ≤ 4 := fun n w h0 h1 => by
    unfold rB; split
    · decide
    · rw [ba_size, wB_len]; omega
  have b1 := rb on 4 (by decide) (by decide)
  have b2 := rb c 4 (by decide) (by decide)
  have b3 := rb la 4 (by decide) (by decide)
  rcases (by omega : (t = 2 ∨ t = 3) ∨ t = 4 ∨ t = 9 ∨ (t = 10 ∨ t = 11) ∨ (t = 0 ∨ t = 1 ∨ t = 7 ∨ t = 8 ∨ t = 5 ∨ t = 6)) with h | h | h | h | h
  · have hdep := h16 h
    unfold depB at hdep
    simp only [Bool.and_eq_true, decide_eq_true_eq, n31_iff] at hdep
    unfold payL at hK
    rw [if_pos h, wB_1, wB_1, wB_1, wB_1] at hK
    refine callT_intro mixed Try.func26 rfl (by decide) (by decide +kernel) (by exact Nat.le_of_ble_eq_true rfl) ?_
    cases x
    all_goals
      repeat' (first
        | (show evG _ _ _ _ _ _ _; first | refine G_add64 ?_ | refine G_sub64 ?_ | refine G_pure0 ?_ | refine G_load ?_ | refine evG_nil ?_ | refine G_br ?_ ?_ | refine G_field ?_ | refine G_pure ?_ | refine G_loadV ?_ | refine G_loadV0 ?_ | refine G_loadV2 ?_ | refine G_index ?_ | refine G_indexA ?_ | refine G_conv64 ?_ | refine G_conv8 ?_ | refine G_convu ?_ | refine G_conv ?_ | refine G_cat ?_ | refine G_eql_agg ?_ | refine G_bytesP ?_ | refine G_bytesstr ?_ | refine G_call ?_ | refine G_call0 ?_ | (refine G_box ?_; intro _) | (refine G_buildSlice ?_; intro _) | (refine G_strrow ?_; intro _ _) | (refine G_indexV ?_; intro _ _ hA; subst hA))
        | (show spl _ _ _; first | refine spl_no rfl ?_ | refine spl_yes rfl ?_)
        | (show evC _ _ _ _ _; first | refine c_seq ?_ | refine c_region (by exact rfl) ?_ | refine c_cond (by exact rfl) ?_ | refine c_ret ?_ | refine c_skip ?_ | refine c_block ?_ | refine c_exit ?_ | (show evC _ (.region 7 _ true) _ _ _; refine c_drawT (t := (.br (.st 0 1 (.st 1 1 (.st 2 1 (.st 3 1 (.st 4 1 (.st 5 1 (.st 6 1 (.st 7 1 (.st 8 1 (.st 9 1 (.st 10 2 (.br (.st 11 2 (.st 12 2 (.st 13 2 (.st 14 2 (.st 15 3 (.st 16 0 (.st 17 0 .nil))))))) (.st 12 2 (.st 13 2 (.st 14 2 (.st 15 3 (.st 11 2 (.st 16 0 (.st 17 0 .nil))))))))))))))))))) (.st 12 2 (.st 13 2 (.st 14 2 (.st 15 3 (.st 0 1 (.st 1 1 (.st 2 1 (.st 3 1 (.st 4 1 (.st 5 1 (.st 6 1 (.st 7 1 (.st 8 1 (.st 9 1 (.st 10 2 (.st 11 2 (.st 16 0 (.st 17 0 .nil)))))))))))))))))))) (by kernel_rfl) (by decide +kernel) (by exact rfl) ?_) | (show evC _ (.region 11 _ true) _ _ _; refine c_draw (l := [(0, 0), (1, 0), (2, 1), (3, 1), (4, 1), (5, 1), (6, 0), (7, 0)]) (by decide +kernel) (by decide +kernel) (by exact rfl) ?_) | (show evC _ (.region 19 _ true) _ _ _; refine c_draw (l := [(1, 0), (2, 0), (3, 0), (4, 0), (5, 0), (6, 0), (7, 1), (9, 1), (10, 1), (11, 1), (12, 1), (13, 1), (14, 1), (15, 1), (0, 2), (8, 1), (16, 0), (17, 0)]) (by decide +kernel) (by decide +kernel) (by exact rfl) ?_) | refine std ?_)
        | (show Br _ _ _; first | refine Br.t rfl ?_ | refine Br.f rfl ?_ | refine brs ?_ | (first | refine Br.mkN (fun h => ?_) (fun h => ?_) | refine Br.mk (fun h => ?_) (fun h => ?_)) <;> (try (first | contradiction | (exfalso; omega) | (exfalso; simp at h; done))))
        | refine stp ?_
        | (show CallT _ 42 _ _ _; refine CA (h := R01B_ok (by decide) (by omega) ?_)))
      all_goals (rw [rB_nn (by omega)]; (show retC _ _ _ _ _ _; refine RETC ?_; exact ret_done (kv hK (congrArg Value.string (ba_ext (by simp [byteI_mod, bitI]))))))
  · subst h
    simp only [payL, show ¬((4 : Int) = 2 ∨ (4 : Int) = 3) by decide, if_false, if_true] at hK
    refine callT_intro mixed Try.func26 rfl (by decide) (by decide +kernel) (by exact Nat.le_of_ble_eq_true rfl) ?_
    repeat' (first
      | (show evG _ _ _ _ _ _ _; first | refine G_add64 ?_ | refine G_sub64 ?_ | refine G_pure0 ?_ | refine G_load ?_ | refine evG_nil ?_ | refine G_br ?_ ?_ | refine G_field ?_ | refine G_pure ?_ | refine G_loadV ?_ | refine G_loadV0 ?_ | refine G_loadV2 ?_ | refine G_index ?_ | refine G_indexA ?_ | refine G_conv64 ?_ | refine G_conv8 ?_ | refine G_convu ?_ | refine G_conv ?_ | refine G_cat ?_ | refine G_eql_agg ?_ | refine G_bytesP ?_ | refine G_bytesstr ?_ | refine G_call ?_ | refine G_call0 ?_ | (refine G_box ?_; intro _) | (refine G_buildSlice ?_; intro _) | (refine G_strrow ?_; intro _ _) | (refine G_indexV ?_; intro _ _ hA; subst hA))
      | (show spl _ _ _; first | refine spl_no rfl ?_ | refine spl_yes rfl ?_)
      | (show evC _ _ _ _ _; first | refine c_seq ?_ | refine c_region (by exact rfl) ?_ | refine c_cond (by exact rfl) ?_ | refine c_ret ?_ | refine c_skip ?_ | refine c_block ?_ | refine c_exit ?_ | (show evC _ (.region 7 _ true) _ _ _; refine c_drawT (t := (.br (.st 0 1 (.st 1 1 (.st 2 1 (.st 3 1 (.st 4 1 (.st 5 1 (.st 6 1 (.st 7 1 (.st 8 1 (.st 9 1 (.st 10 2 (.br (.st 11 2 (.st 12 2 (.st 13 2 (.st 14 2 (.st 15 3 (.st 16 0 (.st 17 0 .nil))))))) (.st 12 2 (.st 13 2 (.st 14 2 (.st 15 3 (.st 11 2 (.st 16 0 (.st 17 0 .nil))))))))))))))))))) (.st 12 2 (.st 13 2 (.st 14 2 (.st 15 3 (.st 0 1 (.st 1 1 (.st 2 1 (.st 3 1 (.st 4 1 (.st 5 1 (.st 6 1 (.st 7 1 (.st 8 1 (.st 9 1 (.st 10 2 (.st 11 2 (.st 16 0 (.st 17 0 .nil)))))))))))))))))))) (by kernel_rfl) (by decide +kernel) (by exact rfl) ?_) | (show evC _ (.region 11 _ true) _ _ _; refine c_draw (l := [(0, 0), (1, 0), (2, 1), (3, 1), (4, 1), (5, 1), (6, 0), (7, 0)]) (by decide +kernel) (by decide +kernel) (by exact rfl) ?_) | (show evC _ (.region 19 _ true) _ _ _; refine c_draw (l := [(1, 0), (2, 0), (3, 0), (4, 0), (5, 0), (6, 0), (7, 1), (9, 1), (10, 1), (11, 1), (12, 1), (13, 1), (14, 1), (15, 1), (0, 2), (8, 1), (16, 0), (17, 0)]) (by decide +kernel) (by decide +kernel) (by exact rfl) ?_) | refine std ?_)
      | (show Br _ _ _; first | refine Br.t rfl ?_ | refine Br.f rfl ?_ | refine brs ?_ | (first | refine Br.mkN (fun h => ?_) (fun h => ?_) | refine Br.mk (fun h => ?_) (fun h => ?_)) <;> (try (first | contradiction | (exfalso; omega) | (exfalso; simp at h; done))))
      | refine stp ?_
      | (show CallT _ 42 _ _ _; refine CA (h := R01B_ok (by decide) (by omega) ?_)))
    all_goals (rw [rB_nn (by omega)]; (show retC _ _ _ _ _ _; refine RETC ?_; exact ret_done (hK)))
  · subst h
    simp only [payL, show ¬((9 : Int) = 2 ∨ (9 : Int) = 3) by decide, show ¬((9 : Int) = 4) by decide, if_false, if_true] at hK
    refine callT_intro mixed Try.func26 rfl (by decide) (by decide +kernel) (by exact Nat.le_of_ble_eq_true rfl) ?_
    repeat' (first
      | (show evG _ _ _ _ _ _ _; first | refine G_add64 ?_ | refine G_sub64 ?_ | refine G_pure0 ?_ | refine G_load ?_ | refine evG_nil ?_ | refine G_br ?_ ?_ | refine G_field ?_ | refine G_pure ?_ | refine G_loadV ?_ | refine G_loadV0 ?_ | refine G_loadV2 ?_ | refine G_index ?_ | refine G_indexA ?_ | refine G_conv64 ?_ | refine G_conv8 ?_ | refine G_convu ?_ | refine G_conv ?_ | refine G_cat ?_ | refine G_eql_agg ?_ | refine G_bytesP ?_ | refine G_bytesstr ?_ | refine G_call ?_ | refine G_call0 ?_ | (refine G_box ?_; intro _) | (refine G_buildSlice ?_; intro _) | (refine G_strrow ?_; intro _ _) | (refine G_indexV ?_; intro _ _ hA; subst hA))
      | (show spl _ _ _; first | refine spl_no rfl ?_ | refine spl_yes rfl ?_)
      | (show evC _ _ _ _ _; first | refine c_seq ?_ | refine c_region (by exact rfl) ?_ | refine c_cond (by exact rfl) ?_ | refine c_ret ?_ | refine c_skip ?_ | refine c_block ?_ | refine c_exit ?_ | (show evC _ (.region 7 _ true) _ _ _; refine c_drawT (t := (.br (.st 0 1 (.st 1 1 (.st 2 1 (.st 3 1 (.st 4 1 (.st 5 1 (.st 6 1 (.st 7 1 (.st 8 1 (.st 9 1 (.st 10 2 (.br (.st 11 2 (.st 12 2 (.st 13 2 (.st 14 2 (.st 15 3 (.st 16 0 (.st 17 0 .nil))))))) (.st 12 2 (.st 13 2 (.st 14 2 (.st 15 3 (.st 11 2 (.st 16 0 (.st 17 0 .nil))))))))))))))))))) (.st 12 2 (.st 13 2 (.st 14 2 (.st 15 3 (.st 0 1 (.st 1 1 (.st 2 1 (.st 3 1 (.st 4 1 (.st 5 1 (.st 6 1 (.st 7 1 (.st 8 1 (.st 9 1 (.st 10 2 (.st 11 2 (.st 16 0 (.st 17 0 .nil)))))))))))))))))))) (by kernel_rfl) (by decide +kernel) (by exact rfl) ?_) | (show evC _ (.region 11 _ true) _ _ _; refine c_draw (l := [(0, 0), (1, 0), (2, 1), (3, 1), (4, 1), (5, 1), (6, 0), (7, 0)]) (by decide +kernel) (by decide +kernel) (by exact rfl) ?_) | (show evC _ (.region 19 _ true) _ _ _; refine c_draw (l := [(1, 0), (2, 0), (3, 0), (4, 0), (5, 0), (6, 0), (7, 1), (9, 1), (10, 1), (11, 1), (12, 1), (13, 1), (14, 1), (15, 1), (0, 2), (8, 1), (16, 0), (17, 0)]) (by decide +kernel) (by decide +kernel) (by exact rfl) ?_) | refine std ?_)
      | (show Br _ _ _; first | refine Br.t rfl ?_ | refine Br.f rfl ?_ | refine brs ?_ | (first | refine Br.mkN (fun h => ?_) (fun h => ?_) | refine Br.mk (fun h => ?_) (fun h => ?_)) <;> (try (first | contradiction | (exfalso; omega) | (exfalso; simp at h; done))))
      | refine stp ?_
      | (show CallT _ 42 _ _ _; refine CA (h := R01B_ok (by decide) (by omega) ?_)))
    all_goals (rw [rB_nn (by omega), rB_nn (by omega)]; (show retC _ _ _ _ _ _; refine RETC ?_; exact ret_done (kv hK (congrArg Value.string (ba_ext (by simp))))))
  · unfold payL at hK
    rw [if_neg (by omega), if_neg (by omega), if_neg (by omega), if_pos h] at hK
    refine callT_intro mixed Try.func26 rfl (by decide) (by decide +kernel) (by exact Nat.le_of_ble_eq_true rfl) ?_
    repeat' (first
      | (show evG _ _ _ _ _ _ _; first | refine G_add64 ?_ | refine G_sub64 ?_ | refine G_pure0 ?_ | refine G_load ?_ | refine evG_nil ?_ | refine G_br ?_ ?_ | refine G_field ?_ | refine G_pure ?_ | refine G_loadV ?_ | refine G_loadV0 ?_ | refine G_loadV2 ?_ | refine G_index ?_ | refine G_indexA ?_ | refine G_conv64 ?_ | refine G_conv8 ?_ | refine G_convu ?_ | refine G_conv ?_ | refine G_cat ?_ | refine G_eql_agg ?_ | refine G_bytesP ?_ | refine G_bytesstr ?_ | refine G_call ?_ | refine G_call0 ?_ | (refine G_box ?_; intro _) | (refine G_buildSlice ?_; intro _) | (refine G_strrow ?_; intro _ _) | (refine G_indexV ?_; intro _ _ hA; subst hA))
      | (show spl _ _ _; first | refine spl_no rfl ?_ | refine spl_yes rfl ?_)
      | (show evC _ _ _ _ _; first | refine c_seq ?_ | refine c_region (by exact rfl) ?_ | refine c_cond (by exact rfl) ?_ | refine c_ret ?_ | refine c_skip ?_ | refine c_block ?_ | refine c_exit ?_ | (show evC _ (.region 7 _ true) _ _ _; refine c_drawT (t := (.br (.st 0 1 (.st 1 1 (.st 2 1 (.st 3 1 (.st 4 1 (.st 5 1 (.st 6 1 (.st 7 1 (.st 8 1 (.st 9 1 (.st 10 2 (.br (.st 11 2 (.st 12 2 (.st 13 2 (.st 14 2 (.st 15 3 (.st 16 0 (.st 17 0 .nil))))))) (.st 12 2 (.st 13 2 (.st 14 2 (.st 15 3 (.st 11 2 (.st 16 0 (.st 17 0 .nil))))))))))))))))))) (.st 12 2 (.st 13 2 (.st 14 2 (.st 15 3 (.st 0 1 (.st 1 1 (.st 2 1 (.st 3 1 (.st 4 1 (.st 5 1 (.st 6 1 (.st 7 1 (.st 8 1 (.st 9 1 (.st 10 2 (.st 11 2 (.st 16 0 (.st 17 0 .nil)))))))))))))))))))) (by kernel_rfl) (by decide +kernel) (by exact rfl) ?_) | (show evC _ (.region 11 _ true) _ _ _; refine c_draw (l := [(0, 0), (1, 0), (2, 1), (3, 1), (4, 1), (5, 1), (6, 0), (7, 0)]) (by decide +kernel) (by decide +kernel) (by exact rfl) ?_) | (show evC _ (.region 19 _ true) _ _ _; refine c_draw (l := [(1, 0), (2, 0), (3, 0), (4, 0), (5, 0), (6, 0), (7, 1), (9, 1), (10, 1), (11, 1), (12, 1), (13, 1), (14, 1), (15, 1), (0, 2), (8, 1), (16, 0), (17, 0)]) (by decide +kernel) (by decide +kernel) (by exact rfl) ?_) | refine std ?_)
      | (show Br _ _ _; first | refine Br.t rfl ?_ | refine Br.f rfl ?_ | refine brs ?_ | (first | refine Br.mkN (fun h => ?_) (fun h => ?_) | refine Br.mk (fun h => ?_) (fun h => ?_)) <;> (try (first | contradiction | (exfalso; omega) | (exfalso; simp at h; done))))
      | refine stp ?_
      | (show CallT _ 42 _ _ _; refine CA (h := R01B_ok (by decide) (by omega) ?_)))
    all_goals (rw [rB_nn (by omega)]; (show retC _ _ _ _ _ _; refine RETC ?_; exact ret_done (hK)))
  · unfold payL at hK
    rw [if_neg (by omega), if_neg (by omega), if_neg (by omega), if_neg (by omega)] at hK
    have hpl := psL_len ps
    have hd : d.data.toList.length = d.size := by simp
    have hds : d.size ≤ 256 := by
      rcases Nat.eq_zero_or_pos d.size with h' | h'
      · omega
      · rcases h12 h' with h'' | h''
        · exact h13 h''
        · have := h14 h''; omega
    refine callT_intro mixed Try.func26 rfl (by decide) (by decide +kernel) (by exact Nat.le_of_ble_eq_true rfl) ?_
    repeat' (first
      | (show evG _ _ _ _ _ _ _; first | refine G_add64 ?_ | refine G_sub64 ?_ | refine G_pure0 ?_ | refine G_load ?_ | refine evG_nil ?_ | refine G_br ?_ ?_ | refine G_field ?_ | refine G_pure ?_ | refine G_loadV ?_ | refine G_loadV0 ?_ | refine G_loadV2 ?_ | refine G_index ?_ | refine G_indexA ?_ | refine G_conv64 ?_ | refine G_conv8 ?_ | refine G_convu ?_ | refine G_conv ?_ | refine G_cat ?_ | refine G_eql_agg ?_ | refine G_bytesP ?_ | refine G_bytesstr ?_ | refine G_call ?_ | refine G_call0 ?_ | (refine G_box ?_; intro _) | (refine G_buildSlice ?_; intro _) | (refine G_strrow ?_; intro _ _) | (refine G_indexV ?_; intro _ _ hA; subst hA))
      | (show spl _ _ _; first | refine spl_no rfl ?_ | refine spl_yes rfl ?_)
      | (show evC _ _ _ _ _; first | refine c_seq ?_ | refine c_region (by exact rfl) ?_ | refine c_cond (by exact rfl) ?_ | refine c_ret ?_ | refine c_skip ?_ | refine c_block ?_ | refine c_exit ?_ | (show evC _ (.region 7 _ true) _ _ _; refine c_drawT (t := (.br (.st 0 1 (.st 1 1 (.st 2 1 (.st 3 1 (.st 4 1 (.st 5 1 (.st 6 1 (.st 7 1 (.st 8 1 (.st 9 1 (.st 10 2 (.br (.st 11 2 (.st 12 2 (.st 13 2 (.st 14 2 (.st 15 3 (.st 16 0 (.st 17 0 .nil))))))) (.st 12 2 (.st 13 2 (.st 14 2 (.st 15 3 (.st 11 2 (.st 16 0 (.st 17 0 .nil))))))))))))))))))) (.st 12 2 (.st 13 2 (.st 14 2 (.st 15 3 (.st 0 1 (.st 1 1 (.st 2 1 (.st 3 1 (.st 4 1 (.st 5 1 (.st 6 1 (.st 7 1 (.st 8 1 (.st 9 1 (.st 10 2 (.st 11 2 (.st 16 0 (.st 17 0 .nil)))))))))))))))))))) (by kernel_rfl) (by decide +kernel) (by exact rfl) ?_) | (show evC _ (.region 11 _ true) _ _ _; refine c_draw (l := [(0, 0), (1, 0), (2, 1), (3, 1), (4, 1), (5, 1), (6, 0), (7, 0)]) (by decide +kernel) (by decide +kernel) (by exact rfl) ?_) | (show evC _ (.region 19 _ true) _ _ _; refine c_draw (l := [(1, 0), (2, 0), (3, 0), (4, 0), (5, 0), (6, 0), (7, 1), (9, 1), (10, 1), (11, 1), (12, 1), (13, 1), (14, 1), (15, 1), (0, 2), (8, 1), (16, 0), (17, 0)]) (by decide +kernel) (by decide +kernel) (by exact rfl) ?_) | refine std ?_)
      | (show Br _ _ _; first | refine Br.t rfl ?_ | refine Br.f rfl ?_ | refine brs ?_ | (first | refine Br.mkN (fun h => ?_) (fun h => ?_) | refine Br.mk (fun h => ?_) (fun h => ?_)) <;> (try (first | contradiction | (exfalso; omega) | (exfalso; simp at h; done))))
      | refine stp ?_)
    rename_i r _ _ _ _ _
    have hv2 : View (pt r [.int .i64 t, .int .i64 st, .bool e, .string d, .int .i64 k, .int .i64 on, .int .i64 w, .bool x, .int .i64 c, .int .i64 la, .int .i64 n, .slice pa ps.length pc] 38 :: C) pa prC ps := view_there hv
    refine LOOP (fun m a C' => ∃ (j : Nat) (s : ByteArray), j + m = ps.length ∧ C' = pt r [.int .i64 t, .int .i64 st, .bool e, .string d, .int .i64 k, .int .i64 on, .int .i64 w, .bool x, .int .i64 c, .int .i64 la, .int .i64 n, .slice pa ps.length pc] 38 :: C ∧ s.data.toList = d.data.toList ++ psL (ps.take j) ∧ Agree a [(1, .pointer (some ⟨r, 0, none⟩)), (4, .string s), (5, .int .i64 j)]) ps.length (turn ps.length ⟨0, d, by omega, rfl, by simp [psL], rfl, rfl, rfl, trivial⟩) ?_
    rintro n1 a C' ⟨j, s, hj, rfl, hs, ha⟩
    refine c_fr _ ha ?_
    simp only [updL]
    have hsl : s.size ≤ 256 + 6 * j := by
      have e1 : s.data.toList.length = s.size := by simp
      rw [hs, List.length_append, psL_len, List.length_take] at e1
      omega
    by_cases hlt : j < ps.length
    · obtain ⟨y, hy, hd⟩ := at_drop (l := ps) (j := j) (by omega)
      have ht := psL_take hy
      have hyy : (0 ≤ y.i ∧ y.i ≤ 65535) ∧ (0 ≤ y.v ∧ y.v ≤ 2147483647) := by
        have := List.all_eq_true.1 h17 y (List.mem_of_getElem? hy)
        simp only [Bool.and_eq_true, decide_eq_true_eq, n31_iff] at this
        exact this
      have b4 := rb y.i 2 (by decide) (by decide)
      have b5 := rb y.v 4 (by decide) (by decide)
      repeat' (first
        | (show evG _ _ _ _ _ _ _; first | refine G_add64 ?_ | refine G_sub64 ?_ | refine G_pure0 ?_ | refine G_load ?_ | refine evG_nil ?_ | refine G_br ?_ ?_ | refine G_field ?_ | refine G_pure ?_ | refine G_loadV ?_ | refine G_loadV0 ?_ | refine G_loadV2 ?_ | refine G_index ?_ | refine G_indexA ?_ | refine G_conv64 ?_ | refine G_conv8 ?_ | refine G_convu ?_ | refine G_conv ?_ | refine G_cat ?_ | refine G_eql_agg ?_ | refine G_bytesP ?_ | refine G_bytesstr ?_ | refine G_call ?_ | refine G_call0 ?_ | (refine G_box ?_; intro _) | (refine G_buildSlice ?_; intro _) | (refine G_strrow ?_; intro _ _) | (refine G_indexV ?_; intro _ _ hA; subst hA))
        | (show spl _ _ _; first | refine spl_no rfl ?_ | refine spl_yes rfl ?_)
        | (show evC _ _ _ _ _; first | refine c_seq ?_ | refine c_region (by exact rfl) ?_ | refine c_cond (by exact rfl) ?_ | refine c_ret ?_ | refine c_skip ?_ | refine c_block ?_ | refine c_exit ?_ | (show evC _ (.region 7 _ true) _ _ _; refine c_drawT (t := (.br (.st 0 1 (.st 1 1 (.st 2 1 (.st 3 1 (.st 4 1 (.st 5 1 (.st 6 1 (.st 7 1 (.st 8 1 (.st 9 1 (.st 10 2 (.br (.st 11 2 (.st 12 2 (.st 13 2 (.st 14 2 (.st 15 3 (.st 16 0 (.st 17 0 .nil))))))) (.st 12 2 (.st 13 2 (.st 14 2 (.st 15 3 (.st 11 2 (.st 16 0 (.st 17 0 .nil))))))))))))))))))) (.st 12 2 (.st 13 2 (.st 14 2 (.st 15 3 (.st 0 1 (.st 1 1 (.st 2 1 (.st 3 1 (.st 4 1 (.st 5 1 (.st 6 1 (.st 7 1 (.st 8 1 (.st 9 1 (.st 10 2 (.st 11 2 (.st 16 0 (.st 17 0 .nil)))))))))))))))))))) (by kernel_rfl) (by decide +kernel) (by exact rfl) ?_) | (show evC _ (.region 11 _ true) _ _ _; refine c_draw (l := [(0, 0), (1, 0), (2, 1), (3, 1), (4, 1), (5, 1), (6, 0), (7, 0)]) (by decide +kernel) (by decide +kernel) (by exact rfl) ?_) | (show evC _ (.region 19 _ true) _ _ _; refine c_draw (l := [(1, 0), (2, 0), (3, 0), (4, 0), (5, 0), (6, 0), (7, 1), (9, 1), (10, 1), (11, 1), (12, 1), (13, 1), (14, 1), (15, 1), (0, 2), (8, 1), (16, 0), (17, 0)]) (by decide +kernel) (by decide +kernel) (by exact rfl) ?_) | refine std ?_)
        | (show Br _ _ _; first | refine Br.t rfl ?_ | refine Br.f rfl ?_ | refine brs ?_ | (first | refine Br.mkN (fun h => ?_) (fun h => ?_) | refine Br.mk (fun h => ?_) (fun h => ?_)) <;> (try (first | contradiction | (exfalso; omega) | (exfalso; simp at h; done))))
        | refine stp ?_
        | (show CallT _ 42 _ _ _; refine CA (h := R01B_ok (by decide) (by omega) ?_)))
      all_goals exact turn (n1 - 1) ⟨j + 1, _, by omega, rfl, by rw [ht, rB_nn hyy.1.1, rB_nn hyy.2.1]; simp [hs], rfl, rfl, rfl, trivial⟩
    · obtain rfl : j = ps.length := by omega
      rw [List.take_of_length_le (Nat.le_refl _)] at hs
      rw [← hs] at hK
      repeat' (first
        | (show evG _ _ _ _ _ _ _; first | refine G_add64 ?_ | refine G_sub64 ?_ | refine G_pure0 ?_ | refine G_load ?_ | refine evG_nil ?_ | refine G_br ?_ ?_ | refine G_field ?_ | refine G_pure ?_ | refine G_loadV ?_ | refine G_loadV0 ?_ | refine G_loadV2 ?_ | refine G_index ?_ | refine G_indexA ?_ | refine G_conv64 ?_ | refine G_conv8 ?_ | refine G_convu ?_ | refine G_conv ?_ | refine G_cat ?_ | refine G_eql_agg ?_ | refine G_bytesP ?_ | refine G_bytesstr ?_ | refine G_call ?_ | refine G_call0 ?_ | (refine G_box ?_; intro _) | (refine G_buildSlice ?_; intro _) | (refine G_strrow ?_; intro _ _) | (refine G_indexV ?_; intro _ _ hA; subst hA))
        | (show spl _ _ _; first | refine spl_no rfl ?_ | refine spl_yes rfl ?_)
        | (show evC _ _ _ _ _; first | refine c_seq ?_ | refine c_region (by exact rfl) ?_ | refine c_cond (by exact rfl) ?_ | refine c_ret ?_ | refine c_skip ?_ | refine c_block ?_ | refine c_exit ?_ | (show evC _ (.region 7 _ true) _ _ _; refine c_drawT (t := (.br (.st 0 1 (.st 1 1 (.st 2 1 (.st 3 1 (.st 4 1 (.st 5 1 (.st 6 1 (.st 7 1 (.st 8 1 (.st 9 1 (.st 10 2 (.br (.st 11 2 (.st 12 2 (.st 13 2 (.st 14 2 (.st 15 3 (.st 16 0 (.st 17 0 .nil))))))) (.st 12 2 (.st 13 2 (.st 14 2 (.st 15 3 (.st 11 2 (.st 16 0 (.st 17 0 .nil))))))))))))))))))) (.st 12 2 (.st 13 2 (.st 14 2 (.st 15 3 (.st 0 1 (.st 1 1 (.st 2 1 (.st 3 1 (.st 4 1 (.st 5 1 (.st 6 1 (.st 7 1 (.st 8 1 (.st 9 1 (.st 10 2 (.st 11 2 (.st 16 0 (.st 17 0 .nil)))))))))))))))))))) (by kernel_rfl) (by decide +kernel) (by exact rfl) ?_) | (show evC _ (.region 11 _ true) _ _ _; refine c_draw (l := [(0, 0), (1, 0), (2, 1), (3, 1), (4, 1), (5, 1), (6, 0), (7, 0)]) (by decide +kernel) (by decide +kernel) (by exact rfl) ?_) | (show evC _ (.region 19 _ true) _ _ _; refine c_draw (l := [(1, 0), (2, 0), (3, 0), (4, 0), (5, 0), (6, 0), (7, 1), (9, 1), (10, 1), (11, 1), (12, 1), (13, 1), (14, 1), (15, 1), (0, 2), (8, 1), (16, 0), (17, 0)]) (by decide +kernel) (by decide +kernel) (by exact rfl) ?_) | refine std ?_)
        | (show Br _ _ _; first | refine Br.t rfl ?_ | refine Br.f rfl ?_ | refine brs ?_ | (first | refine Br.mkN (fun h => ?_) (fun h => ?_) | refine Br.mk (fun h => ?_) (fun h => ?_)) <;> (try (first | contradiction | (exfalso; omega) | (exfalso; simp at h; done))))
        | refine stp ?_)
      (show retC _ _ _ _ _ _; refine RETC ?_; exact ret_done (kv hK (congrArg Value.string (ba_ext (by simp)))))
end Go.Proofs.Ythoagholmkiknaa

