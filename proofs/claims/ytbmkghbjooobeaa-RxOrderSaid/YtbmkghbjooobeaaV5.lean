/- Rx: what must come at any rate; a nil receiver; do both look the same: lemmas; each with the conditions that it states. -/
import Derived.Test.YtbmkghbjooobeaaV4

namespace Go.Proofs.Ytbmkghbjooobeaa
open Go Go.Proofs Go.Sl
set_option maxRecDepth 100000
set_option maxHeartbeats 4000000
set_option linter.unusedSimpArgs false
set_option linter.unusedVariables false
attribute [local irreducible] evG evC spl thenC inBlockC noGotoC CallT retC RetG TurnG CutG pt ro exP star sep pureP
variable {R C : List HP} {K : Value → List HP → Prop} {r : Nat} {s s1 s2 : ByteArray}
theorem aw1_ok (hK : K (.int .i64 0) (rxI r 2 2 0 5 [] 0 0 0 false :: R)) : CallT Try.prog 40 #[.pointer (some ⟨r, 0, none⟩), .int .i64 5] (rxI r 2 2 0 0 [] 0 0 0 false :: R) K := by
  refine rxIask_ok (by omega) ?_
  rw [show (0 : Int) + min 5 (2147483647 - 0) = 5 by decide]; exact hK
theorem aw2_ok (hK : K (.int .i64 2) (rxI r 2 2 2 3 [] 0 0 0 false :: R)) : CallT Try.prog 41 #[.pointer (some ⟨r, 0, none⟩)] (rxI r 2 2 0 5 [] 0 0 0 false :: R) K := by
  refine rxIgrant_ok ?_
  rw [show idue 2 0 5 [] = 2 by decide]; exact hK
theorem aw3_ok (hK : K (.tuple #[.int .i64 0, .bool true]) (rxI r 2 2 1 3 [s] 1 0 0 false :: R)) : CallT Try.prog 43 #[.pointer (some ⟨r, 0, none⟩), .string s, .bool false] (rxI r 2 2 2 3 [] 0 0 0 false :: R) K := by
  exact rxIarrive_ok rfl (.inr rfl) (by omega) (by omega) hK
theorem aw4_ok (hK : K (.tuple #[.int .i64 0, .bool true]) (rxI r 2 2 0 3 [s1, s] 2 0 0 false :: R)) : CallT Try.prog 43 #[.pointer (some ⟨r, 0, none⟩), .string s, .bool false] (rxI r 2 2 1 3 [s1] 1 0 0 false :: R) K := by
  exact rxIarrive_ok rfl (.inr rfl) (by omega) (by omega) hK
theorem aw5_ok (hK : K (.tuple #[.int .i64 10, .bool false]) (rxI r 2 2 0 3 [s1, s2] 2 0 0 false :: R)) : CallT Try.prog 43 #[.pointer (some ⟨r, 0, none⟩), .string s, .bool false] (rxI r 2 2 0 3 [s1, s2] 2 0 0 false :: R) K := by
  exact rxIarriveX_ok rfl (.inr rfl) (by omega) hK
theorem aw6_ok (hK : K (.int .i64 0) (rxI r 2 2 0 3 [s1, s2] 2 0 0 false :: R)) : CallT Try.prog 41 #[.pointer (some ⟨r, 0, none⟩)] (rxI r 2 2 0 3 [s1, s2] 2 0 0 false :: R) K := by
  refine rxIgrant_ok ?_
  rw [show idue 2 0 3 [s1, s2] = 0 by simp [idue]; decide]; exact hK
theorem aw7_ok (hK : K (.tuple #[.string s1, .bool true, .int .i64 0]) (rxI r 2 2 0 3 [s2] 2 1 0 false :: R)) : CallT Try.prog 39 #[.pointer (some ⟨r, 0, none⟩)] (rxI r 2 2 0 3 [s1, s2] 2 0 0 false :: R) K := by
  exact rxIitem_ok hK
theorem aw8_ok (hK : K (.int .i64 1) (rxI r 2 2 1 2 [s2] 2 1 0 false :: R)) : CallT Try.prog 41 #[.pointer (some ⟨r, 0, none⟩)] (rxI r 2 2 0 3 [s2] 2 1 0 false :: R) K := by
  refine rxIgrant_ok ?_
  rw [show idue 2 0 3 [s2] = 1 by simp [idue]; decide]; exact hK
theorem awake23_ok (hK : K (.bool true) R) : CallT Try.prog 36 #[] R K := by
  refine callT_intro mixed Try.func36 rfl (by decide) (by decide +kernel) (by exact Nat.le_of_ble_eq_true rfl) ?_
  repeat' (first
    | (show evG _ _ _ _ _ _ _; first | refine G_andNot0 ?_ | refine G_andNot1 ?_ | refine G_add64 ?_ | refine G_sub64 ?_ | refine G_mul64 ?_ | refine G_quo ?_ | refine G_rem ?_ | refine G_shl8 ?_ | refine G_orb ?_ | refine G_shr ?_ | refine G_pure0 ?_ | refine G_load ?_ | refine evG_nil ?_ | refine G_br ?_ ?_ | refine G_field ?_ | refine G_pure ?_ | refine G_store ?_ | refine G_loadV ?_ | refine G_loadV0 ?_ | refine G_loadV2 ?_ | (refine G_append ?_; intro _ _) | (refine G_appendN ?_; intro _ _) | refine G_not ?_ | refine G_index ?_ | refine G_indexA ?_ | refine G_indexS ?_ | refine G_conv64 ?_ | refine G_conv8 ?_ | refine G_convu ?_ | refine G_conv ?_ | refine G_build ?_ | refine G_slh ?_ | refine G_slo ?_ | refine G_shi ?_ | refine G_cat ?_ | refine G_min ?_ | refine G_max ?_ | refine G_neg64 ?_ | refine G_eql_agg ?_ | refine G_neq_agg ?_ | refine G_bytesP ?_ | refine G_bytesstr ?_ | refine G_call ?_ | refine G_call0 ?_ | refine G_callv ?_ | refine G_callv0 ?_ | (refine G_box ?_; intro _) | (refine G_alloc ?_; intro _) | (refine G_buildSlice ?_; intro _) | (refine G_strrow ?_; intro _ _) | (refine G_indexV ?_; intro _ _ hA; subst hA) | (refine G_sliceR ?_; intro _) | (refine G_sliceO ?_; intro _) | refine G_skip ?_ | refine G_skip0 ?_)
    | (show spl _ _ _; first | refine spl_no rfl ?_ | refine spl_yes rfl ?_)
    | (show evC _ _ _ _ _; first | refine c_seq ?_ | refine c_region (by exact rfl) ?_ | refine c_cond (by exact rfl) ?_ | refine c_ret ?_ | refine c_skip ?_ | refine c_block ?_ | refine c_exit ?_  | refine c_draw (by exact rfl) (by decide +kernel) (by exact rfl) ?_ | refine c_drawT (by exact rfl) (by decide +kernel) (by exact rfl) ?_ | refine c_scope ?_ | refine c_label ?_)
    | (show Br _ _ _; first | refine Br.t (by decide +kernel) ?_ | refine Br.f (by decide +kernel) ?_ | refine Br.t rfl ?_ | refine Br.f rfl ?_ | refine Br.t (beq_self_eq_true _) ?_ | refine Br.f (not_beq_self _) ?_ | refine Br.t (by assumption) ?_ | refine Br.f (by assumption) ?_ | refine Br.t (nb_f (by assumption)) ?_ | refine Br.f (nb_t (by assumption)) ?_ | (refine Br.mk (fun h => ?_) (fun h => ?_) <;> (try simp only [Bool.and_eq_true, Bool.or_eq_true, Bool.and_eq_false_iff, Bool.or_eq_false_iff, decide_eq_true_eq, decide_eq_false_iff_not, beq_iff_eq, bne_iff_ne, beq_eq_false_iff_ne, bne_eq_false_iff_eq, ne_eq, Bool.not_eq_true', Bool.not_eq_false', not_true_eq_false, not_false_eq_true, Int.not_lt, Int.not_le, gt_iff_lt, ge_iff_le] at h) <;> (try (first | contradiction | (exfalso; omega)))))
    | (show thenC _ _ _ _ _; first | refine t_n ?_ | refine t_r ?_ | refine t_e ?_)
    | (show inBlockC _ _ _ _ _; first | refine b_n ?_ | refine b_r ?_ | refine b_hit rfl ?_ | refine b_miss rfl ?_)
    | (show noGotoC _ _ _ _; first | refine g_n ?_ | refine g_r ?_ | refine g_e ?_)
    | (show CallT _ 37 _ _ _; refine CA (h := rxnewI_ok (by decide) (fun r => ?_)))
    | (show CallT _ 40 _ _ _; refine CA (h := aw1_ok ?_))
    | (show CallT _ 41 _ _ _; refine CA (h := aw2_ok ?_))
    | (show CallT _ 43 _ _ _; refine CA (h := aw3_ok ?_))
    | (show CallT _ 43 _ _ _; refine CA (h := aw4_ok ?_))
    | (show CallT _ 43 _ _ _; refine CA (h := aw5_ok ?_))
    | (show CallT _ 41 _ _ _; refine CA (h := aw6_ok ?_))
    | (show CallT _ 39 _ _ _; refine CA (h := aw7_ok ?_))
    | (show CallT _ 41 _ _ _; refine CA (h := aw8_ok ?_))
    | (show CallT _ 47 _ _ _; refine CA (h := rxIopen_ok ?_))
    | (show CallT _ 44 _ _ _; refine CA (h := rxIkept_ok ?_)))
  (show retC _ _ _ _ _ _; refine RETC ?_; exact ret_done (hK))
theorem rxNone_ok {k n w st it : Int} (hK : ∀ {R}, K (.bool true) R) : CallT Try.prog 10 #[.agg #[.int .i64 k, .int .i64 n, .string s, .int .i64 w, .int .i64 st, .int .i64 it]] R K := by
  refine callT_intro mixed Try.func10 rfl (by decide) (by decide +kernel) (by exact Nat.le_of_ble_eq_true rfl) ?_
  repeat' (first
    | (show evG _ _ _ _ _ _ _; first | refine G_andNot0 ?_ | refine G_andNot1 ?_ | refine G_add64 ?_ | refine G_sub64 ?_ | refine G_mul64 ?_ | refine G_quo ?_ | refine G_rem ?_ | refine G_shl8 ?_ | refine G_orb ?_ | refine G_shr ?_ | refine G_pure0 ?_ | refine G_load ?_ | refine evG_nil ?_ | refine G_br ?_ ?_ | refine G_field ?_ | refine G_pure ?_ | refine G_store ?_ | refine G_loadV ?_ | refine G_loadV0 ?_ | refine G_loadV2 ?_ | (refine G_append ?_; intro _ _) | (refine G_appendN ?_; intro _ _) | refine G_not ?_ | refine G_index ?_ | refine G_indexA ?_ | refine G_indexS ?_ | refine G_conv64 ?_ | refine G_conv8 ?_ | refine G_convu ?_ | refine G_conv ?_ | refine G_build ?_ | refine G_slh ?_ | refine G_slo ?_ | refine G_shi ?_ | refine G_cat ?_ | refine G_min ?_ | refine G_max ?_ | refine G_neg64 ?_ | refine G_eql_agg ?_ | refine G_neq_agg ?_ | refine G_bytesP ?_ | refine G_bytesstr ?_ | refine G_call ?_ | refine G_call0 ?_ | refine G_callv ?_ | refine G_callv0 ?_ | (refine G_box ?_; intro _) | (refine G_alloc ?_; intro _) | (refine G_buildSlice ?_; intro _) | (refine G_strrow ?_; intro _ _) | (refine G_indexV ?_; intro _ _ hA; subst hA) | (refine G_sliceR ?_; intro _) | (refine G_sliceO ?_; intro _) | refine G_skip ?_ | refine G_skip0 ?_)
    | (show spl _ _ _; first | refine spl_no rfl ?_ | refine spl_yes rfl ?_)
    | (show evC _ _ _ _ _; first | refine c_seq ?_ | refine c_region (by exact rfl) ?_ | refine c_cond (by exact rfl) ?_ | refine c_ret ?_ | refine c_skip ?_ | refine c_block ?_ | refine c_exit ?_  | refine c_draw (by exact rfl) (by decide +kernel) (by exact rfl) ?_ | refine c_drawT (by exact rfl) (by decide +kernel) (by exact rfl) ?_ | refine c_scope ?_ | refine c_label ?_)
    | (show Br _ _ _; first | refine Br.t rfl ?_ | refine Br.f rfl ?_ | refine Br.t (beq_self_eq_true _) ?_ | refine Br.f (not_beq_self _) ?_ | refine Br.t (by assumption) ?_ | refine Br.f (by assumption) ?_ | refine Br.t (nb_f (by assumption)) ?_ | refine Br.f (nb_t (by assumption)) ?_ | (refine Br.mk (fun h => ?_) (fun h => ?_) <;> (try simp only [Bool.and_eq_true, Bool.or_eq_true, Bool.and_eq_false_iff, Bool.or_eq_false_iff, decide_eq_true_eq, decide_eq_false_iff_not, beq_iff_eq, bne_iff_ne, beq_eq_false_iff_ne, bne_eq_false_iff_eq, ne_eq, Bool.not_eq_true', Bool.not_eq_false', not_true_eq_false, not_false_eq_true, Int.not_lt, Int.not_le, gt_iff_lt, ge_iff_le] at h) <;> (try (first | contradiction | (exfalso; omega)))))
    | (show thenC _ _ _ _ _; first | refine t_n ?_ | refine t_r ?_ | refine t_e ?_)
    | (show inBlockC _ _ _ _ _; first | refine b_n ?_ | refine b_r ?_ | refine b_hit rfl ?_ | refine b_miss rfl ?_)
    | (show noGotoC _ _ _ _; first | refine g_n ?_ | refine g_r ?_ | refine g_e ?_)
    | (show CallT _ 43 _ _ _; refine CA (h := rxarrive0_ok ?_))
    | (show CallT _ 38 _ _ _; refine CA (h := rxread0_ok ?_))
    | (show CallT _ 39 _ _ _; refine CA (h := rxitem0_ok ?_))
    | (show CallT _ 36 _ _ _; refine CA (h := awake23_ok ?_))
    | (show CallT _ 40 _ _ _; refine CA (h := rxask0_ok ?_))
    | (show CallT _ 42 _ _ _; refine CA (h := rxresize0_ok ?_))
    | (show CallT _ 49 _ _ _; refine CA (h := rxdue0_ok ?_))
    | (show CallT _ 41 _ _ _; refine CA (h := rxgrant0_ok ?_))
    | (show CallT _ 50 _ _ _; refine CA (h := rxclear0_ok ?_))
    | (show CallT _ 44 _ _ _; refine CA (h := rxkept0_ok ?_))
    | (show CallT _ 47 _ _ _; refine CA (h := rxopen0_ok ?_))
    | (show CallT _ 51 _ _ _; refine CA (h := rxkind0_ok ?_))
    | (show CallT _ 52 _ _ _; refine CA (h := rxended0_ok ?_))
    | (show CallT _ 53 _ _ _; refine CA (h := rxdone0_ok ?_)))
  (show retC _ _ _ _ _ _; refine RETC ?_; exact ret_done (hK))
section
variable {x p n c : Nat} {A : Option Addr} {cap most gr got us mr room ask open_ a1 t1 d1 : Int} {bs : List UInt8} {l : List ByteArray} {en : Bool}
theorem same23B_ok (hT : RB cap most gr got us bs) (hK : K (.bool true) (rxB r cap most gr got us bs en :: pt x [.int .i64 1, .string ⟨bs.toArray⟩, .slice A n c, .pointer (some ⟨p, 0, none⟩), .int .i64 room, .int .i64 ask, .int .i64 open_, .bool en] 98 :: pt p [.int .i64 cap, .int .i64 most, .int .i64 gr, .int .i64 got, .int .i64 us] 142 :: R)) : CallT Try.prog 48 #[.pointer (some ⟨r, 0, none⟩), .pointer (some ⟨x, 0, none⟩)] (rxB r cap most gr got us bs en :: pt x [.int .i64 1, .string ⟨bs.toArray⟩, .slice A n c, .pointer (some ⟨p, 0, none⟩), .int .i64 room, .int .i64 ask, .int .i64 open_, .bool en] 98 :: pt p [.int .i64 cap, .int .i64 most, .int .i64 gr, .int .i64 got, .int .i64 us] 142 :: R) K := by
  obtain ⟨h1, h2, h3, h4, h5, h6, h7, h8, h9⟩ := hT
  cases en
  · refine callT_intro mixed Try.func48 rfl (by decide) (by decide +kernel) (by exact Nat.le_of_ble_eq_true rfl) ?_
    repeat' (first
      | (show evG _ _ _ _ _ _ _; first | refine G_andNot0 ?_ | refine G_andNot1 ?_ | refine G_add64 ?_ | refine G_sub64 ?_ | refine G_mul64 ?_ | refine G_quo ?_ | refine G_rem ?_ | refine G_shl8 ?_ | refine G_orb ?_ | refine G_shr ?_ | refine G_pure0 ?_ | refine G_load ?_ | refine evG_nil ?_ | refine G_br ?_ ?_ | refine G_field ?_ | refine G_pure ?_ | refine G_store ?_ | refine G_loadV ?_ | refine G_loadV0 ?_ | refine G_loadV2 ?_ | (refine G_append ?_; intro _ _) | (refine G_appendN ?_; intro _ _) | refine G_not ?_ | refine G_index ?_ | refine G_indexA ?_ | refine G_indexS ?_ | refine G_conv64 ?_ | refine G_conv8 ?_ | refine G_convu ?_ | refine G_conv ?_ | refine G_build ?_ | refine G_slh ?_ | refine G_slo ?_ | refine G_shi ?_ | refine G_cat ?_ | refine G_min ?_ | refine G_max ?_ | refine G_neg64 ?_ | refine G_eql_agg ?_ | refine G_neq_agg ?_ | refine G_bytesP ?_ | refine G_bytesstr ?_ | refine G_call ?_ | refine G_call0 ?_ | refine G_callv ?_ | refine G_callv0 ?_ | (refine G_box ?_; intro _) | (refine G_alloc ?_; intro _) | (refine G_buildSlice ?_; intro _) | (refine G_strrow ?_; intro _ _) | (refine G_indexV ?_; intro _ _ hA; subst hA) | (refine G_sliceR ?_; intro _) | (refine G_sliceO ?_; intro _) | refine G_skip ?_ | refine G_skip0 ?_)
      | (show spl _ _ _; first | refine spl_no rfl ?_ | refine spl_yes rfl ?_)
      | (show evC _ _ _ _ _; first | refine c_seq ?_ | refine c_region (by exact rfl) ?_ | refine c_cond (by exact rfl) ?_ | refine c_ret ?_ | refine c_skip ?_ | refine c_block ?_ | refine c_exit ?_  | refine c_draw (l := [(0, 0), (1, 0), (2, 0), (3, 0), (4, 0), (5, 0), (6, 0), (7, 0), (8, 0), (9, 0), (10, 0), (11, 0), (12, 0), (13, 0), (14, 0), (15, 0)]) (by decide +kernel) (by decide +kernel) (by exact rfl) ?_ | refine c_draw (l := [(0, 0), (1, 1), (2, 1), (3, 1), (4, 0), (5, 0), (6, 0), (7, 1), (8, 1), (9, 0), (10, 0), (11, 0), (12, 0), (13, 1), (14, 1), (15, 1), (16, 0), (17, 0), (18, 0), (19, 0), (20, 1), (21, 1), (22, 1), (23, 1), (24, 1), (25, 0), (26, 0), (27, 0), (28, 0), (29, 1), (30, 1), (31, 1), (32, 1), (33, 1), (34, 0), (35, 0), (36, 1), (37, 0), (38, 0), (39, 0), (40, 0), (41, 0), (42, 0), (43, 1), (44, 1), (45, 1), (46, 1), (47, 1), (48, 0), (49, 0), (50, 0)]) (by decide +kernel) (by decide +kernel) (by exact rfl) ?_ | refine c_draw (by exact rfl) (by decide +kernel) (by exact rfl) ?_ | refine c_drawT (by exact rfl) (by decide +kernel) (by exact rfl) ?_ | refine c_scope ?_ | refine c_label ?_)
      | (show Br _ _ _; first | refine Br.t rfl ?_ | refine Br.f rfl ?_ | refine Br.t (beq_self_eq_true _) ?_ | refine Br.f (not_beq_self _) ?_ | refine Br.t (by assumption) ?_ | refine Br.f (by assumption) ?_ | refine Br.t (nb_f (by assumption)) ?_ | refine Br.f (nb_t (by assumption)) ?_ | (refine Br.mk (fun h => ?_) (fun h => ?_) <;> (try simp only [Bool.and_eq_true, Bool.or_eq_true, Bool.and_eq_false_iff, Bool.or_eq_false_iff, decide_eq_true_eq, decide_eq_false_iff_not, beq_iff_eq, bne_iff_ne, beq_eq_false_iff_ne, bne_eq_false_iff_eq, ne_eq, Bool.not_eq_true', Bool.not_eq_false', not_true_eq_false, not_false_eq_true, Int.not_lt, Int.not_le, gt_iff_lt, ge_iff_le] at h) <;> (try (first | contradiction | (exfalso; omega)))))
      | (show thenC _ _ _ _ _; first | refine t_n ?_ | refine t_r ?_ | refine t_e ?_)
      | (show inBlockC _ _ _ _ _; first | refine b_n ?_ | refine b_r ?_ | refine b_hit rfl ?_ | refine b_miss rfl ?_)
      | (show noGotoC _ _ _ _; first | refine g_n ?_ | refine g_r ?_ | refine g_e ?_)
      | (show CallT _ 44 _ _ _; refine CA (h := rxBkept_ok ?_))
      | (show CallT _ 67 _ _ _; refine CA (h := rrBkept_ok ?_))
      | (show CallT _ 47 _ _ _; refine CA (h := rxBopen_ok ?_))
      | (show CallT _ 49 _ _ _; refine CA (h := rxBdue_ok ?_))
      | (show CallT _ 110 _ _ _; refine CA (h := rrBdue_ok (by omega) ?_))
      | (show CallT _ 52 _ _ _; refine CA (h := rxBended_ok ?_))
      | (show CallT _ 53 _ _ _; refine CA (h := rxBdone_ok ?_))
      | (show CallT _ 51 _ _ _; refine CA (h := rxBkind_ok ?_)))
    all_goals (show retC _ _ _ _ _ _; refine RETC ?_; exact ret_done (hK))
  · have e1 : (true && decide (bs = [])) = ((bs.length : Int) == 0) := by
      cases bs <;> simp
      omega
    refine callT_intro mixed Try.func48 rfl (by decide) (by decide +kernel) (by exact Nat.le_of_ble_eq_true rfl) ?_
    repeat' (first
      | (show spl _ _ _; rw [e1])
      | (show evG _ _ _ _ _ _ _; first | refine G_andNot0 ?_ | refine G_andNot1 ?_ | refine G_add64 ?_ | refine G_sub64 ?_ | refine G_mul64 ?_ | refine G_quo ?_ | refine G_rem ?_ | refine G_shl8 ?_ | refine G_orb ?_ | refine G_shr ?_ | refine G_pure0 ?_ | refine G_load ?_ | refine evG_nil ?_ | refine G_br ?_ ?_ | refine G_field ?_ | refine G_pure ?_ | refine G_store ?_ | refine G_loadV ?_ | refine G_loadV0 ?_ | refine G_loadV2 ?_ | (refine G_append ?_; intro _ _) | (refine G_appendN ?_; intro _ _) | refine G_not ?_ | refine G_index ?_ | refine G_indexA ?_ | refine G_indexS ?_ | refine G_conv64 ?_ | refine G_conv8 ?_ | refine G_convu ?_ | refine G_conv ?_ | refine G_build ?_ | refine G_slh ?_ | refine G_slo ?_ | refine G_shi ?_ | refine G_cat ?_ | refine G_min ?_ | refine G_max ?_ | refine G_neg64 ?_ | refine G_eql_agg ?_ | refine G_neq_agg ?_ | refine G_bytesP ?_ | refine G_bytesstr ?_ | refine G_call ?_ | refine G_call0 ?_ | refine G_callv ?_ | refine G_callv0 ?_ | (refine G_box ?_; intro _) | (refine G_alloc ?_; intro _) | (refine G_buildSlice ?_; intro _) | (refine G_strrow ?_; intro _ _) | (refine G_indexV ?_; intro _ _ hA; subst hA) | (refine G_sliceR ?_; intro _) | (refine G_sliceO ?_; intro _) | refine G_skip ?_ | refine G_skip0 ?_)
      | (show spl _ _ _; first | refine spl_no rfl ?_ | refine spl_yes rfl ?_)
      | (show evC _ _ _ _ _; first | refine c_seq ?_ | refine c_region (by exact rfl) ?_ | refine c_cond (by exact rfl) ?_ | refine c_ret ?_ | refine c_skip ?_ | refine c_block ?_ | refine c_exit ?_  | refine c_draw (l := [(0, 0), (1, 0), (2, 0), (3, 0), (4, 0), (5, 0), (6, 0), (7, 0), (8, 0), (9, 0), (10, 0), (11, 0), (12, 0), (13, 0), (14, 0), (15, 0)]) (by decide +kernel) (by decide +kernel) (by exact rfl) ?_ | refine c_draw (l := [(0, 0), (1, 1), (2, 1), (3, 1), (4, 0), (5, 0), (6, 0), (7, 1), (8, 1), (9, 0), (10, 0), (11, 0), (12, 0), (13, 1), (14, 1), (15, 1), (16, 0), (17, 0), (18, 0), (19, 0), (20, 1), (21, 1), (22, 1), (23, 1), (24, 1), (25, 0), (26, 0), (27, 0), (28, 0), (29, 1), (30, 1), (31, 1), (32, 1), (33, 1), (34, 0), (35, 0), (36, 1), (37, 0), (38, 0), (39, 0), (40, 0), (41, 0), (42, 0), (43, 1), (44, 1), (45, 1), (46, 1), (47, 1), (48, 0), (49, 0), (50, 0)]) (by decide +kernel) (by decide +kernel) (by exact rfl) ?_ | refine c_draw (by exact rfl) (by decide +kernel) (by exact rfl) ?_ | refine c_drawT (by exact rfl) (by decide +kernel) (by exact rfl) ?_ | refine c_scope ?_ | refine c_label ?_)
      | (show Br _ _ _; first | refine Br.t rfl ?_ | refine Br.f rfl ?_ | refine Br.t (beq_self_eq_true _) ?_ | refine Br.f (not_beq_self _) ?_ | refine Br.t (by assumption) ?_ | refine Br.f (by assumption) ?_ | refine Br.t (nb_f (by assumption)) ?_ | refine Br.f (nb_t (by assumption)) ?_ | (refine Br.mk (fun h => ?_) (fun h => ?_) <;> (try simp only [Bool.and_eq_true, Bool.or_eq_true, Bool.and_eq_false_iff, Bool.or_eq_false_iff, decide_eq_true_eq, decide_eq_false_iff_not, beq_iff_eq, bne_iff_ne, beq_eq_false_iff_ne, bne_eq_false_iff_eq, ne_eq, Bool.not_eq_true', Bool.not_eq_false', not_true_eq_false, not_false_eq_true, Int.not_lt, Int.not_le, gt_iff_lt, ge_iff_le] at h) <;> (try (first | contradiction | (exfalso; omega)))))
      | (show thenC _ _ _ _ _; first | refine t_n ?_ | refine t_r ?_ | refine t_e ?_)
      | (show inBlockC _ _ _ _ _; first | refine b_n ?_ | refine b_r ?_ | refine b_hit rfl ?_ | refine b_miss rfl ?_)
      | (show noGotoC _ _ _ _; first | refine g_n ?_ | refine g_r ?_ | refine g_e ?_)
      | (show CallT _ 44 _ _ _; refine CA (h := rxBkept_ok ?_))
      | (show CallT _ 67 _ _ _; refine CA (h := rrBkept_ok ?_))
      | (show CallT _ 47 _ _ _; refine CA (h := rxBopen_ok ?_))
      | (show CallT _ 49 _ _ _; refine CA (h := rxBdue_ok ?_))
      | (show CallT _ 110 _ _ _; refine CA (h := rrBdue_ok (by omega) ?_))
      | (show CallT _ 52 _ _ _; refine CA (h := rxBended_ok ?_))
      | (show CallT _ 53 _ _ _; refine CA (h := rxBdone_ok ?_))
      | (show CallT _ 51 _ _ _; refine CA (h := rxBkind_ok ?_)))
    all_goals (show retC _ _ _ _ _ _; refine RETC ?_; exact ret_done (hK))
theorem same23I_ok (hT : RI mr room open_ ask l a1 t1 d1) (hK : K (.bool true) (rxI r mr room open_ ask l a1 t1 d1 en :: pt x [.int .i64 2, .string ⟨#[]⟩, .slice A l.length c, .pointer (some ⟨p, 0, none⟩), .int .i64 room, .int .i64 ask, .int .i64 open_, .bool en] 98 :: R)) : CallT Try.prog 48 #[.pointer (some ⟨r, 0, none⟩), .pointer (some ⟨x, 0, none⟩)] (rxI r mr room open_ ask l a1 t1 d1 en :: pt x [.int .i64 2, .string ⟨#[]⟩, .slice A l.length c, .pointer (some ⟨p, 0, none⟩), .int .i64 room, .int .i64 ask, .int .i64 open_, .bool en] 98 :: R) K := by
  obtain ⟨h1, h2, h3, h4, h5, h6, h7, h8, h9, h10, h11⟩ := hT
  cases en
  · refine callT_intro mixed Try.func48 rfl (by decide) (by decide +kernel) (by exact Nat.le_of_ble_eq_true rfl) ?_
    repeat' (first
      | (show evG _ _ _ _ _ _ _; first | refine G_andNot0 ?_ | refine G_andNot1 ?_ | refine G_add64 ?_ | refine G_sub64 ?_ | refine G_mul64 ?_ | refine G_quo ?_ | refine G_rem ?_ | refine G_shl8 ?_ | refine G_orb ?_ | refine G_shr ?_ | refine G_pure0 ?_ | refine G_load ?_ | refine evG_nil ?_ | refine G_br ?_ ?_ | refine G_field ?_ | refine G_pure ?_ | refine G_store ?_ | refine G_loadV ?_ | refine G_loadV0 ?_ | refine G_loadV2 ?_ | (refine G_append ?_; intro _ _) | (refine G_appendN ?_; intro _ _) | refine G_not ?_ | refine G_index ?_ | refine G_indexA ?_ | refine G_indexS ?_ | refine G_conv64 ?_ | refine G_conv8 ?_ | refine G_convu ?_ | refine G_conv ?_ | refine G_build ?_ | refine G_slh ?_ | refine G_slo ?_ | refine G_shi ?_ | refine G_cat ?_ | refine G_min ?_ | refine G_max ?_ | refine G_neg64 ?_ | refine G_eql_agg ?_ | refine G_neq_agg ?_ | refine G_bytesP ?_ | refine G_bytesstr ?_ | refine G_call ?_ | refine G_call0 ?_ | refine G_callv ?_ | refine G_callv0 ?_ | (refine G_box ?_; intro _) | (refine G_alloc ?_; intro _) | (refine G_buildSlice ?_; intro _) | (refine G_strrow ?_; intro _ _) | (refine G_indexV ?_; intro _ _ hA; subst hA) | (refine G_sliceR ?_; intro _) | (refine G_sliceO ?_; intro _) | refine G_skip ?_ | refine G_skip0 ?_)
      | (show spl _ _ _; first | refine spl_no rfl ?_ | refine spl_yes rfl ?_)
      | (show evC _ _ _ _ _; first | refine c_seq ?_ | refine c_region (by exact rfl) ?_ | refine c_cond (by exact rfl) ?_ | refine c_ret ?_ | refine c_skip ?_ | refine c_block ?_ | refine c_exit ?_  | refine c_draw (l := [(0, 0), (1, 0), (2, 0), (3, 0), (4, 0), (5, 0), (6, 0), (7, 0), (8, 0), (9, 0), (10, 0), (11, 0), (12, 0), (13, 0), (14, 0), (15, 0)]) (by decide +kernel) (by decide +kernel) (by exact rfl) ?_ | refine c_draw (l := [(0, 0), (1, 1), (2, 1), (3, 1), (4, 0), (5, 0), (6, 0), (7, 1), (8, 1), (9, 0), (10, 0), (11, 0), (12, 0), (13, 1), (14, 1), (15, 1), (16, 0), (17, 0), (18, 0), (19, 0), (20, 1), (21, 1), (22, 1), (23, 1), (24, 1), (25, 0), (26, 0), (27, 0), (28, 0), (29, 1), (30, 1), (31, 1), (32, 1), (33, 1), (34, 0), (35, 0), (36, 1), (37, 0), (38, 0), (39, 0), (40, 0), (41, 0), (42, 0), (43, 1), (44, 1), (45, 1), (46, 1), (47, 1), (48, 0), (49, 0), (50, 0)]) (by decide +kernel) (by decide +kernel) (by exact rfl) ?_ | refine c_draw (by exact rfl) (by decide +kernel) (by exact rfl) ?_ | refine c_drawT (by exact rfl) (by decide +kernel) (by exact rfl) ?_ | refine c_scope ?_ | refine c_label ?_)
      | (show Br _ _ _; first | refine Br.t rfl ?_ | refine Br.f rfl ?_ | refine Br.t (beq_self_eq_true _) ?_ | refine Br.f (not_beq_self _) ?_ | refine Br.t (by assumption) ?_ | refine Br.f (by assumption) ?_ | refine Br.t (nb_f (by assumption)) ?_ | refine Br.f (nb_t (by assumption)) ?_ | (refine Br.mk (fun h => ?_) (fun h => ?_) <;> (try simp only [Bool.and_eq_true, Bool.or_eq_true, Bool.and_eq_false_iff, Bool.or_eq_false_iff, decide_eq_true_eq, decide_eq_false_iff_not, beq_iff_eq, bne_iff_ne, beq_eq_false_iff_ne, bne_eq_false_iff_eq, ne_eq, Bool.not_eq_true', Bool.not_eq_false', not_true_eq_false, not_false_eq_true, Int.not_lt, Int.not_le, gt_iff_lt, ge_iff_le] at h) <;> (try (first | contradiction | (exfalso; omega)))))
      | (show thenC _ _ _ _ _; first | refine t_n ?_ | refine t_r ?_ | refine t_e ?_)
      | (show inBlockC _ _ _ _ _; first | refine b_n ?_ | refine b_r ?_ | refine b_hit rfl ?_ | refine b_miss rfl ?_)
      | (show noGotoC _ _ _ _; first | refine g_n ?_ | refine g_r ?_ | refine g_e ?_)
      | (show CallT _ 44 _ _ _; refine CA (h := rxIkept_ok ?_))
      | (show CallT _ 67 _ _ _; refine CA (h := rrIkept_ok ?_))
      | (show CallT _ 47 _ _ _; refine CA (h := rxIopen_ok ?_))
      | (show CallT _ 49 _ _ _; refine CA (h := rxIdue_ok ?_))
      | (show CallT _ 110 _ _ _; refine CA (h := rrIdue_ok (by omega) ?_))
      | (show CallT _ 52 _ _ _; refine CA (h := rxIended_ok ?_))
      | (show CallT _ 53 _ _ _; refine CA (h := rxIdone_ok ?_))
      | (show CallT _ 51 _ _ _; refine CA (h := rxIkind_ok ?_)))
    all_goals (show retC _ _ _ _ _ _; refine RETC ?_; exact ret_done (hK))
  · have e1 : (true && decide (l = [])) = ((l.length : Int) == 0) := by
      cases l <;> simp
      omega
    refine callT_intro mixed Try.func48 rfl (by decide) (by decide +kernel) (by exact Nat.le_of_ble_eq_true rfl) ?_
    repeat' (first
      | (show spl _ _ _; rw [e1])
      | (show evG _ _ _ _ _ _ _; first | refine G_andNot0 ?_ | refine G_andNot1 ?_ | refine G_add64 ?_ | refine G_sub64 ?_ | refine G_mul64 ?_ | refine G_quo ?_ | refine G_rem ?_ | refine G_shl8 ?_ | refine G_orb ?_ | refine G_shr ?_ | refine G_pure0 ?_ | refine G_load ?_ | refine evG_nil ?_ | refine G_br ?_ ?_ | refine G_field ?_ | refine G_pure ?_ | refine G_store ?_ | refine G_loadV ?_ | refine G_loadV0 ?_ | refine G_loadV2 ?_ | (refine G_append ?_; intro _ _) | (refine G_appendN ?_; intro _ _) | refine G_not ?_ | refine G_index ?_ | refine G_indexA ?_ | refine G_indexS ?_ | refine G_conv64 ?_ | refine G_conv8 ?_ | refine G_convu ?_ | refine G_conv ?_ | refine G_build ?_ | refine G_slh ?_ | refine G_slo ?_ | refine G_shi ?_ | refine G_cat ?_ | refine G_min ?_ | refine G_max ?_ | refine G_neg64 ?_ | refine G_eql_agg ?_ | refine G_neq_agg ?_ | refine G_bytesP ?_ | refine G_bytesstr ?_ | refine G_call ?_ | refine G_call0 ?_ | refine G_callv ?_ | refine G_callv0 ?_ | (refine G_box ?_; intro _) | (refine G_alloc ?_; intro _) | (refine G_buildSlice ?_; intro _) | (refine G_strrow ?_; intro _ _) | (refine G_indexV ?_; intro _ _ hA; subst hA) | (refine G_sliceR ?_; intro _) | (refine G_sliceO ?_; intro _) | refine G_skip ?_ | refine G_skip0 ?_)
      | (show spl _ _ _; first | refine spl_no rfl ?_ | refine spl_yes rfl ?_)
      | (show evC _ _ _ _ _; first | refine c_seq ?_ | refine c_region (by exact rfl) ?_ | refine c_cond (by exact rfl) ?_ | refine c_ret ?_ | refine c_skip ?_ | refine c_block ?_ | refine c_exit ?_  | refine c_draw (l := [(0, 0), (1, 0), (2, 0), (3, 0), (4, 0), (5, 0), (6, 0), (7, 0), (8, 0), (9, 0), (10, 0), (11, 0), (12, 0), (13, 0), (14, 0), (15, 0)]) (by decide +kernel) (by decide +kernel) (by exact rfl) ?_ | refine c_draw (l := [(0, 0), (1, 1), (2, 1), (3, 1), (4, 0), (5, 0), (6, 0), (7, 1), (8, 1), (9, 0), (10, 0), (11, 0), (12, 0), (13, 1), (14, 1), (15, 1), (16, 0), (17, 0), (18, 0), (19, 0), (20, 1), (21, 1), (22, 1), (23, 1), (24, 1), (25, 0), (26, 0), (27, 0), (28, 0), (29, 1), (30, 1), (31, 1), (32, 1), (33, 1), (34, 0), (35, 0), (36, 1), (37, 0), (38, 0), (39, 0), (40, 0), (41, 0), (42, 0), (43, 1), (44, 1), (45, 1), (46, 1), (47, 1), (48, 0), (49, 0), (50, 0)]) (by decide +kernel) (by decide +kernel) (by exact rfl) ?_ | refine c_draw (by exact rfl) (by decide +kernel) (by exact rfl) ?_ | refine c_drawT (by exact rfl) (by decide +kernel) (by exact rfl) ?_ | refine c_scope ?_ | refine c_label ?_)
      | (show Br _ _ _; first | refine Br.t rfl ?_ | refine Br.f rfl ?_ | refine Br.t (beq_self_eq_true _) ?_ | refine Br.f (not_beq_self _) ?_ | refine Br.t (by assumption) ?_ | refine Br.f (by assumption) ?_ | refine Br.t (nb_f (by assumption)) ?_ | refine Br.f (nb_t (by assumption)) ?_ | (refine Br.mk (fun h => ?_) (fun h => ?_) <;> (try simp only [Bool.and_eq_true, Bool.or_eq_true, Bool.and_eq_false_iff, Bool.or_eq_false_iff, decide_eq_true_eq, decide_eq_false_iff_not, beq_iff_eq, bne_iff_ne, beq_eq_false_iff_ne, bne_eq_false_iff_eq, ne_eq, Bool.not_eq_true', Bool.not_eq_false', not_true_eq_false, not_false_eq_true, Int.not_lt, Int.not_le, gt_iff_lt, ge_iff_le] at h) <;> (try (first | contradiction | (exfalso; omega)))))
      | (show thenC _ _ _ _ _; first | refine t_n ?_ | refine t_r ?_ | refine t_e ?_)
      | (show inBlockC _ _ _ _ _; first | refine b_n ?_ | refine b_r ?_ | refine b_hit rfl ?_ | refine b_miss rfl ?_)
      | (show noGotoC _ _ _ _; first | refine g_n ?_ | refine g_r ?_ | refine g_e ?_)
      | (show CallT _ 44 _ _ _; refine CA (h := rxIkept_ok ?_))
      | (show CallT _ 67 _ _ _; refine CA (h := rrIkept_ok ?_))
      | (show CallT _ 47 _ _ _; refine CA (h := rxIopen_ok ?_))
      | (show CallT _ 49 _ _ _; refine CA (h := rxIdue_ok ?_))
      | (show CallT _ 110 _ _ _; refine CA (h := rrIdue_ok (by omega) ?_))
      | (show CallT _ 52 _ _ _; refine CA (h := rxIended_ok ?_))
      | (show CallT _ 53 _ _ _; refine CA (h := rxIdone_ok ?_))
      | (show CallT _ 51 _ _ _; refine CA (h := rxIkind_ok ?_)))
    all_goals (show retC _ _ _ _ _ _; refine RETC ?_; exact ret_done (hK))
end
end Go.Proofs.Ytbmkghbjooobeaa
