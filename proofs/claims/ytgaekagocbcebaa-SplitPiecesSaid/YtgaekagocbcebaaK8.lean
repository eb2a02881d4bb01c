/- Frame: payload: lemmas; each with the conditions that it states. -/
import Derived.Test.YtgaekagocbcebaaK4
import Derived.Test.YtgaekagocbcebaaJ0
import Derived.Test.YtgaekagocbcebaaFe

namespace Go.Proofs.Ytgaekagocbcebaa
open Go Go.Proofs Go.Sl
set_option maxRecDepth 100000
set_option maxHeartbeats 4000000
set_option linter.unusedSimpArgs false
set_option linter.unusedVariables false
attribute [local irreducible] evG evC spl thenC inBlockC noGotoC CallT retC RetG TurnG CutG pt ro exP star sep pureP
variable {R C : List HP} {K : Value → List HP → Prop}
/-- a cell that holds a list of pieces -/
def pcsP (r : Nat) (xs : List Pc) : HP := exP fun A => exP fun c => sep (pt r [.slice A xs.length c] 109) (row A c 112 pcC xs)
theorem padd_ok {r n c : Nat} {A : Option Addr} {xs ys : List Pc} (hv : View R A pcC ys) (hn : ys.length = n) (hl : xs.length + n < 1000000000) (hK : K (.tuple #[]) (pcsP r (xs ++ ys) :: R)) :
    CallT Try.prog 70 #[.slice A n c, .pointer (some ⟨r, 0, none⟩)] (pcsP r xs :: R) K := by
  refine CallT.ex fun A => CallT.ex fun c => CallT.sep ?_
  refine callT_intro mixed Try.func70 rfl (by decide) (by decide +kernel) (by exact Nat.le_of_ble_eq_true rfl) ?_
  repeat' (first
    | (show evG _ _ _ _ _ _ _; first | refine G_andNot0 ?_ | refine G_andNot1 ?_ | refine G_add64 ?_ | refine G_sub64 ?_ | refine G_mul64 ?_ | refine G_quo ?_ | refine G_rem ?_ | refine G_shl8 ?_ | refine G_orb ?_ | refine G_shr ?_ | refine G_pure0 ?_ | refine G_load ?_ | refine evG_nil ?_ | refine G_br ?_ ?_ | refine G_field ?_ | refine G_pure ?_ | refine G_store ?_ | refine G_loadV ?_ | refine G_loadV0 ?_ | refine G_loadV2 ?_ | (refine G_append ?_; intro _ _) | (refine G_appendN ?_; intro _ _) | refine G_not ?_ | refine G_index ?_ | refine G_indexA ?_ | refine G_indexS ?_ | refine G_conv64 ?_ | refine G_conv8 ?_ | refine G_convu ?_ | refine G_conv ?_ | refine G_build ?_ | refine G_slh ?_ | refine G_slo ?_ | refine G_shi ?_ | refine G_cat ?_ | refine G_min ?_ | refine G_max ?_ | refine G_neg64 ?_ | refine G_eql_agg ?_ | refine G_neq_agg ?_ | refine G_bytesP ?_ | refine G_bytesstr ?_ | refine G_call ?_ | refine G_call0 ?_ | refine G_callv ?_ | refine G_callv0 ?_ | (refine G_box ?_; intro _) | (refine G_alloc ?_; intro _) | (refine G_buildSlice ?_; intro _) | (refine G_strrow ?_; intro _ _) | (refine G_indexV ?_; intro _ _ hA; subst hA) | (refine G_sliceR ?_; intro _) | (refine G_sliceO ?_; intro _) | refine G_skip ?_ | refine G_skip0 ?_)
    | (show spl _ _ _; first | refine spl_no rfl ?_ | refine spl_yes rfl ?_)
    | (show evC _ _ _ _ _; first | refine c_seq ?_ | refine c_region (by exact rfl) ?_ | refine c_cond (by exact rfl) ?_ | refine c_ret ?_ | refine c_skip ?_ | refine c_block ?_ | refine c_exit ?_  | refine c_draw (by exact rfl) (by decide +kernel) (by exact rfl) ?_ | refine c_drawT (by exact rfl) (by decide +kernel) (by exact rfl) ?_ | refine c_scope ?_ | refine c_label ?_)
    | (show Br _ _ _; first | refine Br.t rfl ?_ | refine Br.f rfl ?_ | refine Br.t (beq_self_eq_true _) ?_ | refine Br.f (not_beq_self _) ?_ | refine Br.t (by assumption) ?_ | refine Br.f (by assumption) ?_ | refine Br.t (nb_f (by assumption)) ?_ | refine Br.f (nb_t (by assumption)) ?_ | (refine Br.mk (fun h => ?_) (fun h => ?_) <;> (try simp only [Bool.and_eq_true, Bool.or_eq_true, Bool.and_eq_false_iff, Bool.or_eq_false_iff, decide_eq_true_eq, decide_eq_false_iff_not, beq_iff_eq, bne_iff_ne, beq_eq_false_iff_ne, bne_eq_false_iff_eq, ne_eq, Bool.not_eq_true', Bool.not_eq_false', not_true_eq_false, not_false_eq_true, Int.not_lt, Int.not_le, gt_iff_lt, ge_iff_le] at h) <;> (try (first | contradiction | (exfalso; omega)))))
    | (show thenC _ _ _ _ _; first | refine t_n ?_ | refine t_r ?_ | refine t_e ?_)
    | (show inBlockC _ _ _ _ _; first | refine b_n ?_ | refine b_r ?_ | refine b_hit rfl ?_ | refine b_miss rfl ?_)
    | (show noGotoC _ _ _ _; first | refine g_n ?_ | refine g_r ?_ | refine g_e ?_))
  refine RETC ?_
  exact ret_of (by ((iterate 30 (try (first | exact Ent.refl _ | exact Ent.nil | (apply Ent.pick; focus ((repeat (first | exact Pick.here | apply Pick.there)) <;> exact Pick.here)) | (apply Ent.pickP; focus ((repeat (first | exact pers_ro _ _ _ | exact pers_rrow _ _ _ | exact pers_pure _ | refine pers_sep ?_ ?_ | refine pers_ex fun _ => ?_)) <;> exact pers_pure _); focus ((repeat (first | exact Pick.here | apply Pick.there)) <;> exact Pick.here)) | (apply Ent.pure; focus (first | assumption | exact rfl | omega)) | apply Ent.nilrow' | apply Ent.ex | apply Ent.sep | apply Ent.drop))) <;> exact Ent.nil)) hK
theorem pfour_ok {n : Int} (hK : K (.agg #[.int .i64 n, .int .i64 4, .string ⟨#[]⟩]) R) : CallT Try.prog 71 #[.int .i64 n] R K := by
  refine callT_intro mixed Try.func71 rfl (by decide) (by decide +kernel) (by exact Nat.le_of_ble_eq_true rfl) ?_
  repeat' (first
    | (show evG _ _ _ _ _ _ _; first | refine G_andNot0 ?_ | refine G_andNot1 ?_ | refine G_add64 ?_ | refine G_sub64 ?_ | refine G_mul64 ?_ | refine G_quo ?_ | refine G_rem ?_ | refine G_shl8 ?_ | refine G_orb ?_ | refine G_shr ?_ | refine G_pure0 ?_ | refine G_load ?_ | refine evG_nil ?_ | refine G_br ?_ ?_ | refine G_field ?_ | refine G_pure ?_ | refine G_store ?_ | refine G_loadV ?_ | refine G_loadV0 ?_ | refine G_loadV2 ?_ | (refine G_append ?_; intro _ _) | (refine G_appendN ?_; intro _ _) | refine G_not ?_ | refine G_index ?_ | refine G_indexA ?_ | refine G_indexS ?_ | refine G_conv64 ?_ | refine G_conv8 ?_ | refine G_convu ?_ | refine G_conv ?_ | refine G_build ?_ | refine G_slh ?_ | refine G_slo ?_ | refine G_shi ?_ | refine G_cat ?_ | refine G_min ?_ | refine G_max ?_ | refine G_neg64 ?_ | refine G_eql_agg ?_ | refine G_neq_agg ?_ | refine G_bytesP ?_ | refine G_bytesstr ?_ | refine G_call ?_ | refine G_call0 ?_ | refine G_callv ?_ | refine G_callv0 ?_ | (refine G_box ?_; intro _) | (refine G_alloc ?_; intro _) | (refine G_buildSlice ?_; intro _) | (refine G_strrow ?_; intro _ _) | (refine G_indexV ?_; intro _ _ hA; subst hA) | (refine G_sliceR ?_; intro _) | (refine G_sliceO ?_; intro _) | refine G_skip ?_ | refine G_skip0 ?_)
    | (show spl _ _ _; first | refine spl_no rfl ?_ | refine spl_yes rfl ?_)
    | (show evC _ _ _ _ _; first | refine c_seq ?_ | refine c_region (by exact rfl) ?_ | refine c_cond (by exact rfl) ?_ | refine c_ret ?_ | refine c_skip ?_ | refine c_block ?_ | refine c_exit ?_  | refine c_draw (by exact rfl) (by decide +kernel) (by exact rfl) ?_ | refine c_drawT (by exact rfl) (by decide +kernel) (by exact rfl) ?_ | refine c_scope ?_ | refine c_label ?_)
    | (show Br _ _ _; first | refine Br.t rfl ?_ | refine Br.f rfl ?_ | refine Br.t (beq_self_eq_true _) ?_ | refine Br.f (not_beq_self _) ?_ | refine Br.t (by assumption) ?_ | refine Br.f (by assumption) ?_ | refine Br.t (nb_f (by assumption)) ?_ | refine Br.f (nb_t (by assumption)) ?_ | (refine Br.mk (fun h => ?_) (fun h => ?_) <;> (try simp only [Bool.and_eq_true, Bool.or_eq_true, Bool.and_eq_false_iff, Bool.or_eq_false_iff, decide_eq_true_eq, decide_eq_false_iff_not, beq_iff_eq, bne_iff_ne, beq_eq_false_iff_ne, bne_eq_false_iff_eq, ne_eq, Bool.not_eq_true', Bool.not_eq_false', not_true_eq_false, not_false_eq_true, Int.not_lt, Int.not_le, gt_iff_lt, ge_iff_le] at h) <;> (try (first | contradiction | (exfalso; omega)))))
    | (show thenC _ _ _ _ _; first | refine t_n ?_ | refine t_r ?_ | refine t_e ?_)
    | (show inBlockC _ _ _ _ _; first | refine b_n ?_ | refine b_r ?_ | refine b_hit rfl ?_ | refine b_miss rfl ?_)
    | (show noGotoC _ _ _ _; first | refine g_n ?_ | refine g_r ?_ | refine g_e ?_)
    | (show CallT _ 72 _ _ _; refine CA (h := u_ok ?_)))
  (refine RETC ?_; exact ret_done (hK))
theorem fbit_ok {e : Bool} (hK : K (.int .i64 (bitI e)) R) : CallT Try.prog 74 #[.bool e] R K := by
  refine callT_intro mixed Try.func74 rfl (by decide) (by decide +kernel) (by exact Nat.le_of_ble_eq_true rfl) ?_
  cases e
  all_goals
    repeat' (first
      | (show evG _ _ _ _ _ _ _; first | refine G_andNot0 ?_ | refine G_andNot1 ?_ | refine G_add64 ?_ | refine G_sub64 ?_ | refine G_mul64 ?_ | refine G_quo ?_ | refine G_rem ?_ | refine G_shl8 ?_ | refine G_orb ?_ | refine G_shr ?_ | refine G_pure0 ?_ | refine G_load ?_ | refine evG_nil ?_ | refine G_br ?_ ?_ | refine G_field ?_ | refine G_pure ?_ | refine G_store ?_ | refine G_loadV ?_ | refine G_loadV0 ?_ | refine G_loadV2 ?_ | (refine G_append ?_; intro _ _) | (refine G_appendN ?_; intro _ _) | refine G_not ?_ | refine G_index ?_ | refine G_indexA ?_ | refine G_indexS ?_ | refine G_conv64 ?_ | refine G_conv8 ?_ | refine G_convu ?_ | refine G_conv ?_ | refine G_build ?_ | refine G_slh ?_ | refine G_slo ?_ | refine G_shi ?_ | refine G_cat ?_ | refine G_min ?_ | refine G_max ?_ | refine G_neg64 ?_ | refine G_eql_agg ?_ | refine G_neq_agg ?_ | refine G_bytesP ?_ | refine G_bytesstr ?_ | refine G_call ?_ | refine G_call0 ?_ | refine G_callv ?_ | refine G_callv0 ?_ | (refine G_box ?_; intro _) | (refine G_alloc ?_; intro _) | (refine G_buildSlice ?_; intro _) | (refine G_strrow ?_; intro _ _) | (refine G_indexV ?_; intro _ _ hA; subst hA) | (refine G_sliceR ?_; intro _) | (refine G_sliceO ?_; intro _) | refine G_skip ?_ | refine G_skip0 ?_)
      | (show spl _ _ _; first | refine spl_no rfl ?_ | refine spl_yes rfl ?_)
      | (show evC _ _ _ _ _; first | refine c_seq ?_ | refine c_region (by exact rfl) ?_ | refine c_cond (by exact rfl) ?_ | refine c_ret ?_ | refine c_skip ?_ | refine c_block ?_ | refine c_exit ?_  | refine c_draw (by exact rfl) (by decide +kernel) (by exact rfl) ?_ | refine c_drawT (by exact rfl) (by decide +kernel) (by exact rfl) ?_ | refine c_scope ?_ | refine c_label ?_)
      | (show Br _ _ _; first | refine Br.t rfl ?_ | refine Br.f rfl ?_ | refine Br.t (beq_self_eq_true _) ?_ | refine Br.f (not_beq_self _) ?_ | refine Br.t (by assumption) ?_ | refine Br.f (by assumption) ?_ | refine Br.t (nb_f (by assumption)) ?_ | refine Br.f (nb_t (by assumption)) ?_ | (refine Br.mk (fun h => ?_) (fun h => ?_) <;> (try simp only [Bool.and_eq_true, Bool.or_eq_true, Bool.and_eq_false_iff, Bool.or_eq_false_iff, decide_eq_true_eq, decide_eq_false_iff_not, beq_iff_eq, bne_iff_ne, beq_eq_false_iff_ne, bne_eq_false_iff_eq, ne_eq, Bool.not_eq_true', Bool.not_eq_false', not_true_eq_false, not_false_eq_true, Int.not_lt, Int.not_le, gt_iff_lt, ge_iff_le] at h) <;> (try (first | contradiction | (exfalso; omega)))))
      | (show thenC _ _ _ _ _; first | refine t_n ?_ | refine t_r ?_ | refine t_e ?_)
      | (show inBlockC _ _ _ _ _; first | refine b_n ?_ | refine b_r ?_ | refine b_hit rfl ?_ | refine b_miss rfl ?_)
      | (show noGotoC _ _ _ _; first | refine g_n ?_ | refine g_r ?_ | refine g_e ?_))
    (refine RETC ?_; exact ret_done (hK))
def headPs (t : Int) (d : ByteArray) (k on w : Int) (x : Bool) (c la n : Int) : List Pc := if t = 0 ∨ t = 1 ∨ t = 7 ∨ t = 8 then [⟨0, 0, d⟩] else if t = 2 ∨ t = 3 then [⟨k, 1, ⟨#[]⟩⟩, ⟨bitI x, 1, ⟨#[]⟩⟩, ⟨w - 1, 1, ⟨#[]⟩⟩, ⟨0, 1, ⟨#[]⟩⟩, ⟨on, 4, ⟨#[]⟩⟩] else if t = 4 then [⟨c, 4, ⟨#[]⟩⟩] else if t = 9 then [⟨la, 4, ⟨#[]⟩⟩, ⟨c, 4, ⟨#[]⟩⟩] else if t = 10 ∨ t = 11 then [⟨n, 4, ⟨#[]⟩⟩] else []
def psPs (ps : List Pr) : List Pc := ps.flatMap fun p => [⟨p.i, 2, ⟨#[]⟩⟩, ⟨p.v, 4, ⟨#[]⟩⟩]
section
variable {t : Int} {d : ByteArray} {k on w : Int} {x : Bool} {c la n : Int}
theorem hp1 (h : t = 0 ∨ t = 1 ∨ t = 7 ∨ t = 8) : headPs t d k on w x c la n = [⟨0, 0, d⟩] := by unfold headPs; rw [if_pos h]
theorem hp2 (h : t = 2 ∨ t = 3) : headPs t d k on w x c la n = [⟨k, 1, ⟨#[]⟩⟩, ⟨bitI x, 1, ⟨#[]⟩⟩, ⟨w - 1, 1, ⟨#[]⟩⟩, ⟨0, 1, ⟨#[]⟩⟩, ⟨on, 4, ⟨#[]⟩⟩] := by unfold headPs; rw [if_neg (by omega), if_pos h]
theorem hp3 (h : t = 4) : headPs t d k on w x c la n = [⟨c, 4, ⟨#[]⟩⟩] := by unfold headPs; rw [if_neg (by omega), if_neg (by omega), if_pos h]
theorem hp4 (h : t = 9) : headPs t d k on w x c la n = [⟨la, 4, ⟨#[]⟩⟩, ⟨c, 4, ⟨#[]⟩⟩] := by unfold headPs; rw [if_neg (by omega), if_neg (by omega), if_neg (by omega), if_pos h]
theorem hp5 (h : t = 10 ∨ t = 11) : headPs t d k on w x c la n = [⟨n, 4, ⟨#[]⟩⟩] := by unfold headPs; rw [if_neg (by omega), if_neg (by omega), if_neg (by omega), if_neg (by omega), if_pos h]
theorem hp6 (h : ¬(t = 0 ∨ t = 1 ∨ t = 7 ∨ t = 8) ∧ ¬(t = 2 ∨ t = 3) ∧ ¬t = 4 ∧ ¬t = 9 ∧ ¬(t = 10 ∨ t = 11)) : headPs t d k on w x c la n = [] := by unfold headPs; rw [if_neg h.1, if_neg h.2.1, if_neg h.2.2.1, if_neg h.2.2.2.1, if_neg h.2.2.2.2]
end
theorem headPs_le (t : Int) (d : ByteArray) (k on w : Int) (x : Bool) (c la n : Int) : (headPs t d k on w x c la n).length ≤ 5 := by
  unfold headPs
  (repeat' split) <;> simp
theorem psPs_len : ∀ ps : List Pr, (psPs ps).length = 2 * ps.length
  | [] => rfl
  | p :: l => by
    have := psPs_len l
    unfold psPs at this ⊢
    simp only [List.flatMap_cons, List.length_append, List.length_cons, List.length_nil, this]
    omega
theorem psPs_take {ps : List Pr} {j : Nat} {y : Pr} (h : ps[j]? = some y) : psPs (ps.take (j + 1)) = psPs (ps.take j) ++ [⟨y.i, 2, ⟨#[]⟩⟩, ⟨y.v, 4, ⟨#[]⟩⟩] := by
  unfold psPs
  rw [List.take_add_one, h]
  simp
theorem payload_ok {t st : Int} {e : Bool} {d : ByteArray} {k on w : Int} {x : Bool} {c la n : Int} {pa : Option Addr} {pn pc : Nat} {ps : List Pr} (hv : View C pa prC ps) (hn : ps.length = pn) (hn2 : pn < 100000000) (hk : 1 ≤ w ∧ w ≤ 1000 ∨ ¬(t = 2 ∨ t = 3)) (hK : K (.string (layS (headPs t d k on w x c la n ++ psPs ps))) C) : CallT Try.prog 65 #[.agg #[.int .i64 t, .int .i64 st, .bool e, .string d, .int .i64 k, .int .i64 on, .int .i64 w, .bool x, .int .i64 c, .int .i64 la, .int .i64 n, .slice pa pn pc]] C K := by
  subst hn
  have hh := headPs_le t d k on w x c la n
  refine callT_intro mixed Try.func65 rfl (by decide) (by decide +kernel) (by exact Nat.le_of_ble_eq_true rfl) ?_
  repeat' (first
    | (show evC _ (.block 0 _) _ _ _; refine c_cutB (fun a C' => ∃ b r : Nat, C' = pcsP r (headPs t d k on w x c la n) :: pt b [.int .i64 t, .int .i64 st, .bool e, .string d, .int .i64 k, .int .i64 on, .int .i64 w, .bool x, .int .i64 c, .int .i64 la, .int .i64 n, .slice pa ps.length pc] 28 :: C ∧ Agree a [(1, .pointer (some ⟨b, 0, none⟩)), (3, .pointer (some ⟨r, 0, none⟩)), (4, .func (.func 70) #[] #[.pointer (some ⟨r, 0, none⟩)]), (5, .func (.func 71) #[] #[])]) ?_ (fun a C' hI => ?_))
    | (show evG _ _ _ _ _ _ _; first | refine G_andNot0 ?_ | refine G_andNot1 ?_ | refine G_add64 ?_ | refine G_sub64 ?_ | refine G_mul64 ?_ | refine G_quo ?_ | refine G_rem ?_ | refine G_shl8 ?_ | refine G_orb ?_ | refine G_shr ?_ | refine G_pure0 ?_ | refine G_load ?_ | refine evG_nil ?_ | refine G_br ?_ ?_ | refine G_field ?_ | refine G_pure ?_ | refine G_store ?_ | refine G_loadV ?_ | refine G_loadV0 ?_ | refine G_loadV2 ?_ | (refine G_append ?_; intro _ _) | (refine G_appendN ?_; intro _ _) | refine G_not ?_ | refine G_index ?_ | refine G_indexA ?_ | refine G_indexS ?_ | refine G_conv64 ?_ | refine G_conv8 ?_ | refine G_convu ?_ | refine G_conv ?_ | refine G_build ?_ | refine G_slh ?_ | refine G_slo ?_ | refine G_shi ?_ | refine G_cat ?_ | refine G_min ?_ | refine G_max ?_ | refine G_neg64 ?_ | refine G_eql_agg ?_ | refine G_neq_agg ?_ | refine G_bytesP ?_ | refine G_bytesstr ?_ | refine G_call ?_ | refine G_call0 ?_ | refine G_callv ?_ | refine G_callv0 ?_ | (refine G_box ?_; intro _) | (refine G_alloc ?_; intro _) | (refine G_buildSlice ?_; intro _) | (refine G_strrow ?_; intro _ _) | (refine G_indexV ?_; intro _ _ hA; subst hA) | (refine G_sliceR ?_; intro _) | (refine G_sliceO ?_; intro _) | refine G_skip ?_ | refine G_skip0 ?_)
    | (show spl _ _ _; first | refine spl_no rfl ?_ | refine spl_yes rfl ?_)
    | (show evC _ _ _ _ _; first | refine c_seq ?_ | refine c_region (by exact rfl) ?_ | refine c_cond (by exact rfl) ?_ | refine c_ret ?_ | refine c_skip ?_ | refine c_block ?_ | refine c_exit ?_  | refine c_draw (l := [(1, 0), (2, 0), (3, 1), (4, 1), (5, 1), (6, 1), (7, 1), (8, 1), (9, 3), (10, 3), (11, 3), (12, 3), (13, 1), (14, 1), (15, 5), (16, 5), (17, 5), (18, 5), (19, 1), (20, 1), (0, 7), (21, 1)]) (by decide +kernel) (by decide +kernel) (by exact rfl) ?_ | refine c_draw (l := [(1, 0), (2, 0), (3, 0), (4, 1), (5, 1), (6, 1), (7, 1), (8, 1), (9, 1), (0, 3), (10, 1)]) (by decide +kernel) (by decide +kernel) (by exact rfl) ?_ | refine c_draw (l := [(1, 0), (2, 0), (3, 1), (4, 1), (5, 1), (6, 1), (7, 1), (8, 1), (0, 3), (9, 1)]) (by decide +kernel) (by decide +kernel) (by exact rfl) ?_ | refine c_draw (by exact rfl) (by decide +kernel) (by exact rfl) ?_ | refine c_drawT (by exact rfl) (by decide +kernel) (by exact rfl) ?_ | refine c_scope ?_ | refine c_label ?_)
    | (show Br _ _ _; first | refine Br.t rfl ?_ | refine Br.f rfl ?_ | refine Br.t (beq_self_eq_true _) ?_ | refine Br.f (not_beq_self _) ?_ | refine Br.t (by assumption) ?_ | refine Br.f (by assumption) ?_ | refine Br.t (nb_f (by assumption)) ?_ | refine Br.f (nb_t (by assumption)) ?_ | (refine Br.mk (fun h => ?_) (fun h => ?_) <;> (try simp only [Bool.and_eq_true, Bool.or_eq_true, Bool.and_eq_false_iff, Bool.or_eq_false_iff, decide_eq_true_eq, decide_eq_false_iff_not, beq_iff_eq, bne_iff_ne, beq_eq_false_iff_ne, bne_eq_false_iff_eq, ne_eq, Bool.not_eq_true', Bool.not_eq_false', not_true_eq_false, not_false_eq_true, Int.not_lt, Int.not_le, gt_iff_lt, ge_iff_le] at h) <;> (try (first | contradiction | (exfalso; omega)))))
    | (show thenC _ _ _ _ _; first | refine t_n ?_ | refine t_r ?_ | refine t_e ?_)
    | (show inBlockC _ _ _ _ _; first | refine b_n ?_ | refine b_r ?_ | refine b_hit rfl ?_ | refine b_miss rfl ?_)
    | (show noGotoC _ _ _ _; first | refine g_n ?_ | refine g_r ?_ | refine g_e ?_)
    | (show CallT _ 70 _ _ _; refine CA (h := padd_ok (xs := []) (by ((repeat (first | exact view_row | exact view_rrow | exact view_pt | assumption | apply view_there)) <;> exact view_row)) (by exact rfl) (by decide) ?_))
    | (show CallT _ 71 _ _ _; refine CA (h := pfour_ok ?_))
    | (show CallT _ 74 _ _ _; refine CA (h := fbit_ok ?_))
    | (show CallT _ 72 _ _ _; refine CA (h := u_ok ?_))
    | (show CallT _ 73 _ _ _; refine CA (h := t_ok ?_)))
  all_goals first
    | (show CutG _ _ _
       first
         | rw [hp1 (by omega)]
         | rw [hp2 (by omega)]
         | rw [hp3 (by omega)]
         | rw [hp4 (by omega)]
         | rw [hp5 (by omega)]
         | rw [hp6 (by omega)]
       exact cut_done ⟨_, _, rfl, rfl, rfl, rfl, rfl, trivial⟩)
    | skip
  obtain ⟨b, r, rfl, ha⟩ := hI
  refine ⟨?_⟩
  refine t_n ?_
  refine c_fr _ ha ?_
  simp only [updL]
  repeat' (first
    | (show evG _ _ _ _ _ _ _; first | refine G_andNot0 ?_ | refine G_andNot1 ?_ | refine G_add64 ?_ | refine G_sub64 ?_ | refine G_mul64 ?_ | refine G_quo ?_ | refine G_rem ?_ | refine G_shl8 ?_ | refine G_orb ?_ | refine G_shr ?_ | refine G_pure0 ?_ | refine G_load ?_ | refine evG_nil ?_ | refine G_br ?_ ?_ | refine G_field ?_ | refine G_pure ?_ | refine G_store ?_ | refine G_loadV ?_ | refine G_loadV0 ?_ | refine G_loadV2 ?_ | (refine G_append ?_; intro _ _) | (refine G_appendN ?_; intro _ _) | refine G_not ?_ | refine G_index ?_ | refine G_indexA ?_ | refine G_indexS ?_ | refine G_conv64 ?_ | refine G_conv8 ?_ | refine G_convu ?_ | refine G_conv ?_ | refine G_build ?_ | refine G_slh ?_ | refine G_slo ?_ | refine G_shi ?_ | refine G_cat ?_ | refine G_min ?_ | refine G_max ?_ | refine G_neg64 ?_ | refine G_eql_agg ?_ | refine G_neq_agg ?_ | refine G_bytesP ?_ | refine G_bytesstr ?_ | refine G_call ?_ | refine G_call0 ?_ | refine G_callv ?_ | refine G_callv0 ?_ | (refine G_box ?_; intro _) | (refine G_alloc ?_; intro _) | (refine G_buildSlice ?_; intro _) | (refine G_strrow ?_; intro _ _) | (refine G_indexV ?_; intro _ _ hA; subst hA) | (refine G_sliceR ?_; intro _) | (refine G_sliceO ?_; intro _) | refine G_skip ?_ | refine G_skip0 ?_)
    | (show spl _ _ _; first | refine spl_no rfl ?_ | refine spl_yes rfl ?_)
    | (show evC _ _ _ _ _; first | refine c_seq ?_ | refine c_region (by exact rfl) ?_ | refine c_cond (by exact rfl) ?_ | refine c_ret ?_ | refine c_skip ?_ | refine c_block ?_ | refine c_exit ?_  | refine c_draw (l := [(1, 0), (2, 0), (3, 1), (4, 1), (5, 1), (6, 1), (7, 1), (8, 1), (9, 3), (10, 3), (11, 3), (12, 3), (13, 1), (14, 1), (15, 5), (16, 5), (17, 5), (18, 5), (19, 1), (20, 1), (0, 7), (21, 1)]) (by decide +kernel) (by decide +kernel) (by exact rfl) ?_ | refine c_draw (l := [(1, 0), (2, 0), (3, 0), (4, 1), (5, 1), (6, 1), (7, 1), (8, 1), (9, 1), (0, 3), (10, 1)]) (by decide +kernel) (by decide +kernel) (by exact rfl) ?_ | refine c_draw (l := [(1, 0), (2, 0), (3, 1), (4, 1), (5, 1), (6, 1), (7, 1), (8, 1), (0, 3), (9, 1)]) (by decide +kernel) (by decide +kernel) (by exact rfl) ?_ | refine c_draw (by exact rfl) (by decide +kernel) (by exact rfl) ?_ | refine c_drawT (by exact rfl) (by decide +kernel) (by exact rfl) ?_ | refine c_scope ?_ | refine c_label ?_)
    | (show Br _ _ _; first | refine Br.t rfl ?_ | refine Br.f rfl ?_ | refine Br.t (beq_self_eq_true _) ?_ | refine Br.f (not_beq_self _) ?_ | refine Br.t (by assumption) ?_ | refine Br.f (by assumption) ?_ | refine Br.t (nb_f (by assumption)) ?_ | refine Br.f (nb_t (by assumption)) ?_ | (refine Br.mk (fun h => ?_) (fun h => ?_) <;> (try simp only [Bool.and_eq_true, Bool.or_eq_true, Bool.and_eq_false_iff, Bool.or_eq_false_iff, decide_eq_true_eq, decide_eq_false_iff_not, beq_iff_eq, bne_iff_ne, beq_eq_false_iff_ne, bne_eq_false_iff_eq, ne_eq, Bool.not_eq_true', Bool.not_eq_false', not_true_eq_false, not_false_eq_true, Int.not_lt, Int.not_le, gt_iff_lt, ge_iff_le] at h) <;> (try (first | contradiction | (exfalso; omega)))))
    | (show thenC _ _ _ _ _; first | refine t_n ?_ | refine t_r ?_ | refine t_e ?_)
    | (show inBlockC _ _ _ _ _; first | refine b_n ?_ | refine b_r ?_ | refine b_hit rfl ?_ | refine b_miss rfl ?_)
    | (show noGotoC _ _ _ _; first | refine g_n ?_ | refine g_r ?_ | refine g_e ?_))
  have hpl := psPs_len ps
  have e0 : headPs t d k on w x c la n = headPs t d k on w x c la n ++ psPs (ps.take 0) := by rw [List.take_zero]; exact (List.append_nil _).symm
  rw [e0]
  have hv2 : View (pt b [.int .i64 t, .int .i64 st, .bool e, .string d, .int .i64 k, .int .i64 on, .int .i64 w, .bool x, .int .i64 c, .int .i64 la, .int .i64 n, .slice pa ps.length pc] 28 :: C) pa prC ps := view_there hv
  refine LOOP (fun m a C' => ∃ j : Nat, j + m = ps.length ∧ C' = pcsP r (headPs t d k on w x c la n ++ psPs (ps.take j)) :: pt b [.int .i64 t, .int .i64 st, .bool e, .string d, .int .i64 k, .int .i64 on, .int .i64 w, .bool x, .int .i64 c, .int .i64 la, .int .i64 n, .slice pa ps.length pc] 28 :: C ∧ Agree a [(3, .pointer (some ⟨r, 0, none⟩)), (4, .func (.func 70) #[] #[.pointer (some ⟨r, 0, none⟩)]), (5, .func (.func 71) #[] #[]), (82, .slice pa ps.length pc), (83, .int .i64 ps.length), (84, .int .i64 j)]) ps.length (turn ps.length ⟨0, by omega, rfl, rfl, rfl, rfl, rfl, rfl, rfl, trivial⟩) ?_
  rintro n1 a C' ⟨j, hj, rfl, ha⟩
  refine c_fr _ ha ?_
  simp only [updL]
  by_cases hlt : j < ps.length
  · obtain ⟨y, hy, hd⟩ := at_drop (l := ps) (j := j) (by omega)
    have ht := psPs_take hy
    have hl2 : (headPs t d k on w x c la n ++ psPs (ps.take j)).length + 2 < 1000000000 := by
      rw [List.length_append, psPs_len, List.length_take]; omega
    repeat' (first
      | (show evG _ _ _ _ _ _ _; first | refine G_andNot0 ?_ | refine G_andNot1 ?_ | refine G_add64 ?_ | refine G_sub64 ?_ | refine G_mul64 ?_ | refine G_quo ?_ | refine G_rem ?_ | refine G_shl8 ?_ | refine G_orb ?_ | refine G_shr ?_ | refine G_pure0 ?_ | refine G_load ?_ | refine evG_nil ?_ | refine G_br ?_ ?_ | refine G_field ?_ | refine G_pure ?_ | refine G_store ?_ | refine G_loadV ?_ | refine G_loadV0 ?_ | refine G_loadV2 ?_ | (refine G_append ?_; intro _ _) | (refine G_appendN ?_; intro _ _) | refine G_not ?_ | refine G_index ?_ | refine G_indexA ?_ | refine G_indexS ?_ | refine G_conv64 ?_ | refine G_conv8 ?_ | refine G_convu ?_ | refine G_conv ?_ | refine G_build ?_ | refine G_slh ?_ | refine G_slo ?_ | refine G_shi ?_ | refine G_cat ?_ | refine G_min ?_ | refine G_max ?_ | refine G_neg64 ?_ | refine G_eql_agg ?_ | refine G_neq_agg ?_ | refine G_bytesP ?_ | refine G_bytesstr ?_ | refine G_call ?_ | refine G_call0 ?_ | refine G_callv ?_ | refine G_callv0 ?_ | (refine G_box ?_; intro _) | (refine G_alloc ?_; intro _) | (refine G_buildSlice ?_; intro _) | (refine G_strrow ?_; intro _ _) | (refine G_indexV ?_; intro _ _ hA; subst hA) | (refine G_sliceR ?_; intro _) | (refine G_sliceO ?_; intro _) | refine G_skip ?_ | refine G_skip0 ?_)
      | (show spl _ _ _; first | refine spl_no rfl ?_ | refine spl_yes rfl ?_)
      | (show evC _ _ _ _ _; first | refine c_seq ?_ | refine c_region (by exact rfl) ?_ | refine c_cond (by exact rfl) ?_ | refine c_ret ?_ | refine c_skip ?_ | refine c_block ?_ | refine c_exit ?_  | refine c_draw (l := [(1, 0), (2, 0), (3, 1), (4, 1), (5, 1), (6, 1), (7, 1), (8, 1), (9, 3), (10, 3), (11, 3), (12, 3), (13, 1), (14, 1), (15, 5), (16, 5), (17, 5), (18, 5), (19, 1), (20, 1), (0, 7), (21, 1)]) (by decide +kernel) (by decide +kernel) (by exact rfl) ?_ | refine c_draw (l := [(1, 0), (2, 0), (3, 0), (4, 1), (5, 1), (6, 1), (7, 1), (8, 1), (9, 1), (0, 3), (10, 1)]) (by decide +kernel) (by decide +kernel) (by exact rfl) ?_ | refine c_draw (l := [(1, 0), (2, 0), (3, 1), (4, 1), (5, 1), (6, 1), (7, 1), (8, 1), (0, 3), (9, 1)]) (by decide +kernel) (by decide +kernel) (by exact rfl) ?_ | refine c_draw (by exact rfl) (by decide +kernel) (by exact rfl) ?_ | refine c_drawT (by exact rfl) (by decide +kernel) (by exact rfl) ?_ | refine c_scope ?_ | refine c_label ?_)
      | (show Br _ _ _; first | refine Br.t rfl ?_ | refine Br.f rfl ?_ | refine Br.t (beq_self_eq_true _) ?_ | refine Br.f (not_beq_self _) ?_ | refine Br.t (by assumption) ?_ | refine Br.f (by assumption) ?_ | refine Br.t (nb_f (by assumption)) ?_ | refine Br.f (nb_t (by assumption)) ?_ | (refine Br.mk (fun h => ?_) (fun h => ?_) <;> (try simp only [Bool.and_eq_true, Bool.or_eq_true, Bool.and_eq_false_iff, Bool.or_eq_false_iff, decide_eq_true_eq, decide_eq_false_iff_not, beq_iff_eq, bne_iff_ne, beq_eq_false_iff_ne, bne_eq_false_iff_eq, ne_eq, Bool.not_eq_true', Bool.not_eq_false', not_true_eq_false, not_false_eq_true, Int.not_lt, Int.not_le, gt_iff_lt, ge_iff_le] at h) <;> (try (first | contradiction | (exfalso; omega)))))
      | (show thenC _ _ _ _ _; first | refine t_n ?_ | refine t_r ?_ | refine t_e ?_)
      | (show inBlockC _ _ _ _ _; first | refine b_n ?_ | refine b_r ?_ | refine b_hit rfl ?_ | refine b_miss rfl ?_)
      | (show noGotoC _ _ _ _; first | refine g_n ?_ | refine g_r ?_ | refine g_e ?_)
      | (show CallT _ 70 _ _ _; refine CA (h := padd_ok (xs := headPs t d k on w x c la n ++ psPs (ps.take j)) (by ((repeat (first | exact view_row | exact view_rrow | exact view_pt | assumption | apply view_there)) <;> exact view_row)) (by exact rfl) hl2 ?_))
      | (show CallT _ 71 _ _ _; refine CA (h := pfour_ok ?_))
      | (show CallT _ 72 _ _ _; refine CA (h := u_ok ?_)))
    all_goals exact turn (n1 - 1) ⟨j + 1, by omega, by rw [ht, ← List.append_assoc], rfl, rfl, rfl, rfl, rfl, rfl, trivial⟩
  · obtain rfl : j = ps.length := by omega
    rw [List.take_of_length_le (Nat.le_refl _)]
    refine evC_ex fun A => evC_ex fun c' => evC_sep ?_
    have hl2 : (headPs t d k on w x c la n ++ psPs ps).length = (headPs t d k on w x c la n).length + (psPs ps).length := List.length_append
    repeat' (first
      | (show evG _ _ _ _ _ _ _; first | refine G_andNot0 ?_ | refine G_andNot1 ?_ | refine G_add64 ?_ | refine G_sub64 ?_ | refine G_mul64 ?_ | refine G_quo ?_ | refine G_rem ?_ | refine G_shl8 ?_ | refine G_orb ?_ | refine G_shr ?_ | refine G_pure0 ?_ | refine G_load ?_ | refine evG_nil ?_ | refine G_br ?_ ?_ | refine G_field ?_ | refine G_pure ?_ | refine G_store ?_ | refine G_loadV ?_ | refine G_loadV0 ?_ | refine G_loadV2 ?_ | (refine G_append ?_; intro _ _) | (refine G_appendN ?_; intro _ _) | refine G_not ?_ | refine G_index ?_ | refine G_indexA ?_ | refine G_indexS ?_ | refine G_conv64 ?_ | refine G_conv8 ?_ | refine G_convu ?_ | refine G_conv ?_ | refine G_build ?_ | refine G_slh ?_ | refine G_slo ?_ | refine G_shi ?_ | refine G_cat ?_ | refine G_min ?_ | refine G_max ?_ | refine G_neg64 ?_ | refine G_eql_agg ?_ | refine G_neq_agg ?_ | refine G_bytesP ?_ | refine G_bytesstr ?_ | refine G_call ?_ | refine G_call0 ?_ | refine G_callv ?_ | refine G_callv0 ?_ | (refine G_box ?_; intro _) | (refine G_alloc ?_; intro _) | (refine G_buildSlice ?_; intro _) | (refine G_strrow ?_; intro _ _) | (refine G_indexV ?_; intro _ _ hA; subst hA) | (refine G_sliceR ?_; intro _) | (refine G_sliceO ?_; intro _) | refine G_skip ?_ | refine G_skip0 ?_)
      | (show spl _ _ _; first | refine spl_no rfl ?_ | refine spl_yes rfl ?_)
      | (show evC _ _ _ _ _; first | refine c_seq ?_ | refine c_region (by exact rfl) ?_ | refine c_cond (by exact rfl) ?_ | refine c_ret ?_ | refine c_skip ?_ | refine c_block ?_ | refine c_exit ?_  | refine c_draw (l := [(1, 0), (2, 0), (3, 1), (4, 1), (5, 1), (6, 1), (7, 1), (8, 1), (9, 3), (10, 3), (11, 3), (12, 3), (13, 1), (14, 1), (15, 5), (16, 5), (17, 5), (18, 5), (19, 1), (20, 1), (0, 7), (21, 1)]) (by decide +kernel) (by decide +kernel) (by exact rfl) ?_ | refine c_draw (l := [(1, 0), (2, 0), (3, 0), (4, 1), (5, 1), (6, 1), (7, 1), (8, 1), (9, 1), (0, 3), (10, 1)]) (by decide +kernel) (by decide +kernel) (by exact rfl) ?_ | refine c_draw (l := [(1, 0), (2, 0), (3, 1), (4, 1), (5, 1), (6, 1), (7, 1), (8, 1), (0, 3), (9, 1)]) (by decide +kernel) (by decide +kernel) (by exact rfl) ?_ | refine c_draw (by exact rfl) (by decide +kernel) (by exact rfl) ?_ | refine c_drawT (by exact rfl) (by decide +kernel) (by exact rfl) ?_ | refine c_scope ?_ | refine c_label ?_)
      | (show Br _ _ _; first | refine Br.t rfl ?_ | refine Br.f rfl ?_ | refine Br.t (beq_self_eq_true _) ?_ | refine Br.f (not_beq_self _) ?_ | refine Br.t (by assumption) ?_ | refine Br.f (by assumption) ?_ | refine Br.t (nb_f (by assumption)) ?_ | refine Br.f (nb_t (by assumption)) ?_ | (refine Br.mk (fun h => ?_) (fun h => ?_) <;> (try simp only [Bool.and_eq_true, Bool.or_eq_true, Bool.and_eq_false_iff, Bool.or_eq_false_iff, decide_eq_true_eq, decide_eq_false_iff_not, beq_iff_eq, bne_iff_ne, beq_eq_false_iff_ne, bne_eq_false_iff_eq, ne_eq, Bool.not_eq_true', Bool.not_eq_false', not_true_eq_false, not_false_eq_true, Int.not_lt, Int.not_le, gt_iff_lt, ge_iff_le] at h) <;> (try (first | contradiction | (exfalso; omega)))))
      | (show thenC _ _ _ _ _; first | refine t_n ?_ | refine t_r ?_ | refine t_e ?_)
      | (show inBlockC _ _ _ _ _; first | refine b_n ?_ | refine b_r ?_ | refine b_hit rfl ?_ | refine b_miss rfl ?_)
      | (show noGotoC _ _ _ _; first | refine g_n ?_ | refine g_r ?_ | refine g_e ?_)
      | (show CallT _ 75 _ _ _; refine CA (h := lay_ok (ps := headPs t d k on w x c la n ++ psPs ps) (by ((repeat (first | exact view_row | exact view_rrow | exact view_pt | assumption | apply view_there)) <;> exact view_row)) rfl (by omega) ?_)))
    (refine RETC ?_; exact ret_done (hK))
end Go.Proofs.Ytgaekagocbcebaa
