/- The document's Tx: lemmas; each with the conditions that it states. -/
import Derived.Test.YtbmkghbjooobeaaU2
import Derived.Test.YtbmkghbjooobeaaU0

namespace Go.Proofs.Ytbmkghbjooobeaa
open Go Go.Proofs Go.Sl
set_option maxRecDepth 100000
set_option maxHeartbeats 4000000
set_option linter.unusedSimpArgs false
set_option linter.unusedVariables false
attribute [local irreducible] evG evC spl thenC inBlockC noGotoC CallT retC RetG TurnG CutG pt ro exP star sep pureP
variable {R C : List HP} {K : Value → List HP → Prop}
def rtP (x : Nat) (kd cap st : Int) (B : ByteArray) (l : List ByteArray) (w : Int) (en ou : Bool) (ac se dr : Int) : HP := exP fun A => exP fun c => sep (pt x [.int .i64 kd, .int .i64 cap, .int .i64 st, .string B, .slice A l.length c, .int .i64 w, .bool en, .bool ou, .int .i64 ac, .int .i64 se, .int .i64 dr] 48) (row A c 9 sxC l)
section
variable {x : Nat} {kd cap st : Int} {B : ByteArray} {l : List ByteArray} {w : Int} {en ou : Bool} {ac se dr : Int}
theorem rt_fold {A : Option Addr} {c n : Nat} (h : l.length = n) : Ent (pt x [.int .i64 kd, .int .i64 cap, .int .i64 st, .string B, .slice A n c, .int .i64 w, .bool en, .bool ou, .int .i64 ac, .int .i64 se, .int .i64 dr] 48 :: row A c 9 sxC l :: R) (rtP x kd cap st B l w en ou ac se dr :: R) := by
  subst h
  exact Ent.ex A (Ent.ex c (Ent.sep (Ent.refl _)))
theorem rt_open {f : FuncId} {args : Array Value} (h : ∀ A c, l.length ≤ c → CallT Try.prog f args (pt x [.int .i64 kd, .int .i64 cap, .int .i64 st, .string B, .slice A l.length c, .int .i64 w, .bool en, .bool ou, .int .i64 ac, .int .i64 se, .int .i64 dr] 48 :: row A c 9 sxC l :: R) K) : CallT Try.prog f args (rtP x kd cap st B l w en ou ac se dr :: R) K :=
  CallT.ex fun A => CallT.ex fun c => CallT.sep (call_rowfact (Pick.there Pick.here) (h A c))
def rwt (kd : Int) (B : ByteArray) (l : List ByteArray) : Int := if kd = 1 then B.size else l.length
theorem rtwaitR_ok {A : Option Addr} {c : Nat} (hK : K (.int .i64 (rwt kd B l)) (pt x [.int .i64 kd, .int .i64 cap, .int .i64 st, .string B, .slice A l.length c, .int .i64 w, .bool en, .bool ou, .int .i64 ac, .int .i64 se, .int .i64 dr] 48 :: R)) : CallT Try.prog 27 #[.pointer (some ⟨x, 0, none⟩)] (pt x [.int .i64 kd, .int .i64 cap, .int .i64 st, .string B, .slice A l.length c, .int .i64 w, .bool en, .bool ou, .int .i64 ac, .int .i64 se, .int .i64 dr] 48 :: R) K := by
  unfold rwt at hK
  refine callT_intro mixed Try.func27 rfl (by decide) (by decide +kernel) (by exact Nat.le_of_ble_eq_true rfl) ?_
  repeat' (first
    | (show evG _ _ _ _ _ _ _; first | refine G_andNot0 ?_ | refine G_andNot1 ?_ | refine G_add64 ?_ | refine G_sub64 ?_ | refine G_mul64 ?_ | refine G_quo ?_ | refine G_rem ?_ | refine G_shl8 ?_ | refine G_orb ?_ | refine G_shr ?_ | refine G_pure0 ?_ | refine G_load ?_ | refine evG_nil ?_ | refine G_br ?_ ?_ | refine G_field ?_ | refine G_pure ?_ | refine G_store ?_ | refine G_loadV ?_ | refine G_loadV0 ?_ | refine G_loadV2 ?_ | (refine G_append ?_; intro _ _) | (refine G_appendN ?_; intro _ _) | refine G_not ?_ | refine G_index ?_ | refine G_indexA ?_ | refine G_indexS ?_ | refine G_conv64 ?_ | refine G_conv8 ?_ | refine G_convu ?_ | refine G_conv ?_ | refine G_build ?_ | refine G_slh ?_ | refine G_slo ?_ | refine G_shi ?_ | refine G_cat ?_ | refine G_min ?_ | refine G_max ?_ | refine G_neg64 ?_ | refine G_eql_agg ?_ | refine G_neq_agg ?_ | refine G_bytesP ?_ | refine G_bytesstr ?_ | refine G_call ?_ | refine G_call0 ?_ | refine G_callv ?_ | refine G_callv0 ?_ | (refine G_box ?_; intro _) | (refine G_alloc ?_; intro _) | (refine G_buildSlice ?_; intro _) | (refine G_strrow ?_; intro _ _) | (refine G_indexV ?_; intro _ _ hA; subst hA) | (refine G_sliceR ?_; intro _) | (refine G_sliceO ?_; intro _) | refine G_skip ?_ | refine G_skip0 ?_)
    | (show spl _ _ _; first | refine spl_no rfl ?_ | refine spl_yes rfl ?_)
    | (show evC _ _ _ _ _; first | refine c_seq ?_ | refine c_region (by exact rfl) ?_ | refine c_cond (by exact rfl) ?_ | refine c_ret ?_ | refine c_skip ?_ | refine c_block ?_ | refine c_exit ?_  | refine c_draw (by exact rfl) (by decide +kernel) (by exact rfl) ?_ | refine c_drawT (by exact rfl) (by decide +kernel) (by exact rfl) ?_ | refine c_scope ?_ | refine c_label ?_)
    | (show Br _ _ _; first | refine Br.t rfl ?_ | refine Br.f rfl ?_ | refine Br.t (beq_self_eq_true _) ?_ | refine Br.f (not_beq_self _) ?_ | refine Br.t (by assumption) ?_ | refine Br.f (by assumption) ?_ | refine Br.t (nb_f (by assumption)) ?_ | refine Br.f (nb_t (by assumption)) ?_ | (refine Br.mk (fun h => ?_) (fun h => ?_) <;> (try simp only [Bool.and_eq_true, Bool.or_eq_true, Bool.and_eq_false_iff, Bool.or_eq_false_iff, decide_eq_true_eq, decide_eq_false_iff_not, beq_iff_eq, bne_iff_ne, beq_eq_false_iff_ne, bne_eq_false_iff_eq, ne_eq, Bool.not_eq_true', Bool.not_eq_false', not_true_eq_false, not_false_eq_true, Int.not_lt, Int.not_le, gt_iff_lt, ge_iff_le] at h) <;> (try (first | contradiction | (exfalso; omega)))))
    | (show thenC _ _ _ _ _; first | refine t_n ?_ | refine t_r ?_ | refine t_e ?_)
    | (show inBlockC _ _ _ _ _; first | refine b_n ?_ | refine b_r ?_ | refine b_hit rfl ?_ | refine b_miss rfl ?_)
    | (show noGotoC _ _ _ _; first | refine g_n ?_ | refine g_r ?_ | refine g_e ?_))
  · rw [if_pos (by assumption)] at hK
    (show retC _ _ _ _ _ _; refine RETC ?_; exact ret_done (hK))
  · rw [if_neg (by assumption)] at hK
    (show retC _ _ _ _ _ _; refine RETC ?_; exact ret_done (hK))
theorem rtwait_ok (hK : K (.int .i64 (rwt kd B l)) (rtP x kd cap st B l w en ou ac se dr :: R)) : CallT Try.prog 27 #[.pointer (some ⟨x, 0, none⟩)] (rtP x kd cap st B l w en ou ac se dr :: R) K := by
  refine rt_open fun A c hc => ?_
  exact CallT.entK (rtwaitR_ok ⟨_, rt_fold rfl, hK⟩)
def rrd (kd : Int) (B : ByteArray) (l : List ByteArray) (w : Int) (en ou : Bool) (n : Int) : Bool := if rwt kd B l = 0 then en && !ou else if kd = 1 then decide (0 < n) else decide (0 < w)
theorem rtreadyR_ok {A : Option Addr} {c : Nat} {n : Int} {b : Bool} (hb : rrd kd B l w en ou n = b) (hK : K (.bool b) (pt x [.int .i64 kd, .int .i64 cap, .int .i64 st, .string B, .slice A l.length c, .int .i64 w, .bool en, .bool ou, .int .i64 ac, .int .i64 se, .int .i64 dr] 48 :: R)) : CallT Try.prog 31 #[.pointer (some ⟨x, 0, none⟩), .int .i64 n] (pt x [.int .i64 kd, .int .i64 cap, .int .i64 st, .string B, .slice A l.length c, .int .i64 w, .bool en, .bool ou, .int .i64 ac, .int .i64 se, .int .i64 dr] 48 :: R) K := by
  subst hb
  unfold rrd at hK
  by_cases h0 : rwt kd B l = 0
  · rw [if_pos h0] at hK
    cases en
    · refine callT_intro mixed Try.func31 rfl (by decide) (by decide +kernel) (by exact Nat.le_of_ble_eq_true rfl) ?_
      repeat' (first
        | (show evG _ _ _ _ _ _ _; first | refine G_andNot0 ?_ | refine G_andNot1 ?_ | refine G_add64 ?_ | refine G_sub64 ?_ | refine G_mul64 ?_ | refine G_quo ?_ | refine G_rem ?_ | refine G_shl8 ?_ | refine G_orb ?_ | refine G_shr ?_ | refine G_pure0 ?_ | refine G_load ?_ | refine evG_nil ?_ | refine G_br ?_ ?_ | refine G_field ?_ | refine G_pure ?_ | refine G_store ?_ | refine G_loadV ?_ | refine G_loadV0 ?_ | refine G_loadV2 ?_ | (refine G_append ?_; intro _ _) | (refine G_appendN ?_; intro _ _) | refine G_not ?_ | refine G_index ?_ | refine G_indexA ?_ | refine G_indexS ?_ | refine G_conv64 ?_ | refine G_conv8 ?_ | refine G_convu ?_ | refine G_conv ?_ | refine G_build ?_ | refine G_slh ?_ | refine G_slo ?_ | refine G_shi ?_ | refine G_cat ?_ | refine G_min ?_ | refine G_max ?_ | refine G_neg64 ?_ | refine G_eql_agg ?_ | refine G_neq_agg ?_ | refine G_bytesP ?_ | refine G_bytesstr ?_ | refine G_call ?_ | refine G_call0 ?_ | refine G_callv ?_ | refine G_callv0 ?_ | (refine G_box ?_; intro _) | (refine G_alloc ?_; intro _) | (refine G_buildSlice ?_; intro _) | (refine G_strrow ?_; intro _ _) | (refine G_indexV ?_; intro _ _ hA; subst hA) | (refine G_sliceR ?_; intro _) | (refine G_sliceO ?_; intro _) | refine G_skip ?_ | refine G_skip0 ?_)
        | (show spl _ _ _; first | refine spl_no rfl ?_ | refine spl_yes rfl ?_)
        | (show evC _ _ _ _ _; first | refine c_seq ?_ | refine c_region (by exact rfl) ?_ | refine c_cond (by exact rfl) ?_ | refine c_ret ?_ | refine c_skip ?_ | refine c_block ?_ | refine c_exit ?_  | refine c_draw (by exact rfl) (by decide +kernel) (by exact rfl) ?_ | refine c_drawT (by exact rfl) (by decide +kernel) (by exact rfl) ?_ | refine c_scope ?_ | refine c_label ?_)
        | (show Br _ _ _; first | refine Br.t rfl ?_ | refine Br.f rfl ?_ | refine Br.t (beq_self_eq_true _) ?_ | refine Br.f (not_beq_self _) ?_ | refine Br.t (by assumption) ?_ | refine Br.f (by assumption) ?_ | refine Br.t (nb_f (by assumption)) ?_ | refine Br.f (nb_t (by assumption)) ?_ | (refine Br.mk (fun h => ?_) (fun h => ?_) <;> (try simp only [Bool.and_eq_true, Bool.or_eq_true, Bool.and_eq_false_iff, Bool.or_eq_false_iff, decide_eq_true_eq, decide_eq_false_iff_not, beq_iff_eq, bne_iff_ne, beq_eq_false_iff_ne, bne_eq_false_iff_eq, ne_eq, Bool.not_eq_true', Bool.not_eq_false', not_true_eq_false, not_false_eq_true, Int.not_lt, Int.not_le, gt_iff_lt, ge_iff_le] at h) <;> (try (first | contradiction | (exfalso; omega)))))
        | (show thenC _ _ _ _ _; first | refine t_n ?_ | refine t_r ?_ | refine t_e ?_)
        | (show inBlockC _ _ _ _ _; first | refine b_n ?_ | refine b_r ?_ | refine b_hit rfl ?_ | refine b_miss rfl ?_)
        | (show noGotoC _ _ _ _; first | refine g_n ?_ | refine g_r ?_ | refine g_e ?_)
        | (show CallT _ 27 _ _ _; refine CA (h := rtwaitR_ok ?_)))
      (show retC _ _ _ _ _ _; refine RETC ?_; exact ret_done (hK))
    · refine callT_intro mixed Try.func31 rfl (by decide) (by decide +kernel) (by exact Nat.le_of_ble_eq_true rfl) ?_
      repeat' (first
        | (show evG _ _ _ _ _ _ _; first | refine G_andNot0 ?_ | refine G_andNot1 ?_ | refine G_add64 ?_ | refine G_sub64 ?_ | refine G_mul64 ?_ | refine G_quo ?_ | refine G_rem ?_ | refine G_shl8 ?_ | refine G_orb ?_ | refine G_shr ?_ | refine G_pure0 ?_ | refine G_load ?_ | refine evG_nil ?_ | refine G_br ?_ ?_ | refine G_field ?_ | refine G_pure ?_ | refine G_store ?_ | refine G_loadV ?_ | refine G_loadV0 ?_ | refine G_loadV2 ?_ | (refine G_append ?_; intro _ _) | (refine G_appendN ?_; intro _ _) | refine G_not ?_ | refine G_index ?_ | refine G_indexA ?_ | refine G_indexS ?_ | refine G_conv64 ?_ | refine G_conv8 ?_ | refine G_convu ?_ | refine G_conv ?_ | refine G_build ?_ | refine G_slh ?_ | refine G_slo ?_ | refine G_shi ?_ | refine G_cat ?_ | refine G_min ?_ | refine G_max ?_ | refine G_neg64 ?_ | refine G_eql_agg ?_ | refine G_neq_agg ?_ | refine G_bytesP ?_ | refine G_bytesstr ?_ | refine G_call ?_ | refine G_call0 ?_ | refine G_callv ?_ | refine G_callv0 ?_ | (refine G_box ?_; intro _) | (refine G_alloc ?_; intro _) | (refine G_buildSlice ?_; intro _) | (refine G_strrow ?_; intro _ _) | (refine G_indexV ?_; intro _ _ hA; subst hA) | (refine G_sliceR ?_; intro _) | (refine G_sliceO ?_; intro _) | refine G_skip ?_ | refine G_skip0 ?_)
        | (show spl _ _ _; first | refine spl_no rfl ?_ | refine spl_yes rfl ?_)
        | (show evC _ _ _ _ _; first | refine c_seq ?_ | refine c_region (by exact rfl) ?_ | refine c_cond (by exact rfl) ?_ | refine c_ret ?_ | refine c_skip ?_ | refine c_block ?_ | refine c_exit ?_  | refine c_draw (by exact rfl) (by decide +kernel) (by exact rfl) ?_ | refine c_drawT (by exact rfl) (by decide +kernel) (by exact rfl) ?_ | refine c_scope ?_ | refine c_label ?_)
        | (show Br _ _ _; first | refine Br.t rfl ?_ | refine Br.f rfl ?_ | refine Br.t (beq_self_eq_true _) ?_ | refine Br.f (not_beq_self _) ?_ | refine Br.t (by assumption) ?_ | refine Br.f (by assumption) ?_ | refine Br.t (nb_f (by assumption)) ?_ | refine Br.f (nb_t (by assumption)) ?_ | (refine Br.mk (fun h => ?_) (fun h => ?_) <;> (try simp only [Bool.and_eq_true, Bool.or_eq_true, Bool.and_eq_false_iff, Bool.or_eq_false_iff, decide_eq_true_eq, decide_eq_false_iff_not, beq_iff_eq, bne_iff_ne, beq_eq_false_iff_ne, bne_eq_false_iff_eq, ne_eq, Bool.not_eq_true', Bool.not_eq_false', not_true_eq_false, not_false_eq_true, Int.not_lt, Int.not_le, gt_iff_lt, ge_iff_le] at h) <;> (try (first | contradiction | (exfalso; omega)))))
        | (show thenC _ _ _ _ _; first | refine t_n ?_ | refine t_r ?_ | refine t_e ?_)
        | (show inBlockC _ _ _ _ _; first | refine b_n ?_ | refine b_r ?_ | refine b_hit rfl ?_ | refine b_miss rfl ?_)
        | (show noGotoC _ _ _ _; first | refine g_n ?_ | refine g_r ?_ | refine g_e ?_)
        | (show CallT _ 27 _ _ _; refine CA (h := rtwaitR_ok ?_)))
      (show retC _ _ _ _ _ _; refine RETC ?_; exact ret_done (hK))
  · rw [if_neg h0] at hK
    by_cases h1 : kd = 1
    · rw [if_pos h1] at hK
      refine callT_intro mixed Try.func31 rfl (by decide) (by decide +kernel) (by exact Nat.le_of_ble_eq_true rfl) ?_
      repeat' (first
        | (show evG _ _ _ _ _ _ _; first | refine G_andNot0 ?_ | refine G_andNot1 ?_ | refine G_add64 ?_ | refine G_sub64 ?_ | refine G_mul64 ?_ | refine G_quo ?_ | refine G_rem ?_ | refine G_shl8 ?_ | refine G_orb ?_ | refine G_shr ?_ | refine G_pure0 ?_ | refine G_load ?_ | refine evG_nil ?_ | refine G_br ?_ ?_ | refine G_field ?_ | refine G_pure ?_ | refine G_store ?_ | refine G_loadV ?_ | refine G_loadV0 ?_ | refine G_loadV2 ?_ | (refine G_append ?_; intro _ _) | (refine G_appendN ?_; intro _ _) | refine G_not ?_ | refine G_index ?_ | refine G_indexA ?_ | refine G_indexS ?_ | refine G_conv64 ?_ | refine G_conv8 ?_ | refine G_convu ?_ | refine G_conv ?_ | refine G_build ?_ | refine G_slh ?_ | refine G_slo ?_ | refine G_shi ?_ | refine G_cat ?_ | refine G_min ?_ | refine G_max ?_ | refine G_neg64 ?_ | refine G_eql_agg ?_ | refine G_neq_agg ?_ | refine G_bytesP ?_ | refine G_bytesstr ?_ | refine G_call ?_ | refine G_call0 ?_ | refine G_callv ?_ | refine G_callv0 ?_ | (refine G_box ?_; intro _) | (refine G_alloc ?_; intro _) | (refine G_buildSlice ?_; intro _) | (refine G_strrow ?_; intro _ _) | (refine G_indexV ?_; intro _ _ hA; subst hA) | (refine G_sliceR ?_; intro _) | (refine G_sliceO ?_; intro _) | refine G_skip ?_ | refine G_skip0 ?_)
        | (show spl _ _ _; first | refine spl_no rfl ?_ | refine spl_yes rfl ?_)
        | (show evC _ _ _ _ _; first | refine c_seq ?_ | refine c_region (by exact rfl) ?_ | refine c_cond (by exact rfl) ?_ | refine c_ret ?_ | refine c_skip ?_ | refine c_block ?_ | refine c_exit ?_  | refine c_draw (by exact rfl) (by decide +kernel) (by exact rfl) ?_ | refine c_drawT (by exact rfl) (by decide +kernel) (by exact rfl) ?_ | refine c_scope ?_ | refine c_label ?_)
        | (show Br _ _ _; first | refine Br.t rfl ?_ | refine Br.f rfl ?_ | refine Br.t (beq_self_eq_true _) ?_ | refine Br.f (not_beq_self _) ?_ | refine Br.t (by assumption) ?_ | refine Br.f (by assumption) ?_ | refine Br.t (nb_f (by assumption)) ?_ | refine Br.f (nb_t (by assumption)) ?_ | (refine Br.mk (fun h => ?_) (fun h => ?_) <;> (try simp only [Bool.and_eq_true, Bool.or_eq_true, Bool.and_eq_false_iff, Bool.or_eq_false_iff, decide_eq_true_eq, decide_eq_false_iff_not, beq_iff_eq, bne_iff_ne, beq_eq_false_iff_ne, bne_eq_false_iff_eq, ne_eq, Bool.not_eq_true', Bool.not_eq_false', not_true_eq_false, not_false_eq_true, Int.not_lt, Int.not_le, gt_iff_lt, ge_iff_le] at h) <;> (try (first | contradiction | (exfalso; omega)))))
        | (show thenC _ _ _ _ _; first | refine t_n ?_ | refine t_r ?_ | refine t_e ?_)
        | (show inBlockC _ _ _ _ _; first | refine b_n ?_ | refine b_r ?_ | refine b_hit rfl ?_ | refine b_miss rfl ?_)
        | (show noGotoC _ _ _ _; first | refine g_n ?_ | refine g_r ?_ | refine g_e ?_)
        | (show CallT _ 27 _ _ _; refine CA (h := rtwaitR_ok ?_)))
      (show retC _ _ _ _ _ _; refine RETC ?_; exact ret_done (hK))
    · rw [if_neg h1] at hK
      refine callT_intro mixed Try.func31 rfl (by decide) (by decide +kernel) (by exact Nat.le_of_ble_eq_true rfl) ?_
      repeat' (first
        | (show evG _ _ _ _ _ _ _; first | refine G_andNot0 ?_ | refine G_andNot1 ?_ | refine G_add64 ?_ | refine G_sub64 ?_ | refine G_mul64 ?_ | refine G_quo ?_ | refine G_rem ?_ | refine G_shl8 ?_ | refine G_orb ?_ | refine G_shr ?_ | refine G_pure0 ?_ | refine G_load ?_ | refine evG_nil ?_ | refine G_br ?_ ?_ | refine G_field ?_ | refine G_pure ?_ | refine G_store ?_ | refine G_loadV ?_ | refine G_loadV0 ?_ | refine G_loadV2 ?_ | (refine G_append ?_; intro _ _) | (refine G_appendN ?_; intro _ _) | refine G_not ?_ | refine G_index ?_ | refine G_indexA ?_ | refine G_indexS ?_ | refine G_conv64 ?_ | refine G_conv8 ?_ | refine G_convu ?_ | refine G_conv ?_ | refine G_build ?_ | refine G_slh ?_ | refine G_slo ?_ | refine G_shi ?_ | refine G_cat ?_ | refine G_min ?_ | refine G_max ?_ | refine G_neg64 ?_ | refine G_eql_agg ?_ | refine G_neq_agg ?_ | refine G_bytesP ?_ | refine G_bytesstr ?_ | refine G_call ?_ | refine G_call0 ?_ | refine G_callv ?_ | refine G_callv0 ?_ | (refine G_box ?_; intro _) | (refine G_alloc ?_; intro _) | (refine G_buildSlice ?_; intro _) | (refine G_strrow ?_; intro _ _) | (refine G_indexV ?_; intro _ _ hA; subst hA) | (refine G_sliceR ?_; intro _) | (refine G_sliceO ?_; intro _) | refine G_skip ?_ | refine G_skip0 ?_)
        | (show spl _ _ _; first | refine spl_no rfl ?_ | refine spl_yes rfl ?_)
        | (show evC _ _ _ _ _; first | refine c_seq ?_ | refine c_region (by exact rfl) ?_ | refine c_cond (by exact rfl) ?_ | refine c_ret ?_ | refine c_skip ?_ | refine c_block ?_ | refine c_exit ?_  | refine c_draw (by exact rfl) (by decide +kernel) (by exact rfl) ?_ | refine c_drawT (by exact rfl) (by decide +kernel) (by exact rfl) ?_ | refine c_scope ?_ | refine c_label ?_)
        | (show Br _ _ _; first | refine Br.t rfl ?_ | refine Br.f rfl ?_ | refine Br.t (beq_self_eq_true _) ?_ | refine Br.f (not_beq_self _) ?_ | refine Br.t (by assumption) ?_ | refine Br.f (by assumption) ?_ | refine Br.t (nb_f (by assumption)) ?_ | refine Br.f (nb_t (by assumption)) ?_ | (refine Br.mk (fun h => ?_) (fun h => ?_) <;> (try simp only [Bool.and_eq_true, Bool.or_eq_true, Bool.and_eq_false_iff, Bool.or_eq_false_iff, decide_eq_true_eq, decide_eq_false_iff_not, beq_iff_eq, bne_iff_ne, beq_eq_false_iff_ne, bne_eq_false_iff_eq, ne_eq, Bool.not_eq_true', Bool.not_eq_false', not_true_eq_false, not_false_eq_true, Int.not_lt, Int.not_le, gt_iff_lt, ge_iff_le] at h) <;> (try (first | contradiction | (exfalso; omega)))))
        | (show thenC _ _ _ _ _; first | refine t_n ?_ | refine t_r ?_ | refine t_e ?_)
        | (show inBlockC _ _ _ _ _; first | refine b_n ?_ | refine b_r ?_ | refine b_hit rfl ?_ | refine b_miss rfl ?_)
        | (show noGotoC _ _ _ _; first | refine g_n ?_ | refine g_r ?_ | refine g_e ?_)
        | (show CallT _ 27 _ _ _; refine CA (h := rtwaitR_ok ?_)))
      (show retC _ _ _ _ _ _; refine RETC ?_; exact ret_done (hK))
theorem rtready_ok {n : Int} (hK : K (.bool (rrd kd B l w en ou n)) (rtP x kd cap st B l w en ou ac se dr :: R)) : CallT Try.prog 31 #[.pointer (some ⟨x, 0, none⟩), .int .i64 n] (rtP x kd cap st B l w en ou ac se dr :: R) K := by
  refine rt_open fun A c hc => ?_
  exact CallT.entK (rtreadyR_ok rfl ⟨_, rt_fold rfl, hK⟩)
theorem rtclear_ok (hd : 0 ≤ dr ∧ dr ≤ 900000000) (hz : B.size ≤ 900000000 ∧ l.length ≤ 900000000) (hK : K (.int .i64 (rwt kd B l)) (rtP x kd cap st ⟨#[]⟩ [] w en ou ac se (dr + rwt kd B l) :: R)) : CallT Try.prog 90 #[.pointer (some ⟨x, 0, none⟩)] (rtP x kd cap st B l w en ou ac se dr :: R) K := by
  refine rt_open fun A c hc => ?_
  have hw : 0 ≤ rwt kd B l ∧ rwt kd B l ≤ 900000000 := by unfold rwt; split <;> omega
  refine callT_intro mixed Try.func90 rfl (by decide) (by decide +kernel) (by exact Nat.le_of_ble_eq_true rfl) ?_
  repeat' (first
    | (show evG _ _ _ _ _ _ _; first | refine G_andNot0 ?_ | refine G_andNot1 ?_ | refine G_add64 ?_ | refine G_sub64 ?_ | refine G_mul64 ?_ | refine G_quo ?_ | refine G_rem ?_ | refine G_shl8 ?_ | refine G_orb ?_ | refine G_shr ?_ | refine G_pure0 ?_ | refine G_load ?_ | refine evG_nil ?_ | refine G_br ?_ ?_ | refine G_field ?_ | refine G_pure ?_ | refine G_store ?_ | refine G_loadV ?_ | refine G_loadV0 ?_ | refine G_loadV2 ?_ | (refine G_append ?_; intro _ _) | (refine G_appendN ?_; intro _ _) | refine G_not ?_ | refine G_index ?_ | refine G_indexA ?_ | refine G_indexS ?_ | refine G_conv64 ?_ | refine G_conv8 ?_ | refine G_convu ?_ | refine G_conv ?_ | refine G_build ?_ | refine G_slh ?_ | refine G_slo ?_ | refine G_shi ?_ | refine G_cat ?_ | refine G_min ?_ | refine G_max ?_ | refine G_neg64 ?_ | refine G_eql_agg ?_ | refine G_neq_agg ?_ | refine G_bytesP ?_ | refine G_bytesstr ?_ | refine G_call ?_ | refine G_call0 ?_ | refine G_callv ?_ | refine G_callv0 ?_ | (refine G_box ?_; intro _) | (refine G_alloc ?_; intro _) | (refine G_buildSlice ?_; intro _) | (refine G_strrow ?_; intro _ _) | (refine G_indexV ?_; intro _ _ hA; subst hA) | (refine G_sliceR ?_; intro _) | (refine G_sliceO ?_; intro _) | refine G_skip ?_ | refine G_skip0 ?_)
    | (show spl _ _ _; first | refine spl_no rfl ?_ | refine spl_yes rfl ?_)
    | (show evC _ _ _ _ _; first | refine c_seq ?_ | refine c_region (by exact rfl) ?_ | refine c_cond (by exact rfl) ?_ | refine c_ret ?_ | refine c_skip ?_ | refine c_block ?_ | refine c_exit ?_  | refine c_draw (by exact rfl) (by decide +kernel) (by exact rfl) ?_ | refine c_drawT (by exact rfl) (by decide +kernel) (by exact rfl) ?_ | refine c_scope ?_ | refine c_label ?_)
    | (show Br _ _ _; first | refine Br.t rfl ?_ | refine Br.f rfl ?_ | refine Br.t (beq_self_eq_true _) ?_ | refine Br.f (not_beq_self _) ?_ | refine Br.t (by assumption) ?_ | refine Br.f (by assumption) ?_ | refine Br.t (nb_f (by assumption)) ?_ | refine Br.f (nb_t (by assumption)) ?_ | (refine Br.mk (fun h => ?_) (fun h => ?_) <;> (try simp only [Bool.and_eq_true, Bool.or_eq_true, Bool.and_eq_false_iff, Bool.or_eq_false_iff, decide_eq_true_eq, decide_eq_false_iff_not, beq_iff_eq, bne_iff_ne, beq_eq_false_iff_ne, bne_eq_false_iff_eq, ne_eq, Bool.not_eq_true', Bool.not_eq_false', not_true_eq_false, not_false_eq_true, Int.not_lt, Int.not_le, gt_iff_lt, ge_iff_le] at h) <;> (try (first | contradiction | (exfalso; omega)))))
    | (show thenC _ _ _ _ _; first | refine t_n ?_ | refine t_r ?_ | refine t_e ?_)
    | (show inBlockC _ _ _ _ _; first | refine b_n ?_ | refine b_r ?_ | refine b_hit rfl ?_ | refine b_miss rfl ?_)
    | (show noGotoC _ _ _ _; first | refine g_n ?_ | refine g_r ?_ | refine g_e ?_)
    | (show CallT _ 27 _ _ _; refine CA (h := rtwaitR_ok ?_)))
  refine RETC ?_
  exact ret_of (Ent.trans (Ent.pick Pick.here (Ent.drop (Ent.nilrow' (Ent.refl _)))) (rt_fold (A := none) (c := 0) (l := []) rfl)) hK
end
end Go.Proofs.Ytbmkghbjooobeaa
