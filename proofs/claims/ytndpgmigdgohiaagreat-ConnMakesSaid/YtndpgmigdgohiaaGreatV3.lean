/- Rx: of items: lemmas; each with the conditions that it states. -/
import Derived.Test.YtndpgmigdgohiaaGreatV2

namespace Go.Proofs.YtndpgmigdgohiaaGreat
open Go Go.Proofs Go.Sl
set_option maxRecDepth 100000
set_option maxHeartbeats 4000000
set_option linter.unusedSimpArgs false
set_option linter.unusedVariables false
attribute [local irreducible] evG evC spl thenC inBlockC noGotoC CallT retC RetG TurnG CutG pt ro exP star sep pureP
variable {R C : List HP} {K : Value → List HP → Prop}
/-- mr: the greatest room that it had -/
def RI (mr room open_ ask : Int) (l : List ByteArray) (ac tk dr : Int) : Prop := ac = tk + dr + l.length ∧ 0 ≤ tk ∧ 0 ≤ dr ∧ ac ≤ 400000000 ∧ 0 ≤ open_ ∧ open_ + l.length ≤ mr ∧ 0 ≤ room ∧ room ≤ mr ∧ mr ≤ 64 ∧ 0 ≤ ask ∧ ask ≤ 2147483647
def rxI (r : Nat) (mr room open_ ask : Int) (l : List ByteArray) (ac tk dr : Int) (en : Bool) : HP := exP fun q => exP fun d => sep (pt r [.int .i64 2, .pointer none, .pointer none, .pointer (some ⟨q, 0, none⟩), .pointer (some ⟨d, 0, none⟩), .int .i64 room, .int .i64 open_, .bool en] 260) (sep (quP q 64 0 l ac tk dr) (sep (demP d ask 2147483647) (pureP (RI mr room open_ ask l ac tk dr))))
section
variable {r : Nat} {mr room open_ ask ac tk dr : Int} {l : List ByteArray} {en : Bool} {n : Int} {s : ByteArray}
theorem rxI_fold {q d : Nat} (h : RI mr room open_ ask l ac tk dr) : Ent (pt r [.int .i64 2, .pointer none, .pointer none, .pointer (some ⟨q, 0, none⟩), .pointer (some ⟨d, 0, none⟩), .int .i64 room, .int .i64 open_, .bool en] 260 :: quP q 64 0 l ac tk dr :: demP d ask 2147483647 :: R) (rxI r mr room open_ ask l ac tk dr en :: R) :=
  Ent.ex q (Ent.ex d (ent_fold4 h))
theorem rxnewI_ok {w st it : Int} (hs : chkS w st it = true) (hK : ∀ r, K (.tuple #[.pointer (some ⟨r, 0, none⟩), .int .i64 0]) (rxI r it it 0 0 [] 0 0 0 false :: R)) : CallT Tryz.prog 232 #[.int .i64 2, .agg #[.int .i64 w, .int .i64 st, .int .i64 it]] R K := by
  have hs2 := hs
  unfold chkS at hs2
  rw [decide_eq_true_eq] at hs2
  refine callT_intro mixed Tryz.func232 rfl (by decide) (by decide +kernel) (by exact Nat.le_of_ble_eq_true rfl) ?_
  repeat' (first
    | (show evG _ _ _ _ _ _ _; first | refine G_andNot0 ?_ | refine G_andNot1 ?_ | refine G_add64 ?_ | refine G_sub64 ?_ | refine G_mul64 ?_ | refine G_quo ?_ | refine G_rem ?_ | refine G_shl8 ?_ | refine G_orb ?_ | refine G_shr ?_ | refine G_pure0 ?_ | refine G_load ?_ | refine evG_nil ?_ | refine G_br ?_ ?_ | refine G_field ?_ | refine G_pure ?_ | refine G_store ?_ | refine G_loadV ?_ | refine G_loadV0 ?_ | refine G_loadV2 ?_ | (refine G_append ?_; intro _ _) | (refine G_appendN ?_; intro _ _) | refine G_not ?_ | refine G_index ?_ | refine G_indexA ?_ | refine G_indexS ?_ | refine G_conv64 ?_ | refine G_conv8 ?_ | refine G_convu ?_ | refine G_conv ?_ | refine G_build ?_ | refine G_slh ?_ | refine G_slo ?_ | refine G_shi ?_ | refine G_cat ?_ | refine G_min ?_ | refine G_max ?_ | refine G_neg64 ?_ | refine G_eql_agg ?_ | refine G_neq_agg ?_ | refine G_bytesP ?_ | refine G_bytesstr ?_ | refine G_call ?_ | refine G_call0 ?_ | refine G_callv ?_ | refine G_callv0 ?_ | (refine G_box ?_; intro _) | (refine G_alloc ?_; intro _) | (refine G_buildSlice ?_; intro _) | (refine G_strrow ?_; intro _ _) | (refine G_indexV ?_; intro _ _ hA; subst hA) | (refine G_sliceR ?_; intro _) | (refine G_sliceO ?_; intro _) | refine G_skip ?_ | refine G_skip0 ?_)
    | (show spl _ _ _; first | refine spl_no rfl ?_ | refine spl_yes rfl ?_)
    | (show evC _ _ _ _ _; first | refine c_seq ?_ | refine c_region (by exact rfl) ?_ | refine c_cond (by exact rfl) ?_ | refine c_ret ?_ | refine c_skip ?_ | refine c_block ?_ | refine c_exit ?_  | refine c_draw (by exact rfl) (by decide +kernel) (by exact rfl) ?_ | refine c_drawT (by exact rfl) (by decide +kernel) (by exact rfl) ?_ | refine c_scope ?_ | refine c_label ?_)
    | (show Br _ _ _; first | refine Br.t rfl ?_ | refine Br.f rfl ?_ | refine Br.t (beq_self_eq_true _) ?_ | refine Br.f (not_beq_self _) ?_ | refine Br.t (by assumption) ?_ | refine Br.f (by assumption) ?_ | refine Br.t (nb_f (by assumption)) ?_ | refine Br.f (nb_t (by assumption)) ?_ | (refine Br.mk (fun h => ?_) (fun h => ?_) <;> (try simp only [Bool.and_eq_true, Bool.or_eq_true, Bool.and_eq_false_iff, Bool.or_eq_false_iff, decide_eq_true_eq, decide_eq_false_iff_not, beq_iff_eq, bne_iff_ne, beq_eq_false_iff_ne, bne_eq_false_iff_eq, ne_eq, Bool.not_eq_true', Bool.not_eq_false', not_true_eq_false, not_false_eq_true, Int.not_lt, Int.not_le, gt_iff_lt, ge_iff_le] at h) <;> (try (first | contradiction | (exfalso; omega)))))
    | (show thenC _ _ _ _ _; first | refine t_n ?_ | refine t_r ?_ | refine t_e ?_)
    | (show inBlockC _ _ _ _ _; first | refine b_n ?_ | refine b_r ?_ | refine b_hit rfl ?_ | refine b_miss rfl ?_)
    | (show noGotoC _ _ _ _; first | refine g_n ?_ | refine g_r ?_ | refine g_e ?_)
    | (show CallT _ 135 _ _ _; refine CA (h := check_ok (v := 0) (by rw [if_pos hs]) ?_))
    | (show CallT _ 339 _ _ _; refine CA (h := qunew_ok (by omega) (by omega) (fun q => ?_)))
    | (show CallT _ 340 _ _ _; refine CA (h := dnew_ok (by omega) (fun d => ?_))))
  (show retC _ _ _ _ _ _; refine RETC ?_; exact ret_of (Ent.trans (by ((iterate 30 (try (first | exact Ent.refl _ | exact Ent.nil | (apply Ent.pick; focus ((repeat (first | exact Pick.here | apply Pick.there)) <;> exact Pick.here)) | (apply Ent.pickP; focus ((repeat (first | exact pers_ro _ _ _ | exact pers_rrow _ _ _ | exact pers_pure _ | refine pers_sep ?_ ?_ | refine pers_ex fun _ => ?_)) <;> exact pers_pure _); focus ((repeat (first | exact Pick.here | apply Pick.there)) <;> exact Pick.here)) | (apply Ent.pure; focus (first | assumption | exact rfl | omega)) | apply Ent.nilrow' | apply Ent.ex | apply Ent.sep | apply Ent.drop))) <;> exact Ent.nil)) ((rxI_fold ⟨by simp, by omega, by omega, by omega, by omega, by simp; omega, by omega, by omega, by omega, by omega, by omega⟩))) (hK _))
end
end Go.Proofs.YtndpgmigdgohiaaGreat

