/- Judge: the law JudgeNone: lemmas; each with the conditions that it states. -/
import Derived.Test.YtndpgmigdgohiaaGreatFh
import Derived.Test.YtndpgmigdgohiaaGreatZ12
import Derived.Test.YtndpgmigdgohiaaGreatE5

namespace Go.Proofs.YtndpgmigdgohiaaGreat
open Go Go.Proofs Go.Sl
set_option maxRecDepth 100000
set_option maxHeartbeats 4000000
set_option linter.unusedSimpArgs false
set_option linter.unusedVariables false
attribute [local irreducible] evG evC spl thenC inBlockC noGotoC CallT retC RetG TurnG CutG pt ro exP star sep pureP
attribute [local irreducible] mp mit
variable {R C : List HP} {K : Value → List HP → Prop}
section
variable {w st it sb si stg ev wa stl w2 st2 it2 sb2 si2 stg2 ev2 wa2 stl2 : Int}
set_option maxHeartbeats 40000000 in
theorem jnew_ok (hK : ∀ x, K (.pointer (some ⟨x, 0, none⟩)) R) : CallT Tryz.prog 126 #[.agg #[.int .i64 w, .int .i64 st, .int .i64 it, .int .i64 sb, .int .i64 si, .int .i64 stg, .int .i64 ev, .int .i64 wa, .int .i64 stl], .agg #[.int .i64 w2, .int .i64 st2, .int .i64 it2, .int .i64 sb2, .int .i64 si2, .int .i64 stg2, .int .i64 ev2, .int .i64 wa2, .int .i64 stl2]] R K := by
  refine callT_intro mixed Tryz.func126 rfl (by decide) (by decide +kernel) (by exact Nat.le_of_ble_eq_true rfl) ?_
  repeat' (first
    | (show evG _ _ _ _ _ _ _; first | refine G_add64 ?_ | refine G_pure0 ?_ | refine G_load ?_ | refine evG_nil ?_ | refine G_br ?_ ?_ | refine G_field ?_ | refine G_pure ?_ | refine G_store ?_ | refine G_loadV ?_ | refine G_loadV0 ?_ | refine G_loadV2 ?_ | refine G_index ?_ | refine G_indexA ?_ | refine G_build ?_ | refine G_cat ?_ | (refine G_box ?_; intro _) | (refine G_indexV ?_; intro _ _ hA; subst hA))
    | (show spl _ _ _; first | refine spl_no rfl ?_ | refine spl_yes rfl ?_)
    | (show evC _ _ _ _ _; first | refine c_seq ?_ | refine c_region (by exact rfl) ?_ | refine c_cond (by exact rfl) ?_ | refine c_ret ?_ | refine c_skip ?_ | refine c_block ?_ | refine c_exit ?_ | (show evC _ (.region 5 _ true) _ _ _; refine c_drawT (t := (.br (.br (.st 6 3 (.br (.br (.st 7 4 (.br (.st 8 5 (.st 0 3 (.st 1 3 (.st 9 3 (.st 10 3 (.st 11 2 (.st 12 3 (.st 2 4 (.st 3 4 (.st 13 4 (.st 14 4 (.st 15 1 (.st 16 2 (.st 4 5 (.st 5 5 (.st 17 5 (.st 18 5 (.st 19 0 (.st 20 1 .nil))))))))))))))))))) (.st 0 3 (.st 1 3 (.st 9 3 (.st 10 3 (.st 11 2 (.st 12 3 (.br (.st 8 5 (.st 2 4 (.st 3 4 (.st 13 4 (.st 14 4 (.st 15 1 (.st 16 2 (.st 4 5 (.st 5 5 (.st 17 5 (.st 18 5 (.st 19 0 (.st 20 1 .nil))))))))))))) (.st 2 4 (.st 3 4 (.st 13 4 (.st 14 4 (.st 15 1 (.st 16 2 (.st 8 5 (.st 4 5 (.st 5 5 (.st 17 5 (.st 18 5 (.st 19 0 (.st 20 1 .nil)))))))))))))))))))))) (.st 8 5 (.br (.st 7 4 (.st 0 3 (.st 1 3 (.st 9 3 (.st 10 3 (.st 11 2 (.st 12 3 (.st 2 4 (.st 3 4 (.st 13 4 (.st 14 4 (.st 15 1 (.st 16 2 (.st 4 5 (.st 5 5 (.st 17 5 (.st 18 5 (.st 19 0 (.st 20 1 .nil))))))))))))))))))) (.st 0 3 (.st 1 3 (.st 9 3 (.st 10 3 (.st 11 2 (.st 12 3 (.st 7 4 (.st 2 4 (.st 3 4 (.st 13 4 (.st 14 4 (.st 15 1 (.st 16 2 (.st 4 5 (.st 5 5 (.st 17 5 (.st 18 5 (.st 19 0 (.st 20 1 .nil)))))))))))))))))))))) (.st 0 3 (.st 1 3 (.st 9 3 (.st 10 3 (.st 11 2 (.st 12 3 (.br (.st 7 4 (.br (.st 8 5 (.st 2 4 (.st 3 4 (.st 13 4 (.st 14 4 (.st 15 1 (.st 16 2 (.st 4 5 (.st 5 5 (.st 17 5 (.st 18 5 (.st 19 0 (.st 20 1 .nil))))))))))))) (.st 2 4 (.st 3 4 (.st 13 4 (.st 14 4 (.st 15 1 (.st 16 2 (.st 8 5 (.st 4 5 (.st 5 5 (.st 17 5 (.st 18 5 (.st 19 0 (.st 20 1 .nil))))))))))))))) (.st 8 5 (.st 7 4 (.st 2 4 (.st 3 4 (.st 13 4 (.st 14 4 (.st 15 1 (.st 16 2 (.st 4 5 (.st 5 5 (.st 17 5 (.st 18 5 (.st 19 0 (.st 20 1 .nil))))))))))))))))))))))) (.st 7 4 (.br (.st 6 3 (.br (.st 8 5 (.st 0 3 (.st 1 3 (.st 9 3 (.st 10 3 (.st 11 2 (.st 12 3 (.st 2 4 (.st 3 4 (.st 13 4 (.st 14 4 (.st 15 1 (.st 16 2 (.st 4 5 (.st 5 5 (.st 17 5 (.st 18 5 (.st 19 0 (.st 20 1 .nil))))))))))))))))))) (.st 0 3 (.st 1 3 (.st 9 3 (.st 10 3 (.st 11 2 (.st 12 3 (.br (.st 8 5 (.st 2 4 (.st 3 4 (.st 13 4 (.st 14 4 (.st 15 1 (.st 16 2 (.st 4 5 (.st 5 5 (.st 17 5 (.st 18 5 (.st 19 0 (.st 20 1 .nil))))))))))))) (.st 2 4 (.st 3 4 (.st 13 4 (.st 14 4 (.st 15 1 (.st 16 2 (.st 8 5 (.st 4 5 (.st 5 5 (.st 17 5 (.st 18 5 (.st 19 0 (.st 20 1 .nil)))))))))))))))))))))) (.st 8 5 (.st 6 3 (.st 0 3 (.st 1 3 (.st 9 3 (.st 10 3 (.st 11 2 (.st 12 3 (.st 2 4 (.st 3 4 (.st 13 4 (.st 14 4 (.st 15 1 (.st 16 2 (.st 4 5 (.st 5 5 (.st 17 5 (.st 18 5 (.st 19 0 (.st 20 1 .nil))))))))))))))))))))))) (.st 8 5 (.br (.st 6 3 (.br (.st 7 4 (.st 0 3 (.st 1 3 (.st 9 3 (.st 10 3 (.st 11 2 (.st 12 3 (.st 2 4 (.st 3 4 (.st 13 4 (.st 14 4 (.st 15 1 (.st 16 2 (.st 4 5 (.st 5 5 (.st 17 5 (.st 18 5 (.st 19 0 (.st 20 1 .nil))))))))))))))))))) (.st 0 3 (.st 1 3 (.st 9 3 (.st 10 3 (.st 11 2 (.st 12 3 (.st 7 4 (.st 2 4 (.st 3 4 (.st 13 4 (.st 14 4 (.st 15 1 (.st 16 2 (.st 4 5 (.st 5 5 (.st 17 5 (.st 18 5 (.st 19 0 (.st 20 1 .nil))))))))))))))))))))) (.st 7 4 (.st 6 3 (.st 0 3 (.st 1 3 (.st 9 3 (.st 10 3 (.st 11 2 (.st 12 3 (.st 2 4 (.st 3 4 (.st 13 4 (.st 14 4 (.st 15 1 (.st 16 2 (.st 4 5 (.st 5 5 (.st 17 5 (.st 18 5 (.st 19 0 (.st 20 1 .nil)))))))))))))))))))))))) (by kernel_rfl) (by decide +kernel) (by exact rfl) ?_) | refine std ?_)
    | (show Br _ _ _; first | refine Br.t rfl ?_ | refine Br.f rfl ?_ | refine brs ?_ | (first | refine Br.mkN (fun h => ?_) (fun h => ?_) | refine Br.mk (fun h => ?_) (fun h => ?_)) <;> (try (first | contradiction | (exfalso; omega) | (exfalso; simp at h; done))))
    | refine stp ?_)
  rename_i x
  refine LOOP (fun kk a C' => ∃ j : Nat, j + kk = 2 ∧ Agree a [(5, .pointer (some ⟨x, 0, none⟩)), (12, .int .i64 j)] ∧ ((j = 0 ∧ C' = pt x [.int .i64 w, .int .i64 st, .int .i64 it, .int .i64 sb, .int .i64 si, .int .i64 stg, .int .i64 ev, .int .i64 wa, .int .i64 stl, .int .i64 w2, .int .i64 st2, .int .i64 it2, .int .i64 sb2, .int .i64 si2, .int .i64 stg2, .int .i64 ev2, .int .i64 wa2, .int .i64 stl2, .map none, .map none, .map none, .map none, .map none, .map none, .bool false, .bool false, .bool false, .bool false] 209 :: R) ∨ (j = 1 ∧ ∃ a0 b0 c0 : Nat, C' = pt x [.int .i64 w, .int .i64 st, .int .i64 it, .int .i64 sb, .int .i64 si, .int .i64 stg, .int .i64 ev, .int .i64 wa, .int .i64 stl, .int .i64 w2, .int .i64 st2, .int .i64 it2, .int .i64 sb2, .int .i64 si2, .int .i64 stg2, .int .i64 ev2, .int .i64 wa2, .int .i64 stl2, .map (some a0), .map none, .map (some b0), .map none, .map (some c0), .map none, .bool false, .bool false, .bool false, .bool false] 209 :: R) ∨ (j = 2 ∧ ∃ a0 b0 c0 a1 b1 c1 : Nat, C' = pt x [.int .i64 w, .int .i64 st, .int .i64 it, .int .i64 sb, .int .i64 si, .int .i64 stg, .int .i64 ev, .int .i64 wa, .int .i64 stl, .int .i64 w2, .int .i64 st2, .int .i64 it2, .int .i64 sb2, .int .i64 si2, .int .i64 stg2, .int .i64 ev2, .int .i64 wa2, .int .i64 stl2, .map (some a0), .map (some a1), .map (some b0), .map (some b1), .map (some c0), .map (some c1), .bool false, .bool false, .bool false, .bool false] 209 :: R))) 2 (turn 2 ⟨0, by omega, ⟨rfl, rfl, trivial⟩, .inl ⟨rfl, rfl⟩⟩ (by omega)) ?_
  rintro kk a C' ⟨j, hj, ha, hc⟩
  rcases hc with ⟨rfl, rfl⟩ | ⟨rfl, a0, b0, c0, rfl⟩ | ⟨rfl, a0, b0, c0, a1, b1, c1, rfl⟩
  · refine c_fr _ ha ?_
    simp only [updL]
    repeat' (first
      | (show evG _ _ _ _ _ _ _; refine G_makeMap ?_; intro _)
      | (show evG _ _ _ _ _ _ _; first | refine G_add64 ?_ | refine G_pure0 ?_ | refine G_load ?_ | refine evG_nil ?_ | refine G_br ?_ ?_ | refine G_field ?_ | refine G_pure ?_ | refine G_store ?_ | refine G_loadV ?_ | refine G_loadV0 ?_ | refine G_loadV2 ?_ | refine G_index ?_ | refine G_indexA ?_ | refine G_build ?_ | refine G_cat ?_ | (refine G_box ?_; intro _) | (refine G_indexV ?_; intro _ _ hA; subst hA))
      | (show spl _ _ _; first | refine spl_no rfl ?_ | refine spl_yes rfl ?_)
      | (show evC _ _ _ _ _; first | refine c_seq ?_ | refine c_region (by exact rfl) ?_ | refine c_cond (by exact rfl) ?_ | refine c_ret ?_ | refine c_skip ?_ | refine c_block ?_ | refine c_exit ?_ | (show evC _ (.region 5 _ true) _ _ _; refine c_drawT (t := (.br (.br (.st 6 3 (.br (.br (.st 7 4 (.br (.st 8 5 (.st 0 3 (.st 1 3 (.st 9 3 (.st 10 3 (.st 11 2 (.st 12 3 (.st 2 4 (.st 3 4 (.st 13 4 (.st 14 4 (.st 15 1 (.st 16 2 (.st 4 5 (.st 5 5 (.st 17 5 (.st 18 5 (.st 19 0 (.st 20 1 .nil))))))))))))))))))) (.st 0 3 (.st 1 3 (.st 9 3 (.st 10 3 (.st 11 2 (.st 12 3 (.br (.st 8 5 (.st 2 4 (.st 3 4 (.st 13 4 (.st 14 4 (.st 15 1 (.st 16 2 (.st 4 5 (.st 5 5 (.st 17 5 (.st 18 5 (.st 19 0 (.st 20 1 .nil))))))))))))) (.st 2 4 (.st 3 4 (.st 13 4 (.st 14 4 (.st 15 1 (.st 16 2 (.st 8 5 (.st 4 5 (.st 5 5 (.st 17 5 (.st 18 5 (.st 19 0 (.st 20 1 .nil)))))))))))))))))))))) (.st 8 5 (.br (.st 7 4 (.st 0 3 (.st 1 3 (.st 9 3 (.st 10 3 (.st 11 2 (.st 12 3 (.st 2 4 (.st 3 4 (.st 13 4 (.st 14 4 (.st 15 1 (.st 16 2 (.st 4 5 (.st 5 5 (.st 17 5 (.st 18 5 (.st 19 0 (.st 20 1 .nil))))))))))))))))))) (.st 0 3 (.st 1 3 (.st 9 3 (.st 10 3 (.st 11 2 (.st 12 3 (.st 7 4 (.st 2 4 (.st 3 4 (.st 13 4 (.st 14 4 (.st 15 1 (.st 16 2 (.st 4 5 (.st 5 5 (.st 17 5 (.st 18 5 (.st 19 0 (.st 20 1 .nil)))))))))))))))))))))) (.st 0 3 (.st 1 3 (.st 9 3 (.st 10 3 (.st 11 2 (.st 12 3 (.br (.st 7 4 (.br (.st 8 5 (.st 2 4 (.st 3 4 (.st 13 4 (.st 14 4 (.st 15 1 (.st 16 2 (.st 4 5 (.st 5 5 (.st 17 5 (.st 18 5 (.st 19 0 (.st 20 1 .nil))))))))))))) (.st 2 4 (.st 3 4 (.st 13 4 (.st 14 4 (.st 15 1 (.st 16 2 (.st 8 5 (.st 4 5 (.st 5 5 (.st 17 5 (.st 18 5 (.st 19 0 (.st 20 1 .nil))))))))))))))) (.st 8 5 (.st 7 4 (.st 2 4 (.st 3 4 (.st 13 4 (.st 14 4 (.st 15 1 (.st 16 2 (.st 4 5 (.st 5 5 (.st 17 5 (.st 18 5 (.st 19 0 (.st 20 1 .nil))))))))))))))))))))))) (.st 7 4 (.br (.st 6 3 (.br (.st 8 5 (.st 0 3 (.st 1 3 (.st 9 3 (.st 10 3 (.st 11 2 (.st 12 3 (.st 2 4 (.st 3 4 (.st 13 4 (.st 14 4 (.st 15 1 (.st 16 2 (.st 4 5 (.st 5 5 (.st 17 5 (.st 18 5 (.st 19 0 (.st 20 1 .nil))))))))))))))))))) (.st 0 3 (.st 1 3 (.st 9 3 (.st 10 3 (.st 11 2 (.st 12 3 (.br (.st 8 5 (.st 2 4 (.st 3 4 (.st 13 4 (.st 14 4 (.st 15 1 (.st 16 2 (.st 4 5 (.st 5 5 (.st 17 5 (.st 18 5 (.st 19 0 (.st 20 1 .nil))))))))))))) (.st 2 4 (.st 3 4 (.st 13 4 (.st 14 4 (.st 15 1 (.st 16 2 (.st 8 5 (.st 4 5 (.st 5 5 (.st 17 5 (.st 18 5 (.st 19 0 (.st 20 1 .nil)))))))))))))))))))))) (.st 8 5 (.st 6 3 (.st 0 3 (.st 1 3 (.st 9 3 (.st 10 3 (.st 11 2 (.st 12 3 (.st 2 4 (.st 3 4 (.st 13 4 (.st 14 4 (.st 15 1 (.st 16 2 (.st 4 5 (.st 5 5 (.st 17 5 (.st 18 5 (.st 19 0 (.st 20 1 .nil))))))))))))))))))))))) (.st 8 5 (.br (.st 6 3 (.br (.st 7 4 (.st 0 3 (.st 1 3 (.st 9 3 (.st 10 3 (.st 11 2 (.st 12 3 (.st 2 4 (.st 3 4 (.st 13 4 (.st 14 4 (.st 15 1 (.st 16 2 (.st 4 5 (.st 5 5 (.st 17 5 (.st 18 5 (.st 19 0 (.st 20 1 .nil))))))))))))))))))) (.st 0 3 (.st 1 3 (.st 9 3 (.st 10 3 (.st 11 2 (.st 12 3 (.st 7 4 (.st 2 4 (.st 3 4 (.st 13 4 (.st 14 4 (.st 15 1 (.st 16 2 (.st 4 5 (.st 5 5 (.st 17 5 (.st 18 5 (.st 19 0 (.st 20 1 .nil))))))))))))))))))))) (.st 7 4 (.st 6 3 (.st 0 3 (.st 1 3 (.st 9 3 (.st 10 3 (.st 11 2 (.st 12 3 (.st 2 4 (.st 3 4 (.st 13 4 (.st 14 4 (.st 15 1 (.st 16 2 (.st 4 5 (.st 5 5 (.st 17 5 (.st 18 5 (.st 19 0 (.st 20 1 .nil)))))))))))))))))))))))) (by kernel_rfl) (by decide +kernel) (by exact rfl) ?_) | refine std ?_)
      | (show Br _ _ _; first | refine Br.t rfl ?_ | refine Br.f rfl ?_ | refine brs ?_ | (first | refine Br.mkN (fun h => ?_) (fun h => ?_) | refine Br.mk (fun h => ?_) (fun h => ?_)) <;> (try (first | contradiction | (exfalso; omega) | (exfalso; simp at h; done))))
      | refine stp ?_)
    all_goals (show TurnG _ _ _ _; exact turn (kk - 1) ⟨1, by omega, ⟨rfl, rfl, trivial⟩, .inr (.inl ⟨rfl, _, _, _, rfl⟩)⟩)
  · refine c_fr _ ha ?_
    simp only [updL]
    repeat' (first
      | (show evG _ _ _ _ _ _ _; refine G_makeMap ?_; intro _)
      | (show evG _ _ _ _ _ _ _; first | refine G_add64 ?_ | refine G_pure0 ?_ | refine G_load ?_ | refine evG_nil ?_ | refine G_br ?_ ?_ | refine G_field ?_ | refine G_pure ?_ | refine G_store ?_ | refine G_loadV ?_ | refine G_loadV0 ?_ | refine G_loadV2 ?_ | refine G_index ?_ | refine G_indexA ?_ | refine G_build ?_ | refine G_cat ?_ | (refine G_box ?_; intro _) | (refine G_indexV ?_; intro _ _ hA; subst hA))
      | (show spl _ _ _; first | refine spl_no rfl ?_ | refine spl_yes rfl ?_)
      | (show evC _ _ _ _ _; first | refine c_seq ?_ | refine c_region (by exact rfl) ?_ | refine c_cond (by exact rfl) ?_ | refine c_ret ?_ | refine c_skip ?_ | refine c_block ?_ | refine c_exit ?_ | (show evC _ (.region 5 _ true) _ _ _; refine c_drawT (t := (.br (.br (.st 6 3 (.br (.br (.st 7 4 (.br (.st 8 5 (.st 0 3 (.st 1 3 (.st 9 3 (.st 10 3 (.st 11 2 (.st 12 3 (.st 2 4 (.st 3 4 (.st 13 4 (.st 14 4 (.st 15 1 (.st 16 2 (.st 4 5 (.st 5 5 (.st 17 5 (.st 18 5 (.st 19 0 (.st 20 1 .nil))))))))))))))))))) (.st 0 3 (.st 1 3 (.st 9 3 (.st 10 3 (.st 11 2 (.st 12 3 (.br (.st 8 5 (.st 2 4 (.st 3 4 (.st 13 4 (.st 14 4 (.st 15 1 (.st 16 2 (.st 4 5 (.st 5 5 (.st 17 5 (.st 18 5 (.st 19 0 (.st 20 1 .nil))))))))))))) (.st 2 4 (.st 3 4 (.st 13 4 (.st 14 4 (.st 15 1 (.st 16 2 (.st 8 5 (.st 4 5 (.st 5 5 (.st 17 5 (.st 18 5 (.st 19 0 (.st 20 1 .nil)))))))))))))))))))))) (.st 8 5 (.br (.st 7 4 (.st 0 3 (.st 1 3 (.st 9 3 (.st 10 3 (.st 11 2 (.st 12 3 (.st 2 4 (.st 3 4 (.st 13 4 (.st 14 4 (.st 15 1 (.st 16 2 (.st 4 5 (.st 5 5 (.st 17 5 (.st 18 5 (.st 19 0 (.st 20 1 .nil))))))))))))))))))) (.st 0 3 (.st 1 3 (.st 9 3 (.st 10 3 (.st 11 2 (.st 12 3 (.st 7 4 (.st 2 4 (.st 3 4 (.st 13 4 (.st 14 4 (.st 15 1 (.st 16 2 (.st 4 5 (.st 5 5 (.st 17 5 (.st 18 5 (.st 19 0 (.st 20 1 .nil)))))))))))))))))))))) (.st 0 3 (.st 1 3 (.st 9 3 (.st 10 3 (.st 11 2 (.st 12 3 (.br (.st 7 4 (.br (.st 8 5 (.st 2 4 (.st 3 4 (.st 13 4 (.st 14 4 (.st 15 1 (.st 16 2 (.st 4 5 (.st 5 5 (.st 17 5 (.st 18 5 (.st 19 0 (.st 20 1 .nil))))))))))))) (.st 2 4 (.st 3 4 (.st 13 4 (.st 14 4 (.st 15 1 (.st 16 2 (.st 8 5 (.st 4 5 (.st 5 5 (.st 17 5 (.st 18 5 (.st 19 0 (.st 20 1 .nil))))))))))))))) (.st 8 5 (.st 7 4 (.st 2 4 (.st 3 4 (.st 13 4 (.st 14 4 (.st 15 1 (.st 16 2 (.st 4 5 (.st 5 5 (.st 17 5 (.st 18 5 (.st 19 0 (.st 20 1 .nil))))))))))))))))))))))) (.st 7 4 (.br (.st 6 3 (.br (.st 8 5 (.st 0 3 (.st 1 3 (.st 9 3 (.st 10 3 (.st 11 2 (.st 12 3 (.st 2 4 (.st 3 4 (.st 13 4 (.st 14 4 (.st 15 1 (.st 16 2 (.st 4 5 (.st 5 5 (.st 17 5 (.st 18 5 (.st 19 0 (.st 20 1 .nil))))))))))))))))))) (.st 0 3 (.st 1 3 (.st 9 3 (.st 10 3 (.st 11 2 (.st 12 3 (.br (.st 8 5 (.st 2 4 (.st 3 4 (.st 13 4 (.st 14 4 (.st 15 1 (.st 16 2 (.st 4 5 (.st 5 5 (.st 17 5 (.st 18 5 (.st 19 0 (.st 20 1 .nil))))))))))))) (.st 2 4 (.st 3 4 (.st 13 4 (.st 14 4 (.st 15 1 (.st 16 2 (.st 8 5 (.st 4 5 (.st 5 5 (.st 17 5 (.st 18 5 (.st 19 0 (.st 20 1 .nil)))))))))))))))))))))) (.st 8 5 (.st 6 3 (.st 0 3 (.st 1 3 (.st 9 3 (.st 10 3 (.st 11 2 (.st 12 3 (.st 2 4 (.st 3 4 (.st 13 4 (.st 14 4 (.st 15 1 (.st 16 2 (.st 4 5 (.st 5 5 (.st 17 5 (.st 18 5 (.st 19 0 (.st 20 1 .nil))))))))))))))))))))))) (.st 8 5 (.br (.st 6 3 (.br (.st 7 4 (.st 0 3 (.st 1 3 (.st 9 3 (.st 10 3 (.st 11 2 (.st 12 3 (.st 2 4 (.st 3 4 (.st 13 4 (.st 14 4 (.st 15 1 (.st 16 2 (.st 4 5 (.st 5 5 (.st 17 5 (.st 18 5 (.st 19 0 (.st 20 1 .nil))))))))))))))))))) (.st 0 3 (.st 1 3 (.st 9 3 (.st 10 3 (.st 11 2 (.st 12 3 (.st 7 4 (.st 2 4 (.st 3 4 (.st 13 4 (.st 14 4 (.st 15 1 (.st 16 2 (.st 4 5 (.st 5 5 (.st 17 5 (.st 18 5 (.st 19 0 (.st 20 1 .nil))))))))))))))))))))) (.st 7 4 (.st 6 3 (.st 0 3 (.st 1 3 (.st 9 3 (.st 10 3 (.st 11 2 (.st 12 3 (.st 2 4 (.st 3 4 (.st 13 4 (.st 14 4 (.st 15 1 (.st 16 2 (.st 4 5 (.st 5 5 (.st 17 5 (.st 18 5 (.st 19 0 (.st 20 1 .nil)))))))))))))))))))))))) (by kernel_rfl) (by decide +kernel) (by exact rfl) ?_) | refine std ?_)
      | (show Br _ _ _; first | refine Br.t rfl ?_ | refine Br.f rfl ?_ | refine brs ?_ | (first | refine Br.mkN (fun h => ?_) (fun h => ?_) | refine Br.mk (fun h => ?_) (fun h => ?_)) <;> (try (first | contradiction | (exfalso; omega) | (exfalso; simp at h; done))))
      | refine stp ?_)
    all_goals (show TurnG _ _ _ _; exact turn (kk - 1) ⟨2, by omega, ⟨rfl, rfl, trivial⟩, .inr (.inr ⟨rfl, _, _, _, _, _, _, rfl⟩)⟩)
  · refine c_fr _ ha ?_
    simp only [updL]
    repeat' (first
      | (show evG _ _ _ _ _ _ _; first | refine G_add64 ?_ | refine G_pure0 ?_ | refine G_load ?_ | refine evG_nil ?_ | refine G_br ?_ ?_ | refine G_field ?_ | refine G_pure ?_ | refine G_store ?_ | refine G_loadV ?_ | refine G_loadV0 ?_ | refine G_loadV2 ?_ | refine G_index ?_ | refine G_indexA ?_ | refine G_build ?_ | refine G_cat ?_ | (refine G_box ?_; intro _) | (refine G_indexV ?_; intro _ _ hA; subst hA))
      | (show spl _ _ _; first | refine spl_no rfl ?_ | refine spl_yes rfl ?_)
      | (show evC _ _ _ _ _; first | refine c_seq ?_ | refine c_region (by exact rfl) ?_ | refine c_cond (by exact rfl) ?_ | refine c_ret ?_ | refine c_skip ?_ | refine c_block ?_ | refine c_exit ?_ | (show evC _ (.region 5 _ true) _ _ _; refine c_drawT (t := (.br (.br (.st 6 3 (.br (.br (.st 7 4 (.br (.st 8 5 (.st 0 3 (.st 1 3 (.st 9 3 (.st 10 3 (.st 11 2 (.st 12 3 (.st 2 4 (.st 3 4 (.st 13 4 (.st 14 4 (.st 15 1 (.st 16 2 (.st 4 5 (.st 5 5 (.st 17 5 (.st 18 5 (.st 19 0 (.st 20 1 .nil))))))))))))))))))) (.st 0 3 (.st 1 3 (.st 9 3 (.st 10 3 (.st 11 2 (.st 12 3 (.br (.st 8 5 (.st 2 4 (.st 3 4 (.st 13 4 (.st 14 4 (.st 15 1 (.st 16 2 (.st 4 5 (.st 5 5 (.st 17 5 (.st 18 5 (.st 19 0 (.st 20 1 .nil))))))))))))) (.st 2 4 (.st 3 4 (.st 13 4 (.st 14 4 (.st 15 1 (.st 16 2 (.st 8 5 (.st 4 5 (.st 5 5 (.st 17 5 (.st 18 5 (.st 19 0 (.st 20 1 .nil)))))))))))))))))))))) (.st 8 5 (.br (.st 7 4 (.st 0 3 (.st 1 3 (.st 9 3 (.st 10 3 (.st 11 2 (.st 12 3 (.st 2 4 (.st 3 4 (.st 13 4 (.st 14 4 (.st 15 1 (.st 16 2 (.st 4 5 (.st 5 5 (.st 17 5 (.st 18 5 (.st 19 0 (.st 20 1 .nil))))))))))))))))))) (.st 0 3 (.st 1 3 (.st 9 3 (.st 10 3 (.st 11 2 (.st 12 3 (.st 7 4 (.st 2 4 (.st 3 4 (.st 13 4 (.st 14 4 (.st 15 1 (.st 16 2 (.st 4 5 (.st 5 5 (.st 17 5 (.st 18 5 (.st 19 0 (.st 20 1 .nil)))))))))))))))))))))) (.st 0 3 (.st 1 3 (.st 9 3 (.st 10 3 (.st 11 2 (.st 12 3 (.br (.st 7 4 (.br (.st 8 5 (.st 2 4 (.st 3 4 (.st 13 4 (.st 14 4 (.st 15 1 (.st 16 2 (.st 4 5 (.st 5 5 (.st 17 5 (.st 18 5 (.st 19 0 (.st 20 1 .nil))))))))))))) (.st 2 4 (.st 3 4 (.st 13 4 (.st 14 4 (.st 15 1 (.st 16 2 (.st 8 5 (.st 4 5 (.st 5 5 (.st 17 5 (.st 18 5 (.st 19 0 (.st 20 1 .nil))))))))))))))) (.st 8 5 (.st 7 4 (.st 2 4 (.st 3 4 (.st 13 4 (.st 14 4 (.st 15 1 (.st 16 2 (.st 4 5 (.st 5 5 (.st 17 5 (.st 18 5 (.st 19 0 (.st 20 1 .nil))))))))))))))))))))))) (.st 7 4 (.br (.st 6 3 (.br (.st 8 5 (.st 0 3 (.st 1 3 (.st 9 3 (.st 10 3 (.st 11 2 (.st 12 3 (.st 2 4 (.st 3 4 (.st 13 4 (.st 14 4 (.st 15 1 (.st 16 2 (.st 4 5 (.st 5 5 (.st 17 5 (.st 18 5 (.st 19 0 (.st 20 1 .nil))))))))))))))))))) (.st 0 3 (.st 1 3 (.st 9 3 (.st 10 3 (.st 11 2 (.st 12 3 (.br (.st 8 5 (.st 2 4 (.st 3 4 (.st 13 4 (.st 14 4 (.st 15 1 (.st 16 2 (.st 4 5 (.st 5 5 (.st 17 5 (.st 18 5 (.st 19 0 (.st 20 1 .nil))))))))))))) (.st 2 4 (.st 3 4 (.st 13 4 (.st 14 4 (.st 15 1 (.st 16 2 (.st 8 5 (.st 4 5 (.st 5 5 (.st 17 5 (.st 18 5 (.st 19 0 (.st 20 1 .nil)))))))))))))))))))))) (.st 8 5 (.st 6 3 (.st 0 3 (.st 1 3 (.st 9 3 (.st 10 3 (.st 11 2 (.st 12 3 (.st 2 4 (.st 3 4 (.st 13 4 (.st 14 4 (.st 15 1 (.st 16 2 (.st 4 5 (.st 5 5 (.st 17 5 (.st 18 5 (.st 19 0 (.st 20 1 .nil))))))))))))))))))))))) (.st 8 5 (.br (.st 6 3 (.br (.st 7 4 (.st 0 3 (.st 1 3 (.st 9 3 (.st 10 3 (.st 11 2 (.st 12 3 (.st 2 4 (.st 3 4 (.st 13 4 (.st 14 4 (.st 15 1 (.st 16 2 (.st 4 5 (.st 5 5 (.st 17 5 (.st 18 5 (.st 19 0 (.st 20 1 .nil))))))))))))))))))) (.st 0 3 (.st 1 3 (.st 9 3 (.st 10 3 (.st 11 2 (.st 12 3 (.st 7 4 (.st 2 4 (.st 3 4 (.st 13 4 (.st 14 4 (.st 15 1 (.st 16 2 (.st 4 5 (.st 5 5 (.st 17 5 (.st 18 5 (.st 19 0 (.st 20 1 .nil))))))))))))))))))))) (.st 7 4 (.st 6 3 (.st 0 3 (.st 1 3 (.st 9 3 (.st 10 3 (.st 11 2 (.st 12 3 (.st 2 4 (.st 3 4 (.st 13 4 (.st 14 4 (.st 15 1 (.st 16 2 (.st 4 5 (.st 5 5 (.st 17 5 (.st 18 5 (.st 19 0 (.st 20 1 .nil)))))))))))))))))))))))) (by kernel_rfl) (by decide +kernel) (by exact rfl) ?_) | refine std ?_)
      | (show Br _ _ _; first | refine Br.t rfl ?_ | refine Br.f rfl ?_ | refine brs ?_ | (first | refine Br.mkN (fun h => ?_) (fun h => ?_) | refine Br.mk (fun h => ?_) (fun h => ?_)) <;> (try (first | contradiction | (exfalso; omega) | (exfalso; simp at h; done))))
      | refine stp ?_)
    all_goals (show retC _ _ _ _ _ _; refine RETC ?_; exact ret_done (hK _))
theorem joverG_ok (h0 : cE w st it sb si stg ev wa stl = 0) (h1 : cE w2 st2 it2 sb2 si2 stg2 ev2 wa2 stl2 = 0) (hK : ∀ x, K (.tuple #[.pointer (some ⟨x, 0, none⟩), .int .i64 0]) R) : CallT Tryz.prog 43 #[.agg #[.int .i64 w, .int .i64 st, .int .i64 it, .int .i64 sb, .int .i64 si, .int .i64 stg, .int .i64 ev, .int .i64 wa, .int .i64 stl], .agg #[.int .i64 w2, .int .i64 st2, .int .i64 it2, .int .i64 sb2, .int .i64 si2, .int .i64 stg2, .int .i64 ev2, .int .i64 wa2, .int .i64 stl2]] R K := by
  refine callT_intro mixed Tryz.func43 rfl (by decide) (by decide +kernel) (by exact Nat.le_of_ble_eq_true rfl) ?_
  repeat' (first
    | (show evG _ _ _ _ _ _ _; first | refine G_pure0 ?_ | refine G_load ?_ | refine evG_nil ?_ | refine G_br ?_ ?_ | refine G_pure ?_ | refine G_loadV ?_ | refine G_loadV0 ?_ | refine G_loadV2 ?_ | refine G_build ?_ | refine G_neq_agg ?_ | refine G_call ?_ | refine G_call0 ?_ | (refine G_box ?_; intro _))
    | (show spl _ _ _; first | refine spl_no rfl ?_ | refine spl_yes rfl ?_)
    | (show evC _ _ _ _ _; first | refine c_seq ?_ | refine c_region (by exact rfl) ?_ | refine c_cond (by exact rfl) ?_ | refine c_ret ?_ | refine c_skip ?_ | refine c_block ?_ | refine c_exit ?_ | refine std ?_)
    | (show Br _ _ _; first | refine Br.t (by decide +kernel) ?_ | refine Br.f (by decide +kernel) ?_ | refine Br.t rfl ?_ | refine Br.f rfl ?_ | refine brs ?_ | (first | refine Br.mkN (fun h => ?_) (fun h => ?_) | refine Br.mk (fun h => ?_) (fun h => ?_)) <;> (try (first | contradiction | (exfalso; omega) | (exfalso; simp at h; done))))
    | refine stp ?_
    | (show CallT _ 31 _ _ _; refine CA (h := dnewC_ok h0 h1 (fun _ => ?_)))
    | (show CallT _ 126 _ _ _; refine CA (h := jnew_ok (fun _ => ?_))))
  all_goals (show retC _ _ _ _ _ _; refine RETC ?_; exact ret_done (hK _))
theorem joverA_ok {e : Int} (h0 : cE w st it sb si stg ev wa stl = e) (he : e ≠ 0) (hK : K (.tuple #[.pointer none, .int .i64 e]) R) : CallT Tryz.prog 43 #[.agg #[.int .i64 w, .int .i64 st, .int .i64 it, .int .i64 sb, .int .i64 si, .int .i64 stg, .int .i64 ev, .int .i64 wa, .int .i64 stl], .agg #[.int .i64 w2, .int .i64 st2, .int .i64 it2, .int .i64 sb2, .int .i64 si2, .int .i64 stg2, .int .i64 ev2, .int .i64 wa2, .int .i64 stl2]] R K := by
  refine callT_intro mixed Tryz.func43 rfl (by decide) (by decide +kernel) (by exact Nat.le_of_ble_eq_true rfl) ?_
  repeat' (first
    | (show evG _ _ _ _ _ _ _; first | refine G_pure0 ?_ | refine G_load ?_ | refine evG_nil ?_ | refine G_br ?_ ?_ | refine G_pure ?_ | refine G_loadV ?_ | refine G_loadV0 ?_ | refine G_loadV2 ?_ | refine G_build ?_ | refine G_neq_agg ?_ | refine G_call ?_ | refine G_call0 ?_ | (refine G_box ?_; intro _))
    | (show spl _ _ _; first | refine spl_no rfl ?_ | refine spl_yes rfl ?_)
    | (show evC _ _ _ _ _; first | refine c_seq ?_ | refine c_region (by exact rfl) ?_ | refine c_cond (by exact rfl) ?_ | refine c_ret ?_ | refine c_skip ?_ | refine c_block ?_ | refine c_exit ?_ | refine std ?_)
    | (show Br _ _ _; first | refine Br.t rfl ?_ | refine Br.f rfl ?_ | refine brs ?_ | (first | refine Br.mkN (fun h => ?_) (fun h => ?_) | refine Br.mk (fun h => ?_) (fun h => ?_)) <;> (try (first | contradiction | (exfalso; omega) | (exfalso; simp at h; done))))
    | refine stp ?_
    | (show CallT _ 31 _ _ _; refine CA (h := dnewA_ok h0 he ?_)))
  all_goals first
    | (show retC _ _ _ _ _ _; refine RETC ?_; exact ret_done (hK))
    | (exfalso; omega)
end
section
variable {w st it sb si stg ev wa stl kd sd id n cd on ww xw xs xi : Int} {xx : Bool} {s : ByteArray} {v0 v1 v2 v3 v4 v5 v6 v7 v8 : Value}
theorem conf30_ok (hK : K (.agg #[.int .i64 64, .int .i64 8, .int .i64 4, .int .i64 100, .int .i64 5, .int .i64 0, .int .i64 0, .int .i64 0, .int .i64 0]) R) : CallT Tryz.prog 42 #[] R K := by
  refine callT_intro mixed Tryz.func42 rfl (by decide) (by decide +kernel) (by exact Nat.le_of_ble_eq_true rfl) ?_
  repeat' (first
    | (show evG _ _ _ _ _ _ _; first | refine G_pure0 ?_ | refine evG_nil ?_ | refine G_br ?_ ?_ | refine G_pure ?_ | refine G_store ?_ | refine G_build ?_ | (refine G_alloc ?_; intro _))
    | (show spl _ _ _; first | refine spl_no rfl ?_ | refine spl_yes rfl ?_)
    | (show evC _ _ _ _ _; first | refine c_seq ?_ | refine c_region (by exact rfl) ?_ | refine c_cond (by exact rfl) ?_ | refine c_ret ?_ | refine c_skip ?_ | refine c_block ?_ | refine c_exit ?_ | refine std ?_)
    | (show Br _ _ _; first | refine Br.t rfl ?_ | refine Br.f rfl ?_ | refine brs ?_ | (first | refine Br.mkN (fun h => ?_) (fun h => ?_) | refine Br.mk (fun h => ?_) (fun h => ?_)) <;> (try (first | contradiction | (exfalso; omega) | (exfalso; simp at h; done))))
    | refine stp ?_)
  all_goals (show retC _ _ _ _ _ _; refine RETC ?_; exact ret_done (hK))
theorem wdo0_ok (hK : K (.tuple #[.agg #[.int .i64 1, .int .i64 0, .string ⟨#[]⟩, .bool false, .bool false], .bool false]) R) : CallT Tryz.prog 41 #[.pointer none, .agg #[.int .i64 kd, .int .i64 sd, .int .i64 id, .int .i64 n, .int .i64 cd, .string s, .int .i64 on, .int .i64 ww, .bool xx, .int .i64 xw, .int .i64 xs, .int .i64 xi]] R K := by
  refine callT_intro mixed Tryz.func41 rfl (by decide) (by decide +kernel) (by exact Nat.le_of_ble_eq_true rfl) ?_
  repeat' (first
    | (show evG _ _ _ _ _ _ _; first | refine G_add64 ?_ | refine G_pure0 ?_ | refine G_load ?_ | refine evG_nil ?_ | refine G_br ?_ ?_ | refine G_field ?_ | refine G_pure ?_ | refine G_store ?_ | refine G_loadV ?_ | refine G_loadV0 ?_ | refine G_loadV2 ?_ | refine G_index ?_ | refine G_indexA ?_ | refine G_build ?_ | refine G_cat ?_ | refine G_eql_agg ?_ | refine G_call ?_ | refine G_call0 ?_ | (refine G_box ?_; intro _) | (refine G_alloc ?_; intro _) | (refine G_indexV ?_; intro _ _ hA; subst hA))
    | (show spl _ _ _; first | refine spl_no rfl ?_ | refine spl_yes rfl ?_)
    | (show evC _ _ _ _ _; first | refine c_seq ?_ | refine c_region (by exact rfl) ?_ | refine c_cond (by exact rfl) ?_ | refine c_ret ?_ | refine c_skip ?_ | refine c_block ?_ | refine c_exit ?_ | (show evC _ (.region 3 _ true) _ _ _; refine c_drawT (t := (.br (.st 1 1 (.st 2 1 (.st 3 1 (.st 4 1 (.st 5 1 (.st 6 2 (.st 8 2 (.st 0 2 (.st 7 1 (.st 9 1 .nil)))))))))) (.st 8 2 (.st 1 1 (.st 2 1 (.st 3 1 (.st 4 1 (.st 5 1 (.st 6 2 (.st 0 2 (.st 7 1 (.st 9 1 .nil)))))))))))) (by kernel_rfl) (by decide +kernel) (by exact rfl) ?_) | (show evC _ (.region 10 _ true) _ _ _; refine c_draw (l := [(2, 0), (3, 0), (4, 0), (5, 0), (6, 0), (7, 1), (0, 1), (1, 1), (8, 1), (9, 0)]) (by decide +kernel) (by decide +kernel) (by exact rfl) ?_) | refine std ?_)
    | (show Br _ _ _; first | refine Br.t rfl ?_ | refine Br.f rfl ?_ | refine brs ?_ | (first | refine Br.mkN (fun h => ?_) (fun h => ?_) | refine Br.mk (fun h => ?_) (fun h => ?_)) <;> (try (first | contradiction | (exfalso; omega) | (exfalso; simp at h; done))))
    | refine stp ?_)
  all_goals (show retC _ _ _ _ _ _; refine RETC ?_; exact ret_done (hK))
theorem wduplex0_ok (hK : K (.pointer none) R) : CallT Tryz.prog 48 #[.pointer none] R K := by
  refine callT_intro mixed Tryz.func48 rfl (by decide) (by decide +kernel) (by exact Nat.le_of_ble_eq_true rfl) ?_
  repeat' (first
    | (show evG _ _ _ _ _ _ _; first | refine G_pure0 ?_ | refine G_load ?_ | refine evG_nil ?_ | refine G_br ?_ ?_ | refine G_field ?_ | refine G_pure ?_ | refine G_loadV ?_ | refine G_loadV0 ?_ | refine G_loadV2 ?_ | refine G_eql_agg ?_)
    | (show spl _ _ _; first | refine spl_no rfl ?_ | refine spl_yes rfl ?_)
    | (show evC _ _ _ _ _; first | refine c_seq ?_ | refine c_region (by exact rfl) ?_ | refine c_cond (by exact rfl) ?_ | refine c_ret ?_ | refine c_skip ?_ | refine c_block ?_ | refine c_exit ?_ | refine std ?_)
    | (show Br _ _ _; first | refine Br.t rfl ?_ | refine Br.f rfl ?_ | refine brs ?_ | (first | refine Br.mkN (fun h => ?_) (fun h => ?_) | refine Br.mk (fun h => ?_) (fun h => ?_)) <;> (try (first | contradiction | (exfalso; omega) | (exfalso; simp at h; done))))
    | refine stp ?_)
  all_goals (show retC _ _ _ _ _ _; refine RETC ?_; exact ret_done (hK))
theorem wjudge0_ok (hK : K (.pointer none) R) : CallT Tryz.prog 49 #[.pointer none] R K := by
  refine callT_intro mixed Tryz.func49 rfl (by decide) (by decide +kernel) (by exact Nat.le_of_ble_eq_true rfl) ?_
  repeat' (first
    | (show evG _ _ _ _ _ _ _; first | refine G_pure0 ?_ | refine G_load ?_ | refine evG_nil ?_ | refine G_br ?_ ?_ | refine G_field ?_ | refine G_pure ?_ | refine G_loadV ?_ | refine G_loadV0 ?_ | refine G_loadV2 ?_ | refine G_eql_agg ?_)
    | (show spl _ _ _; first | refine spl_no rfl ?_ | refine spl_yes rfl ?_)
    | (show evC _ _ _ _ _; first | refine c_seq ?_ | refine c_region (by exact rfl) ?_ | refine c_cond (by exact rfl) ?_ | refine c_ret ?_ | refine c_skip ?_ | refine c_block ?_ | refine c_exit ?_ | refine std ?_)
    | (show Br _ _ _; first | refine Br.t rfl ?_ | refine Br.f rfl ?_ | refine brs ?_ | (first | refine Br.mkN (fun h => ?_) (fun h => ?_) | refine Br.mk (fun h => ?_) (fun h => ?_)) <;> (try (first | contradiction | (exfalso; omega) | (exfalso; simp at h; done))))
    | refine stp ?_)
  all_goals (show retC _ _ _ _ _ _; refine RETC ?_; exact ret_done (hK))
theorem jhear0_ok (hK : K (.bool false) R) : CallT Tryz.prog 45 #[.pointer none, .agg #[.int .i64 kd, .int .i64 sd, .int .i64 id, .int .i64 n, .int .i64 cd, .string s, .int .i64 on, .int .i64 ww, .bool xx, .int .i64 xw, .int .i64 xs, .int .i64 xi, v0, v1, v2, v3, v4, v5, v6, v7, v8]] R K := by
  refine callT_intro mixed Tryz.func45 rfl (by decide) (by decide +kernel) (by exact Nat.le_of_ble_eq_true rfl) ?_
  repeat' (first
    | (show evG _ _ _ _ _ _ _; first | refine G_add64 ?_ | refine G_sub64 ?_ | refine G_pure0 ?_ | refine G_load ?_ | refine evG_nil ?_ | refine G_br ?_ ?_ | refine G_field ?_ | refine G_pure ?_ | refine G_store ?_ | refine G_loadV ?_ | refine G_loadV0 ?_ | refine G_loadV2 ?_ | refine G_not ?_ | refine G_index ?_ | refine G_indexA ?_ | refine G_cat ?_ | refine G_eql_agg ?_ | refine G_call ?_ | refine G_call0 ?_ | (refine G_box ?_; intro _) | (refine G_alloc ?_; intro _) | (refine G_indexV ?_; intro _ _ hA; subst hA) | refine G_skip ?_ | refine G_skip0 ?_)
    | (show spl _ _ _; first | refine spl_no rfl ?_ | refine spl_yes rfl ?_)
    | (show evC _ _ _ _ _; first | refine c_seq ?_ | refine c_region (by exact rfl) ?_ | refine c_cond (by exact rfl) ?_ | refine c_ret ?_ | refine c_skip ?_ | refine c_block ?_ | refine c_exit ?_ | (show evC _ (.region 23 _ true) _ _ _; refine c_draw (l := [(0, 0), (1, 0), (2, 0), (3, 0), (4, 0), (5, 0), (6, 0), (7, 0), (8, 0), (9, 1)]) (by decide +kernel) (by decide +kernel) (by exact rfl) ?_) | (show evC _ (.region 25 _ true) _ _ _; refine c_drawB (bl := [0, 0, 0, 0, 4, 20, 60, 124, 252, 508, 1020, 2044, 4092, 8188, 16380, 32764, 65532, 131068, 262140, 524284, 1, 1048577, 4194303, 8388607]) (br := [8388607, 4194303, 1048577, 1, 524284, 262140, 131068, 65532, 32764, 16380, 8188, 4092, 2044, 1020, 508, 252, 124, 60, 20, 4, 0, 0, 0, 0]) (l := [(0, 0), (1, 0), (2, 0), (3, 0), (4, 0), (5, 0), (6, 0), (7, 0), (8, 0), (9, 0), (10, 0), (11, 0), (12, 0), (13, 0), (14, 0), (15, 0), (16, 0), (17, 0), (18, 0), (19, 0), (20, 0), (21, 0), (22, 0), (23, 1)]) (by decide +kernel) (by decide +kernel) (by decide +kernel) (by decide +kernel) (by exact rfl) ?_) | refine std ?_)
    | (show Br _ _ _; first | refine Br.t rfl ?_ | refine Br.f rfl ?_ | refine brs ?_ | (first | refine Br.mkN (fun h => ?_) (fun h => ?_) | refine Br.mk (fun h => ?_) (fun h => ?_)) <;> (try (first | contradiction | (exfalso; omega) | (exfalso; simp at h; done))))
    | refine stp ?_)
  all_goals (show retC _ _ _ _ _ _; refine RETC ?_; exact ret_done (hK))
theorem jseats0_ok {i : Int} (hK : K (.slice none 0 0) R) : CallT Tryz.prog 46 #[.pointer none, .int .i64 i] R K := by
  refine callT_intro mixed Tryz.func46 rfl (by decide) (by decide +kernel) (by exact Nat.le_of_ble_eq_true rfl) ?_
  repeat' (first
    | (show evG _ _ _ _ _ _ _; first | refine G_pure0 ?_ | refine G_load ?_ | refine evG_nil ?_ | refine G_br ?_ ?_ | refine G_field ?_ | refine G_pure ?_ | refine G_loadV ?_ | refine G_loadV0 ?_ | refine G_loadV2 ?_ | (refine G_append ?_; intro _ _) | (refine G_appendN ?_; intro _ _) | refine G_not ?_ | refine G_index ?_ | refine G_indexA ?_ | refine G_eql_agg ?_ | refine G_call ?_ | refine G_call0 ?_ | (refine G_buildSlice ?_; intro _) | (refine G_indexV ?_; intro _ _ hA; subst hA) | refine G_skip ?_ | refine G_skip0 ?_)
    | (show spl _ _ _; first | refine spl_no rfl ?_ | refine spl_yes rfl ?_)
    | (show evC _ _ _ _ _; first | refine c_seq ?_ | refine c_region (by exact rfl) ?_ | refine c_cond (by exact rfl) ?_ | refine c_ret ?_ | refine c_skip ?_ | refine c_block ?_ | refine c_exit ?_ | refine std ?_)
    | (show Br _ _ _; first | refine Br.t rfl ?_ | refine Br.f rfl ?_ | refine brs ?_ | (first | refine Br.mkN (fun h => ?_) (fun h => ?_) | refine Br.mk (fun h => ?_) (fun h => ?_)) <;> (try (first | contradiction | (exfalso; omega) | (exfalso; simp at h; done))))
    | refine stp ?_)
  all_goals (show retC _ _ _ _ _ _; refine RETC ?_; exact ret_done (hK))
theorem jflow0_ok {i j : Int} (hK : K (.pointer none) R) : CallT Tryz.prog 47 #[.pointer none, .int .i64 i, .int .i64 j] R K := by
  refine callT_intro mixed Tryz.func47 rfl (by decide) (by decide +kernel) (by exact Nat.le_of_ble_eq_true rfl) ?_
  repeat' (first
    | (show evG _ _ _ _ _ _ _; first | refine G_pure0 ?_ | refine G_load ?_ | refine evG_nil ?_ | refine G_br ?_ ?_ | refine G_field ?_ | refine G_pure ?_ | refine G_loadV ?_ | refine G_loadV0 ?_ | refine G_loadV2 ?_ | refine G_not ?_ | refine G_index ?_ | refine G_indexA ?_ | refine G_eql_agg ?_ | refine G_call ?_ | refine G_call0 ?_ | (refine G_indexV ?_; intro _ _ hA; subst hA) | refine G_skip ?_ | refine G_skip0 ?_)
    | (show spl _ _ _; first | refine spl_no rfl ?_ | refine spl_yes rfl ?_)
    | (show evC _ _ _ _ _; first | refine c_seq ?_ | refine c_region (by exact rfl) ?_ | refine c_cond (by exact rfl) ?_ | refine c_ret ?_ | refine c_skip ?_ | refine c_block ?_ | refine c_exit ?_ | refine std ?_)
    | (show Br _ _ _; first | refine Br.t rfl ?_ | refine Br.f rfl ?_ | refine brs ?_ | (first | refine Br.mkN (fun h => ?_) (fun h => ?_) | refine Br.mk (fun h => ?_) (fun h => ?_)) <;> (try (first | contradiction | (exfalso; omega) | (exfalso; simp at h; done))))
    | refine stp ?_)
  all_goals (show retC _ _ _ _ _ _; refine RETC ?_; exact ret_done (hK))
set_option maxHeartbeats 40000000 in
theorem judgeNone_ok (hK : ∀ C, K (.bool true) C) : CallT Tryz.prog 6 #[.agg #[.int .i64 kd, .int .i64 sd, .int .i64 id, .int .i64 n, .int .i64 cd, .string s, .int .i64 on, .int .i64 ww, .bool xx, .int .i64 xw, .int .i64 xs, .int .i64 xi, v0, v1, v2, v3, v4, v5, v6, v7, v8], .agg #[.int .i64 w, .int .i64 st, .int .i64 it, .int .i64 sb, .int .i64 si, .int .i64 stg, .int .i64 ev, .int .i64 wa, .int .i64 stl]] R K := by
  have h0 := cE_conf
  rcases cE_cases (w := w) (st := st) (it := it) (sb := sb) (si := si) (stg := stg) (ev := ev) (wa := wa) (stl := stl) with hc | hc | hc
  · refine callT_intro mixed Tryz.func6 rfl (by decide) (by decide +kernel) (by exact Nat.le_of_ble_eq_true rfl) ?_
    repeat' (first
      | (show evG _ _ _ _ _ _ _; first | refine G_pure0 ?_ | refine G_load ?_ | refine evG_nil ?_ | refine G_br ?_ ?_ | refine G_field ?_ | refine G_pure ?_ | refine G_store ?_ | refine G_loadV ?_ | refine G_loadV0 ?_ | refine G_loadV2 ?_ | refine G_not ?_ | refine G_build ?_ | refine G_eql_agg ?_ | refine G_neq_agg ?_ | refine G_call ?_ | refine G_call0 ?_ | (refine G_box ?_; intro _) | (refine G_alloc ?_; intro _) | refine G_skip ?_ | refine G_skip0 ?_)
      | (show spl _ _ _; first | refine spl_no rfl ?_ | refine spl_yes rfl ?_)
      | (show evC _ _ _ _ _; first | refine c_seq ?_ | refine c_region (by exact rfl) ?_ | refine c_cond (by exact rfl) ?_ | refine c_ret ?_ | refine c_skip ?_ | refine c_block ?_ | refine c_exit ?_ | (show evC _ (.region 4 _ true) _ _ _; refine c_draw (l := [(1, 1), (0, 1), (2, 1), (3, 0), (4, 0), (5, 0), (6, 0), (7, 0)]) (by decide +kernel) (by decide +kernel) (by exact rfl) ?_) | (show evC _ (.region 5 _ true) _ _ _; refine c_draw (l := [(1, 1), (0, 1), (2, 1), (3, 0), (4, 0), (5, 0), (6, 0), (7, 0)]) (by decide +kernel) (by decide +kernel) (by exact rfl) ?_) | refine std ?_)
      | (show Br _ _ _; first | refine Br.t (by decide +kernel) ?_ | refine Br.f (by decide +kernel) ?_ | refine Br.t rfl ?_ | refine Br.f rfl ?_ | refine brs ?_ | (first | refine Br.mkN (fun h => ?_) (fun h => ?_) | refine Br.mk (fun h => ?_) (fun h => ?_)) <;> (try (first | contradiction | (exfalso; omega) | (exfalso; simp at h; done))))
      | refine stp ?_
      | (show CallT _ 31 _ _ _; refine CA (h := dnewC_ok hc h0 (fun _ => ?_)))
      | (show CallT _ 43 _ _ _; refine CA (h := joverG_ok hc h0 (fun _ => ?_)))
      | (show CallT _ 42 _ _ _; refine CA (h := conf30_ok ?_))
      | (show CallT _ 44 _ _ _; refine CA (h := awake30_ok ?_))
      | (show CallT _ 41 _ _ _; refine CA (h := wdo0_ok ?_))
      | (show CallT _ 48 _ _ _; refine CA (h := wduplex0_ok ?_))
      | (show CallT _ 49 _ _ _; refine CA (h := wjudge0_ok ?_))
      | (show CallT _ 45 _ _ _; refine CA (h := jhear0_ok ?_))
      | (show CallT _ 46 _ _ _; refine CA (h := jseats0_ok ?_))
      | (show CallT _ 47 _ _ _; refine CA (h := jflow0_ok ?_)))
    all_goals (show retC _ _ _ _ _ _; refine RETC ?_; exact ret_done (hK _))
  · refine callT_intro mixed Tryz.func6 rfl (by decide) (by decide +kernel) (by exact Nat.le_of_ble_eq_true rfl) ?_
    repeat' (first
      | (show evG _ _ _ _ _ _ _; first | refine G_pure0 ?_ | refine G_load ?_ | refine evG_nil ?_ | refine G_br ?_ ?_ | refine G_field ?_ | refine G_pure ?_ | refine G_store ?_ | refine G_loadV ?_ | refine G_loadV0 ?_ | refine G_loadV2 ?_ | refine G_not ?_ | refine G_build ?_ | refine G_eql_agg ?_ | refine G_neq_agg ?_ | refine G_call ?_ | refine G_call0 ?_ | (refine G_box ?_; intro _) | (refine G_alloc ?_; intro _) | refine G_skip ?_ | refine G_skip0 ?_)
      | (show spl _ _ _; first | refine spl_no rfl ?_ | refine spl_yes rfl ?_)
      | (show evC _ _ _ _ _; first | refine c_seq ?_ | refine c_region (by exact rfl) ?_ | refine c_cond (by exact rfl) ?_ | refine c_ret ?_ | refine c_skip ?_ | refine c_block ?_ | refine c_exit ?_ | (show evC _ (.region 4 _ true) _ _ _; refine c_draw (l := [(1, 1), (0, 1), (2, 1), (3, 0), (4, 0), (5, 0), (6, 0), (7, 0)]) (by decide +kernel) (by decide +kernel) (by exact rfl) ?_) | (show evC _ (.region 5 _ true) _ _ _; refine c_draw (l := [(1, 1), (0, 1), (2, 1), (3, 0), (4, 0), (5, 0), (6, 0), (7, 0)]) (by decide +kernel) (by decide +kernel) (by exact rfl) ?_) | refine std ?_)
      | (show Br _ _ _; first | refine Br.t (by decide +kernel) ?_ | refine Br.f (by decide +kernel) ?_ | refine Br.t rfl ?_ | refine Br.f rfl ?_ | refine brs ?_ | (first | refine Br.mkN (fun h => ?_) (fun h => ?_) | refine Br.mk (fun h => ?_) (fun h => ?_)) <;> (try (first | contradiction | (exfalso; omega) | (exfalso; simp at h; done))))
      | refine stp ?_
      | (show CallT _ 31 _ _ _; refine CA (h := dnewA_ok hc (by decide) ?_))
      | (show CallT _ 43 _ _ _; refine CA (h := joverA_ok hc (by decide) ?_))
      | (show CallT _ 42 _ _ _; refine CA (h := conf30_ok ?_))
      | (show CallT _ 44 _ _ _; refine CA (h := awake30_ok ?_))
      | (show CallT _ 41 _ _ _; refine CA (h := wdo0_ok ?_))
      | (show CallT _ 48 _ _ _; refine CA (h := wduplex0_ok ?_))
      | (show CallT _ 49 _ _ _; refine CA (h := wjudge0_ok ?_))
      | (show CallT _ 45 _ _ _; refine CA (h := jhear0_ok ?_))
      | (show CallT _ 46 _ _ _; refine CA (h := jseats0_ok ?_))
      | (show CallT _ 47 _ _ _; refine CA (h := jflow0_ok ?_)))
    all_goals (show retC _ _ _ _ _ _; refine RETC ?_; exact ret_done (hK _))
  · refine callT_intro mixed Tryz.func6 rfl (by decide) (by decide +kernel) (by exact Nat.le_of_ble_eq_true rfl) ?_
    repeat' (first
      | (show evG _ _ _ _ _ _ _; first | refine G_pure0 ?_ | refine G_load ?_ | refine evG_nil ?_ | refine G_br ?_ ?_ | refine G_field ?_ | refine G_pure ?_ | refine G_store ?_ | refine G_loadV ?_ | refine G_loadV0 ?_ | refine G_loadV2 ?_ | refine G_not ?_ | refine G_build ?_ | refine G_eql_agg ?_ | refine G_neq_agg ?_ | refine G_call ?_ | refine G_call0 ?_ | (refine G_box ?_; intro _) | (refine G_alloc ?_; intro _) | refine G_skip ?_ | refine G_skip0 ?_)
      | (show spl _ _ _; first | refine spl_no rfl ?_ | refine spl_yes rfl ?_)
      | (show evC _ _ _ _ _; first | refine c_seq ?_ | refine c_region (by exact rfl) ?_ | refine c_cond (by exact rfl) ?_ | refine c_ret ?_ | refine c_skip ?_ | refine c_block ?_ | refine c_exit ?_ | (show evC _ (.region 4 _ true) _ _ _; refine c_draw (l := [(1, 1), (0, 1), (2, 1), (3, 0), (4, 0), (5, 0), (6, 0), (7, 0)]) (by decide +kernel) (by decide +kernel) (by exact rfl) ?_) | (show evC _ (.region 5 _ true) _ _ _; refine c_draw (l := [(1, 1), (0, 1), (2, 1), (3, 0), (4, 0), (5, 0), (6, 0), (7, 0)]) (by decide +kernel) (by decide +kernel) (by exact rfl) ?_) | refine std ?_)
      | (show Br _ _ _; first | refine Br.t (by decide +kernel) ?_ | refine Br.f (by decide +kernel) ?_ | refine Br.t rfl ?_ | refine Br.f rfl ?_ | refine brs ?_ | (first | refine Br.mkN (fun h => ?_) (fun h => ?_) | refine Br.mk (fun h => ?_) (fun h => ?_)) <;> (try (first | contradiction | (exfalso; omega) | (exfalso; simp at h; done))))
      | refine stp ?_
      | (show CallT _ 31 _ _ _; refine CA (h := dnewA_ok hc (by decide) ?_))
      | (show CallT _ 43 _ _ _; refine CA (h := joverA_ok hc (by decide) ?_))
      | (show CallT _ 42 _ _ _; refine CA (h := conf30_ok ?_))
      | (show CallT _ 44 _ _ _; refine CA (h := awake30_ok ?_))
      | (show CallT _ 41 _ _ _; refine CA (h := wdo0_ok ?_))
      | (show CallT _ 48 _ _ _; refine CA (h := wduplex0_ok ?_))
      | (show CallT _ 49 _ _ _; refine CA (h := wjudge0_ok ?_))
      | (show CallT _ 45 _ _ _; refine CA (h := jhear0_ok ?_))
      | (show CallT _ 46 _ _ _; refine CA (h := jseats0_ok ?_))
      | (show CallT _ 47 _ _ _; refine CA (h := jflow0_ok ?_)))
    all_goals (show retC _ _ _ _ _ _; refine RETC ?_; exact ret_done (hK _))
end
theorem zheard_len {W : World} {n : Nat} {cs : List Value} (hg : Go.Sl.Good Tryz.prog W n 88 cs) : ∃ (kd sd id n cd : Int) (s : ByteArray) (on ww : Int) (xx : Bool) (xw xs xi : Int) (v0 v1 v2 v3 v4 v5 v6 v7 v8 : Value), cs = [.int .i64 kd, .int .i64 sd, .int .i64 id, .int .i64 n, .int .i64 cd, .string s, .int .i64 on, .int .i64 ww, .bool xx, .int .i64 xw, .int .i64 xs, .int .i64 xi, v0, v1, v2, v3, v4, v5, v6, v7, v8] := by
  have hz : Tryz.prog.cellsOf 88 = 21 := by kernel_rfl
  have hz1 : Tryz.prog.cellsOf 70 = 12 := by kernel_rfl
  obtain ⟨m2, k3, k4⟩ := good_struct Tryz.underlying88 hg
  obtain ⟨kd, sd, id, n, cd, s, on, ww, xx, xw, xs, xi, h⟩ := zgood_apiact (k4 0 _ rfl)
  have h2 : List.take 12 (List.drop 0 cs) = [.int .i64 kd, .int .i64 sd, .int .i64 id, .int .i64 n, .int .i64 cd, .string s, .int .i64 on, .int .i64 ww, .bool xx, .int .i64 xw, .int .i64 xs, .int .i64 xi] := by rw [← h, ← hz1]; rfl
  have hl := k3.trans hz
  rw [List.drop_zero] at h2
  match cs, hl with
  | [a0, a1, a2, a3, a4, a5, a6, a7, a8, a9, a10, a11, a12, a13, a14, a15, a16, a17, a18, a19, a20], _ =>
    simp only [List.take_succ_cons, List.take_zero, List.cons.injEq, and_true] at h2
    obtain ⟨rfl, rfl, rfl, rfl, rfl, rfl, rfl, rfl, rfl, rfl, rfl, rfl⟩ := h2
    exact ⟨kd, sd, id, n, cd, s, on, ww, xx, xw, xs, xi, a12, a13, a14, a15, a16, a17, a18, a19, a20, rfl⟩
end Go.Proofs.YtndpgmigdgohiaaGreat

