/- Sniff: an open: lemmas; each with the conditions that it states. -/
import Derived.Test.YthoagholmkiknaaFh
import Derived.Test.YthoagholmkiknaaS2

namespace Go.Proofs.Ythoagholmkiknaa
open Go Go.Proofs Go.Sl
set_option maxRecDepth 100000
set_option maxHeartbeats 4000000
set_option linter.unusedSimpArgs false
set_option linter.unusedVariables false
attribute [local irreducible] evG evC spl thenC inBlockC noGotoC CallT retC RetG TurnG CutG pt ro exP star sep pureP
attribute [local irreducible] mp mit
variable {R C : List HP} {K : Value → List HP → Prop}
variable {x q i0 i1 s0 s1 m : Nat} {cn0 cn1 b0 b1 it0 it1 n : Int}
set_option maxHeartbeats 40000000 in
theorem sopen_ok (hK : ∀ q, K (.tuple #[]) (pt x [.pointer (some ⟨i0, 0, none⟩), .pointer (some ⟨i1, 0, none⟩), .slice (some ⟨s0, 0, none⟩) 1 1, .slice (some ⟨s1, 0, none⟩) 1 1, .int .i64 0, .int .i64 0, .int .i64 cn0, .int .i64 cn1, .map (some m)] 55 :: pt s0 [.int .i64 64, .int .i64 8, .int .i64 4] 58 :: pt s1 [.int .i64 64, .int .i64 8, .int .i64 4] 58 :: mp m [⟨1, .pointer (some ⟨q, 0, none⟩), 0⟩] 1 :: pt q [.int .i64 64, .int .i64 64, .int .i64 0, .int .i64 0, .int .i64 1, .int .i64 1] 70 :: R)) : CallT Try.prog 35 #[.pointer (some ⟨x, 0, none⟩), .int .i64 0, .int .i64 1] (pt x [.pointer (some ⟨i0, 0, none⟩), .pointer (some ⟨i1, 0, none⟩), .slice (some ⟨s0, 0, none⟩) 1 1, .slice (some ⟨s1, 0, none⟩) 1 1, .int .i64 0, .int .i64 0, .int .i64 cn0, .int .i64 cn1, .map (some m)] 55 :: pt s0 [.int .i64 64, .int .i64 8, .int .i64 4] 58 :: pt s1 [.int .i64 64, .int .i64 8, .int .i64 4] 58 :: mp m [] 0 :: R) K := by
  refine callT_intro mixed Try.func35 rfl (by decide) (by decide +kernel) (by exact Nat.le_of_ble_eq_true rfl) ?_
  repeat' (first
    | (show evG _ _ _ _ _ _ _; first | refine G_add64 ?_ | refine G_sub64 ?_ | refine G_pure0 ?_ | refine G_load ?_ | refine evG_nil ?_ | refine G_br ?_ ?_ | refine G_field ?_ | refine G_pure ?_ | refine G_store ?_ | refine G_loadV ?_ | refine G_loadV0 ?_ | refine G_loadV2 ?_ | refine G_index ?_ | refine G_indexA ?_ | refine G_build ?_ | refine G_cat ?_ | (refine G_box ?_; intro _) | (refine G_indexV ?_; intro _ _ hA; subst hA))
    | (show spl _ _ _; first | refine spl_no rfl ?_ | refine spl_yes rfl ?_)
    | (show evC _ _ _ _ _; first | refine c_seq ?_ | refine c_region (by exact rfl) ?_ | refine c_cond (by exact rfl) ?_ | refine c_ret ?_ | refine c_skip ?_ | refine c_block ?_ | refine c_exit ?_ | (show evC _ (.region 4 _ true) _ _ _; refine c_drawB (bl := [0, 0, 0, 0, 0, 0, 16, 80, 240, 496, 0, 0, 1024, 5120, 15360, 31744, 65520, 131056, 262128, 0, 0, 524288, 2621440, 7864320, 16252928, 33030144, 1, 67108865, 234881011, 503316467, 4, 1073741828, 4294967295, 8589934591]) (br := [8589934591, 4294967295, 1073741828, 4, 503316467, 234881011, 67108865, 1, 33030144, 16252928, 7864320, 2621440, 524288, 0, 0, 262128, 131056, 65520, 31744, 15360, 5120, 1024, 0, 0, 496, 240, 80, 16, 0, 0, 0, 0, 0, 0]) (l := [(0, 0), (1, 0), (4, 0), (5, 0), (6, 0), (7, 0), (8, 0), (9, 0), (10, 0), (11, 0), (12, 0), (13, 0), (14, 0), (15, 0), (16, 0), (17, 0), (18, 0), (19, 0), (20, 0), (21, 0), (22, 0), (23, 0), (24, 0), (26, 0), (27, 0), (28, 0), (29, 1), (2, 1), (3, 1), (25, 1), (30, 1), (31, 1), (32, 0), (33, 1)]) (by decide +kernel) (by decide +kernel) (by decide +kernel) (by decide +kernel) (by exact rfl) ?_) | (show evC _ (.region 5 _ true) _ _ _; refine c_drawB (bl := [0, 0, 0, 0, 0, 0, 16, 80, 240, 496, 0, 0, 1024, 5120, 15360, 31744, 64512, 130048, 262128, 524272, 1048560, 0, 0, 2097152, 10485760, 31457280, 65011712, 132120576, 1, 268435457, 939524083, 2013265907, 4, 4294967300, 17179869183, 34359738367]) (br := [34359738367, 17179869183, 4294967300, 4, 2013265907, 939524083, 268435457, 1, 132120576, 65011712, 31457280, 10485760, 2097152, 0, 0, 1048560, 524272, 262128, 130048, 64512, 31744, 15360, 5120, 1024, 0, 0, 496, 240, 80, 16, 0, 0, 0, 0, 0, 0]) (l := [(0, 0), (1, 0), (4, 0), (5, 0), (6, 0), (7, 0), (8, 0), (9, 0), (10, 0), (11, 0), (12, 0), (13, 0), (14, 0), (15, 0), (16, 0), (17, 0), (18, 0), (19, 0), (20, 0), (21, 0), (22, 0), (23, 0), (24, 0), (25, 0), (26, 0), (28, 0), (29, 0), (30, 0), (31, 1), (2, 1), (3, 1), (27, 1), (32, 1), (33, 1), (34, 0), (35, 1)]) (by decide +kernel) (by decide +kernel) (by decide +kernel) (by decide +kernel) (by exact rfl) ?_) | refine std ?_)
    | (show Br _ _ _; first | refine Br.t rfl ?_ | refine Br.f rfl ?_ | refine brs ?_ | (first | refine Br.mkN (fun h => ?_) (fun h => ?_) | refine Br.mk (fun h => ?_) (fun h => ?_)) <;> (try (first | contradiction | (exfalso; omega) | (exfalso; simp at h; done))))
    | refine stp ?_
    | (show evG _ _ _ _ _ _ _; first | (refine G_makeMap ?_; intro _) | refine G_lookup ?_ | refine G_mapUpdate ?_))
  all_goals (show retC _ _ _ _ _ _; refine RETC ?_; exact ret_done (hK _))
end Go.Proofs.Ythoagholmkiknaa

