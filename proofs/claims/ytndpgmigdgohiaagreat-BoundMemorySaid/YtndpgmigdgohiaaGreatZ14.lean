/- Bound: the law BoundMemory: lemmas; each with the conditions that it states. -/
import Derived.Test.YtndpgmigdgohiaaGreatFh
import Derived.Test.YtndpgmigdgohiaaGreatZ10
import Derived.Test.YtndpgmigdgohiaaGreatE6

namespace Go.Proofs.YtndpgmigdgohiaaGreat
open Go Go.Proofs Go.Sl
set_option maxRecDepth 100000
set_option maxHeartbeats 4000000
set_option linter.unusedSimpArgs false
set_option linter.unusedVariables false
attribute [local irreducible] evG evC spl thenC inBlockC noGotoC CallT retC RetG TurnG CutG pt ro exP star sep pureP
attribute [local irreducible] mp mit
variable {R C : List HP} {K : Value → List HP → Prop}
variable {w st it sb si stg ev wa stl w2 st2 it2 : Int}
theorem highZ_ok {a b : Int} (hK : K (.int .i64 (max a b)) R) : CallT Tryz.prog 39 #[.int .i64 a, .int .i64 b] R K := by
  refine callT_intro mixed Tryz.func39 rfl (by decide) (by decide +kernel) (by exact Nat.le_of_ble_eq_true rfl) ?_
  repeat' (first
    | (show evG _ _ _ _ _ _ _; first | refine G_pure0 ?_ | refine evG_nil ?_ | refine G_br ?_ ?_ | refine G_pure ?_)
    | (show spl _ _ _; first | refine spl_no rfl ?_ | refine spl_yes rfl ?_)
    | (show evC _ _ _ _ _; first | refine c_seq ?_ | refine c_region (by exact rfl) ?_ | refine c_cond (by exact rfl) ?_ | refine c_ret ?_ | refine c_skip ?_ | refine c_block ?_ | refine c_exit ?_ | refine std ?_)
    | (show Br _ _ _; first | refine Br.t rfl ?_ | refine Br.f rfl ?_ | refine brs ?_ | (first | refine Br.mkN (fun h => ?_) (fun h => ?_) | refine Br.mk (fun h => ?_) (fun h => ?_)) <;> (try (first | contradiction | (exfalso; omega) | (exfalso; simp at h; done))))
    | refine stp ?_)
  all_goals (show retC _ _ _ _ _ _; refine RETC ?_; exact ret_done ((by first | (rw [Int.max_eq_left (by omega)] at hK; exact hK) | (rw [Int.max_eq_right (by omega)] at hK; exact hK))))
/-- the bound -/
def memV (w st it sb si : Int) : Int := (32 + max st 0) * (max sb (si * 256) + max w (it * 256)) + 16960
theorem memory_rng (hs : chkS w2 st2 it2 = true) (h1 : 0 ≤ sb ∧ sb ≤ 4096) (h2 : 0 ≤ si ∧ si ≤ 64) : 0 ≤ (32 + max st2 0) * (max sb (si * 256) + max w2 (it2 * 256)) ∧ (32 + max st2 0) * (max sb (si * 256) + max w2 (it2 * 256)) ≤ 10000000 := by
  have hs := of_decide_eq_true hs
  have ha : 0 ≤ 32 + max st2 0 ∧ 32 + max st2 0 ≤ 64 := by omega
  have hb : 0 ≤ max sb (si * 256) + max w2 (it2 * 256) ∧ max sb (si * 256) + max w2 (it2 * 256) ≤ 40000 := by omega
  refine ⟨Int.mul_nonneg ha.1 hb.1, ?_⟩
  have := Int.mul_le_mul ha.2 hb.2 hb.1 (by decide)
  omega
theorem memory_ok (hs : chkS w2 st2 it2 = true) (h1 : 0 ≤ sb ∧ sb ≤ 4096) (h2 : 0 ≤ si ∧ si ≤ 64) (hK : K (.int .i64 (memV w2 st2 it2 sb si)) R) : CallT Tryz.prog 40 #[.agg #[.int .i64 w, .int .i64 st, .int .i64 it, .int .i64 sb, .int .i64 si, .int .i64 stg, .int .i64 ev, .int .i64 wa, .int .i64 stl], .agg #[.int .i64 w2, .int .i64 st2, .int .i64 it2]] R K := by
  have hr := memory_rng hs h1 h2
  have hs := of_decide_eq_true hs
  unfold memV at hK
  refine callT_intro mixed Tryz.func40 rfl (by decide) (by decide +kernel) (by exact Nat.le_of_ble_eq_true rfl) ?_
  repeat' (first
    | (show evG _ _ _ _ _ _ _; first | refine G_add64 ?_ | refine G_mul64 ?_ | refine G_pure0 ?_ | refine G_load ?_ | refine evG_nil ?_ | refine G_br ?_ ?_ | refine G_field ?_ | refine G_pure ?_ | refine G_loadV ?_ | refine G_loadV0 ?_ | refine G_loadV2 ?_ | refine G_cat ?_ | refine G_max ?_ | (refine G_box ?_; intro _))
    | (show spl _ _ _; first | refine spl_no rfl ?_ | refine spl_yes rfl ?_)
    | (show evC _ _ _ _ _; first | refine c_seq ?_ | refine c_region (by exact rfl) ?_ | refine c_cond (by exact rfl) ?_ | refine c_ret ?_ | refine c_skip ?_ | refine c_block ?_ | refine c_exit ?_ | refine std ?_)
    | (show Br _ _ _; first | refine Br.t rfl ?_ | refine Br.f rfl ?_ | refine brs ?_ | (first | refine Br.mkN (fun h => ?_) (fun h => ?_) | refine Br.mk (fun h => ?_) (fun h => ?_)) <;> (try (first | contradiction | (exfalso; omega) | (exfalso; simp at h; done))))
    | refine stp ?_)
  all_goals (show retC _ _ _ _ _ _; refine RETC ?_; exact ret_done (hK))
theorem memV_eq (hs : chkS w2 st2 it2 = true) : memV w2 st2 it2 sb si = (32 + st2) * (max sb (256 * si) + max w2 (256 * it2)) + 16960 := by
  have hs := of_decide_eq_true hs
  unfold memV
  rw [show max st2 0 = st2 by omega, Int.mul_comm si, Int.mul_comm it2]
theorem boundMemory_ok (hK : ∀ C, K (.bool true) C) : CallT Tryz.prog 5 #[.agg #[.int .i64 w, .int .i64 st, .int .i64 it, .int .i64 sb, .int .i64 si, .int .i64 stg, .int .i64 ev, .int .i64 wa, .int .i64 stl], .agg #[.int .i64 w2, .int .i64 st2, .int .i64 it2]] R K := by
  cases hs : chkS w2 st2 it2
  · refine callT_intro mixed Tryz.func5 rfl (by decide) (by decide +kernel) (by exact Nat.le_of_ble_eq_true rfl) ?_
    repeat' (first
      | (show evG _ _ _ _ _ _ _; first | refine G_add64 ?_ | refine G_mul64 ?_ | refine G_pure0 ?_ | refine G_load ?_ | refine evG_nil ?_ | refine G_br ?_ ?_ | refine G_field ?_ | refine G_pure ?_ | refine G_loadV ?_ | refine G_loadV0 ?_ | refine G_loadV2 ?_ | refine G_not ?_ | refine G_cat ?_ | refine G_eql_agg ?_ | refine G_call ?_ | refine G_call0 ?_ | (refine G_box ?_; intro _) | refine G_skip ?_ | refine G_skip0 ?_)
      | (show spl _ _ _; first | refine spl_no rfl ?_ | refine spl_yes rfl ?_)
      | (show evC _ _ _ _ _; first | refine c_seq ?_ | refine c_region (by exact rfl) ?_ | refine c_cond (by exact rfl) ?_ | refine c_ret ?_ | refine c_skip ?_ | refine c_block ?_ | refine c_exit ?_ | (show evC _ (.region 3 _ true) _ _ _; refine c_draw (l := [(3, 0), (4, 0), (5, 0), (6, 0), (7, 0), (8, 1), (9, 1), (10, 1), (11, 1), (12, 1), (13, 1), (14, 1), (0, 2), (1, 2), (2, 2), (15, 0), (16, 0), (17, 0), (18, 0)]) (by decide +kernel) (by decide +kernel) (by exact rfl) ?_) | refine std ?_)
      | (show Br _ _ _; first | refine Br.t rfl ?_ | refine Br.f rfl ?_ | refine brs ?_ | (first | refine Br.mkN (fun h => ?_) (fun h => ?_) | refine Br.mk (fun h => ?_) (fun h => ?_)) <;> (try (first | contradiction | (exfalso; omega) | (exfalso; simp at h; done))))
      | refine stp ?_
      | (show CallT _ 8 _ _ _; refine CA (h := r16right_ok hs ?_))
      | (show CallT _ 38 _ _ _; refine CA (h := awake32_ok ?_)))
    all_goals (show retC _ _ _ _ _ _; refine RETC ?_; exact ret_done (hK _))
  · by_cases hb : (0 ≤ sb ∧ sb ≤ 4096) ∧ 0 ≤ si ∧ si ≤ 64
    · obtain ⟨h1, h2⟩ := hb
      have hr := memory_rng hs h1 h2
      have he := memV_eq (sb := sb) (si := si) hs
      have hs0 := of_decide_eq_true hs
      have hr2 : 0 ≤ (32 + st2) * (max sb (256 * si) + max w2 (256 * it2)) ∧ (32 + st2) * (max sb (256 * si) + max w2 (256 * it2)) ≤ 10000000 := by
        have e : (32 + max st2 0) * (max sb (si * 256) + max w2 (it2 * 256)) = (32 + st2) * (max sb (256 * si) + max w2 (256 * it2)) := by
          rw [show max st2 0 = st2 by omega, Int.mul_comm si, Int.mul_comm it2]
        rw [e] at hr
        exact hr
      refine callT_intro mixed Tryz.func5 rfl (by decide) (by decide +kernel) (by exact Nat.le_of_ble_eq_true rfl) ?_
      repeat' (first
        | (show evG _ _ _ _ _ _ _; first | refine G_add64 ?_ | refine G_mul64 ?_ | refine G_pure0 ?_ | refine G_load ?_ | refine evG_nil ?_ | refine G_br ?_ ?_ | refine G_field ?_ | refine G_pure ?_ | refine G_loadV ?_ | refine G_loadV0 ?_ | refine G_loadV2 ?_ | refine G_not ?_ | refine G_cat ?_ | refine G_eql_agg ?_ | refine G_call ?_ | refine G_call0 ?_ | (refine G_box ?_; intro _) | refine G_skip ?_ | refine G_skip0 ?_)
        | (show spl _ _ _; first | refine spl_no rfl ?_ | refine spl_yes rfl ?_)
        | (show evC _ _ _ _ _; first | refine c_seq ?_ | refine c_region (by exact rfl) ?_ | refine c_cond (by exact rfl) ?_ | refine c_ret ?_ | refine c_skip ?_ | refine c_block ?_ | refine c_exit ?_ | (show evC _ (.region 3 _ true) _ _ _; refine c_draw (l := [(3, 0), (4, 0), (5, 0), (6, 0), (7, 0), (8, 1), (9, 1), (10, 1), (11, 1), (12, 1), (13, 1), (14, 1), (0, 2), (1, 2), (2, 2), (15, 0), (16, 0), (17, 0), (18, 0)]) (by decide +kernel) (by decide +kernel) (by exact rfl) ?_) | refine std ?_)
        | (show Br _ _ _; first | refine Br.t rfl ?_ | refine Br.f rfl ?_ | refine brs ?_ | (first | refine Br.mkN (fun h => ?_) (fun h => ?_) | refine Br.mk (fun h => ?_) (fun h => ?_)) <;> (try (first | contradiction | (exfalso; omega) | (exfalso; simp at h; done))))
        | refine stp ?_
        | (show CallT _ 8 _ _ _; refine CA (h := r16right_ok hs ?_))
        | (show CallT _ 39 _ _ _; refine CA (h := highZ_ok ?_))
        | (show CallT _ 38 _ _ _; refine CA (h := awake32_ok ?_))
        | (show CallT _ 40 _ _ _; refine CA (h := memory_ok hs h1 h2 ?_); rw [he]))
      all_goals (show retC _ _ _ _ _ _; refine RETC ?_; exact ret_done (kb (hK _) (by simp)))
    · refine callT_intro mixed Tryz.func5 rfl (by decide) (by decide +kernel) (by exact Nat.le_of_ble_eq_true rfl) ?_
      repeat' (first
        | (show evG _ _ _ _ _ _ _; first | refine G_add64 ?_ | refine G_mul64 ?_ | refine G_pure0 ?_ | refine G_load ?_ | refine evG_nil ?_ | refine G_br ?_ ?_ | refine G_field ?_ | refine G_pure ?_ | refine G_loadV ?_ | refine G_loadV0 ?_ | refine G_loadV2 ?_ | refine G_not ?_ | refine G_cat ?_ | refine G_eql_agg ?_ | refine G_call ?_ | refine G_call0 ?_ | (refine G_box ?_; intro _) | refine G_skip ?_ | refine G_skip0 ?_)
        | (show spl _ _ _; first | refine spl_no rfl ?_ | refine spl_yes rfl ?_)
        | (show evC _ _ _ _ _; first | refine c_seq ?_ | refine c_region (by exact rfl) ?_ | refine c_cond (by exact rfl) ?_ | refine c_ret ?_ | refine c_skip ?_ | refine c_block ?_ | refine c_exit ?_ | (show evC _ (.region 3 _ true) _ _ _; refine c_draw (l := [(3, 0), (4, 0), (5, 0), (6, 0), (7, 0), (8, 1), (9, 1), (10, 1), (11, 1), (12, 1), (13, 1), (14, 1), (0, 2), (1, 2), (2, 2), (15, 0), (16, 0), (17, 0), (18, 0)]) (by decide +kernel) (by decide +kernel) (by exact rfl) ?_) | refine std ?_)
        | (show Br _ _ _; first | refine Br.t rfl ?_ | refine Br.f rfl ?_ | refine brs ?_ | (first | refine Br.mkN (fun h => ?_) (fun h => ?_) | refine Br.mk (fun h => ?_) (fun h => ?_)) <;> (try (first | contradiction | (exfalso; omega) | (exfalso; simp at h; done))))
        | refine stp ?_
        | (show CallT _ 8 _ _ _; refine CA (h := r16right_ok hs ?_))
        | (show CallT _ 38 _ _ _; refine CA (h := awake32_ok ?_)))
      all_goals (show retC _ _ _ _ _ _; refine RETC ?_; exact ret_done (hK _))
end Go.Proofs.YtndpgmigdgohiaaGreat

