/- Conn: an endpoint is made: lemmas; each with the conditions that it states. -/
import Derived.Test.YtndpgmigdgohiaaGreatFh
import Derived.Test.YtndpgmigdgohiaaGreatZ4

namespace Go.Proofs.YtndpgmigdgohiaaGreat
open Go Go.Proofs Go.Sl
set_option maxRecDepth 100000
set_option maxHeartbeats 4000000
set_option linter.unusedSimpArgs false
set_option linter.unusedVariables false
attribute [local irreducible] evG evC spl thenC inBlockC noGotoC CallT retC RetG TurnG CutG pt ro exP star sep pureP
attribute [local irreducible] mp mit
variable {R C : List HP} {K : Value → List HP → Prop}
variable {side w st it sb si stg ev wa stl : Int}
theorem cmayR_ok {e : Int} (h : mayE w st it sb si stg = e) (hK : K (.int .i64 e) R) : CallT Tryz.prog 57 #[.agg #[.int .i64 w, .int .i64 st, .int .i64 it, .int .i64 sb, .int .i64 si, .int .i64 stg, .int .i64 ev, .int .i64 wa, .int .i64 stl]] R K := cmay_ok (by rw [h]; exact hK)
theorem mayE_ok (h : mayE w st it sb si stg = 0) : (0 ≤ si ∧ si ≤ 64) ∧ (0 ≤ stg ∧ stg ≤ 2) ∧ chkS w st it = true ∧ (0 ≤ sb ∧ sb ≤ 4096) := by
  unfold mayE at h
  by_cases h1 : 0 ≤ si ∧ si ≤ 64
  · rw [if_neg (fun q => q h1)] at h
    by_cases h2 : 0 ≤ stg ∧ stg ≤ 2
    · rw [if_neg (fun q => q h2)] at h
      cases h3 : chkS w st it
      · rw [if_pos h3] at h; cases h
      · rw [if_neg (by rw [h3]; decide)] at h
        by_cases h4 : 0 ≤ sb ∧ sb ≤ 4096
        · exact ⟨h1, h2, rfl, h4⟩
        · rw [if_pos h4] at h; cases h
    · rw [if_pos h2] at h; cases h
  · rw [if_pos h1] at h; cases h
theorem mayE_of (h1 : 0 ≤ si ∧ si ≤ 64) (h2 : 0 ≤ stg ∧ stg ≤ 2) (h3 : chkS w st it = true) (h4 : 0 ≤ sb ∧ sb ≤ 4096) : mayE w st it sb si stg = 0 := by
  unfold mayE
  rw [if_neg (fun q => q h1), if_neg (fun q => q h2), if_neg (by rw [h3]; decide), if_neg (fun q => q h4)]
theorem mayE_cases : mayE w st it sb si stg = 0 ∨ mayE w st it sb si stg = 2 ∨ mayE w st it sb si stg = 3 := by
  unfold mayE
  repeat' split
  all_goals simp
set_option maxHeartbeats 40000000 in
theorem cnewB_ok {e : Int} (hs : side = 0 ∨ side = 1) (he : mayE w st it sb si stg = e) (he0 : e ≠ 0) (hK : K (.tuple #[.pointer none, .int .i64 e]) R) : CallT Tryz.prog 7 #[.int .i64 side, .agg #[.int .i64 w, .int .i64 st, .int .i64 it, .int .i64 sb, .int .i64 si, .int .i64 stg, .int .i64 ev, .int .i64 wa, .int .i64 stl]] R K := by
  refine callT_intro mixed Tryz.func7 rfl (by decide) (by decide +kernel) (by exact Nat.le_of_ble_eq_true rfl) ?_
  repeat' (first
    | (show evG _ _ _ _ _ _ _; first | refine G_pure0 ?_ | refine G_load ?_ | refine evG_nil ?_ | refine G_br ?_ ?_ | refine G_field ?_ | refine G_pure ?_ | refine G_store ?_ | refine G_loadV ?_ | refine G_loadV0 ?_ | refine G_loadV2 ?_ | refine G_build ?_ | refine G_neq_agg ?_ | refine G_call ?_ | refine G_call0 ?_ | (refine G_box ?_; intro _) | refine G_skip ?_ | refine G_skip0 ?_)
    | (show spl _ _ _; first | refine spl_no rfl ?_ | refine spl_yes rfl ?_)
    | (show evC _ _ _ _ _; first | refine c_seq ?_ | refine c_region (by exact rfl) ?_ | refine c_cond (by exact rfl) ?_ | refine c_ret ?_ | refine c_skip ?_ | refine c_block ?_ | refine c_exit ?_ | (show evC _ (.region 2 _ true) _ _ _; refine c_draw (l := [(1, 1), (2, 1), (3, 1), (4, 1), (5, 1), (6, 1), (0, 6), (7, 0), (8, 1), (9, 0)]) (by decide +kernel) (by decide +kernel) (by exact rfl) ?_) | (show evC _ (.region 17 _ true) _ _ _; refine c_draw (l := [(0, 0), (1, 0), (2, 0), (3, 0), (4, 0), (5, 0), (6, 1), (7, 0), (8, 0), (9, 0), (10, 0), (11, 0)]) (by decide +kernel) (by decide +kernel) (by exact rfl) ?_) | refine std ?_)
    | (show Br _ _ _; first | refine Br.t rfl ?_ | refine Br.f rfl ?_ | refine brs ?_ | (first | refine Br.mkN (fun h => ?_) (fun h => ?_) | refine Br.mk (fun h => ?_) (fun h => ?_)) <;> (try (first | contradiction | (exfalso; omega) | (exfalso; simp at h; done))))
    | refine stp ?_
    | (show CallT _ 50 _ _ _; refine CA (h := picknew_ok (fun _ => ?_)))
    | (show CallT _ 51 _ _ _; refine CA (h := shakenew_ok (fun _ => ?_)))
    | (show CallT _ 52 _ _ _; refine CA (h := zfirst_ok ?_))
    | (show CallT _ 53 _ _ _; refine CA (h := drainnew_ok (fun _ => ?_)))
    | (show CallT _ 54 _ _ _; refine CA (h := qnew_ok (fun _ => ?_)))
    | (show CallT _ 55 _ _ _; refine CA (h := splitnew_ok (fun _ => ?_)))
    | (show CallT _ 56 _ _ _; refine CA (h := idsnew_ok hs (fun _ => ?_)))
    | (show CallT _ 57 _ _ _; refine CA (h := cmayR_ok he ?_)))
  all_goals (show retC _ _ _ _ _ _; refine RETC ?_; exact ret_done (hK))
set_option maxHeartbeats 40000000 in
theorem cnewC_ok (hs : side = 0 ∨ side = 1) (he : mayE w st it sb si stg = 0) (hb : ¬ ((0 ≤ ev ∧ ev ≤ 1048576) ∧ (0 ≤ wa ∧ wa ≤ 1048576))) (hst : 0 ≤ stl ∧ stl ≤ 1048576) (hK : K (.tuple #[.pointer none, .int .i64 3]) R) : CallT Tryz.prog 7 #[.int .i64 side, .agg #[.int .i64 w, .int .i64 st, .int .i64 it, .int .i64 sb, .int .i64 si, .int .i64 stg, .int .i64 ev, .int .i64 wa, .int .i64 stl]] R K := by
  refine callT_intro mixed Tryz.func7 rfl (by decide) (by decide +kernel) (by exact Nat.le_of_ble_eq_true rfl) ?_
  repeat' (first
    | (show evG _ _ _ _ _ _ _; first | refine G_pure0 ?_ | refine G_load ?_ | refine evG_nil ?_ | refine G_br ?_ ?_ | refine G_field ?_ | refine G_pure ?_ | refine G_store ?_ | refine G_loadV ?_ | refine G_loadV0 ?_ | refine G_loadV2 ?_ | refine G_build ?_ | refine G_neq_agg ?_ | refine G_call ?_ | refine G_call0 ?_ | (refine G_box ?_; intro _) | refine G_skip ?_ | refine G_skip0 ?_)
    | (show spl _ _ _; first | refine spl_no rfl ?_ | refine spl_yes rfl ?_)
    | (show evC _ _ _ _ _; first | refine c_seq ?_ | refine c_region (by exact rfl) ?_ | refine c_cond (by exact rfl) ?_ | refine c_ret ?_ | refine c_skip ?_ | refine c_block ?_ | refine c_exit ?_ | (show evC _ (.region 2 _ true) _ _ _; refine c_draw (l := [(1, 1), (2, 1), (3, 1), (4, 1), (5, 1), (6, 1), (0, 6), (7, 0), (8, 1), (9, 0)]) (by decide +kernel) (by decide +kernel) (by exact rfl) ?_) | (show evC _ (.region 17 _ true) _ _ _; refine c_draw (l := [(0, 0), (1, 0), (2, 0), (3, 0), (4, 0), (5, 0), (6, 1), (7, 0), (8, 0), (9, 0), (10, 0), (11, 0)]) (by decide +kernel) (by decide +kernel) (by exact rfl) ?_) | refine std ?_)
    | (show Br _ _ _; first | refine Br.t rfl ?_ | refine Br.f rfl ?_ | refine brs ?_ | (first | refine Br.mkN (fun h => ?_) (fun h => ?_) | refine Br.mk (fun h => ?_) (fun h => ?_)) <;> (try (first | contradiction | (exfalso; omega) | (exfalso; simp at h; done))))
    | refine stp ?_
    | (show CallT _ 50 _ _ _; refine CA (h := picknew_ok (fun _ => ?_)))
    | (show CallT _ 51 _ _ _; refine CA (h := shakenew_ok (fun _ => ?_)))
    | (show CallT _ 52 _ _ _; refine CA (h := zfirst_ok ?_))
    | (show CallT _ 53 _ _ _; refine CA (h := drainnew_ok (fun _ => ?_)))
    | (show CallT _ 54 _ _ _; refine CA (h := qnew_ok (fun _ => ?_)))
    | (show CallT _ 55 _ _ _; refine CA (h := splitnew_ok (fun _ => ?_)))
    | (show CallT _ 56 _ _ _; refine CA (h := idsnew_ok hs (fun _ => ?_)))
    | (show CallT _ 57 _ _ _; refine CA (h := cmayR_ok he ?_))
    | (show CallT _ 58 _ _ _; refine CA (h := beatnewX_ok hb ?_))
    | (show CallT _ 59 _ _ _; refine CA (h := stallnew_ok hst (fun _ => ?_))))
  all_goals (show retC _ _ _ _ _ _; refine RETC ?_; exact ret_done (hK))
set_option maxHeartbeats 40000000 in
theorem cnewD_ok (hs : side = 0 ∨ side = 1) (he : mayE w st it sb si stg = 0) (hb : ¬ ((0 ≤ ev ∧ ev ≤ 1048576) ∧ (0 ≤ wa ∧ wa ≤ 1048576))) (hst : stl < 0 ∨ 1048576 < stl) (hK : K (.tuple #[.pointer none, .int .i64 3]) R) : CallT Tryz.prog 7 #[.int .i64 side, .agg #[.int .i64 w, .int .i64 st, .int .i64 it, .int .i64 sb, .int .i64 si, .int .i64 stg, .int .i64 ev, .int .i64 wa, .int .i64 stl]] R K := by
  refine callT_intro mixed Tryz.func7 rfl (by decide) (by decide +kernel) (by exact Nat.le_of_ble_eq_true rfl) ?_
  repeat' (first
    | (show evG _ _ _ _ _ _ _; first | refine G_pure0 ?_ | refine G_load ?_ | refine evG_nil ?_ | refine G_br ?_ ?_ | refine G_field ?_ | refine G_pure ?_ | refine G_store ?_ | refine G_loadV ?_ | refine G_loadV0 ?_ | refine G_loadV2 ?_ | refine G_build ?_ | refine G_neq_agg ?_ | refine G_call ?_ | refine G_call0 ?_ | (refine G_box ?_; intro _) | refine G_skip ?_ | refine G_skip0 ?_)
    | (show spl _ _ _; first | refine spl_no rfl ?_ | refine spl_yes rfl ?_)
    | (show evC _ _ _ _ _; first | refine c_seq ?_ | refine c_region (by exact rfl) ?_ | refine c_cond (by exact rfl) ?_ | refine c_ret ?_ | refine c_skip ?_ | refine c_block ?_ | refine c_exit ?_ | (show evC _ (.region 2 _ true) _ _ _; refine c_draw (l := [(1, 1), (2, 1), (3, 1), (4, 1), (5, 1), (6, 1), (0, 6), (7, 0), (8, 1), (9, 0)]) (by decide +kernel) (by decide +kernel) (by exact rfl) ?_) | (show evC _ (.region 17 _ true) _ _ _; refine c_draw (l := [(0, 0), (1, 0), (2, 0), (3, 0), (4, 0), (5, 0), (6, 1), (7, 0), (8, 0), (9, 0), (10, 0), (11, 0)]) (by decide +kernel) (by decide +kernel) (by exact rfl) ?_) | refine std ?_)
    | (show Br _ _ _; first | refine Br.t rfl ?_ | refine Br.f rfl ?_ | refine brs ?_ | (first | refine Br.mkN (fun h => ?_) (fun h => ?_) | refine Br.mk (fun h => ?_) (fun h => ?_)) <;> (try (first | contradiction | (exfalso; omega) | (exfalso; simp at h; done))))
    | refine stp ?_
    | (show CallT _ 50 _ _ _; refine CA (h := picknew_ok (fun _ => ?_)))
    | (show CallT _ 51 _ _ _; refine CA (h := shakenew_ok (fun _ => ?_)))
    | (show CallT _ 52 _ _ _; refine CA (h := zfirst_ok ?_))
    | (show CallT _ 53 _ _ _; refine CA (h := drainnew_ok (fun _ => ?_)))
    | (show CallT _ 54 _ _ _; refine CA (h := qnew_ok (fun _ => ?_)))
    | (show CallT _ 55 _ _ _; refine CA (h := splitnew_ok (fun _ => ?_)))
    | (show CallT _ 56 _ _ _; refine CA (h := idsnew_ok hs (fun _ => ?_)))
    | (show CallT _ 57 _ _ _; refine CA (h := cmayR_ok he ?_))
    | (show CallT _ 58 _ _ _; refine CA (h := beatnewX_ok hb ?_))
    | (show CallT _ 59 _ _ _; refine CA (h := stallnewX_ok hst ?_)))
  all_goals (show retC _ _ _ _ _ _; refine RETC ?_; exact ret_done (hK))
set_option maxHeartbeats 40000000 in
theorem cnewE_ok (hs : side = 0 ∨ side = 1) (he : mayE w st it sb si stg = 0) (hb : (0 ≤ ev ∧ ev ≤ 1048576) ∧ (0 ≤ wa ∧ wa ≤ 1048576)) (hst : stl < 0 ∨ 1048576 < stl) (hK : K (.tuple #[.pointer none, .int .i64 3]) R) : CallT Tryz.prog 7 #[.int .i64 side, .agg #[.int .i64 w, .int .i64 st, .int .i64 it, .int .i64 sb, .int .i64 si, .int .i64 stg, .int .i64 ev, .int .i64 wa, .int .i64 stl]] R K := by
  refine callT_intro mixed Tryz.func7 rfl (by decide) (by decide +kernel) (by exact Nat.le_of_ble_eq_true rfl) ?_
  repeat' (first
    | (show evG _ _ _ _ _ _ _; first | refine G_pure0 ?_ | refine G_load ?_ | refine evG_nil ?_ | refine G_br ?_ ?_ | refine G_field ?_ | refine G_pure ?_ | refine G_store ?_ | refine G_loadV ?_ | refine G_loadV0 ?_ | refine G_loadV2 ?_ | refine G_build ?_ | refine G_neq_agg ?_ | refine G_call ?_ | refine G_call0 ?_ | (refine G_box ?_; intro _) | refine G_skip ?_ | refine G_skip0 ?_)
    | (show spl _ _ _; first | refine spl_no rfl ?_ | refine spl_yes rfl ?_)
    | (show evC _ _ _ _ _; first | refine c_seq ?_ | refine c_region (by exact rfl) ?_ | refine c_cond (by exact rfl) ?_ | refine c_ret ?_ | refine c_skip ?_ | refine c_block ?_ | refine c_exit ?_ | (show evC _ (.region 2 _ true) _ _ _; refine c_draw (l := [(1, 1), (2, 1), (3, 1), (4, 1), (5, 1), (6, 1), (0, 6), (7, 0), (8, 1), (9, 0)]) (by decide +kernel) (by decide +kernel) (by exact rfl) ?_) | (show evC _ (.region 17 _ true) _ _ _; refine c_draw (l := [(0, 0), (1, 0), (2, 0), (3, 0), (4, 0), (5, 0), (6, 1), (7, 0), (8, 0), (9, 0), (10, 0), (11, 0)]) (by decide +kernel) (by decide +kernel) (by exact rfl) ?_) | refine std ?_)
    | (show Br _ _ _; first | refine Br.t rfl ?_ | refine Br.f rfl ?_ | refine brs ?_ | (first | refine Br.mkN (fun h => ?_) (fun h => ?_) | refine Br.mk (fun h => ?_) (fun h => ?_)) <;> (try (first | contradiction | (exfalso; omega) | (exfalso; simp at h; done))))
    | refine stp ?_
    | (show CallT _ 50 _ _ _; refine CA (h := picknew_ok (fun _ => ?_)))
    | (show CallT _ 51 _ _ _; refine CA (h := shakenew_ok (fun _ => ?_)))
    | (show CallT _ 52 _ _ _; refine CA (h := zfirst_ok ?_))
    | (show CallT _ 53 _ _ _; refine CA (h := drainnew_ok (fun _ => ?_)))
    | (show CallT _ 54 _ _ _; refine CA (h := qnew_ok (fun _ => ?_)))
    | (show CallT _ 55 _ _ _; refine CA (h := splitnew_ok (fun _ => ?_)))
    | (show CallT _ 56 _ _ _; refine CA (h := idsnew_ok hs (fun _ => ?_)))
    | (show CallT _ 57 _ _ _; refine CA (h := cmayR_ok he ?_))
    | (show CallT _ 58 _ _ _; refine CA (h := beatnew_ok hb (fun _ => ?_)))
    | (show CallT _ 59 _ _ _; refine CA (h := stallnewX_ok hst ?_)))
  all_goals (show retC _ _ _ _ _ _; refine RETC ?_; exact ret_done (hK))
end Go.Proofs.YtndpgmigdgohiaaGreat

