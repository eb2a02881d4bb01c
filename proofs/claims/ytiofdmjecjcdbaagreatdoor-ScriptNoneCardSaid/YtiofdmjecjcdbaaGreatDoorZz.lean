/- Conn: an endpoint is made. Conn: an endpoint is made that may be. Conn: an endpoint is made: lemmas; each with the conditions that it states. -/
import Derived.Test.YtiofdmjecjcdbaaGreatDoorFh
import Derived.Test.YtiofdmjecjcdbaaGreatDoorZ4
import Derived.Test.YtiofdmjecjcdbaaGreatDoorB0
import Derived.Test.YtiofdmjecjcdbaaGreatDoorFg

namespace Go.Proofs.YtiofdmjecjcdbaaGreatDoor
open Go Go.Proofs Go.Sl
set_option maxRecDepth 100000
set_option maxHeartbeats 4000000
set_option linter.unusedSimpArgs false
set_option linter.unusedVariables false
attribute [local irreducible] evG evC spl thenC inBlockC noGotoC CallT retC RetG TurnG CutG pt ro exP star sep pureP
attribute [local irreducible] mp mit
variable {R C : List HP} {K : Value → List HP → Prop}
variable {side w st it sb si stg ev wa stl : Int}
theorem cmayR_ok {e : Int} (h : mayE w st it sb si stg = e) (hK : K (.int .i64 e) R) : CallT Tryz.prog 110 #[.agg #[.int .i64 w, .int .i64 st, .int .i64 it, .int .i64 sb, .int .i64 si, .int .i64 stg, .int .i64 ev, .int .i64 wa, .int .i64 stl]] R K := cmay_ok (by rw [h]; exact hK)
theorem mayE_ok (h : mayE w st it sb si stg = 0) : (0 ≤ si ∧ si ≤ 64) ∧ (0 ≤ stg ∧ stg ≤ 2) ∧ chkS w st it = true ∧ (0 ≤ sb ∧ sb ≤ 4096) := by
  unfold mayE at h
  by_cases h1 : 0 ≤ si ∧ si ≤ 64
  · rw [if_neg (fun q => q h1)] at h
    by_cases h2 : 0 ≤ stg ∧ stg ≤ 2
    · rw [if_neg (fun q => q h2)] at h
      cases h3 : chkS w st it
      · rw [if_pos h3] at h; cases h
      · rw [if_neg (by rw [h3]; decide)] at h
        by_cases h4 : 0 ≤ sb ∧ sb ≤ 4096
        · exact ⟨h1, h2, rfl, h4⟩
        · rw [if_pos h4] at h; cases h
    · rw [if_pos h2] at h; cases h
  · rw [if_pos h1] at h; cases h
theorem mayE_of (h1 : 0 ≤ si ∧ si ≤ 64) (h2 : 0 ≤ stg ∧ stg ≤ 2) (h3 : chkS w st it = true) (h4 : 0 ≤ sb ∧ sb ≤ 4096) : mayE w st it sb si stg = 0 := by
  unfold mayE
  rw [if_neg (fun q => q h1), if_neg (fun q => q h2), if_neg (by rw [h3]; decide), if_neg (fun q => q h4)]
set_option maxHeartbeats 40000000 in
theorem cnewB_ok {e : Int} (hs : side = 0 ∨ side = 1) (he : mayE w st it sb si stg = e) (he0 : e ≠ 0) (hK : K (.tuple #[.pointer none, .int .i64 e]) R) : CallT Tryz.prog 66 #[.int .i64 side, .agg #[.int .i64 w, .int .i64 st, .int .i64 it, .int .i64 sb, .int .i64 si, .int .i64 stg, .int .i64 ev, .int .i64 wa, .int .i64 stl]] R K := by
  refine callT_intro mixed Tryz.func66 rfl (by decide) (by decide +kernel) (by exact Nat.le_of_ble_eq_true rfl) ?_
  repeat' (first
    | (show evG _ _ _ _ _ _ _; first | refine G_pure0 ?_ | refine G_load ?_ | refine evG_nil ?_ | refine G_br ?_ ?_ | refine G_field ?_ | refine G_pure ?_ | refine G_store ?_ | refine G_loadV ?_ | refine G_loadV0 ?_ | refine G_loadV2 ?_ | refine G_build ?_ | refine G_neq_agg ?_ | refine G_call ?_ | refine G_call0 ?_ | (refine G_box ?_; intro _) | refine G_skip ?_ | refine G_skip0 ?_)
    | (show spl _ _ _; first | refine spl_no rfl ?_ | refine spl_yes rfl ?_)
    | (show evC _ _ _ _ _; first | refine c_seq ?_ | refine c_region (by exact rfl) ?_ | refine c_cond (by exact rfl) ?_ | refine c_ret ?_ | refine c_skip ?_ | refine c_block ?_ | refine c_exit ?_ | (show evC _ (.region 2 _ true) _ _ _; refine c_draw (l := [(1, 1), (2, 1), (3, 1), (4, 1), (5, 1), (6, 1), (0, 6), (7, 0), (8, 1), (9, 0)]) (by decide +kernel) (by decide +kernel) (by exact rfl) ?_) | (show evC _ (.region 17 _ true) _ _ _; refine c_draw (l := [(0, 0), (1, 0), (2, 0), (3, 0), (4, 0), (5, 0), (6, 1), (7, 0), (8, 0), (9, 0), (10, 0), (11, 0)]) (by decide +kernel) (by decide +kernel) (by exact rfl) ?_) | refine std ?_)
    | (show Br _ _ _; first | refine Br.t rfl ?_ | refine Br.f rfl ?_ | refine brs ?_ | (first | refine Br.mkN (fun h => ?_) (fun h => ?_) | refine Br.mk (fun h => ?_) (fun h => ?_)) <;> (try (first | contradiction | (exfalso; omega) | (exfalso; simp at h; done))))
    | refine stp ?_
    | (show CallT _ 103 _ _ _; refine CA (h := picknew_ok (fun _ => ?_)))
    | (show CallT _ 104 _ _ _; refine CA (h := shakenew_ok (fun _ => ?_)))
    | (show CallT _ 105 _ _ _; refine CA (h := zfirst_ok ?_))
    | (show CallT _ 106 _ _ _; refine CA (h := drainnew_ok (fun _ => ?_)))
    | (show CallT _ 107 _ _ _; refine CA (h := qnew_ok (fun _ => ?_)))
    | (show CallT _ 108 _ _ _; refine CA (h := splitnew_ok (fun _ => ?_)))
    | (show CallT _ 109 _ _ _; refine CA (h := idsnew_ok hs (fun _ => ?_)))
    | (show CallT _ 110 _ _ _; refine CA (h := cmayR_ok he ?_)))
  all_goals (show retC _ _ _ _ _ _; refine RETC ?_; exact ret_done (hK))
set_option maxHeartbeats 40000000 in
theorem cnewC_ok (hs : side = 0 ∨ side = 1) (he : mayE w st it sb si stg = 0) (hb : ¬ ((0 ≤ ev ∧ ev ≤ 1048576) ∧ (0 ≤ wa ∧ wa ≤ 1048576))) (hst : 0 ≤ stl ∧ stl ≤ 1048576) (hK : K (.tuple #[.pointer none, .int .i64 3]) R) : CallT Tryz.prog 66 #[.int .i64 side, .agg #[.int .i64 w, .int .i64 st, .int .i64 it, .int .i64 sb, .int .i64 si, .int .i64 stg, .int .i64 ev, .int .i64 wa, .int .i64 stl]] R K := by
  refine callT_intro mixed Tryz.func66 rfl (by decide) (by decide +kernel) (by exact Nat.le_of_ble_eq_true rfl) ?_
  repeat' (first
    | (show evG _ _ _ _ _ _ _; first | refine G_pure0 ?_ | refine G_load ?_ | refine evG_nil ?_ | refine G_br ?_ ?_ | refine G_field ?_ | refine G_pure ?_ | refine G_store ?_ | refine G_loadV ?_ | refine G_loadV0 ?_ | refine G_loadV2 ?_ | refine G_build ?_ | refine G_neq_agg ?_ | refine G_call ?_ | refine G_call0 ?_ | (refine G_box ?_; intro _) | refine G_skip ?_ | refine G_skip0 ?_)
    | (show spl _ _ _; first | refine spl_no rfl ?_ | refine spl_yes rfl ?_)
    | (show evC _ _ _ _ _; first | refine c_seq ?_ | refine c_region (by exact rfl) ?_ | refine c_cond (by exact rfl) ?_ | refine c_ret ?_ | refine c_skip ?_ | refine c_block ?_ | refine c_exit ?_ | (show evC _ (.region 2 _ true) _ _ _; refine c_draw (l := [(1, 1), (2, 1), (3, 1), (4, 1), (5, 1), (6, 1), (0, 6), (7, 0), (8, 1), (9, 0)]) (by decide +kernel) (by decide +kernel) (by exact rfl) ?_) | (show evC _ (.region 17 _ true) _ _ _; refine c_draw (l := [(0, 0), (1, 0), (2, 0), (3, 0), (4, 0), (5, 0), (6, 1), (7, 0), (8, 0), (9, 0), (10, 0), (11, 0)]) (by decide +kernel) (by decide +kernel) (by exact rfl) ?_) | refine std ?_)
    | (show Br _ _ _; first | refine Br.t rfl ?_ | refine Br.f rfl ?_ | refine brs ?_ | (first | refine Br.mkN (fun h => ?_) (fun h => ?_) | refine Br.mk (fun h => ?_) (fun h => ?_)) <;> (try (first | contradiction | (exfalso; omega) | (exfalso; simp at h; done))))
    | refine stp ?_
    | (show CallT _ 103 _ _ _; refine CA (h := picknew_ok (fun _ => ?_)))
    | (show CallT _ 104 _ _ _; refine CA (h := shakenew_ok (fun _ => ?_)))
    | (show CallT _ 105 _ _ _; refine CA (h := zfirst_ok ?_))
    | (show CallT _ 106 _ _ _; refine CA (h := drainnew_ok (fun _ => ?_)))
    | (show CallT _ 107 _ _ _; refine CA (h := qnew_ok (fun _ => ?_)))
    | (show CallT _ 108 _ _ _; refine CA (h := splitnew_ok (fun _ => ?_)))
    | (show CallT _ 109 _ _ _; refine CA (h := idsnew_ok hs (fun _ => ?_)))
    | (show CallT _ 110 _ _ _; refine CA (h := cmayR_ok he ?_))
    | (show CallT _ 111 _ _ _; refine CA (h := beatnewX_ok hb ?_))
    | (show CallT _ 112 _ _ _; refine CA (h := stallnew_ok hst (fun _ => ?_))))
  all_goals (show retC _ _ _ _ _ _; refine RETC ?_; exact ret_done (hK))
set_option maxHeartbeats 40000000 in
theorem cnewD_ok (hs : side = 0 ∨ side = 1) (he : mayE w st it sb si stg = 0) (hb : ¬ ((0 ≤ ev ∧ ev ≤ 1048576) ∧ (0 ≤ wa ∧ wa ≤ 1048576))) (hst : stl < 0 ∨ 1048576 < stl) (hK : K (.tuple #[.pointer none, .int .i64 3]) R) : CallT Tryz.prog 66 #[.int .i64 side, .agg #[.int .i64 w, .int .i64 st, .int .i64 it, .int .i64 sb, .int .i64 si, .int .i64 stg, .int .i64 ev, .int .i64 wa, .int .i64 stl]] R K := by
  refine callT_intro mixed Tryz.func66 rfl (by decide) (by decide +kernel) (by exact Nat.le_of_ble_eq_true rfl) ?_
  repeat' (first
    | (show evG _ _ _ _ _ _ _; first | refine G_pure0 ?_ | refine G_load ?_ | refine evG_nil ?_ | refine G_br ?_ ?_ | refine G_field ?_ | refine G_pure ?_ | refine G_store ?_ | refine G_loadV ?_ | refine G_loadV0 ?_ | refine G_loadV2 ?_ | refine G_build ?_ | refine G_neq_agg ?_ | refine G_call ?_ | refine G_call0 ?_ | (refine G_box ?_; intro _) | refine G_skip ?_ | refine G_skip0 ?_)
    | (show spl _ _ _; first | refine spl_no rfl ?_ | refine spl_yes rfl ?_)
    | (show evC _ _ _ _ _; first | refine c_seq ?_ | refine c_region (by exact rfl) ?_ | refine c_cond (by exact rfl) ?_ | refine c_ret ?_ | refine c_skip ?_ | refine c_block ?_ | refine c_exit ?_ | (show evC _ (.region 2 _ true) _ _ _; refine c_draw (l := [(1, 1), (2, 1), (3, 1), (4, 1), (5, 1), (6, 1), (0, 6), (7, 0), (8, 1), (9, 0)]) (by decide +kernel) (by decide +kernel) (by exact rfl) ?_) | (show evC _ (.region 17 _ true) _ _ _; refine c_draw (l := [(0, 0), (1, 0), (2, 0), (3, 0), (4, 0), (5, 0), (6, 1), (7, 0), (8, 0), (9, 0), (10, 0), (11, 0)]) (by decide +kernel) (by decide +kernel) (by exact rfl) ?_) | refine std ?_)
    | (show Br _ _ _; first | refine Br.t rfl ?_ | refine Br.f rfl ?_ | refine brs ?_ | (first | refine Br.mkN (fun h => ?_) (fun h => ?_) | refine Br.mk (fun h => ?_) (fun h => ?_)) <;> (try (first | contradiction | (exfalso; omega) | (exfalso; simp at h; done))))
    | refine stp ?_
    | (show CallT _ 103 _ _ _; refine CA (h := picknew_ok (fun _ => ?_)))
    | (show CallT _ 104 _ _ _; refine CA (h := shakenew_ok (fun _ => ?_)))
    | (show CallT _ 105 _ _ _; refine CA (h := zfirst_ok ?_))
    | (show CallT _ 106 _ _ _; refine CA (h := drainnew_ok (fun _ => ?_)))
    | (show CallT _ 107 _ _ _; refine CA (h := qnew_ok (fun _ => ?_)))
    | (show CallT _ 108 _ _ _; refine CA (h := splitnew_ok (fun _ => ?_)))
    | (show CallT _ 109 _ _ _; refine CA (h := idsnew_ok hs (fun _ => ?_)))
    | (show CallT _ 110 _ _ _; refine CA (h := cmayR_ok he ?_))
    | (show CallT _ 111 _ _ _; refine CA (h := beatnewX_ok hb ?_))
    | (show CallT _ 112 _ _ _; refine CA (h := stallnewX_ok hst ?_)))
  all_goals (show retC _ _ _ _ _ _; refine RETC ?_; exact ret_done (hK))
set_option maxHeartbeats 40000000 in
theorem cnewE_ok (hs : side = 0 ∨ side = 1) (he : mayE w st it sb si stg = 0) (hb : (0 ≤ ev ∧ ev ≤ 1048576) ∧ (0 ≤ wa ∧ wa ≤ 1048576)) (hst : stl < 0 ∨ 1048576 < stl) (hK : K (.tuple #[.pointer none, .int .i64 3]) R) : CallT Tryz.prog 66 #[.int .i64 side, .agg #[.int .i64 w, .int .i64 st, .int .i64 it, .int .i64 sb, .int .i64 si, .int .i64 stg, .int .i64 ev, .int .i64 wa, .int .i64 stl]] R K := by
  refine callT_intro mixed Tryz.func66 rfl (by decide) (by decide +kernel) (by exact Nat.le_of_ble_eq_true rfl) ?_
  repeat' (first
    | (show evG _ _ _ _ _ _ _; first | refine G_pure0 ?_ | refine G_load ?_ | refine evG_nil ?_ | refine G_br ?_ ?_ | refine G_field ?_ | refine G_pure ?_ | refine G_store ?_ | refine G_loadV ?_ | refine G_loadV0 ?_ | refine G_loadV2 ?_ | refine G_build ?_ | refine G_neq_agg ?_ | refine G_call ?_ | refine G_call0 ?_ | (refine G_box ?_; intro _) | refine G_skip ?_ | refine G_skip0 ?_)
    | (show spl _ _ _; first | refine spl_no rfl ?_ | refine spl_yes rfl ?_)
    | (show evC _ _ _ _ _; first | refine c_seq ?_ | refine c_region (by exact rfl) ?_ | refine c_cond (by exact rfl) ?_ | refine c_ret ?_ | refine c_skip ?_ | refine c_block ?_ | refine c_exit ?_ | (show evC _ (.region 2 _ true) _ _ _; refine c_draw (l := [(1, 1), (2, 1), (3, 1), (4, 1), (5, 1), (6, 1), (0, 6), (7, 0), (8, 1), (9, 0)]) (by decide +kernel) (by decide +kernel) (by exact rfl) ?_) | (show evC _ (.region 17 _ true) _ _ _; refine c_draw (l := [(0, 0), (1, 0), (2, 0), (3, 0), (4, 0), (5, 0), (6, 1), (7, 0), (8, 0), (9, 0), (10, 0), (11, 0)]) (by decide +kernel) (by decide +kernel) (by exact rfl) ?_) | refine std ?_)
    | (show Br _ _ _; first | refine Br.t rfl ?_ | refine Br.f rfl ?_ | refine brs ?_ | (first | refine Br.mkN (fun h => ?_) (fun h => ?_) | refine Br.mk (fun h => ?_) (fun h => ?_)) <;> (try (first | contradiction | (exfalso; omega) | (exfalso; simp at h; done))))
    | refine stp ?_
    | (show CallT _ 103 _ _ _; refine CA (h := picknew_ok (fun _ => ?_)))
    | (show CallT _ 104 _ _ _; refine CA (h := shakenew_ok (fun _ => ?_)))
    | (show CallT _ 105 _ _ _; refine CA (h := zfirst_ok ?_))
    | (show CallT _ 106 _ _ _; refine CA (h := drainnew_ok (fun _ => ?_)))
    | (show CallT _ 107 _ _ _; refine CA (h := qnew_ok (fun _ => ?_)))
    | (show CallT _ 108 _ _ _; refine CA (h := splitnew_ok (fun _ => ?_)))
    | (show CallT _ 109 _ _ _; refine CA (h := idsnew_ok hs (fun _ => ?_)))
    | (show CallT _ 110 _ _ _; refine CA (h := cmayR_ok he ?_))
    | (show CallT _ 111 _ _ _; refine CA (h := beatnew_ok hb (fun _ => ?_)))
    | (show CallT _ 112 _ _ _; refine CA (h := stallnewX_ok hst ?_)))
  all_goals (show retC _ _ _ _ _ _; refine RETC ?_; exact ret_done (hK))
end Go.Proofs.YtiofdmjecjcdbaaGreatDoor


namespace Go.Proofs.YtiofdmjecjcdbaaGreatDoor
open Go Go.Proofs Go.Sl
set_option maxRecDepth 100000
set_option maxHeartbeats 4000000
set_option linter.unusedSimpArgs false
set_option linter.unusedVariables false
attribute [local irreducible] evG evC spl thenC inBlockC noGotoC CallT retC RetG TurnG CutG pt ro exP star sep pureP
attribute [local irreducible] mp mit
variable {R C : List HP} {K : Value → List HP → Prop}
variable {side w st it sb si stg ev wa stl : Int}
set_option maxHeartbeats 40000000 in
theorem cnewF_ok (hs : side = 0 ∨ side = 1) (he : mayE w st it sb si stg = 0) (hb : (0 ≤ ev ∧ ev ≤ 1048576) ∧ (0 ≤ wa ∧ wa ≤ 1048576)) (hst : 0 ≤ stl ∧ stl ≤ 1048576) (heq : w = 64 ∧ st = 8 ∧ it = 4) (hK : ∀ x, K (.tuple #[.pointer (some ⟨x, 0, none⟩), .int .i64 0]) R) : CallT Tryz.prog 66 #[.int .i64 side, .agg #[.int .i64 w, .int .i64 st, .int .i64 it, .int .i64 sb, .int .i64 si, .int .i64 stg, .int .i64 ev, .int .i64 wa, .int .i64 stl]] R K := by
  have hcs := (mayE_ok he).2.2.1
  refine callT_intro mixed Tryz.func66 rfl (by decide) (by decide +kernel) (by exact Nat.le_of_ble_eq_true rfl) ?_
  repeat' (first
    | (show evG _ _ _ _ _ _ _; first | refine G_pure0 ?_ | refine G_load ?_ | refine evG_nil ?_ | refine G_br ?_ ?_ | refine G_field ?_ | refine G_pure ?_ | refine G_store ?_ | refine G_loadV ?_ | refine G_loadV0 ?_ | refine G_loadV2 ?_ | refine G_build ?_ | refine G_neq_agg ?_ | refine G_call ?_ | refine G_call0 ?_ | (refine G_box ?_; intro _) | refine G_skip ?_ | refine G_skip0 ?_)
    | (show spl _ _ _; first | refine spl_no rfl ?_ | refine spl_yes rfl ?_)
    | (show evC _ _ _ _ _; first | refine c_seq ?_ | refine c_region (by exact rfl) ?_ | refine c_cond (by exact rfl) ?_ | refine c_ret ?_ | refine c_skip ?_ | refine c_block ?_ | refine c_exit ?_ | (show evC _ (.region 2 _ true) _ _ _; refine c_draw (l := [(1, 1), (2, 1), (3, 1), (4, 1), (5, 1), (6, 1), (0, 6), (7, 0), (8, 1), (9, 0)]) (by decide +kernel) (by decide +kernel) (by exact rfl) ?_) | (show evC _ (.region 17 _ true) _ _ _; refine c_draw (l := [(0, 0), (1, 0), (2, 0), (3, 0), (4, 0), (5, 0), (6, 1), (7, 0), (8, 0), (9, 0), (10, 0), (11, 0)]) (by decide +kernel) (by decide +kernel) (by exact rfl) ?_) | refine std ?_)
    | (show Br _ _ _; first | refine Br.t rfl ?_ | refine Br.f rfl ?_ | refine brs ?_ | (first | refine Br.mkN (fun h => ?_) (fun h => ?_) | refine Br.mk (fun h => ?_) (fun h => ?_)) <;> (try (first | contradiction | (exfalso; omega) | (exfalso; simp at h; done))))
    | refine stp ?_
    | (show CallT _ 103 _ _ _; refine CA (h := picknew_ok (fun _ => ?_)))
    | (show CallT _ 104 _ _ _; refine CA (h := shakenew_ok (fun _ => ?_)))
    | (show CallT _ 105 _ _ _; refine CA (h := zfirst_ok ?_))
    | (show CallT _ 106 _ _ _; refine CA (h := drainnew_ok (fun _ => ?_)))
    | (show CallT _ 107 _ _ _; refine CA (h := qnew_ok (fun _ => ?_)))
    | (show CallT _ 108 _ _ _; refine CA (h := splitnew_ok (fun _ => ?_)))
    | (show CallT _ 109 _ _ _; refine CA (h := idsnew_ok hs (fun _ => ?_)))
    | (show CallT _ 110 _ _ _; refine CA (h := cmayR_ok he ?_))
    | (show CallT _ 111 _ _ _; refine CA (h := beatnew_ok hb (fun _ => ?_)))
    | (show CallT _ 112 _ _ _; refine CA (h := stallnew_ok hst (fun _ => ?_)))
    | (show CallT _ 113 _ _ _; refine CA (h := tablenew_ok (fun _ => ?_)))
    | (show CallT _ 114 _ _ _; refine CA (h := treenew_ok (fun _ => ?_)))
    | (show CallT _ 115 _ _ _; refine CA (h := creditnew_ok (fun _ => ?_)))
    | (show CallT _ 116 _ _ _; refine CA (h := pacenewC_ok (fun _ => ?_)))
    | (show CallT _ 117 _ _ _; refine CA (h := ssendE_ok heq hcs ?_))
    | (show CallT _ 118 _ _ _; refine CA (h := qpushP_ok (f := ⟨5, 0, false, ⟨#[]⟩, 0, 0, 0, false, 0, 0, 0, none, 0, 0, []⟩) (xs := []) set_chkE (show (2 : Int) ≤ 5 by decide) (fun z hz => by cases hz) (show (0 : Nat) < 64 by decide) view_nil rfl (fun _ _ => ?_))))
  all_goals (show retC _ _ _ _ _ _; refine RETC ?_; exact ret_done (hK _))
set_option maxHeartbeats 40000000 in
theorem cnewG_ok (hs : side = 0 ∨ side = 1) (he : mayE w st it sb si stg = 0) (hb : (0 ≤ ev ∧ ev ≤ 1048576) ∧ (0 ≤ wa ∧ wa ≤ 1048576)) (hst : 0 ≤ stl ∧ stl ≤ 1048576) (heq : ¬ (w = 64 ∧ st = 8 ∧ it = 4)) (hK : ∀ x, K (.tuple #[.pointer (some ⟨x, 0, none⟩), .int .i64 0]) R) : CallT Tryz.prog 66 #[.int .i64 side, .agg #[.int .i64 w, .int .i64 st, .int .i64 it, .int .i64 sb, .int .i64 si, .int .i64 stg, .int .i64 ev, .int .i64 wa, .int .i64 stl]] R K := by
  have hcs := (mayE_ok he).2.2.1
  refine callT_intro mixed Tryz.func66 rfl (by decide) (by decide +kernel) (by exact Nat.le_of_ble_eq_true rfl) ?_
  repeat' (first
    | (show evG _ _ _ _ _ _ _; first | refine G_pure0 ?_ | refine G_load ?_ | refine evG_nil ?_ | refine G_br ?_ ?_ | refine G_field ?_ | refine G_pure ?_ | refine G_store ?_ | refine G_loadV ?_ | refine G_loadV0 ?_ | refine G_loadV2 ?_ | refine G_build ?_ | refine G_neq_agg ?_ | refine G_call ?_ | refine G_call0 ?_ | (refine G_box ?_; intro _) | refine G_skip ?_ | refine G_skip0 ?_)
    | (show spl _ _ _; first | refine spl_no rfl ?_ | refine spl_yes rfl ?_)
    | (show evC _ _ _ _ _; first | refine c_seq ?_ | refine c_region (by exact rfl) ?_ | refine c_cond (by exact rfl) ?_ | refine c_ret ?_ | refine c_skip ?_ | refine c_block ?_ | refine c_exit ?_ | (show evC _ (.region 2 _ true) _ _ _; refine c_draw (l := [(1, 1), (2, 1), (3, 1), (4, 1), (5, 1), (6, 1), (0, 6), (7, 0), (8, 1), (9, 0)]) (by decide +kernel) (by decide +kernel) (by exact rfl) ?_) | (show evC _ (.region 17 _ true) _ _ _; refine c_draw (l := [(0, 0), (1, 0), (2, 0), (3, 0), (4, 0), (5, 0), (6, 1), (7, 0), (8, 0), (9, 0), (10, 0), (11, 0)]) (by decide +kernel) (by decide +kernel) (by exact rfl) ?_) | refine std ?_)
    | (show Br _ _ _; first | refine Br.t rfl ?_ | refine Br.f rfl ?_ | refine brs ?_ | (first | refine Br.mkN (fun h => ?_) (fun h => ?_) | refine Br.mk (fun h => ?_) (fun h => ?_)) <;> (try (first | contradiction | (exfalso; omega) | (exfalso; simp at h; done))))
    | refine stp ?_
    | (show CallT _ 103 _ _ _; refine CA (h := picknew_ok (fun _ => ?_)))
    | (show CallT _ 104 _ _ _; refine CA (h := shakenew_ok (fun _ => ?_)))
    | (show CallT _ 105 _ _ _; refine CA (h := zfirst_ok ?_))
    | (show CallT _ 106 _ _ _; refine CA (h := drainnew_ok (fun _ => ?_)))
    | (show CallT _ 107 _ _ _; refine CA (h := qnew_ok (fun _ => ?_)))
    | (show CallT _ 108 _ _ _; refine CA (h := splitnew_ok (fun _ => ?_)))
    | (show CallT _ 109 _ _ _; refine CA (h := idsnew_ok hs (fun _ => ?_)))
    | (show CallT _ 110 _ _ _; refine CA (h := cmayR_ok he ?_))
    | (show CallT _ 111 _ _ _; refine CA (h := beatnew_ok hb (fun _ => ?_)))
    | (show CallT _ 112 _ _ _; refine CA (h := stallnew_ok hst (fun _ => ?_)))
    | (show CallT _ 113 _ _ _; refine CA (h := tablenew_ok (fun _ => ?_)))
    | (show CallT _ 114 _ _ _; refine CA (h := treenew_ok (fun _ => ?_)))
    | (show CallT _ 115 _ _ _; refine CA (h := creditnew_ok (fun _ => ?_)))
    | (show CallT _ 116 _ _ _; refine CA (h := pacenewC_ok (fun _ => ?_)))
    | (show CallT _ 117 _ _ _; refine CA (h := ssendN_ok heq hcs (fun _ _ => ?_)))
    | (show CallT _ 118 _ _ _; refine CA (h := qpushP_ok (f := ⟨5, 0, false, ⟨#[]⟩, 0, 0, 0, false, 0, 0, 0, _, _, _, dfL w st it⟩) (xs := []) (set_chk hcs) (show (2 : Int) ≤ 5 by decide) (fun z hz => by cases hz) (show (0 : Nat) < 64 by decide) (by exact viewA) rfl (fun _ _ => ?_))))
  all_goals (show retC _ _ _ _ _ _; refine RETC ?_; exact ret_done (hK _))
end Go.Proofs.YtiofdmjecjcdbaaGreatDoor


namespace Go.Proofs.YtiofdmjecjcdbaaGreatDoor
open Go Go.Proofs Go.Sl
set_option maxRecDepth 100000
set_option maxHeartbeats 4000000
set_option linter.unusedSimpArgs false
set_option linter.unusedVariables false
attribute [local irreducible] evG evC spl thenC inBlockC noGotoC CallT retC RetG TurnG CutG pt ro exP star sep pureP
attribute [local irreducible] mp mit
variable {R C : List HP} {K : Value → List HP → Prop}
variable {side w st it sb si stg ev wa stl : Int}
/-- may there be an endpoint of it? -/
def cOK (side w st it sb si stg ev wa stl : Int) : Bool := decide (side = 0 ∨ side = 1) && chkS w st it && decide (0 ≤ sb ∧ sb ≤ 4096) && decide (0 ≤ si ∧ si ≤ 64) && decide (0 ≤ stg ∧ stg ≤ 2) && decide (0 ≤ ev ∧ ev ≤ 1048576) && decide (0 ≤ wa ∧ wa ≤ 1048576) && decide (0 ≤ stl ∧ stl ≤ 1048576)
theorem cOK_iff : cOK side w st it sb si stg ev wa stl = true ↔ (side = 0 ∨ side = 1) ∧ chkS w st it = true ∧ (0 ≤ sb ∧ sb ≤ 4096) ∧ (0 ≤ si ∧ si ≤ 64) ∧ (0 ≤ stg ∧ stg ≤ 2) ∧ (0 ≤ ev ∧ ev ≤ 1048576) ∧ (0 ≤ wa ∧ wa ≤ 1048576) ∧ (0 ≤ stl ∧ stl ≤ 1048576) := by
  unfold cOK
  simp only [Bool.and_eq_true, decide_eq_true_eq, and_assoc]
theorem cnewGood_ok (h : cOK side w st it sb si stg ev wa stl = true) (hK : ∀ x, K (.tuple #[.pointer (some ⟨x, 0, none⟩), .int .i64 0]) R) : CallT Tryz.prog 66 #[.int .i64 side, .agg #[.int .i64 w, .int .i64 st, .int .i64 it, .int .i64 sb, .int .i64 si, .int .i64 stg, .int .i64 ev, .int .i64 wa, .int .i64 stl]] R K := by
  obtain ⟨h1, h2, h3, h4, h5, h6, h7, h8⟩ := cOK_iff.1 h
  have he := mayE_of h4 h5 h2 h3
  by_cases heq : w = 64 ∧ st = 8 ∧ it = 4
  · exact cnewF_ok h1 he ⟨h6, h7⟩ h8 heq hK
  · exact cnewG_ok h1 he ⟨h6, h7⟩ h8 heq hK
end Go.Proofs.YtiofdmjecjcdbaaGreatDoor

