/- Conn: an endpoint is made that may be: lemmas; each with the conditions that it states. -/
import Derived.Test.YtndpgmigdgohiaaGreatFh
import Derived.Test.YtndpgmigdgohiaaGreatZ5

namespace Go.Proofs.YtndpgmigdgohiaaGreat
open Go Go.Proofs Go.Sl
set_option maxRecDepth 100000
set_option maxHeartbeats 4000000
set_option linter.unusedSimpArgs false
set_option linter.unusedVariables false
attribute [local irreducible] evG evC spl thenC inBlockC noGotoC CallT retC RetG TurnG CutG pt ro exP star sep pureP
attribute [local irreducible] mp mit
variable {R C : List HP} {K : Value → List HP → Prop}
variable {side w st it sb si stg ev wa stl : Int}
set_option maxHeartbeats 40000000 in
theorem cnewF_ok (hs : side = 0 ∨ side = 1) (he : mayE w st it sb si stg = 0) (hb : (0 ≤ ev ∧ ev ≤ 1048576) ∧ (0 ≤ wa ∧ wa ≤ 1048576)) (hst : 0 ≤ stl ∧ stl ≤ 1048576) (heq : w = 64 ∧ st = 8 ∧ it = 4) (hK : ∀ x, K (.tuple #[.pointer (some ⟨x, 0, none⟩), .int .i64 0]) R) : CallT Tryz.prog 7 #[.int .i64 side, .agg #[.int .i64 w, .int .i64 st, .int .i64 it, .int .i64 sb, .int .i64 si, .int .i64 stg, .int .i64 ev, .int .i64 wa, .int .i64 stl]] R K := by
  have hcs := (mayE_ok he).2.2.1
  refine callT_intro mixed Tryz.func7 rfl (by decide) (by decide +kernel) (by exact Nat.le_of_ble_eq_true rfl) ?_
  repeat' (first
    | (show evG _ _ _ _ _ _ _; first | refine G_pure0 ?_ | refine G_load ?_ | refine evG_nil ?_ | refine G_br ?_ ?_ | refine G_field ?_ | refine G_pure ?_ | refine G_store ?_ | refine G_loadV ?_ | refine G_loadV0 ?_ | refine G_loadV2 ?_ | refine G_build ?_ | refine G_neq_agg ?_ | refine G_call ?_ | refine G_call0 ?_ | (refine G_box ?_; intro _) | refine G_skip ?_ | refine G_skip0 ?_)
    | (show spl _ _ _; first | refine spl_no rfl ?_ | refine spl_yes rfl ?_)
    | (show evC _ _ _ _ _; first | refine c_seq ?_ | refine c_region (by exact rfl) ?_ | refine c_cond (by exact rfl) ?_ | refine c_ret ?_ | refine c_skip ?_ | refine c_block ?_ | refine c_exit ?_ | (show evC _ (.region 2 _ true) _ _ _; refine c_draw (l := [(1, 1), (2, 1), (3, 1), (4, 1), (5, 1), (6, 1), (0, 6), (7, 0), (8, 1), (9, 0)]) (by decide +kernel) (by decide +kernel) (by exact rfl) ?_) | (show evC _ (.region 17 _ true) _ _ _; refine c_draw (l := [(0, 0), (1, 0), (2, 0), (3, 0), (4, 0), (5, 0), (6, 1), (7, 0), (8, 0), (9, 0), (10, 0), (11, 0)]) (by decide +kernel) (by decide +kernel) (by exact rfl) ?_) | refine std ?_)
    | (show Br _ _ _; first | refine Br.t rfl ?_ | refine Br.f rfl ?_ | refine brs ?_ | (first | refine Br.mkN (fun h => ?_) (fun h => ?_) | refine Br.mk (fun h => ?_) (fun h => ?_)) <;> (try (first | contradiction | (exfalso; omega) | (exfalso; simp at h; done))))
    | refine stp ?_
    | (show CallT _ 50 _ _ _; refine CA (h := picknew_ok (fun _ => ?_)))
    | (show CallT _ 51 _ _ _; refine CA (h := shakenew_ok (fun _ => ?_)))
    | (show CallT _ 52 _ _ _; refine CA (h := zfirst_ok ?_))
    | (show CallT _ 53 _ _ _; refine CA (h := drainnew_ok (fun _ => ?_)))
    | (show CallT _ 54 _ _ _; refine CA (h := qnew_ok (fun _ => ?_)))
    | (show CallT _ 55 _ _ _; refine CA (h := splitnew_ok (fun _ => ?_)))
    | (show CallT _ 56 _ _ _; refine CA (h := idsnew_ok hs (fun _ => ?_)))
    | (show CallT _ 57 _ _ _; refine CA (h := cmayR_ok he ?_))
    | (show CallT _ 58 _ _ _; refine CA (h := beatnew_ok hb (fun _ => ?_)))
    | (show CallT _ 59 _ _ _; refine CA (h := stallnew_ok hst (fun _ => ?_)))
    | (show CallT _ 60 _ _ _; refine CA (h := tablenew_ok (fun _ => ?_)))
    | (show CallT _ 61 _ _ _; refine CA (h := treenew_ok (fun _ => ?_)))
    | (show CallT _ 62 _ _ _; refine CA (h := creditnew_ok (fun _ => ?_)))
    | (show CallT _ 63 _ _ _; refine CA (h := pacenewC_ok (fun _ => ?_)))
    | (show CallT _ 64 _ _ _; refine CA (h := ssendE_ok heq hcs ?_))
    | (show CallT _ 65 _ _ _; refine CA (h := qpushP_ok (f := ⟨5, 0, false, ⟨#[]⟩, 0, 0, 0, false, 0, 0, 0, none, 0, 0, []⟩) (xs := []) set_chkE (show (2 : Int) ≤ 5 by decide) (fun z hz => by cases hz) (show (0 : Nat) < 64 by decide) view_nil rfl (fun _ _ => ?_))))
  all_goals (show retC _ _ _ _ _ _; refine RETC ?_; exact ret_done (hK _))
set_option maxHeartbeats 40000000 in
theorem cnewG_ok (hs : side = 0 ∨ side = 1) (he : mayE w st it sb si stg = 0) (hb : (0 ≤ ev ∧ ev ≤ 1048576) ∧ (0 ≤ wa ∧ wa ≤ 1048576)) (hst : 0 ≤ stl ∧ stl ≤ 1048576) (heq : ¬ (w = 64 ∧ st = 8 ∧ it = 4)) (hK : ∀ x, K (.tuple #[.pointer (some ⟨x, 0, none⟩), .int .i64 0]) R) : CallT Tryz.prog 7 #[.int .i64 side, .agg #[.int .i64 w, .int .i64 st, .int .i64 it, .int .i64 sb, .int .i64 si, .int .i64 stg, .int .i64 ev, .int .i64 wa, .int .i64 stl]] R K := by
  have hcs := (mayE_ok he).2.2.1
  refine callT_intro mixed Tryz.func7 rfl (by decide) (by decide +kernel) (by exact Nat.le_of_ble_eq_true rfl) ?_
  repeat' (first
    | (show evG _ _ _ _ _ _ _; first | refine G_pure0 ?_ | refine G_load ?_ | refine evG_nil ?_ | refine G_br ?_ ?_ | refine G_field ?_ | refine G_pure ?_ | refine G_store ?_ | refine G_loadV ?_ | refine G_loadV0 ?_ | refine G_loadV2 ?_ | refine G_build ?_ | refine G_neq_agg ?_ | refine G_call ?_ | refine G_call0 ?_ | (refine G_box ?_; intro _) | refine G_skip ?_ | refine G_skip0 ?_)
    | (show spl _ _ _; first | refine spl_no rfl ?_ | refine spl_yes rfl ?_)
    | (show evC _ _ _ _ _; first | refine c_seq ?_ | refine c_region (by exact rfl) ?_ | refine c_cond (by exact rfl) ?_ | refine c_ret ?_ | refine c_skip ?_ | refine c_block ?_ | refine c_exit ?_ | (show evC _ (.region 2 _ true) _ _ _; refine c_draw (l := [(1, 1), (2, 1), (3, 1), (4, 1), (5, 1), (6, 1), (0, 6), (7, 0), (8, 1), (9, 0)]) (by decide +kernel) (by decide +kernel) (by exact rfl) ?_) | (show evC _ (.region 17 _ true) _ _ _; refine c_draw (l := [(0, 0), (1, 0), (2, 0), (3, 0), (4, 0), (5, 0), (6, 1), (7, 0), (8, 0), (9, 0), (10, 0), (11, 0)]) (by decide +kernel) (by decide +kernel) (by exact rfl) ?_) | refine std ?_)
    | (show Br _ _ _; first | refine Br.t rfl ?_ | refine Br.f rfl ?_ | refine brs ?_ | (first | refine Br.mkN (fun h => ?_) (fun h => ?_) | refine Br.mk (fun h => ?_) (fun h => ?_)) <;> (try (first | contradiction | (exfalso; omega) | (exfalso; simp at h; done))))
    | refine stp ?_
    | (show CallT _ 50 _ _ _; refine CA (h := picknew_ok (fun _ => ?_)))
    | (show CallT _ 51 _ _ _; refine CA (h := shakenew_ok (fun _ => ?_)))
    | (show CallT _ 52 _ _ _; refine CA (h := zfirst_ok ?_))
    | (show CallT _ 53 _ _ _; refine CA (h := drainnew_ok (fun _ => ?_)))
    | (show CallT _ 54 _ _ _; refine CA (h := qnew_ok (fun _ => ?_)))
    | (show CallT _ 55 _ _ _; refine CA (h := splitnew_ok (fun _ => ?_)))
    | (show CallT _ 56 _ _ _; refine CA (h := idsnew_ok hs (fun _ => ?_)))
    | (show CallT _ 57 _ _ _; refine CA (h := cmayR_ok he ?_))
    | (show CallT _ 58 _ _ _; refine CA (h := beatnew_ok hb (fun _ => ?_)))
    | (show CallT _ 59 _ _ _; refine CA (h := stallnew_ok hst (fun _ => ?_)))
    | (show CallT _ 60 _ _ _; refine CA (h := tablenew_ok (fun _ => ?_)))
    | (show CallT _ 61 _ _ _; refine CA (h := treenew_ok (fun _ => ?_)))
    | (show CallT _ 62 _ _ _; refine CA (h := creditnew_ok (fun _ => ?_)))
    | (show CallT _ 63 _ _ _; refine CA (h := pacenewC_ok (fun _ => ?_)))
    | (show CallT _ 64 _ _ _; refine CA (h := ssendN_ok heq hcs (fun _ _ => ?_)))
    | (show CallT _ 65 _ _ _; refine CA (h := qpushP_ok (f := ⟨5, 0, false, ⟨#[]⟩, 0, 0, 0, false, 0, 0, 0, _, _, _, dfL w st it⟩) (xs := []) (set_chk hcs) (show (2 : Int) ≤ 5 by decide) (fun z hz => by cases hz) (show (0 : Nat) < 64 by decide) (by exact viewA) rfl (fun _ _ => ?_))))
  all_goals (show retC _ _ _ _ _ _; refine RETC ?_; exact ret_done (hK _))
end Go.Proofs.YtndpgmigdgohiaaGreat

