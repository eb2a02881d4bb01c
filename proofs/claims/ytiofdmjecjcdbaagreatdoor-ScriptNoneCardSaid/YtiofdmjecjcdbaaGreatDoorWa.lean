/- Life: the states of a stream. Life: its events: lemmas; each with the conditions that it states. -/
import Derived.Test.YtiofdmjecjcdbaaGreatDoorFh
import Derived.Test.YtiofdmjecjcdbaaGreatDoorVz
import Derived.Test.YtiofdmjecjcdbaaGreatDoorFg

namespace Go.Proofs.YtiofdmjecjcdbaaGreatDoor
open Go Go.Proofs Go.Sl
set_option maxRecDepth 100000
set_option maxHeartbeats 4000000
set_option linter.unusedSimpArgs false
set_option linter.unusedVariables false
attribute [local irreducible] evG evC spl thenC inBlockC noGotoC CallT retC RetG TurnG CutG pt ro exP star sep pureP
variable {R C : List HP} {K : Value → List HP → Prop}
theorem lfollows_ok (hK : K (.agg #[.int .i64 1, .int .i64 1, .int .i64 (-1), .int .i64 (-1), .int .i64 (-1), .int .i64 (-1), .int .i64 (-1), .int .i64 (-1), .int .i64 2, .int .i64 3, .int .i64 4, .int .i64 4, .int .i64 (-1), .int .i64 (-1), .int .i64 (-1), .int .i64 4, .int .i64 4, .int .i64 4, .int .i64 (-1), .int .i64 (-1), .int .i64 4, .int .i64 (-1), .int .i64 4, .int .i64 4, .int .i64 (-1), .int .i64 (-1), .int .i64 (-1), .int .i64 (-1), .int .i64 (-1), .int .i64 (-1)]) R) : CallT Tryz.prog 381 #[] R K := by
  refine callT_intro mixed Tryz.func381 rfl (by decide) (by decide +kernel) (by exact Nat.le_of_ble_eq_true rfl) ?_
  repeat' (first
    | (show evG _ _ _ _ _ _ _; first | refine G_pure0 ?_ | refine evG_nil ?_ | refine G_br ?_ ?_ | refine G_pure ?_ | refine G_store ?_ | refine G_build ?_ | (refine G_alloc ?_; intro _))
    | (show spl _ _ _; first | refine spl_no rfl ?_ | refine spl_yes rfl ?_)
    | (show evC _ _ _ _ _; first | refine c_seq ?_ | refine c_region (by exact rfl) ?_ | refine c_cond (by exact rfl) ?_ | refine c_ret ?_ | refine c_skip ?_ | refine c_block ?_ | refine c_exit ?_ | refine std ?_)
    | (show Br _ _ _; first | refine Br.t rfl ?_ | refine Br.f rfl ?_ | refine brs ?_ | (first | refine Br.mkN (fun h => ?_) (fun h => ?_) | refine Br.mk (fun h => ?_) (fun h => ?_)) <;> (try (first | contradiction | (exfalso; omega) | (exfalso; simp at h; done))))
    | refine stp ?_)
  (show retC _ _ _ _ _ _; refine RETC ?_; exact ret_done (hK))
def lifeT (s e : Int) : Int := ([1, 1, -1, -1, -1, -1, -1, -1, 2, 3, 4, 4, -1, -1, -1, 4, 4, 4, -1, -1, 4, -1, 4, 4, -1, -1, -1, -1, -1, -1] : List Int).getD (s.toNat * 6 + e.toNat) (-1)
theorem lnext1_ok {r2 r3 : Nat} {s e : Int} (hs : s = 0 ∨ s = 1 ∨ s = 2 ∨ s = 3 ∨ s = 4) (he : e = 0 ∨ e = 1 ∨ e = 2 ∨ e = 3 ∨ e = 4 ∨ e = 5) (hK : K (.int .i64 (lifeT s e)) (pt r2 [.int .i64 s] 3 :: pt r3 [.int .i64 e] 3 :: R)) : CallT Tryz.prog 380 #[.pointer (some ⟨r2, 0, none⟩), .pointer (some ⟨r3, 0, none⟩)] (pt r2 [.int .i64 s] 3 :: pt r3 [.int .i64 e] 3 :: R) K := by
  rcases hs with rfl | rfl | rfl | rfl | rfl <;> rcases he with rfl | rfl | rfl | rfl | rfl | rfl
  all_goals
    refine callT_intro mixed Tryz.func380 rfl (by decide) (by decide +kernel) (by exact Nat.le_of_ble_eq_true rfl) ?_
    repeat' (first
      | (show evG _ _ _ _ _ _ _; first | refine G_pure0 ?_ | refine G_load ?_ | refine evG_nil ?_ | refine G_br ?_ ?_ | refine G_pure ?_ | refine G_loadV ?_ | refine G_loadV0 ?_ | refine G_loadV2 ?_ | refine G_indexS ?_ | refine G_call ?_ | refine G_call0 ?_)
      | (show spl _ _ _; first | refine spl_no rfl ?_ | refine spl_yes rfl ?_)
      | (show evC _ _ _ _ _; first | refine c_seq ?_ | refine c_region (by exact rfl) ?_ | refine c_cond (by exact rfl) ?_ | refine c_ret ?_ | refine c_skip ?_ | refine c_block ?_ | refine c_exit ?_ | (show evC _ (.region 1 _ true) _ _ _; refine c_draw (l := [(0, 1), (1, 1), (2, 0), (3, 1), (4, 0), (5, 0)]) (by decide +kernel) (by decide +kernel) (by exact rfl) ?_) | refine std ?_)
      | (show Br _ _ _; first | refine Br.t rfl ?_ | refine Br.f rfl ?_ | refine brs ?_ | (first | refine Br.mkN (fun h => ?_) (fun h => ?_) | refine Br.mk (fun h => ?_) (fun h => ?_)) <;> (try (first | contradiction | (exfalso; omega) | (exfalso; simp at h; done))))
      | refine stp ?_
      | (show CallT _ 381 _ _ _; refine CA (h := lfollows_ok ?_))
      | (show evG _ _ _ _ _ _ _; refine G_indexArr ?_))
    (show retC _ _ _ _ _ _; refine RETC ?_; exact ret_done (hK))
end Go.Proofs.YtiofdmjecjcdbaaGreatDoor


namespace Go.Proofs.YtiofdmjecjcdbaaGreatDoor
open Go Go.Proofs Go.Sl
set_option maxRecDepth 100000
set_option maxHeartbeats 4000000
set_option linter.unusedSimpArgs false
set_option linter.unusedVariables false
attribute [local irreducible] evG evC spl thenC inBlockC noGotoC CallT retC RetG TurnG CutG pt ro exP star sep pureP
variable {R C : List HP} {K : Value → List HP → Prop}
theorem lnext_ok {s e : Int} (hs : 0 ≤ s ∧ s ≤ 4) (he : 0 ≤ e ∧ e ≤ 5) (hv : lifeT s e ≠ -1) (hK : K (.tuple #[.int .i64 (lifeT s e), .int .i64 0]) R) : CallT Tryz.prog 304 #[.int .i64 s, .int .i64 e] R K := by
  refine callT_intro mixed Tryz.func304 rfl (by decide) (by decide +kernel) (by exact Nat.le_of_ble_eq_true rfl) ?_
  repeat' (first
    | (show evG _ _ _ _ _ _ _; first | refine G_pure0 ?_ | refine G_load ?_ | refine evG_nil ?_ | refine G_br ?_ ?_ | refine G_pure ?_ | refine G_loadV ?_ | refine G_loadV0 ?_ | refine G_loadV2 ?_ | refine G_eql_agg ?_ | refine G_callv ?_ | refine G_callv0 ?_ | (refine G_box ?_; intro _) | refine G_skip ?_ | refine G_skip0 ?_)
    | (show spl _ _ _; first | refine spl_no rfl ?_ | refine spl_yes rfl ?_)
    | (show evC _ _ _ _ _; first | refine c_seq ?_ | refine c_region (by exact rfl) ?_ | refine c_cond (by exact rfl) ?_ | refine c_ret ?_ | refine c_skip ?_ | refine c_block ?_ | refine c_exit ?_ | refine std ?_)
    | (show Br _ _ _; first | refine Br.t rfl ?_ | refine Br.f rfl ?_ | refine brs ?_ | (first | refine Br.mkN (fun h => ?_) (fun h => ?_) | refine Br.mk (fun h => ?_) (fun h => ?_)) <;> (try (first | contradiction | (exfalso; omega) | (exfalso; simp at h; done))))
    | refine stp ?_
    | (show CallT _ 380 _ _ _; refine CA (h := lnext1_ok (by omega) (by omega) ?_)))
  all_goals (show retC _ _ _ _ _ _; refine RETC ?_; exact ret_done (hK))
def liP (p : Nat) (s : Int) : HP := pt p [.int .i64 s] 387
theorem lnew_ok (hK : ∀ p, K (.pointer (some ⟨p, 0, none⟩)) (liP p 0 :: R)) : CallT Tryz.prog 222 #[] R K := by
  refine callT_intro mixed Tryz.func222 rfl (by decide) (by decide +kernel) (by exact Nat.le_of_ble_eq_true rfl) ?_
  repeat' (first
    | (show evG _ _ _ _ _ _ _; first | refine G_pure0 ?_ | refine evG_nil ?_ | refine G_br ?_ ?_ | refine G_pure ?_ | refine G_build ?_ | (refine G_box ?_; intro _))
    | (show spl _ _ _; first | refine spl_no rfl ?_ | refine spl_yes rfl ?_)
    | (show evC _ _ _ _ _; first | refine c_seq ?_ | refine c_region (by exact rfl) ?_ | refine c_cond (by exact rfl) ?_ | refine c_ret ?_ | refine c_skip ?_ | refine c_block ?_ | refine c_exit ?_ | refine std ?_)
    | (show Br _ _ _; first | refine Br.t rfl ?_ | refine Br.f rfl ?_ | refine brs ?_ | (first | refine Br.mkN (fun h => ?_) (fun h => ?_) | refine Br.mk (fun h => ?_) (fun h => ?_)) <;> (try (first | contradiction | (exfalso; omega) | (exfalso; simp at h; done))))
    | refine stp ?_)
  (show retC _ _ _ _ _ _; refine RETC ?_; exact ret_done (hK _))
section
variable {p : Nat} {s e v : Int}
theorem levent_ok (hs : 0 ≤ s ∧ s ≤ 4) (he : 0 ≤ e ∧ e ≤ 5) (hv : lifeT s e = v) (h1 : v ≠ -1) (hK : K (.int .i64 0) (liP p v :: R)) : CallT Tryz.prog 223 #[.pointer (some ⟨p, 0, none⟩), .int .i64 e] (liP p s :: R) K := by
  subst hv
  unfold liP at *
  refine callT_intro mixed Tryz.func223 rfl (by decide) (by decide +kernel) (by exact Nat.le_of_ble_eq_true rfl) ?_
  repeat' (first
    | (show evG _ _ _ _ _ _ _; first | refine G_pure0 ?_ | refine G_load ?_ | refine evG_nil ?_ | refine G_br ?_ ?_ | refine G_field ?_ | refine G_pure ?_ | refine G_store ?_ | refine G_loadV ?_ | refine G_loadV0 ?_ | refine G_loadV2 ?_ | refine G_eql_agg ?_ | refine G_call ?_ | refine G_call0 ?_)
    | (show spl _ _ _; first | refine spl_no rfl ?_ | refine spl_yes rfl ?_)
    | (show evC _ _ _ _ _; first | refine c_seq ?_ | refine c_region (by exact rfl) ?_ | refine c_cond (by exact rfl) ?_ | refine c_ret ?_ | refine c_skip ?_ | refine c_block ?_ | refine c_exit ?_ | refine std ?_)
    | (show Br _ _ _; first | refine Br.t rfl ?_ | refine Br.f rfl ?_ | refine brs ?_ | (first | refine Br.mkN (fun h => ?_) (fun h => ?_) | refine Br.mk (fun h => ?_) (fun h => ?_)) <;> (try (first | contradiction | (exfalso; omega) | (exfalso; simp at h; done))))
    | refine stp ?_
    | (show CallT _ 304 _ _ _; refine CA (h := lnext_ok hs he h1 ?_)))
  (show retC _ _ _ _ _ _; refine RETC ?_; exact ret_done (hK))
end
end Go.Proofs.YtiofdmjecjcdbaaGreatDoor

