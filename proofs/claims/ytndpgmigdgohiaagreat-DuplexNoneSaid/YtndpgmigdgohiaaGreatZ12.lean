/- Duplex: the law DuplexNone: lemmas; each with the conditions that it states. -/
import Derived.Test.YtndpgmigdgohiaaGreatFh
import Derived.Test.YtndpgmigdgohiaaGreatZ11
import Derived.Test.YtndpgmigdgohiaaGreatE4
import Derived.Test.YtndpgmigdgohiaaGreatZ10

namespace Go.Proofs.YtndpgmigdgohiaaGreat
open Go Go.Proofs Go.Sl
set_option maxRecDepth 100000
set_option maxHeartbeats 4000000
set_option linter.unusedSimpArgs false
set_option linter.unusedVariables false
attribute [local irreducible] evG evC spl thenC inBlockC noGotoC CallT retC RetG TurnG CutG pt ro exP star sep pureP
attribute [local irreducible] mp mit
variable {R C : List HP} {K : Value → List HP → Prop}
variable {w st it sb si stg ev wa stl kd sd id n cd on ww xw xs xi : Int} {xx : Bool} {s : ByteArray}
theorem cE_cases : cE w st it sb si stg ev wa stl = 0 ∨ cE w st it sb si stg ev wa stl = 2 ∨ cE w st it sb si stg ev wa stl = 3 := by
  unfold cE
  rcases mayE_cases (w := w) (st := st) (it := it) (sb := sb) (si := si) (stg := stg) with h | h | h
  · rw [if_pos h]; split <;> simp
  · rw [if_neg (by rw [h]; decide), h]; simp
  · rw [if_neg (by rw [h]; decide), h]; simp
theorem cE_conf : cE 64 8 4 100 5 0 0 0 0 = 0 := by decide +kernel
theorem conf28_ok (hK : K (.agg #[.int .i64 64, .int .i64 8, .int .i64 4, .int .i64 100, .int .i64 5, .int .i64 0, .int .i64 0, .int .i64 0, .int .i64 0]) R) : CallT Tryz.prog 32 #[] R K := by
  refine callT_intro mixed Tryz.func32 rfl (by decide) (by decide +kernel) (by exact Nat.le_of_ble_eq_true rfl) ?_
  repeat' (first
    | (show evG _ _ _ _ _ _ _; first | refine G_pure0 ?_ | refine evG_nil ?_ | refine G_br ?_ ?_ | refine G_pure ?_ | refine G_store ?_ | refine G_build ?_ | (refine G_alloc ?_; intro _))
    | (show spl _ _ _; first | refine spl_no rfl ?_ | refine spl_yes rfl ?_)
    | (show evC _ _ _ _ _; first | refine c_seq ?_ | refine c_region (by exact rfl) ?_ | refine c_cond (by exact rfl) ?_ | refine c_ret ?_ | refine c_skip ?_ | refine c_block ?_ | refine c_exit ?_ | refine std ?_)
    | (show Br _ _ _; first | refine Br.t rfl ?_ | refine Br.f rfl ?_ | refine brs ?_ | (first | refine Br.mkN (fun h => ?_) (fun h => ?_) | refine Br.mk (fun h => ?_) (fun h => ?_)) <;> (try (first | contradiction | (exfalso; omega) | (exfalso; simp at h; done))))
    | refine stp ?_)
  all_goals (show retC _ _ _ _ _ _; refine RETC ?_; exact ret_done (hK))
theorem dtold_ok (hK : K (.agg #[.int .i64 1, .int .i64 0, .string ⟨#[]⟩, .bool false, .bool false]) R) : CallT Tryz.prog 112 #[.int .i64 1] R K := by
  refine callT_intro mixed Tryz.func112 rfl (by decide) (by decide +kernel) (by exact Nat.le_of_ble_eq_true rfl) ?_
  repeat' (first
    | (show evG _ _ _ _ _ _ _; first | refine G_pure0 ?_ | refine evG_nil ?_ | refine G_br ?_ ?_ | refine G_pure ?_ | refine G_store ?_ | refine G_build ?_ | (refine G_alloc ?_; intro _))
    | (show spl _ _ _; first | refine spl_no rfl ?_ | refine spl_yes rfl ?_)
    | (show evC _ _ _ _ _; first | refine c_seq ?_ | refine c_region (by exact rfl) ?_ | refine c_cond (by exact rfl) ?_ | refine c_ret ?_ | refine c_skip ?_ | refine c_block ?_ | refine c_exit ?_ | refine std ?_)
    | (show Br _ _ _; first | refine Br.t rfl ?_ | refine Br.f rfl ?_ | refine brs ?_ | (first | refine Br.mkN (fun h => ?_) (fun h => ?_) | refine Br.mk (fun h => ?_) (fun h => ?_)) <;> (try (first | contradiction | (exfalso; omega) | (exfalso; simp at h; done))))
    | refine stp ?_)
  all_goals (show retC _ _ _ _ _ _; refine RETC ?_; exact ret_done (hK))
theorem ddo0_ok (hK : K (.agg #[.int .i64 1, .int .i64 0, .string ⟨#[]⟩, .bool false, .bool false]) R) : CallT Tryz.prog 34 #[.pointer none, .agg #[.int .i64 kd, .int .i64 sd, .int .i64 id, .int .i64 n, .int .i64 cd, .string s, .int .i64 on, .int .i64 ww, .bool xx, .int .i64 xw, .int .i64 xs, .int .i64 xi]] R K := by
  refine callT_intro mixed Tryz.func34 rfl (by decide) (by decide +kernel) (by exact Nat.le_of_ble_eq_true rfl) ?_
  repeat' (first
    | (show evG _ _ _ _ _ _ _; first | refine G_pure0 ?_ | refine G_load ?_ | refine evG_nil ?_ | refine G_br ?_ ?_ | refine G_field ?_ | refine G_pure ?_ | refine G_store ?_ | refine G_loadV ?_ | refine G_loadV0 ?_ | refine G_loadV2 ?_ | refine G_not ?_ | refine G_index ?_ | refine G_indexA ?_ | refine G_build ?_ | refine G_eql_agg ?_ | refine G_neq_agg ?_ | refine G_call ?_ | refine G_call0 ?_ | refine G_callv ?_ | refine G_callv0 ?_ | (refine G_box ?_; intro _) | (refine G_alloc ?_; intro _) | (refine G_indexV ?_; intro _ _ hA; subst hA) | refine G_skip ?_ | refine G_skip0 ?_)
    | (show spl _ _ _; first | refine spl_no rfl ?_ | refine spl_yes rfl ?_)
    | (show evC _ _ _ _ _; first | refine c_seq ?_ | refine c_region (by exact rfl) ?_ | refine c_cond (by exact rfl) ?_ | refine c_ret ?_ | refine c_skip ?_ | refine c_block ?_ | refine c_exit ?_ | (show evC _ (.region 10 _ true) _ _ _; refine c_draw (l := [(7, 1), (0, 1), (1, 1), (2, 1), (3, 1), (4, 1), (5, 1), (6, 1), (8, 1)]) (by decide +kernel) (by decide +kernel) (by exact rfl) ?_) | (show evC _ (.region 11 _ true) _ _ _; refine c_draw (l := [(0, 0), (1, 0), (2, 0), (3, 0), (4, 0), (5, 0), (6, 0), (7, 0), (8, 0), (9, 1)]) (by decide +kernel) (by decide +kernel) (by exact rfl) ?_) | (show evC _ (.region 23 _ true) _ _ _; refine c_draw (l := [(0, 0), (1, 0), (2, 0), (3, 0), (4, 0), (5, 0), (6, 0), (7, 0), (8, 0), (9, 1), (10, 1), (11, 1)]) (by decide +kernel) (by decide +kernel) (by exact rfl) ?_) | refine std ?_)
    | (show Br _ _ _; first | refine Br.t rfl ?_ | refine Br.f rfl ?_ | refine brs ?_ | (first | refine Br.mkN (fun h => ?_) (fun h => ?_) | refine Br.mk (fun h => ?_) (fun h => ?_)) <;> (try (first | contradiction | (exfalso; omega) | (exfalso; simp at h; done))))
    | refine stp ?_
    | (show CallT _ 112 _ _ _; refine CA (h := dtold_ok ?_)))
  all_goals (show retC _ _ _ _ _ _; refine RETC ?_; exact ret_done (hK))
theorem dconn0_ok {i : Int} (hK : K (.pointer none) R) : CallT Tryz.prog 35 #[.pointer none, .int .i64 i] R K := by
  refine callT_intro mixed Tryz.func35 rfl (by decide) (by decide +kernel) (by exact Nat.le_of_ble_eq_true rfl) ?_
  repeat' (first
    | (show evG _ _ _ _ _ _ _; first | refine G_pure0 ?_ | refine G_load ?_ | refine evG_nil ?_ | refine G_br ?_ ?_ | refine G_field ?_ | refine G_pure ?_ | refine G_loadV ?_ | refine G_loadV0 ?_ | refine G_loadV2 ?_ | refine G_not ?_ | refine G_index ?_ | refine G_indexA ?_ | refine G_eql_agg ?_ | refine G_call ?_ | refine G_call0 ?_ | (refine G_indexV ?_; intro _ _ hA; subst hA) | refine G_skip ?_ | refine G_skip0 ?_)
    | (show spl _ _ _; first | refine spl_no rfl ?_ | refine spl_yes rfl ?_)
    | (show evC _ _ _ _ _; first | refine c_seq ?_ | refine c_region (by exact rfl) ?_ | refine c_cond (by exact rfl) ?_ | refine c_ret ?_ | refine c_skip ?_ | refine c_block ?_ | refine c_exit ?_ | refine std ?_)
    | (show Br _ _ _; first | refine Br.t rfl ?_ | refine Br.f rfl ?_ | refine brs ?_ | (first | refine Br.mkN (fun h => ?_) (fun h => ?_) | refine Br.mk (fun h => ?_) (fun h => ?_)) <;> (try (first | contradiction | (exfalso; omega) | (exfalso; simp at h; done))))
    | refine stp ?_)
  all_goals (show retC _ _ _ _ _ _; refine RETC ?_; exact ret_done (hK))
theorem dway0_ok {i : Int} (hK : K (.int .i64 0) R) : CallT Tryz.prog 36 #[.pointer none, .int .i64 i] R K := by
  refine callT_intro mixed Tryz.func36 rfl (by decide) (by decide +kernel) (by exact Nat.le_of_ble_eq_true rfl) ?_
  repeat' (first
    | (show evG _ _ _ _ _ _ _; first | refine G_pure0 ?_ | refine G_load ?_ | refine evG_nil ?_ | refine G_br ?_ ?_ | refine G_field ?_ | refine G_pure ?_ | refine G_loadV ?_ | refine G_loadV0 ?_ | refine G_loadV2 ?_ | refine G_not ?_ | refine G_index ?_ | refine G_indexA ?_ | refine G_eql_agg ?_ | refine G_call ?_ | refine G_call0 ?_ | (refine G_indexV ?_; intro _ _ hA; subst hA) | refine G_skip ?_ | refine G_skip0 ?_)
    | (show spl _ _ _; first | refine spl_no rfl ?_ | refine spl_yes rfl ?_)
    | (show evC _ _ _ _ _; first | refine c_seq ?_ | refine c_region (by exact rfl) ?_ | refine c_cond (by exact rfl) ?_ | refine c_ret ?_ | refine c_skip ?_ | refine c_block ?_ | refine c_exit ?_ | refine std ?_)
    | (show Br _ _ _; first | refine Br.t rfl ?_ | refine Br.f rfl ?_ | refine brs ?_ | (first | refine Br.mkN (fun h => ?_) (fun h => ?_) | refine Br.mk (fun h => ?_) (fun h => ?_)) <;> (try (first | contradiction | (exfalso; omega) | (exfalso; simp at h; done))))
    | refine stp ?_)
  all_goals (show retC _ _ _ _ _ _; refine RETC ?_; exact ret_done (hK))
theorem dmoves0_ok {i : Int} (hK : K (.slice none 0 0) R) : CallT Tryz.prog 37 #[.pointer none, .int .i64 i] R K := by
  refine callT_intro mixed Tryz.func37 rfl (by decide) (by decide +kernel) (by exact Nat.le_of_ble_eq_true rfl) ?_
  repeat' (first
    | (show evG _ _ _ _ _ _ _; first | refine G_pure0 ?_ | refine G_load ?_ | refine evG_nil ?_ | refine G_br ?_ ?_ | refine G_field ?_ | refine G_pure ?_ | refine G_loadV ?_ | refine G_loadV0 ?_ | refine G_loadV2 ?_ | refine G_not ?_ | refine G_index ?_ | refine G_indexA ?_ | refine G_eql_agg ?_ | refine G_call ?_ | refine G_call0 ?_ | (refine G_indexV ?_; intro _ _ hA; subst hA) | refine G_skip ?_ | refine G_skip0 ?_)
    | (show spl _ _ _; first | refine spl_no rfl ?_ | refine spl_yes rfl ?_)
    | (show evC _ _ _ _ _; first | refine c_seq ?_ | refine c_region (by exact rfl) ?_ | refine c_cond (by exact rfl) ?_ | refine c_ret ?_ | refine c_skip ?_ | refine c_block ?_ | refine c_exit ?_ | refine std ?_)
    | (show Br _ _ _; first | refine Br.t rfl ?_ | refine Br.f rfl ?_ | refine brs ?_ | (first | refine Br.mkN (fun h => ?_) (fun h => ?_) | refine Br.mk (fun h => ?_) (fun h => ?_)) <;> (try (first | contradiction | (exfalso; omega) | (exfalso; simp at h; done))))
    | refine stp ?_)
  all_goals (show retC _ _ _ _ _ _; refine RETC ?_; exact ret_done (hK))
set_option maxHeartbeats 40000000 in
theorem duplexNone_ok (hK : ∀ C, K (.bool true) C) : CallT Tryz.prog 4 #[.agg #[.int .i64 kd, .int .i64 sd, .int .i64 id, .int .i64 n, .int .i64 cd, .string s, .int .i64 on, .int .i64 ww, .bool xx, .int .i64 xw, .int .i64 xs, .int .i64 xi], .agg #[.int .i64 w, .int .i64 st, .int .i64 it, .int .i64 sb, .int .i64 si, .int .i64 stg, .int .i64 ev, .int .i64 wa, .int .i64 stl]] R K := by
  have h0 := cE_conf
  rcases cE_cases (w := w) (st := st) (it := it) (sb := sb) (si := si) (stg := stg) (ev := ev) (wa := wa) (stl := stl) with hc | hc | hc
  · refine callT_intro mixed Tryz.func4 rfl (by decide) (by decide +kernel) (by exact Nat.le_of_ble_eq_true rfl) ?_
    repeat' (first
      | (show evG _ _ _ _ _ _ _; first | refine G_pure0 ?_ | refine G_load ?_ | refine evG_nil ?_ | refine G_br ?_ ?_ | refine G_pure ?_ | refine G_loadV ?_ | refine G_loadV0 ?_ | refine G_loadV2 ?_ | refine G_build ?_ | refine G_eql_agg ?_ | refine G_neq_agg ?_ | refine G_call ?_ | refine G_call0 ?_ | (refine G_box ?_; intro _) | refine G_skip ?_ | refine G_skip0 ?_)
      | (show spl _ _ _; first | refine spl_no rfl ?_ | refine spl_yes rfl ?_)
      | (show evC _ _ _ _ _; first | refine c_seq ?_ | refine c_region (by exact rfl) ?_ | refine c_cond (by exact rfl) ?_ | refine c_ret ?_ | refine c_skip ?_ | refine c_block ?_ | refine c_exit ?_ | (show evC _ (.region 3 _ true) _ _ _; refine c_draw (l := [(1, 1), (0, 1), (2, 1), (3, 0), (4, 0), (5, 0), (6, 0), (7, 0)]) (by decide +kernel) (by decide +kernel) (by exact rfl) ?_) | (show evC _ (.region 4 _ true) _ _ _; refine c_draw (l := [(0, 1), (1, 1), (2, 1), (3, 0), (4, 0), (5, 0), (6, 0), (7, 0)]) (by decide +kernel) (by decide +kernel) (by exact rfl) ?_) | refine std ?_)
      | (show Br _ _ _; first | refine Br.t (by decide +kernel) ?_ | refine Br.f (by decide +kernel) ?_ | refine Br.t rfl ?_ | refine Br.f rfl ?_ | refine brs ?_ | (first | refine Br.mkN (fun h => ?_) (fun h => ?_) | refine Br.mk (fun h => ?_) (fun h => ?_)) <;> (try (first | contradiction | (exfalso; omega) | (exfalso; simp at h; done))))
      | refine stp ?_
      | (show CallT _ 7 _ _ _; refine CA (h := cnewO_ok (.inl rfl) hc (fun _ => ?_)))
      | (show CallT _ 31 _ _ _; refine CA (h := dnewC_ok hc h0 (fun _ => ?_)))
      | (show CallT _ 31 _ _ _; refine CA (h := dnewC_ok h0 hc (fun _ => ?_)))
      | (show CallT _ 32 _ _ _; refine CA (h := conf28_ok ?_))
      | (show CallT _ 33 _ _ _; refine CA (h := awake28_ok ?_))
      | (show CallT _ 34 _ _ _; refine CA (h := ddo0_ok ?_))
      | (show CallT _ 35 _ _ _; refine CA (h := dconn0_ok ?_))
      | (show CallT _ 36 _ _ _; refine CA (h := dway0_ok ?_))
      | (show CallT _ 37 _ _ _; refine CA (h := dmoves0_ok ?_)))
    all_goals (show retC _ _ _ _ _ _; refine RETC ?_; exact ret_done (hK _))
  · refine callT_intro mixed Tryz.func4 rfl (by decide) (by decide +kernel) (by exact Nat.le_of_ble_eq_true rfl) ?_
    repeat' (first
      | (show evG _ _ _ _ _ _ _; first | refine G_pure0 ?_ | refine G_load ?_ | refine evG_nil ?_ | refine G_br ?_ ?_ | refine G_pure ?_ | refine G_loadV ?_ | refine G_loadV0 ?_ | refine G_loadV2 ?_ | refine G_build ?_ | refine G_eql_agg ?_ | refine G_neq_agg ?_ | refine G_call ?_ | refine G_call0 ?_ | (refine G_box ?_; intro _) | refine G_skip ?_ | refine G_skip0 ?_)
      | (show spl _ _ _; first | refine spl_no rfl ?_ | refine spl_yes rfl ?_)
      | (show evC _ _ _ _ _; first | refine c_seq ?_ | refine c_region (by exact rfl) ?_ | refine c_cond (by exact rfl) ?_ | refine c_ret ?_ | refine c_skip ?_ | refine c_block ?_ | refine c_exit ?_ | (show evC _ (.region 3 _ true) _ _ _; refine c_draw (l := [(1, 1), (0, 1), (2, 1), (3, 0), (4, 0), (5, 0), (6, 0), (7, 0)]) (by decide +kernel) (by decide +kernel) (by exact rfl) ?_) | (show evC _ (.region 4 _ true) _ _ _; refine c_draw (l := [(0, 1), (1, 1), (2, 1), (3, 0), (4, 0), (5, 0), (6, 0), (7, 0)]) (by decide +kernel) (by decide +kernel) (by exact rfl) ?_) | refine std ?_)
      | (show Br _ _ _; first | refine Br.t (by decide +kernel) ?_ | refine Br.f (by decide +kernel) ?_ | refine Br.t rfl ?_ | refine Br.f rfl ?_ | refine brs ?_ | (first | refine Br.mkN (fun h => ?_) (fun h => ?_) | refine Br.mk (fun h => ?_) (fun h => ?_)) <;> (try (first | contradiction | (exfalso; omega) | (exfalso; simp at h; done))))
      | refine stp ?_
      | (show CallT _ 7 _ _ _; refine CA (h := cnewE1_ok (.inl rfl) hc (by decide) ?_))
      | (show CallT _ 31 _ _ _; refine CA (h := dnewA_ok hc (by decide) ?_))
      | (show CallT _ 31 _ _ _; refine CA (h := dnewB_ok h0 hc (by decide) ?_))
      | (show CallT _ 32 _ _ _; refine CA (h := conf28_ok ?_))
      | (show CallT _ 33 _ _ _; refine CA (h := awake28_ok ?_))
      | (show CallT _ 34 _ _ _; refine CA (h := ddo0_ok ?_))
      | (show CallT _ 35 _ _ _; refine CA (h := dconn0_ok ?_))
      | (show CallT _ 36 _ _ _; refine CA (h := dway0_ok ?_))
      | (show CallT _ 37 _ _ _; refine CA (h := dmoves0_ok ?_)))
    all_goals (show retC _ _ _ _ _ _; refine RETC ?_; exact ret_done (hK _))
  · refine callT_intro mixed Tryz.func4 rfl (by decide) (by decide +kernel) (by exact Nat.le_of_ble_eq_true rfl) ?_
    repeat' (first
      | (show evG _ _ _ _ _ _ _; first | refine G_pure0 ?_ | refine G_load ?_ | refine evG_nil ?_ | refine G_br ?_ ?_ | refine G_pure ?_ | refine G_loadV ?_ | refine G_loadV0 ?_ | refine G_loadV2 ?_ | refine G_build ?_ | refine G_eql_agg ?_ | refine G_neq_agg ?_ | refine G_call ?_ | refine G_call0 ?_ | (refine G_box ?_; intro _) | refine G_skip ?_ | refine G_skip0 ?_)
      | (show spl _ _ _; first | refine spl_no rfl ?_ | refine spl_yes rfl ?_)
      | (show evC _ _ _ _ _; first | refine c_seq ?_ | refine c_region (by exact rfl) ?_ | refine c_cond (by exact rfl) ?_ | refine c_ret ?_ | refine c_skip ?_ | refine c_block ?_ | refine c_exit ?_ | (show evC _ (.region 3 _ true) _ _ _; refine c_draw (l := [(1, 1), (0, 1), (2, 1), (3, 0), (4, 0), (5, 0), (6, 0), (7, 0)]) (by decide +kernel) (by decide +kernel) (by exact rfl) ?_) | (show evC _ (.region 4 _ true) _ _ _; refine c_draw (l := [(0, 1), (1, 1), (2, 1), (3, 0), (4, 0), (5, 0), (6, 0), (7, 0)]) (by decide +kernel) (by decide +kernel) (by exact rfl) ?_) | refine std ?_)
      | (show Br _ _ _; first | refine Br.t (by decide +kernel) ?_ | refine Br.f (by decide +kernel) ?_ | refine Br.t rfl ?_ | refine Br.f rfl ?_ | refine brs ?_ | (first | refine Br.mkN (fun h => ?_) (fun h => ?_) | refine Br.mk (fun h => ?_) (fun h => ?_)) <;> (try (first | contradiction | (exfalso; omega) | (exfalso; simp at h; done))))
      | refine stp ?_
      | (show CallT _ 7 _ _ _; refine CA (h := cnewE1_ok (.inl rfl) hc (by decide) ?_))
      | (show CallT _ 31 _ _ _; refine CA (h := dnewA_ok hc (by decide) ?_))
      | (show CallT _ 31 _ _ _; refine CA (h := dnewB_ok h0 hc (by decide) ?_))
      | (show CallT _ 32 _ _ _; refine CA (h := conf28_ok ?_))
      | (show CallT _ 33 _ _ _; refine CA (h := awake28_ok ?_))
      | (show CallT _ 34 _ _ _; refine CA (h := ddo0_ok ?_))
      | (show CallT _ 35 _ _ _; refine CA (h := dconn0_ok ?_))
      | (show CallT _ 36 _ _ _; refine CA (h := dway0_ok ?_))
      | (show CallT _ 37 _ _ _; refine CA (h := dmoves0_ok ?_)))
    all_goals (show retC _ _ _ _ _ _; refine RETC ?_; exact ret_done (hK _))
theorem zgood_apiact {W : World} {n : Nat} {cs : List Value} (hg : Go.Sl.Good Tryz.prog W n 70 cs) : ∃ (kd sd id n cd : Int) (s : ByteArray) (on ww : Int) (xx : Bool) (xw xs xi : Int), cs = [.int .i64 kd, .int .i64 sd, .int .i64 id, .int .i64 n, .int .i64 cd, .string s, .int .i64 on, .int .i64 ww, .bool xx, .int .i64 xw, .int .i64 xs, .int .i64 xi] := by
  have hz : Tryz.prog.cellsOf 70 = 12 := by kernel_rfl
  have hz2 : Tryz.prog.cellsOf 23 = 3 := by kernel_rfl
  have hz3 : Tryz.prog.cellsOf 27 = 3 := by kernel_rfl
  obtain ⟨m2, k3, k4⟩ := good_struct Tryz.underlying70 hg
  obtain ⟨kd, r0, _⟩ := good_int Tryz.underlying3 (k4 0 _ rfl)
  obtain ⟨sd, r1, _⟩ := good_int Tryz.underlying3 (k4 1 _ rfl)
  obtain ⟨id, r2, _⟩ := good_int Tryz.underlying3 (k4 2 _ rfl)
  obtain ⟨n, r3, _⟩ := good_int Tryz.underlying3 (k4 3 _ rfl)
  obtain ⟨cd, r4, _⟩ := good_int Tryz.underlying3 (k4 4 _ rfl)
  obtain ⟨s, r5, _⟩ := good_string Tryz.underlying9 (k4 5 _ rfl)
  obtain ⟨m5, j5, j6⟩ := good_struct Tryz.underlying27 (k4 6 _ rfl)
  obtain ⟨on, q0, _⟩ := good_int Tryz.underlying3 (j6 0 _ rfl)
  obtain ⟨ww, q1, _⟩ := good_int Tryz.underlying3 (j6 1 _ rfl)
  obtain ⟨xx, q2⟩ := good_bool Tryz.underlying4 (j6 2 _ rfl)
  obtain ⟨m3, j3, j4⟩ := good_struct Tryz.underlying23 (k4 7 _ rfl)
  obtain ⟨xw, p0, _⟩ := good_int Tryz.underlying3 (j4 0 _ rfl)
  obtain ⟨xs, p1, _⟩ := good_int Tryz.underlying3 (j4 1 _ rfl)
  obtain ⟨xi, p2, _⟩ := good_int Tryz.underlying3 (j4 2 _ rfl)
  have go : ∀ (j : Nat) (v : Value), j + 1 ≤ 3 → List.take 1 (List.drop j (List.take (Tryz.prog.cellsOf 27) (List.drop 6 cs))) = [v] → (cs.drop (6 + j)).take 1 = [v] := fun j v hj h => by
    rw [hz3, zpart_in hj] at h; exact h
  have go2 : ∀ (j : Nat) (v : Value), j + 1 ≤ 3 → List.take 1 (List.drop j (List.take (Tryz.prog.cellsOf 23) (List.drop 9 cs))) = [v] → (cs.drop (9 + j)).take 1 = [v] := fun j v hj h => by
    rw [hz2, zpart_in hj] at h; exact h
  exact ⟨kd, sd, id, n, cd, s, on, ww, xx, xw, xs, xi, cells12 (k3.trans hz) r0 r1 r2 r3 r4 r5 (go 0 _ (by omega) q0) (go 1 _ (by omega) q1) (go 2 _ (by omega) q2) (go2 0 _ (by omega) p0) (go2 1 _ (by omega) p1) (go2 2 _ (by omega) p2)⟩
end Go.Proofs.YtndpgmigdgohiaaGreat

