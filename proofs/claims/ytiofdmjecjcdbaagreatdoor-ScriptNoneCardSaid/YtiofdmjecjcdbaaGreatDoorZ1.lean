/- Conn: its parts are made: lemmas; each with the conditions that it states. -/
import Derived.Test.YtiofdmjecjcdbaaGreatDoorFh
import Derived.Test.YtiofdmjecjcdbaaGreatDoorUz

namespace Go.Proofs.YtiofdmjecjcdbaaGreatDoor
open Go Go.Proofs Go.Sl
set_option maxRecDepth 100000
set_option maxHeartbeats 4000000
set_option linter.unusedSimpArgs false
set_option linter.unusedVariables false
attribute [local irreducible] evG evC spl thenC inBlockC noGotoC CallT retC RetG TurnG CutG pt ro exP star sep pureP
attribute [local irreducible] mp mit
variable {R C : List HP} {K : Value → List HP → Prop}
theorem idsnew_ok {s : Int} (h : s = 0 ∨ s = 1) (hK : ∀ p, K (.tuple #[.pointer (some ⟨p, 0, none⟩), .int .i64 0]) R) : CallT Tryz.prog 109 #[.int .i64 s] R K := by
  refine callT_intro mixed Tryz.func109 rfl (by decide) (by decide +kernel) (by exact Nat.le_of_ble_eq_true rfl) ?_
  repeat' (first
    | (show evG _ _ _ _ _ _ _; first | refine G_add64 ?_ | refine G_pure0 ?_ | refine evG_nil ?_ | refine G_br ?_ ?_ | refine G_pure ?_ | refine G_build ?_ | refine G_cat ?_ | refine G_neq_agg ?_ | (refine G_box ?_; intro _) | refine G_skip ?_ | refine G_skip0 ?_)
    | (show spl _ _ _; first | refine spl_no rfl ?_ | refine spl_yes rfl ?_)
    | (show evC _ _ _ _ _; first | refine c_seq ?_ | refine c_region (by exact rfl) ?_ | refine c_cond (by exact rfl) ?_ | refine c_ret ?_ | refine c_skip ?_ | refine c_block ?_ | refine c_exit ?_ | refine std ?_)
    | (show Br _ _ _; first | refine Br.t rfl ?_ | refine Br.f rfl ?_ | refine brs ?_ | (first | refine Br.mkN (fun h => ?_) (fun h => ?_) | refine Br.mk (fun h => ?_) (fun h => ?_)) <;> (try (first | contradiction | (exfalso; omega) | (exfalso; simp at h; done))))
    | refine stp ?_)
  all_goals first
    | (exfalso; omega)
    | (show retC _ _ _ _ _ _; refine RETC ?_; exact ret_done (hK _))
theorem stallnew_ok {s : Int} (h : 0 ≤ s ∧ s ≤ 1048576) (hK : ∀ p, K (.tuple #[.pointer (some ⟨p, 0, none⟩), .int .i64 0]) R) : CallT Tryz.prog 112 #[.int .i64 s] R K := by
  refine callT_intro mixed Tryz.func112 rfl (by decide) (by decide +kernel) (by exact Nat.le_of_ble_eq_true rfl) ?_
  repeat' (first
    | (show evG _ _ _ _ _ _ _; first | refine G_pure0 ?_ | refine evG_nil ?_ | refine G_br ?_ ?_ | refine G_pure ?_ | refine G_build ?_ | (refine G_box ?_; intro _) | refine G_skip ?_ | refine G_skip0 ?_)
    | (show spl _ _ _; first | refine spl_no rfl ?_ | refine spl_yes rfl ?_)
    | (show evC _ _ _ _ _; first | refine c_seq ?_ | refine c_region (by exact rfl) ?_ | refine c_cond (by exact rfl) ?_ | refine c_ret ?_ | refine c_skip ?_ | refine c_block ?_ | refine c_exit ?_ | refine std ?_)
    | (show Br _ _ _; first | refine Br.t rfl ?_ | refine Br.f rfl ?_ | refine brs ?_ | (first | refine Br.mkN (fun h => ?_) (fun h => ?_) | refine Br.mk (fun h => ?_) (fun h => ?_)) <;> (try (first | contradiction | (exfalso; omega) | (exfalso; simp at h; done))))
    | refine stp ?_)
  all_goals first
    | (exfalso; omega)
    | (show retC _ _ _ _ _ _; refine RETC ?_; exact ret_done (hK _))
theorem stallnewX_ok {s : Int} (h : s < 0 ∨ 1048576 < s) (hK : K (.tuple #[.pointer none, .int .i64 3]) R) : CallT Tryz.prog 112 #[.int .i64 s] R K := by
  refine callT_intro mixed Tryz.func112 rfl (by decide) (by decide +kernel) (by exact Nat.le_of_ble_eq_true rfl) ?_
  repeat' (first
    | (show evG _ _ _ _ _ _ _; first | refine G_pure0 ?_ | refine evG_nil ?_ | refine G_br ?_ ?_ | refine G_pure ?_ | refine G_build ?_ | (refine G_box ?_; intro _) | refine G_skip ?_ | refine G_skip0 ?_)
    | (show spl _ _ _; first | refine spl_no rfl ?_ | refine spl_yes rfl ?_)
    | (show evC _ _ _ _ _; first | refine c_seq ?_ | refine c_region (by exact rfl) ?_ | refine c_cond (by exact rfl) ?_ | refine c_ret ?_ | refine c_skip ?_ | refine c_block ?_ | refine c_exit ?_ | refine std ?_)
    | (show Br _ _ _; first | refine Br.t rfl ?_ | refine Br.f rfl ?_ | refine brs ?_ | (first | refine Br.mkN (fun h => ?_) (fun h => ?_) | refine Br.mk (fun h => ?_) (fun h => ?_)) <;> (try (first | contradiction | (exfalso; omega) | (exfalso; simp at h; done))))
    | refine stp ?_)
  all_goals first
    | (exfalso; omega)
    | (show retC _ _ _ _ _ _; refine RETC ?_; exact ret_done (hK))
theorem zbnew1_ok {n : Int} (hK : K (.bool (decide (0 ≤ n) && decide (n ≤ 1048576))) R) : CallT Tryz.prog 158 #[.int .i64 n] R K := by
  refine callT_intro mixed Tryz.func158 rfl (by decide) (by decide +kernel) (by exact Nat.le_of_ble_eq_true rfl) ?_
  repeat' (first
    | (show evG _ _ _ _ _ _ _; first | refine G_pure0 ?_ | refine evG_nil ?_ | refine G_br ?_ ?_ | refine G_pure ?_ | refine G_skip ?_ | refine G_skip0 ?_)
    | (show spl _ _ _; first | refine spl_no rfl ?_ | refine spl_yes rfl ?_)
    | (show evC _ _ _ _ _; first | refine c_seq ?_ | refine c_region (by exact rfl) ?_ | refine c_cond (by exact rfl) ?_ | refine c_ret ?_ | refine c_skip ?_ | refine c_block ?_ | refine c_exit ?_ | refine std ?_)
    | (show Br _ _ _; first | refine Br.t rfl ?_ | refine Br.f rfl ?_ | refine brs ?_ | (first | refine Br.mkN (fun h => ?_) (fun h => ?_) | refine Br.mk (fun h => ?_) (fun h => ?_)) <;> (try (first | contradiction | (exfalso; omega) | (exfalso; simp at h; done))))
    | refine stp ?_)
  all_goals (show retC _ _ _ _ _ _; refine RETC ?_; exact ret_done (kb hK (by simp <;> omega)))
theorem beatnew_ok {e w : Int} (h : (0 ≤ e ∧ e ≤ 1048576) ∧ (0 ≤ w ∧ w ≤ 1048576)) (hK : ∀ p, K (.tuple #[.pointer (some ⟨p, 0, none⟩), .int .i64 0]) R) : CallT Tryz.prog 111 #[.int .i64 e, .int .i64 w] R K := by
  have h1 : (decide (0 ≤ e) && decide (e ≤ 1048576)) = true := by simp [h]
  have h2 : (decide (0 ≤ w) && decide (w ≤ 1048576)) = true := by simp [h]
  refine callT_intro mixed Tryz.func111 rfl (by decide) (by decide +kernel) (by exact Nat.le_of_ble_eq_true rfl) ?_
  repeat' (first
    | (show evG _ _ _ _ _ _ _; first | refine G_pure0 ?_ | refine evG_nil ?_ | refine G_br ?_ ?_ | refine G_pure ?_ | refine G_not ?_ | refine G_build ?_ | refine G_callv ?_ | refine G_callv0 ?_ | (refine G_box ?_; intro _) | refine G_skip ?_ | refine G_skip0 ?_)
    | (show spl _ _ _; first | refine spl_no rfl ?_ | refine spl_yes rfl ?_)
    | (show evC _ _ _ _ _; first | refine c_seq ?_ | refine c_region (by exact rfl) ?_ | refine c_cond (by exact rfl) ?_ | refine c_ret ?_ | refine c_skip ?_ | refine c_block ?_ | refine c_exit ?_ | refine std ?_)
    | (show Br _ _ _; first | refine Br.t rfl ?_ | refine Br.f rfl ?_ | refine brs ?_ | (first | refine Br.mkN (fun h => ?_) (fun h => ?_) | refine Br.mk (fun h => ?_) (fun h => ?_)) <;> (try (first | contradiction | (exfalso; omega) | (exfalso; simp at h; done))))
    | refine stp ?_
    | (show CallT _ 158 _ _ _; refine CA (h := zbnew1_ok ?_)))
  all_goals first
    | (show retC _ _ _ _ _ _; refine RETC ?_; exact ret_done (hK _))
    | (exfalso; simp_all)
theorem beatnewX_ok {e w : Int} (h : ¬ ((0 ≤ e ∧ e ≤ 1048576) ∧ (0 ≤ w ∧ w ≤ 1048576))) (hK : K (.tuple #[.pointer none, .int .i64 3]) R) : CallT Tryz.prog 111 #[.int .i64 e, .int .i64 w] R K := by
  refine callT_intro mixed Tryz.func111 rfl (by decide) (by decide +kernel) (by exact Nat.le_of_ble_eq_true rfl) ?_
  repeat' (first
    | (show evG _ _ _ _ _ _ _; first | refine G_pure0 ?_ | refine evG_nil ?_ | refine G_br ?_ ?_ | refine G_pure ?_ | refine G_not ?_ | refine G_build ?_ | refine G_callv ?_ | refine G_callv0 ?_ | (refine G_box ?_; intro _) | refine G_skip ?_ | refine G_skip0 ?_)
    | (show spl _ _ _; first | refine spl_no rfl ?_ | refine spl_yes rfl ?_)
    | (show evC _ _ _ _ _; first | refine c_seq ?_ | refine c_region (by exact rfl) ?_ | refine c_cond (by exact rfl) ?_ | refine c_ret ?_ | refine c_skip ?_ | refine c_block ?_ | refine c_exit ?_ | refine std ?_)
    | (show Br _ _ _; first | refine Br.t rfl ?_ | refine Br.f rfl ?_ | refine brs ?_ | (first | refine Br.mkN (fun h => ?_) (fun h => ?_) | refine Br.mk (fun h => ?_) (fun h => ?_)) <;> (try (first | contradiction | (exfalso; omega) | (exfalso; simp at h; done))))
    | refine stp ?_
    | (show CallT _ 158 _ _ _; refine CA (h := zbnew1_ok ?_)))
  all_goals first
    | (show retC _ _ _ _ _ _; refine RETC ?_; exact ret_done (hK))
    | (exfalso; simp_all; omega)
    | (exfalso; simp_all)
theorem picknew_ok (hK : ∀ p, K (.pointer (some ⟨p, 0, none⟩)) R) : CallT Tryz.prog 103 #[] R K := by
  refine callT_intro mixed Tryz.func103 rfl (by decide) (by decide +kernel) (by exact Nat.le_of_ble_eq_true rfl) ?_
  repeat' (first
    | (show evG _ _ _ _ _ _ _; refine G_makeMap ?_; intro _)
    | (show evG _ _ _ _ _ _ _; first | refine G_pure0 ?_ | refine evG_nil ?_ | refine G_br ?_ ?_ | refine G_pure ?_ | refine G_build ?_ | (refine G_box ?_; intro _))
    | (show spl _ _ _; first | refine spl_no rfl ?_ | refine spl_yes rfl ?_)
    | (show evC _ _ _ _ _; first | refine c_seq ?_ | refine c_region (by exact rfl) ?_ | refine c_cond (by exact rfl) ?_ | refine c_ret ?_ | refine c_skip ?_ | refine c_block ?_ | refine c_exit ?_ | refine std ?_)
    | (show Br _ _ _; first | refine Br.t rfl ?_ | refine Br.f rfl ?_ | refine brs ?_ | (first | refine Br.mkN (fun h => ?_) (fun h => ?_) | refine Br.mk (fun h => ?_) (fun h => ?_)) <;> (try (first | contradiction | (exfalso; omega) | (exfalso; simp at h; done))))
    | refine stp ?_)
  all_goals (show retC _ _ _ _ _ _; refine RETC ?_; exact ret_done (hK _))
theorem drainnew_ok (hK : ∀ p, K (.pointer (some ⟨p, 0, none⟩)) R) : CallT Tryz.prog 106 #[] R K := by
  refine callT_intro mixed Tryz.func106 rfl (by decide) (by decide +kernel) (by exact Nat.le_of_ble_eq_true rfl) ?_
  repeat' (first
    | (show evG _ _ _ _ _ _ _; first | refine G_pure0 ?_ | refine evG_nil ?_ | refine G_br ?_ ?_ | refine G_pure ?_ | refine G_build ?_ | (refine G_box ?_; intro _))
    | (show spl _ _ _; first | refine spl_no rfl ?_ | refine spl_yes rfl ?_)
    | (show evC _ _ _ _ _; first | refine c_seq ?_ | refine c_region (by exact rfl) ?_ | refine c_cond (by exact rfl) ?_ | refine c_ret ?_ | refine c_skip ?_ | refine c_block ?_ | refine c_exit ?_ | refine std ?_)
    | (show Br _ _ _; first | refine Br.t rfl ?_ | refine Br.f rfl ?_ | refine brs ?_ | (first | refine Br.mkN (fun h => ?_) (fun h => ?_) | refine Br.mk (fun h => ?_) (fun h => ?_)) <;> (try (first | contradiction | (exfalso; omega) | (exfalso; simp at h; done))))
    | refine stp ?_)
  all_goals (show retC _ _ _ _ _ _; refine RETC ?_; exact ret_done (hK _))
theorem splitnew_ok (hK : ∀ p, K (.pointer (some ⟨p, 0, none⟩)) R) : CallT Tryz.prog 108 #[] R K := by
  refine callT_intro mixed Tryz.func108 rfl (by decide) (by decide +kernel) (by exact Nat.le_of_ble_eq_true rfl) ?_
  repeat' (first
    | (show evG _ _ _ _ _ _ _; first | refine G_pure0 ?_ | refine evG_nil ?_ | refine G_br ?_ ?_ | refine G_pure ?_ | refine G_build ?_ | (refine G_box ?_; intro _))
    | (show spl _ _ _; first | refine spl_no rfl ?_ | refine spl_yes rfl ?_)
    | (show evC _ _ _ _ _; first | refine c_seq ?_ | refine c_region (by exact rfl) ?_ | refine c_cond (by exact rfl) ?_ | refine c_ret ?_ | refine c_skip ?_ | refine c_block ?_ | refine c_exit ?_ | refine std ?_)
    | (show Br _ _ _; first | refine Br.t rfl ?_ | refine Br.f rfl ?_ | refine brs ?_ | (first | refine Br.mkN (fun h => ?_) (fun h => ?_) | refine Br.mk (fun h => ?_) (fun h => ?_)) <;> (try (first | contradiction | (exfalso; omega) | (exfalso; simp at h; done))))
    | refine stp ?_)
  all_goals (show retC _ _ _ _ _ _; refine RETC ?_; exact ret_done (hK _))
theorem tablenew_ok (hK : ∀ p, K (.tuple #[.pointer (some ⟨p, 0, none⟩), .int .i64 0]) R) : CallT Tryz.prog 113 #[.int .i64 64] R K := by
  refine callT_intro mixed Tryz.func113 rfl (by decide) (by decide +kernel) (by exact Nat.le_of_ble_eq_true rfl) ?_
  repeat' (first
    | (show evG _ _ _ _ _ _ _; first | refine G_pure0 ?_ | refine evG_nil ?_ | refine G_br ?_ ?_ | refine G_pure ?_ | refine G_build ?_ | (refine G_box ?_; intro _) | refine G_skip ?_ | refine G_skip0 ?_)
    | (show spl _ _ _; first | refine spl_no rfl ?_ | refine spl_yes rfl ?_)
    | (show evC _ _ _ _ _; first | refine c_seq ?_ | refine c_region (by exact rfl) ?_ | refine c_cond (by exact rfl) ?_ | refine c_ret ?_ | refine c_skip ?_ | refine c_block ?_ | refine c_exit ?_ | refine std ?_)
    | (show Br _ _ _; first | refine Br.t (by decide +kernel) ?_ | refine Br.f (by decide +kernel) ?_ | refine Br.t rfl ?_ | refine Br.f rfl ?_ | refine brs ?_ | (first | refine Br.mkN (fun h => ?_) (fun h => ?_) | refine Br.mk (fun h => ?_) (fun h => ?_)) <;> (try (first | contradiction | (exfalso; omega) | (exfalso; simp at h; done))))
    | refine stp ?_)
  all_goals (show retC _ _ _ _ _ _; refine RETC ?_; exact ret_done (hK _))
theorem treenew_ok (hK : ∀ p, K (.tuple #[.pointer (some ⟨p, 0, none⟩), .int .i64 0]) R) : CallT Tryz.prog 114 #[.int .i64 64] R K := by
  refine callT_intro mixed Tryz.func114 rfl (by decide) (by decide +kernel) (by exact Nat.le_of_ble_eq_true rfl) ?_
  repeat' (first
    | (show evG _ _ _ _ _ _ _; refine G_makeMap ?_; intro _)
    | (show evG _ _ _ _ _ _ _; first | refine G_pure0 ?_ | refine evG_nil ?_ | refine G_br ?_ ?_ | refine G_pure ?_ | refine G_build ?_ | (refine G_box ?_; intro _) | refine G_skip ?_ | refine G_skip0 ?_)
    | (show spl _ _ _; first | refine spl_no rfl ?_ | refine spl_yes rfl ?_)
    | (show evC _ _ _ _ _; first | refine c_seq ?_ | refine c_region (by exact rfl) ?_ | refine c_cond (by exact rfl) ?_ | refine c_ret ?_ | refine c_skip ?_ | refine c_block ?_ | refine c_exit ?_ | refine std ?_)
    | (show Br _ _ _; first | refine Br.t (by decide +kernel) ?_ | refine Br.f (by decide +kernel) ?_ | refine Br.t rfl ?_ | refine Br.f rfl ?_ | refine brs ?_ | (first | refine Br.mkN (fun h => ?_) (fun h => ?_) | refine Br.mk (fun h => ?_) (fun h => ?_)) <;> (try (first | contradiction | (exfalso; omega) | (exfalso; simp at h; done))))
    | refine stp ?_)
  all_goals (show retC _ _ _ _ _ _; refine RETC ?_; exact ret_done (hK _))
theorem winin_ok (hK : K (.bool true) R) : CallT Tryz.prog 224 #[.int .i64 512] R K := by
  refine callT_intro mixed Tryz.func224 rfl (by decide) (by decide +kernel) (by exact Nat.le_of_ble_eq_true rfl) ?_
  repeat' (first
    | (show evG _ _ _ _ _ _ _; first | refine G_pure0 ?_ | refine evG_nil ?_ | refine G_br ?_ ?_ | refine G_pure ?_ | refine G_skip ?_ | refine G_skip0 ?_)
    | (show spl _ _ _; first | refine spl_no rfl ?_ | refine spl_yes rfl ?_)
    | (show evC _ _ _ _ _; first | refine c_seq ?_ | refine c_region (by exact rfl) ?_ | refine c_cond (by exact rfl) ?_ | refine c_ret ?_ | refine c_skip ?_ | refine c_block ?_ | refine c_exit ?_ | refine std ?_)
    | (show Br _ _ _; first | refine Br.t (by decide +kernel) ?_ | refine Br.f (by decide +kernel) ?_ | refine Br.t rfl ?_ | refine Br.f rfl ?_ | refine brs ?_ | (first | refine Br.mkN (fun h => ?_) (fun h => ?_) | refine Br.mk (fun h => ?_) (fun h => ?_)) <;> (try (first | contradiction | (exfalso; omega) | (exfalso; simp at h; done))))
    | refine stp ?_)
  all_goals (show retC _ _ _ _ _ _; refine RETC ?_; exact ret_done (hK))
theorem winnew_ok (hK : ∀ p, K (.tuple #[.pointer (some ⟨p, 0, none⟩), .int .i64 0]) R) : CallT Tryz.prog 159 #[.int .i64 512] R K := by
  refine callT_intro mixed Tryz.func159 rfl (by decide) (by decide +kernel) (by exact Nat.le_of_ble_eq_true rfl) ?_
  repeat' (first
    | (show evG _ _ _ _ _ _ _; first | refine G_pure0 ?_ | refine evG_nil ?_ | refine G_br ?_ ?_ | refine G_pure ?_ | refine G_not ?_ | refine G_build ?_ | refine G_call ?_ | refine G_call0 ?_ | (refine G_box ?_; intro _))
    | (show spl _ _ _; first | refine spl_no rfl ?_ | refine spl_yes rfl ?_)
    | (show evC _ _ _ _ _; first | refine c_seq ?_ | refine c_region (by exact rfl) ?_ | refine c_cond (by exact rfl) ?_ | refine c_ret ?_ | refine c_skip ?_ | refine c_block ?_ | refine c_exit ?_ | refine std ?_)
    | (show Br _ _ _; first | refine Br.t (by decide +kernel) ?_ | refine Br.f (by decide +kernel) ?_ | refine Br.t rfl ?_ | refine Br.f rfl ?_ | refine brs ?_ | (first | refine Br.mkN (fun h => ?_) (fun h => ?_) | refine Br.mk (fun h => ?_) (fun h => ?_)) <;> (try (first | contradiction | (exfalso; omega) | (exfalso; simp at h; done))))
    | refine stp ?_
    | (show CallT _ 224 _ _ _; refine CA (h := winin_ok ?_)))
  all_goals (show retC _ _ _ _ _ _; refine RETC ?_; exact ret_done (hK _))
theorem creditnew_ok (hK : ∀ p, K (.tuple #[.pointer (some ⟨p, 0, none⟩), .int .i64 0]) R) : CallT Tryz.prog 115 #[.int .i64 512] R K := by
  refine callT_intro mixed Tryz.func115 rfl (by decide) (by decide +kernel) (by exact Nat.le_of_ble_eq_true rfl) ?_
  repeat' (first
    | (show evG _ _ _ _ _ _ _; first | refine G_pure0 ?_ | refine evG_nil ?_ | refine G_br ?_ ?_ | refine G_pure ?_ | refine G_build ?_ | refine G_neq_agg ?_ | refine G_call ?_ | refine G_call0 ?_ | (refine G_box ?_; intro _))
    | (show spl _ _ _; first | refine spl_no rfl ?_ | refine spl_yes rfl ?_)
    | (show evC _ _ _ _ _; first | refine c_seq ?_ | refine c_region (by exact rfl) ?_ | refine c_cond (by exact rfl) ?_ | refine c_ret ?_ | refine c_skip ?_ | refine c_block ?_ | refine c_exit ?_ | refine std ?_)
    | (show Br _ _ _; first | refine Br.t (by decide +kernel) ?_ | refine Br.f (by decide +kernel) ?_ | refine Br.t rfl ?_ | refine Br.f rfl ?_ | refine brs ?_ | (first | refine Br.mkN (fun h => ?_) (fun h => ?_) | refine Br.mk (fun h => ?_) (fun h => ?_)) <;> (try (first | contradiction | (exfalso; omega) | (exfalso; simp at h; done))))
    | refine stp ?_
    | (show CallT _ 159 _ _ _; refine CA (h := winnew_ok (fun _ => ?_))))
  all_goals (show retC _ _ _ _ _ _; refine RETC ?_; exact ret_done (hK _))
theorem pacenewC_ok (hK : ∀ p, K (.tuple #[.pointer (some ⟨p, 0, none⟩), .int .i64 0]) R) : CallT Tryz.prog 116 #[.int .i64 512] R K :=
  CallT.entK (pcnew_ok (by omega) fun p => ⟨_, Ent.drop (Ent.refl _), hK p⟩)
theorem zfirst_ok (hK : K (.agg #[.int .i64 64, .int .i64 8, .int .i64 4]) R) : CallT Tryz.prog 105 #[] R K := by
  refine callT_intro mixed Tryz.func105 rfl (by decide) (by decide +kernel) (by exact Nat.le_of_ble_eq_true rfl) ?_
  repeat' (first
    | (show evG _ _ _ _ _ _ _; first | refine G_pure0 ?_ | refine evG_nil ?_ | refine G_br ?_ ?_ | refine G_pure ?_ | refine G_store ?_ | refine G_build ?_ | (refine G_alloc ?_; intro _))
    | (show spl _ _ _; first | refine spl_no rfl ?_ | refine spl_yes rfl ?_)
    | (show evC _ _ _ _ _; first | refine c_seq ?_ | refine c_region (by exact rfl) ?_ | refine c_cond (by exact rfl) ?_ | refine c_ret ?_ | refine c_skip ?_ | refine c_block ?_ | refine c_exit ?_ | refine std ?_)
    | (show Br _ _ _; first | refine Br.t rfl ?_ | refine Br.f rfl ?_ | refine brs ?_ | (first | refine Br.mkN (fun h => ?_) (fun h => ?_) | refine Br.mk (fun h => ?_) (fun h => ?_)) <;> (try (first | contradiction | (exfalso; omega) | (exfalso; simp at h; done))))
    | refine stp ?_)
  all_goals (show retC _ _ _ _ _ _; refine RETC ?_; exact ret_done (hK))
/-- what may not be of a Conf's streams -/
def mayE (w st it sb si stg : Int) : Int := if ¬ (0 ≤ si ∧ si ≤ 64) then 3 else if ¬ (0 ≤ stg ∧ stg ≤ 2) then 2 else if chkS w st it = false then 3 else if ¬ (0 ≤ sb ∧ sb ≤ 4096) then 3 else 0
end Go.Proofs.YtiofdmjecjcdbaaGreatDoor

