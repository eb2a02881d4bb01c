/- Conn: settings that are sent; an endpoint is made: lemmas; each with the conditions that it states. -/
import Derived.Test.YtiofdmjecjcdbaaGreatDoorFh
import Derived.Test.YtiofdmjecjcdbaaGreatDoorMz

namespace Go.Proofs.YtiofdmjecjcdbaaGreatDoor
open Go Go.Proofs Go.Sl
set_option maxRecDepth 100000
set_option maxHeartbeats 4000000
set_option linter.unusedSimpArgs false
set_option linter.unusedVariables false
attribute [local irreducible] evG evC spl thenC inBlockC noGotoC CallT retC RetG TurnG CutG pt ro exP star sep pureP
attribute [local irreducible] mp mit
variable {R C : List HP} {K : Value → List HP → Prop}
section
variable {s : Nat} {w st it : Int}
theorem shakenew_ok (hK : ∀ s, K (.pointer (some ⟨s, 0, none⟩)) (pt s [.int .i64 64, .int .i64 8, .int .i64 4, .int .i64 64, .int .i64 8, .int .i64 4, .slice none 0 0] 263 :: R)) : CallT Tryz.prog 104 #[] R K := by
  refine callT_intro mixed Tryz.func104 rfl (by decide) (by decide +kernel) (by exact Nat.le_of_ble_eq_true rfl) ?_
  repeat' (first
    | (show evG _ _ _ _ _ _ _; first | refine G_pure0 ?_ | refine evG_nil ?_ | refine G_br ?_ ?_ | refine G_pure ?_ | refine G_build ?_ | refine G_call ?_ | refine G_call0 ?_ | (refine G_box ?_; intro _))
    | (show spl _ _ _; first | refine spl_no rfl ?_ | refine spl_yes rfl ?_)
    | (show evC _ _ _ _ _; first | refine c_seq ?_ | refine c_region (by exact rfl) ?_ | refine c_cond (by exact rfl) ?_ | refine c_ret ?_ | refine c_skip ?_ | refine c_block ?_ | refine c_exit ?_ | refine std ?_)
    | (show Br _ _ _; first | refine Br.t rfl ?_ | refine Br.f rfl ?_ | refine brs ?_ | (first | refine Br.mkN (fun h => ?_) (fun h => ?_) | refine Br.mk (fun h => ?_) (fun h => ?_)) <;> (try (first | contradiction | (exfalso; omega) | (exfalso; simp at h; done))))
    | refine stp ?_
    | (show CallT _ 105 _ _ _; refine CA (h := zfirst_ok ?_)))
  all_goals (show retC _ _ _ _ _ _; refine RETC ?_; exact ret_done (hK _))
theorem swait0_ok (hK : K (.int .i64 0) (pt s [.int .i64 64, .int .i64 8, .int .i64 4, .int .i64 64, .int .i64 8, .int .i64 4, .slice none 0 0] 263 :: R)) : CallT Tryz.prog 227 #[.pointer (some ⟨s, 0, none⟩)] (pt s [.int .i64 64, .int .i64 8, .int .i64 4, .int .i64 64, .int .i64 8, .int .i64 4, .slice none 0 0] 263 :: R) K := by
  refine callT_intro mixed Tryz.func227 rfl (by decide) (by decide +kernel) (by exact Nat.le_of_ble_eq_true rfl) ?_
  repeat' (first
    | (show evG _ _ _ _ _ _ _; first | refine G_pure0 ?_ | refine G_load ?_ | refine evG_nil ?_ | refine G_br ?_ ?_ | refine G_field ?_ | refine G_pure ?_ | refine G_loadV ?_ | refine G_loadV0 ?_ | refine G_loadV2 ?_ | refine G_eql_agg ?_)
    | (show spl _ _ _; first | refine spl_no rfl ?_ | refine spl_yes rfl ?_)
    | (show evC _ _ _ _ _; first | refine c_seq ?_ | refine c_region (by exact rfl) ?_ | refine c_cond (by exact rfl) ?_ | refine c_ret ?_ | refine c_skip ?_ | refine c_block ?_ | refine c_exit ?_ | refine std ?_)
    | (show Br _ _ _; first | refine Br.t rfl ?_ | refine Br.f rfl ?_ | refine brs ?_ | (first | refine Br.mkN (fun h => ?_) (fun h => ?_) | refine Br.mk (fun h => ?_) (fun h => ?_)) <;> (try (first | contradiction | (exfalso; omega) | (exfalso; simp at h; done))))
    | refine stp ?_)
  all_goals (show retC _ _ _ _ _ _; refine RETC ?_; exact ret_done (hK))
theorem sholds0_ok (hK : K (.agg #[.int .i64 64, .int .i64 8, .int .i64 4]) (pt s [.int .i64 64, .int .i64 8, .int .i64 4, .int .i64 64, .int .i64 8, .int .i64 4, .slice none 0 0] 263 :: R)) : CallT Tryz.prog 228 #[.pointer (some ⟨s, 0, none⟩)] (pt s [.int .i64 64, .int .i64 8, .int .i64 4, .int .i64 64, .int .i64 8, .int .i64 4, .slice none 0 0] 263 :: R) K := by
  refine callT_intro mixed Tryz.func228 rfl (by decide) (by decide +kernel) (by exact Nat.le_of_ble_eq_true rfl) ?_
  repeat' (first
    | (show evG _ _ _ _ _ _ _; first | refine G_pure0 ?_ | refine G_load ?_ | refine evG_nil ?_ | refine G_br ?_ ?_ | refine G_field ?_ | refine G_pure ?_ | refine G_store ?_ | refine G_loadV ?_ | refine G_loadV0 ?_ | refine G_loadV2 ?_ | refine G_build ?_ | refine G_eql_agg ?_ | (refine G_alloc ?_; intro _))
    | (show spl _ _ _; first | refine spl_no rfl ?_ | refine spl_yes rfl ?_)
    | (show evC _ _ _ _ _; first | refine c_seq ?_ | refine c_region (by exact rfl) ?_ | refine c_cond (by exact rfl) ?_ | refine c_ret ?_ | refine c_skip ?_ | refine c_block ?_ | refine c_exit ?_ | refine std ?_)
    | (show Br _ _ _; first | refine Br.t rfl ?_ | refine Br.f rfl ?_ | refine brs ?_ | (first | refine Br.mkN (fun h => ?_) (fun h => ?_) | refine Br.mk (fun h => ?_) (fun h => ?_)) <;> (try (first | contradiction | (exfalso; omega) | (exfalso; simp at h; done))))
    | refine stp ?_)
  all_goals (show retC _ _ _ _ _ _; refine RETC ?_; exact ret_done (hK))
theorem slatest0_ok (hK : K (.agg #[.int .i64 64, .int .i64 8, .int .i64 4]) (pt s [.int .i64 64, .int .i64 8, .int .i64 4, .int .i64 64, .int .i64 8, .int .i64 4, .slice none 0 0] 263 :: R)) : CallT Tryz.prog 163 #[.pointer (some ⟨s, 0, none⟩)] (pt s [.int .i64 64, .int .i64 8, .int .i64 4, .int .i64 64, .int .i64 8, .int .i64 4, .slice none 0 0] 263 :: R) K := by
  refine callT_intro mixed Tryz.func163 rfl (by decide) (by decide +kernel) (by exact Nat.le_of_ble_eq_true rfl) ?_
  repeat' (first
    | (show evG _ _ _ _ _ _ _; first | refine G_sub64 ?_ | refine G_pure0 ?_ | refine G_load ?_ | refine evG_nil ?_ | refine G_br ?_ ?_ | refine G_field ?_ | refine G_pure ?_ | refine G_store ?_ | refine G_loadV ?_ | refine G_loadV0 ?_ | refine G_loadV2 ?_ | refine G_index ?_ | refine G_indexA ?_ | refine G_call ?_ | refine G_call0 ?_ | (refine G_alloc ?_; intro _) | (refine G_indexV ?_; intro _ _ hA; subst hA))
    | (show spl _ _ _; first | refine spl_no rfl ?_ | refine spl_yes rfl ?_)
    | (show evC _ _ _ _ _; first | refine c_seq ?_ | refine c_region (by exact rfl) ?_ | refine c_cond (by exact rfl) ?_ | refine c_ret ?_ | refine c_skip ?_ | refine c_block ?_ | refine c_exit ?_ | refine std ?_)
    | (show Br _ _ _; first | refine Br.t (by decide +kernel) ?_ | refine Br.f (by decide +kernel) ?_ | refine Br.t rfl ?_ | refine Br.f rfl ?_ | refine brs ?_ | (first | refine Br.mkN (fun h => ?_) (fun h => ?_) | refine Br.mk (fun h => ?_) (fun h => ?_)) <;> (try (first | contradiction | (exfalso; omega) | (exfalso; simp at h; done))))
    | refine stp ?_
    | (show CallT _ 227 _ _ _; refine CA (h := swait0_ok ?_))
    | (show CallT _ 228 _ _ _; refine CA (h := sholds0_ok ?_)))
  all_goals (show retC _ _ _ _ _ _; refine RETC ?_; exact ret_done (hK))
theorem sgreat_ok (hK : ∀ a b c, K (.agg #[.int .i64 a, .int .i64 b, .int .i64 c]) R) : CallT Tryz.prog 164 #[.agg #[.int .i64 64, .int .i64 8, .int .i64 4], .agg #[.int .i64 w, .int .i64 st, .int .i64 it]] R K := by
  refine callT_intro mixed Tryz.func164 rfl (by decide) (by decide +kernel) (by exact Nat.le_of_ble_eq_true rfl) ?_
  repeat' (first
    | (show evG _ _ _ _ _ _ _; first | refine G_pure0 ?_ | refine G_load ?_ | refine evG_nil ?_ | refine G_br ?_ ?_ | refine G_field ?_ | refine G_pure ?_ | refine G_store ?_ | refine G_loadV ?_ | refine G_loadV0 ?_ | refine G_loadV2 ?_ | refine G_build ?_ | refine G_max ?_ | (refine G_box ?_; intro _) | (refine G_alloc ?_; intro _))
    | (show spl _ _ _; first | refine spl_no rfl ?_ | refine spl_yes rfl ?_)
    | (show evC _ _ _ _ _; first | refine c_seq ?_ | refine c_region (by exact rfl) ?_ | refine c_cond (by exact rfl) ?_ | refine c_ret ?_ | refine c_skip ?_ | refine c_block ?_ | refine c_exit ?_ | refine std ?_)
    | (show Br _ _ _; first | refine Br.t rfl ?_ | refine Br.f rfl ?_ | refine brs ?_ | (first | refine Br.mkN (fun h => ?_) (fun h => ?_) | refine Br.mk (fun h => ?_) (fun h => ?_)) <;> (try (first | contradiction | (exfalso; omega) | (exfalso; simp at h; done))))
    | refine stp ?_)
  all_goals (show retC _ _ _ _ _ _; refine RETC ?_; exact ret_done (hK _ _ _))
theorem ssendE_ok (h : w = 64 ∧ st = 8 ∧ it = 4) (hcs : chkS w st it = true) (hK : K (.tuple #[.slice none 0 0, .int .i64 0]) R) : CallT Tryz.prog 117 #[.pointer (some ⟨s, 0, none⟩), .agg #[.int .i64 w, .int .i64 st, .int .i64 it]] (pt s [.int .i64 64, .int .i64 8, .int .i64 4, .int .i64 64, .int .i64 8, .int .i64 4, .slice none 0 0] 263 :: R) K := by
  have h0 : (if chkS w st it = true then (0 : Int) else 3) = 0 := if_pos hcs
  refine callT_intro mixed Tryz.func117 rfl (by decide) (by decide +kernel) (by exact Nat.le_of_ble_eq_true rfl) ?_
  repeat' (first
    | (show evG _ _ _ _ _ _ _; refine G_sliceV (A := none) ?_; intro A' hA'; obtain rfl : A' = none := by (unfold SubA at hA'; rw [hA']; split <;> rfl))
    | (show evG _ _ _ _ _ _ _; first | refine G_pure0 ?_ | refine G_load ?_ | refine evG_nil ?_ | refine G_br ?_ ?_ | refine G_field ?_ | refine G_pure ?_ | refine G_store ?_ | refine G_loadV ?_ | refine G_loadV0 ?_ | refine G_loadV2 ?_ | (refine G_append ?_; intro _ _) | (refine G_appendN ?_; intro _ _) | refine G_slh ?_ | refine G_slo ?_ | refine G_shi ?_ | refine G_eql_agg ?_ | refine G_neq_agg ?_ | refine G_call ?_ | refine G_call0 ?_ | refine G_callv ?_ | refine G_callv0 ?_ | (refine G_box ?_; intro _) | (refine G_buildSlice ?_; intro _) | (refine G_sliceR ?_; intro _) | (refine G_sliceO ?_; intro _))
    | (show spl _ _ _; first | refine spl_no rfl ?_ | refine spl_yes rfl ?_)
    | (show evC _ _ _ _ _; first | refine c_seq ?_ | refine c_region (by exact rfl) ?_ | refine c_cond (by exact rfl) ?_ | refine c_ret ?_ | refine c_skip ?_ | refine c_block ?_ | refine c_exit ?_ | (show evC _ (.region 8 _ true) _ _ _; refine c_draw (l := [(0, 0), (1, 1), (2, 1), (3, 1), (4, 0)]) (by decide +kernel) (by decide +kernel) (by exact rfl) ?_) | (show evC _ (.region 9 _ true) _ _ _; refine c_drawB (bl := [0, 0, 2, 6, 14, 0, 32, 96, 224, 480, 0, 1024, 3072, 7168, 15360, 32766, 0, 65536, 262142, 524287, 1048575, 2097151]) (br := [2097151, 1048575, 524287, 262142, 65536, 0, 32766, 15360, 7168, 3072, 1024, 0, 480, 224, 96, 32, 0, 14, 6, 2, 0, 0]) (l := [(16, 0), (17, 1), (1, 1), (2, 1), (3, 1), (4, 1), (5, 1), (6, 1), (7, 1), (8, 1), (9, 1), (10, 1), (11, 1), (12, 1), (13, 1), (14, 1), (15, 1), (18, 1), (0, 2), (19, 0), (20, 0), (21, 1)]) (by decide +kernel) (by decide +kernel) (by decide +kernel) (by decide +kernel) (by exact rfl) ?_) | (show evC _ (.region 11 _ true) _ _ _; refine c_draw (l := [(1, 0), (2, 0), (3, 0), (4, 0), (5, 0), (6, 0), (7, 1), (0, 1), (8, 0), (9, 0), (10, 1)]) (by decide +kernel) (by decide +kernel) (by exact rfl) ?_) | refine std ?_)
    | (show Br _ _ _; first | refine Br.t rfl ?_ | refine Br.f rfl ?_ | refine brs ?_ | (first | refine Br.mkN (fun h => ?_) (fun h => ?_) | refine Br.mk (fun h => ?_) (fun h => ?_)) <;> (try (first | contradiction | (exfalso; omega) | (exfalso; simp at h; done))))
    | refine stp ?_
    | (show CallT _ 161 _ _ _; refine CA (h := check_ok h0 ?_))
    | (show CallT _ 163 _ _ _; refine CA (h := slatest0_ok ?_))
    | (show CallT _ 162 _ _ _; refine CA (h := pdiffE_ok h ?_))
    | (show CallT _ 164 _ _ _; refine CA (h := sgreat_ok (fun _ _ _ => ?_)))
    | (show evG _ _ _ _ _ _ _; first | (refine G_appendN (E := set3C) (ys := [⟨w, st, it⟩]) ?_; intro _ _) | (refine G_appendNU (E := set3C) (ys := [⟨w, st, it⟩]) ?_; intro _ _)))
  all_goals (show retC _ _ _ _ _ _; refine RETC ?_; exact ret_done (hK))
theorem ssendN_ok (h : ¬ (w = 64 ∧ st = 8 ∧ it = 4)) (hcs : chkS w st it = true) (hK : ∀ A c, K (.tuple #[.slice A (dfL w st it).length c, .int .i64 0]) (row A c 335 prC (dfL w st it) :: R)) : CallT Tryz.prog 117 #[.pointer (some ⟨s, 0, none⟩), .agg #[.int .i64 w, .int .i64 st, .int .i64 it]] (pt s [.int .i64 64, .int .i64 8, .int .i64 4, .int .i64 64, .int .i64 8, .int .i64 4, .slice none 0 0] 263 :: R) K := by
  have h0 : (if chkS w st it = true then (0 : Int) else 3) = 0 := if_pos hcs
  refine callT_intro mixed Tryz.func117 rfl (by decide) (by decide +kernel) (by exact Nat.le_of_ble_eq_true rfl) ?_
  repeat' (first
    | (show evG _ _ _ _ _ _ _; refine G_sliceV (A := none) ?_; intro A' hA'; obtain rfl : A' = none := by (unfold SubA at hA'; rw [hA']; split <;> rfl))
    | (show evG _ _ _ _ _ _ _; first | refine G_pure0 ?_ | refine G_load ?_ | refine evG_nil ?_ | refine G_br ?_ ?_ | refine G_field ?_ | refine G_pure ?_ | refine G_store ?_ | refine G_loadV ?_ | refine G_loadV0 ?_ | refine G_loadV2 ?_ | (refine G_append ?_; intro _ _) | (refine G_appendN ?_; intro _ _) | refine G_slh ?_ | refine G_slo ?_ | refine G_shi ?_ | refine G_eql_agg ?_ | refine G_neq_agg ?_ | refine G_call ?_ | refine G_call0 ?_ | refine G_callv ?_ | refine G_callv0 ?_ | (refine G_box ?_; intro _) | (refine G_buildSlice ?_; intro _) | (refine G_sliceR ?_; intro _) | (refine G_sliceO ?_; intro _))
    | (show spl _ _ _; first | refine spl_no rfl ?_ | refine spl_yes rfl ?_)
    | (show evC _ _ _ _ _; first | refine c_seq ?_ | refine c_region (by exact rfl) ?_ | refine c_cond (by exact rfl) ?_ | refine c_ret ?_ | refine c_skip ?_ | refine c_block ?_ | refine c_exit ?_ | (show evC _ (.region 8 _ true) _ _ _; refine c_draw (l := [(0, 0), (1, 1), (2, 1), (3, 1), (4, 0)]) (by decide +kernel) (by decide +kernel) (by exact rfl) ?_) | (show evC _ (.region 9 _ true) _ _ _; refine c_drawB (bl := [0, 0, 2, 6, 14, 0, 32, 96, 224, 480, 0, 1024, 3072, 7168, 15360, 32766, 0, 65536, 262142, 524287, 1048575, 2097151]) (br := [2097151, 1048575, 524287, 262142, 65536, 0, 32766, 15360, 7168, 3072, 1024, 0, 480, 224, 96, 32, 0, 14, 6, 2, 0, 0]) (l := [(16, 0), (17, 1), (1, 1), (2, 1), (3, 1), (4, 1), (5, 1), (6, 1), (7, 1), (8, 1), (9, 1), (10, 1), (11, 1), (12, 1), (13, 1), (14, 1), (15, 1), (18, 1), (0, 2), (19, 0), (20, 0), (21, 1)]) (by decide +kernel) (by decide +kernel) (by decide +kernel) (by decide +kernel) (by exact rfl) ?_) | (show evC _ (.region 11 _ true) _ _ _; refine c_draw (l := [(1, 0), (2, 0), (3, 0), (4, 0), (5, 0), (6, 0), (7, 1), (0, 1), (8, 0), (9, 0), (10, 1)]) (by decide +kernel) (by decide +kernel) (by exact rfl) ?_) | refine std ?_)
    | (show Br _ _ _; first | refine Br.t rfl ?_ | refine Br.f rfl ?_ | refine brs ?_ | (first | refine Br.mkN (fun h => ?_) (fun h => ?_) | refine Br.mk (fun h => ?_) (fun h => ?_)) <;> (try (first | contradiction | (exfalso; omega) | (exfalso; simp at h; done))))
    | refine stp ?_
    | (show CallT _ 161 _ _ _; refine CA (h := check_ok h0 ?_))
    | (show CallT _ 163 _ _ _; refine CA (h := slatest0_ok ?_))
    | (show CallT _ 162 _ _ _; refine CA (h := pdiffN_ok h (fun _ _ => ?_)))
    | (show CallT _ 164 _ _ _; refine CA (h := sgreat_ok (fun _ _ _ => ?_)))
    | (show evG _ _ _ _ _ _ _; first | (refine G_appendN (E := set3C) (ys := [⟨w, st, it⟩]) ?_; intro _ _) | (refine G_appendNU (E := set3C) (ys := [⟨w, st, it⟩]) ?_; intro _ _)))
  all_goals (show retC _ _ _ _ _ _; refine RETC ?_; exact ret_done (hK _ _))
end
theorem set_chk {w st it : Int} (h : chkS w st it = true) : chkB 5 0 false ⟨#[]⟩ 0 0 0 false 0 0 0 (dfL w st it) = true := by
  have h1 : 0 ≤ w ∧ w ≤ 4096 ∧ 0 ≤ st ∧ st ≤ 32 ∧ 0 ≤ it ∧ it ≤ 64 := by unfold chkS at h; exact of_decide_eq_true h
  have n1 : n31 w = true := by unfold n31; simp; omega
  have n2 : n31 st = true := by unfold n31; simp; omega
  have n3 : n31 it = true := by unfold n31; simp; omega
  have hp : psB (dfL w st it) = true := by
    unfold dfL pdL psB
    split <;> split <;> split <;> simp [n1, n2, n3]
  have l1 := pdL_len 1 64 w []
  have l2 := pdL_len 2 8 st (pdL 1 64 w [])
  have l3 := pdL_len 3 4 it (pdL 2 8 st (pdL 1 64 w []))
  rw [List.length_nil] at l1
  have hl : (dfL w st it).length ≤ 8 := by unfold dfL; omega
  refine (chk_iff _ _ _ _ _ _ _ _ _ _ _ _).2 ⟨by omega, by omega, fun _ => by omega, fun h => by omega, fun h => by (cases h), fun h => by omega, fun h => by omega, fun h => by omega, fun h => by omega, fun _ => rfl, fun h => by (exfalso; revert h; decide), fun h => by (exfalso; revert h; decide), fun h => by omega, fun h => by omega, fun h => by omega, fun h => by omega, hp, by decide, by decide, by decide, hl⟩
theorem set_chkE : chkB 5 0 false ⟨#[]⟩ 0 0 0 false 0 0 0 [] = true := by decide +kernel
end Go.Proofs.YtiofdmjecjcdbaaGreatDoor

