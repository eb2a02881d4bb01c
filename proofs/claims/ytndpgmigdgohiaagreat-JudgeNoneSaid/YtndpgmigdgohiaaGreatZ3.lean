/- Conn: settings that are told: lemmas; each with the conditions that it states. -/
import Derived.Test.YtndpgmigdgohiaaGreatFh
import Derived.Test.YtndpgmigdgohiaaGreatZ2
import Derived.Test.YtndpgmigdgohiaaGreatM2

namespace Go.Proofs.YtndpgmigdgohiaaGreat
open Go Go.Proofs Go.Sl
set_option maxRecDepth 100000
set_option maxHeartbeats 4000000
set_option linter.unusedSimpArgs false
set_option linter.unusedVariables false
attribute [local irreducible] evG evC spl thenC inBlockC noGotoC CallT retC RetG TurnG CutG pt ro exP star sep pureP
variable {R C : List HP} {K : Value → List HP → Prop}
structure Set3 where
  w : Int
  st : Int
  it : Int
def set3D : List Value → Option Set3
  | [.int .i64 w, .int .i64 st, .int .i64 it] => some ⟨w, st, it⟩
  | _ => none
theorem set3D_ok (cs : List Value) (y : Set3) (h : set3D cs = some y) : [.int .i64 y.w, .int .i64 y.st, .int .i64 y.it] = cs := by
  unfold set3D at h
  split at h
  · cases h; rfl
  · cases h
def set3C : Cod Set3 := { enc := fun p => [.int .i64 p.w, .int .i64 p.st, .int .i64 p.it], sz := 3, dec := set3D, len := fun _ => rfl, one := fun _ => rfl, ok := set3D_ok }
/-- a setting that differs is told -/
def pdL (id a b : Int) (ps : List Pr) : List Pr := if a = b then ps else ps ++ [⟨id, b⟩]
def dfL (w st it : Int) : List Pr := pdL 3 4 it (pdL 2 8 st (pdL 1 64 w []))
theorem pdL_len (id a b : Int) (ps : List Pr) : (pdL id a b ps).length ≤ ps.length + 1 := by
  unfold pdL; split <;> simp
theorem pdiff1_ok {id a b : Int} {r n c : Nat} {A : Option Addr} {ps : List Pr} (hn : ps.length = n) (hl : n ≤ 10) (hK : ∀ A' c', K (.tuple #[]) (pt r [.slice A' (pdL id a b ps).length c'] 131 :: row A' c' 316 prC (pdL id a b ps) :: R)) : CallT Tryz.prog 237 #[.int .i64 id, .int .i64 a, .int .i64 b, .pointer (some ⟨r, 0, none⟩)] (pt r [.slice A n c] 131 :: row A c 316 prC ps :: R) K := by
  subst hn
  unfold pdL at hK
  by_cases h : a = b
  · simp only [if_pos h] at hK
    refine callT_intro mixed Tryz.func237 rfl (by decide) (by decide +kernel) (by exact Nat.le_of_ble_eq_true rfl) ?_
    repeat' (first
      | (show evG _ _ _ _ _ _ _; first | refine G_pure0 ?_ | refine G_load ?_ | refine evG_nil ?_ | refine G_br ?_ ?_ | refine G_pure ?_ | refine G_store ?_ | refine G_loadV ?_ | refine G_loadV0 ?_ | refine G_loadV2 ?_ | (refine G_append ?_; intro _ _) | (refine G_appendN ?_; intro _ _) | refine G_build ?_ | refine G_neq_agg ?_ | (refine G_buildSlice ?_; intro _))
      | (show spl _ _ _; first | refine spl_no rfl ?_ | refine spl_yes rfl ?_)
      | (show evC _ _ _ _ _; first | refine c_seq ?_ | refine c_region (by exact rfl) ?_ | refine c_cond (by exact rfl) ?_ | refine c_ret ?_ | refine c_skip ?_ | refine c_block ?_ | refine c_exit ?_ | refine std ?_)
      | (show Br _ _ _; first | refine Br.t rfl ?_ | refine Br.f rfl ?_ | refine brs ?_ | (first | refine Br.mkN (fun h => ?_) (fun h => ?_) | refine Br.mk (fun h => ?_) (fun h => ?_)) <;> (try (first | contradiction | (exfalso; omega) | (exfalso; simp at h; done))))
      | refine stp ?_)
    all_goals (show retC _ _ _ _ _ _; refine RETC ?_; exact ret_done (hK _ _))
  · simp only [if_neg h] at hK
    refine callT_intro mixed Tryz.func237 rfl (by decide) (by decide +kernel) (by exact Nat.le_of_ble_eq_true rfl) ?_
    repeat' (first
      | (show evG _ _ _ _ _ _ _; first | refine G_pure0 ?_ | refine G_load ?_ | refine evG_nil ?_ | refine G_br ?_ ?_ | refine G_pure ?_ | refine G_store ?_ | refine G_loadV ?_ | refine G_loadV0 ?_ | refine G_loadV2 ?_ | (refine G_append ?_; intro _ _) | (refine G_appendN ?_; intro _ _) | refine G_build ?_ | refine G_neq_agg ?_ | (refine G_buildSlice ?_; intro _))
      | (show spl _ _ _; first | refine spl_no rfl ?_ | refine spl_yes rfl ?_)
      | (show evC _ _ _ _ _; first | refine c_seq ?_ | refine c_region (by exact rfl) ?_ | refine c_cond (by exact rfl) ?_ | refine c_ret ?_ | refine c_skip ?_ | refine c_block ?_ | refine c_exit ?_ | refine std ?_)
      | (show Br _ _ _; first | refine Br.t rfl ?_ | refine Br.f rfl ?_ | refine brs ?_ | (first | refine Br.mkN (fun h => ?_) (fun h => ?_) | refine Br.mk (fun h => ?_) (fun h => ?_)) <;> (try (first | contradiction | (exfalso; omega) | (exfalso; simp at h; done))))
      | refine stp ?_)
    all_goals (show retC _ _ _ _ _ _; refine RETC ?_; exact ret_done (hK _ _))
theorem pdiff0_ok {id a b : Int} {r : Nat} (hK : ∀ A' c', K (.tuple #[]) (pt r [.slice A' (pdL id a b []).length c'] 131 :: row A' c' 316 prC (pdL id a b []) :: R)) : CallT Tryz.prog 237 #[.int .i64 id, .int .i64 a, .int .i64 b, .pointer (some ⟨r, 0, none⟩)] (pt r [.slice none 0 0] 131 :: R) K :=
  CallT.ent (Ent.cons (Ent.nilrow' (Ent.refl _))) (pdiff1_ok (ps := []) rfl (by omega) hK)
section
variable {w st it : Int}
theorem pdiffE_ok (h : w = 64 ∧ st = 8 ∧ it = 4) (hK : K (.slice none 0 0) R) : CallT Tryz.prog 136 #[.agg #[.int .i64 64, .int .i64 8, .int .i64 4], .agg #[.int .i64 w, .int .i64 st, .int .i64 it]] R K := by
  obtain ⟨rfl, rfl, rfl⟩ := h
  refine callT_intro mixed Tryz.func136 rfl (by decide) (by decide +kernel) (by exact Nat.le_of_ble_eq_true rfl) ?_
  repeat' (first
    | (show evG _ _ _ _ _ _ _; first | refine G_pure0 ?_ | refine G_load ?_ | refine evG_nil ?_ | refine G_br ?_ ?_ | refine G_field ?_ | refine G_pure ?_ | refine G_loadV ?_ | refine G_loadV0 ?_ | refine G_loadV2 ?_ | refine G_eql_agg ?_ | refine G_callv ?_ | refine G_callv0 ?_ | (refine G_box ?_; intro _) | (refine G_alloc ?_; intro _))
    | (show spl _ _ _; first | refine spl_no rfl ?_ | refine spl_yes rfl ?_)
    | (show evC _ _ _ _ _; first | refine c_seq ?_ | refine c_region (by exact rfl) ?_ | refine c_cond (by exact rfl) ?_ | refine c_ret ?_ | refine c_skip ?_ | refine c_block ?_ | refine c_exit ?_ | refine std ?_)
    | (show Br _ _ _; first | refine Br.t (by decide +kernel) ?_ | refine Br.f (by decide +kernel) ?_ | refine Br.t rfl ?_ | refine Br.f rfl ?_ | refine brs ?_ | (first | refine Br.mkN (fun h => ?_) (fun h => ?_) | refine Br.mk (fun h => ?_) (fun h => ?_)) <;> (try (first | contradiction | (exfalso; omega) | (exfalso; simp at h; done))))
    | refine stp ?_)
  all_goals (show retC _ _ _ _ _ _; refine RETC ?_; exact ret_done (hK))
theorem pdiffN_ok (h : ¬ (w = 64 ∧ st = 8 ∧ it = 4)) (hK : ∀ A c, K (.slice A (dfL w st it).length c) (row A c 316 prC (dfL w st it) :: R)) : CallT Tryz.prog 136 #[.agg #[.int .i64 64, .int .i64 8, .int .i64 4], .agg #[.int .i64 w, .int .i64 st, .int .i64 it]] R K := by
  have l1 := pdL_len 1 64 w []
  have l2 := pdL_len 2 8 st (pdL 1 64 w [])
  have l3 := pdL_len 3 4 it (pdL 2 8 st (pdL 1 64 w []))
  rw [List.length_nil] at l1
  unfold dfL at hK
  refine callT_intro mixed Tryz.func136 rfl (by decide) (by decide +kernel) (by exact Nat.le_of_ble_eq_true rfl) ?_
  repeat' (first
    | (show evG _ _ _ _ _ _ _; first | refine G_pure0 ?_ | refine G_load ?_ | refine evG_nil ?_ | refine G_br ?_ ?_ | refine G_field ?_ | refine G_pure ?_ | refine G_loadV ?_ | refine G_loadV0 ?_ | refine G_loadV2 ?_ | refine G_eql_agg ?_ | refine G_callv ?_ | refine G_callv0 ?_ | (refine G_box ?_; intro _) | (refine G_alloc ?_; intro _))
    | (show spl _ _ _; first | refine spl_no rfl ?_ | refine spl_yes rfl ?_)
    | (show evC _ _ _ _ _; first | refine c_seq ?_ | refine c_region (by exact rfl) ?_ | refine c_cond (by exact rfl) ?_ | refine c_ret ?_ | refine c_skip ?_ | refine c_block ?_ | refine c_exit ?_ | refine std ?_)
    | (show Br _ _ _; first | refine Br.t rfl ?_ | refine Br.f rfl ?_ | refine brs ?_ | (first | refine Br.mkN (fun h => ?_) (fun h => ?_) | refine Br.mk (fun h => ?_) (fun h => ?_)) <;> (try (first | contradiction | (exfalso; omega) | (exfalso; simp at h; done))))
    | refine stp ?_
    | (show CallT _ 237 _ _ _; refine CA (h := pdiff0_ok (fun _ _ => ?_)))
    | (show CallT _ 237 _ _ _; refine CA (h := pdiff1_ok rfl (by omega) (fun _ _ => ?_))))
  all_goals (show retC _ _ _ _ _ _; refine RETC ?_; exact ret_done (hK _ _))
end
end Go.Proofs.YtndpgmigdgohiaaGreat

