/- Sniff: its small functions: lemmas; each with the conditions that it states. -/
import Derived.Test.YthoagholmkiknaaFh
import Derived.Test.YthoagholmkiknaaS1

namespace Go.Proofs.Ythoagholmkiknaa
open Go Go.Proofs Go.Sl
set_option maxRecDepth 100000
set_option maxHeartbeats 4000000
set_option linter.unusedSimpArgs false
set_option linter.unusedVariables false
attribute [local irreducible] evG evC spl thenC inBlockC noGotoC CallT retC RetG TurnG CutG pt ro exP star sep pureP
attribute [local irreducible] mp mit
variable {R C : List HP} {K : Value → List HP → Prop}
def siD : List Value → Option Int
  | [.int .i64 b] => some b
  | _ => none
theorem siD_ok (cs : List Value) (y : Int) (h : siD cs = some y) : [.int .i64 y] = cs := by
  unfold siD at h
  split at h
  · cases h; rfl
  · cases h
def siC : Cod Int := { enc := fun b => [.int .i64 b], sz := 1, dec := siD, len := fun _ => rfl, one := fun _ => rfl, ok := siD_ok }
theorem sright_ok {n : Int} (hK : K (.bool (decide (n = 0) || decide (n = 1))) R) : CallT Try.prog 20 #[.int .i64 n] R K := by
  refine callT_intro mixed Try.func20 rfl (by decide) (by decide +kernel) (by exact Nat.le_of_ble_eq_true rfl) ?_
  repeat' (first
    | (show evG _ _ _ _ _ _ _; first | refine G_pure0 ?_ | refine evG_nil ?_ | refine G_br ?_ ?_ | refine G_pure ?_ | refine G_eql_agg ?_ | refine G_skip ?_ | refine G_skip0 ?_)
    | (show spl _ _ _; first | refine spl_no rfl ?_ | refine spl_yes rfl ?_)
    | (show evC _ _ _ _ _; first | refine c_seq ?_ | refine c_region (by exact rfl) ?_ | refine c_cond (by exact rfl) ?_ | refine c_ret ?_ | refine c_skip ?_ | refine c_block ?_ | refine c_exit ?_ | refine std ?_)
    | (show Br _ _ _; first | refine Br.t rfl ?_ | refine Br.f rfl ?_ | refine brs ?_ | (first | refine Br.mkN (fun h => ?_) (fun h => ?_) | refine Br.mk (fun h => ?_) (fun h => ?_)) <;> (try (first | contradiction | (exfalso; omega) | (exfalso; simp at h; done))))
    | refine stp ?_)
  all_goals (show retC _ _ _ _ _ _; refine RETC ?_; exact ret_done (kb hK (by simp <;> omega)))
theorem pfirst_ok (hK : K (.agg #[.int .i64 64, .int .i64 8, .int .i64 4]) R) : CallT Try.prog 19 #[] R K := by
  refine callT_intro mixed Try.func19 rfl (by decide) (by decide +kernel) (by exact Nat.le_of_ble_eq_true rfl) ?_
  repeat' (first
    | (show evG _ _ _ _ _ _ _; first | refine G_pure0 ?_ | refine evG_nil ?_ | refine G_br ?_ ?_ | refine G_pure ?_ | refine G_store ?_ | refine G_build ?_ | (refine G_alloc ?_; intro _))
    | (show spl _ _ _; first | refine spl_no rfl ?_ | refine spl_yes rfl ?_)
    | (show evC _ _ _ _ _; first | refine c_seq ?_ | refine c_region (by exact rfl) ?_ | refine c_cond (by exact rfl) ?_ | refine c_ret ?_ | refine c_skip ?_ | refine c_block ?_ | refine c_exit ?_ | refine std ?_)
    | (show Br _ _ _; first | refine Br.t rfl ?_ | refine Br.f rfl ?_ | refine brs ?_ | (first | refine Br.mkN (fun h => ?_) (fun h => ?_) | refine Br.mk (fun h => ?_) (fun h => ?_)) <;> (try (first | contradiction | (exfalso; omega) | (exfalso; simp at h; done))))
    | refine stp ?_)
  (show retC _ _ _ _ _ _; refine RETC ?_; exact ret_done (hK))
/-- what is left of a credit of which n is spent -/
def spN (cr n : Int) : Int := if 0 < n ∧ cr < n then min cr 0 else cr - n
def spO (cr n : Int) : Bool := if 0 < n ∧ cr < n then false else true
section
variable {x q i0 i1 s0 s1 m : Nat} {cn0 cn1 b0 b1 it0 it1 n : Int}
theorem spendC_ok (hn : 0 ≤ n ∧ n ≤ 100000) (hb : -1000000000000 ≤ cn0 ∧ cn0 ≤ 1000000000000) (hK : K (.bool (spO cn0 n)) (pt x [.pointer (some ⟨i0, 0, none⟩), .pointer (some ⟨i1, 0, none⟩), .slice (some ⟨s0, 0, none⟩) 1 1, .slice (some ⟨s1, 0, none⟩) 1 1, .int .i64 0, .int .i64 0, .int .i64 (spN cn0 n), .int .i64 cn1, .map (some m)] 55 :: R)) : CallT Try.prog 48 #[.pointer (some ⟨x, 6, none⟩), .int .i64 n] (pt x [.pointer (some ⟨i0, 0, none⟩), .pointer (some ⟨i1, 0, none⟩), .slice (some ⟨s0, 0, none⟩) 1 1, .slice (some ⟨s1, 0, none⟩) 1 1, .int .i64 0, .int .i64 0, .int .i64 cn0, .int .i64 cn1, .map (some m)] 55 :: R) K := by
  by_cases h : 0 < n ∧ cn0 < n
  · simp only [spN, spO, if_pos h] at hK
    refine callT_intro mixed Try.func48 rfl (by decide) (by decide +kernel) (by exact Nat.le_of_ble_eq_true rfl) ?_
    repeat' (first
      | (show evG _ _ _ _ _ _ _; first | refine G_sub64 ?_ | refine G_pure0 ?_ | refine G_load ?_ | refine evG_nil ?_ | refine G_br ?_ ?_ | refine G_pure ?_ | refine G_store ?_ | refine G_loadV ?_ | refine G_loadV0 ?_ | refine G_loadV2 ?_ | refine G_min ?_ | refine G_skip ?_ | refine G_skip0 ?_)
      | (show spl _ _ _; first | refine spl_no rfl ?_ | refine spl_yes rfl ?_)
      | (show evC _ _ _ _ _; first | refine c_seq ?_ | refine c_region (by exact rfl) ?_ | refine c_cond (by exact rfl) ?_ | refine c_ret ?_ | refine c_skip ?_ | refine c_block ?_ | refine c_exit ?_ | refine std ?_)
      | (show Br _ _ _; first | refine Br.t rfl ?_ | refine Br.f rfl ?_ | refine brs ?_ | (first | refine Br.mkN (fun h => ?_) (fun h => ?_) | refine Br.mk (fun h => ?_) (fun h => ?_)) <;> (try (first | contradiction | (exfalso; omega) | (exfalso; simp at h; done))))
      | refine stp ?_)
    all_goals (show retC _ _ _ _ _ _; refine RETC ?_; exact ret_done (hK))
  · simp only [spN, spO, if_neg h] at hK
    refine callT_intro mixed Try.func48 rfl (by decide) (by decide +kernel) (by exact Nat.le_of_ble_eq_true rfl) ?_
    repeat' (first
      | (show evG _ _ _ _ _ _ _; first | refine G_sub64 ?_ | refine G_pure0 ?_ | refine G_load ?_ | refine evG_nil ?_ | refine G_br ?_ ?_ | refine G_pure ?_ | refine G_store ?_ | refine G_loadV ?_ | refine G_loadV0 ?_ | refine G_loadV2 ?_ | refine G_min ?_ | refine G_skip ?_ | refine G_skip0 ?_)
      | (show spl _ _ _; first | refine spl_no rfl ?_ | refine spl_yes rfl ?_)
      | (show evC _ _ _ _ _; first | refine c_seq ?_ | refine c_region (by exact rfl) ?_ | refine c_cond (by exact rfl) ?_ | refine c_ret ?_ | refine c_skip ?_ | refine c_block ?_ | refine c_exit ?_ | refine std ?_)
      | (show Br _ _ _; first | refine Br.t rfl ?_ | refine Br.f rfl ?_ | refine brs ?_ | (first | refine Br.mkN (fun h => ?_) (fun h => ?_) | refine Br.mk (fun h => ?_) (fun h => ?_)) <;> (try (first | contradiction | (exfalso; omega) | (exfalso; simp at h; done))))
      | refine stp ?_)
    all_goals (show retC _ _ _ _ _ _; refine RETC ?_; exact ret_done (hK))
theorem spendB_ok (hn : 0 ≤ n ∧ n ≤ 100000) (hb : -1000000000000 ≤ b0 ∧ b0 ≤ 1000000000000) (hK : K (.bool (spO b0 n)) (pt q [.int .i64 (spN b0 n), .int .i64 b1, .int .i64 it0, .int .i64 it1, .int .i64 1, .int .i64 1] 70 :: R)) : CallT Try.prog 48 #[.pointer (some ⟨q, 0, none⟩), .int .i64 n] (pt q [.int .i64 b0, .int .i64 b1, .int .i64 it0, .int .i64 it1, .int .i64 1, .int .i64 1] 70 :: R) K := by
  by_cases h : 0 < n ∧ b0 < n
  · simp only [spN, spO, if_pos h] at hK
    refine callT_intro mixed Try.func48 rfl (by decide) (by decide +kernel) (by exact Nat.le_of_ble_eq_true rfl) ?_
    repeat' (first
      | (show evG _ _ _ _ _ _ _; first | refine G_sub64 ?_ | refine G_pure0 ?_ | refine G_load ?_ | refine evG_nil ?_ | refine G_br ?_ ?_ | refine G_pure ?_ | refine G_store ?_ | refine G_loadV ?_ | refine G_loadV0 ?_ | refine G_loadV2 ?_ | refine G_min ?_ | refine G_skip ?_ | refine G_skip0 ?_)
      | (show spl _ _ _; first | refine spl_no rfl ?_ | refine spl_yes rfl ?_)
      | (show evC _ _ _ _ _; first | refine c_seq ?_ | refine c_region (by exact rfl) ?_ | refine c_cond (by exact rfl) ?_ | refine c_ret ?_ | refine c_skip ?_ | refine c_block ?_ | refine c_exit ?_ | refine std ?_)
      | (show Br _ _ _; first | refine Br.t rfl ?_ | refine Br.f rfl ?_ | refine brs ?_ | (first | refine Br.mkN (fun h => ?_) (fun h => ?_) | refine Br.mk (fun h => ?_) (fun h => ?_)) <;> (try (first | contradiction | (exfalso; omega) | (exfalso; simp at h; done))))
      | refine stp ?_)
    all_goals (show retC _ _ _ _ _ _; refine RETC ?_; exact ret_done (hK))
  · simp only [spN, spO, if_neg h] at hK
    refine callT_intro mixed Try.func48 rfl (by decide) (by decide +kernel) (by exact Nat.le_of_ble_eq_true rfl) ?_
    repeat' (first
      | (show evG _ _ _ _ _ _ _; first | refine G_sub64 ?_ | refine G_pure0 ?_ | refine G_load ?_ | refine evG_nil ?_ | refine G_br ?_ ?_ | refine G_pure ?_ | refine G_store ?_ | refine G_loadV ?_ | refine G_loadV0 ?_ | refine G_loadV2 ?_ | refine G_min ?_ | refine G_skip ?_ | refine G_skip0 ?_)
      | (show spl _ _ _; first | refine spl_no rfl ?_ | refine spl_yes rfl ?_)
      | (show evC _ _ _ _ _; first | refine c_seq ?_ | refine c_region (by exact rfl) ?_ | refine c_cond (by exact rfl) ?_ | refine c_ret ?_ | refine c_skip ?_ | refine c_block ?_ | refine c_exit ?_ | refine std ?_)
      | (show Br _ _ _; first | refine Br.t rfl ?_ | refine Br.f rfl ?_ | refine brs ?_ | (first | refine Br.mkN (fun h => ?_) (fun h => ?_) | refine Br.mk (fun h => ?_) (fun h => ?_)) <;> (try (first | contradiction | (exfalso; omega) | (exfalso; simp at h; done))))
      | refine stp ?_)
    all_goals (show retC _ _ _ _ _ _; refine RETC ?_; exact ret_done (hK))
theorem spendI_ok (hn : 0 ≤ n ∧ n ≤ 100000) (hb : -1000000000000 ≤ it0 ∧ it0 ≤ 1000000000000) (hK : K (.bool (spO it0 n)) (pt q [.int .i64 b0, .int .i64 b1, .int .i64 (spN it0 n), .int .i64 it1, .int .i64 1, .int .i64 1] 70 :: R)) : CallT Try.prog 48 #[.pointer (some ⟨q, 2, none⟩), .int .i64 n] (pt q [.int .i64 b0, .int .i64 b1, .int .i64 it0, .int .i64 it1, .int .i64 1, .int .i64 1] 70 :: R) K := by
  by_cases h : 0 < n ∧ it0 < n
  · simp only [spN, spO, if_pos h] at hK
    refine callT_intro mixed Try.func48 rfl (by decide) (by decide +kernel) (by exact Nat.le_of_ble_eq_true rfl) ?_
    repeat' (first
      | (show evG _ _ _ _ _ _ _; first | refine G_sub64 ?_ | refine G_pure0 ?_ | refine G_load ?_ | refine evG_nil ?_ | refine G_br ?_ ?_ | refine G_pure ?_ | refine G_store ?_ | refine G_loadV ?_ | refine G_loadV0 ?_ | refine G_loadV2 ?_ | refine G_min ?_ | refine G_skip ?_ | refine G_skip0 ?_)
      | (show spl _ _ _; first | refine spl_no rfl ?_ | refine spl_yes rfl ?_)
      | (show evC _ _ _ _ _; first | refine c_seq ?_ | refine c_region (by exact rfl) ?_ | refine c_cond (by exact rfl) ?_ | refine c_ret ?_ | refine c_skip ?_ | refine c_block ?_ | refine c_exit ?_ | refine std ?_)
      | (show Br _ _ _; first | refine Br.t rfl ?_ | refine Br.f rfl ?_ | refine brs ?_ | (first | refine Br.mkN (fun h => ?_) (fun h => ?_) | refine Br.mk (fun h => ?_) (fun h => ?_)) <;> (try (first | contradiction | (exfalso; omega) | (exfalso; simp at h; done))))
      | refine stp ?_)
    all_goals (show retC _ _ _ _ _ _; refine RETC ?_; exact ret_done (hK))
  · simp only [spN, spO, if_neg h] at hK
    refine callT_intro mixed Try.func48 rfl (by decide) (by decide +kernel) (by exact Nat.le_of_ble_eq_true rfl) ?_
    repeat' (first
      | (show evG _ _ _ _ _ _ _; first | refine G_sub64 ?_ | refine G_pure0 ?_ | refine G_load ?_ | refine evG_nil ?_ | refine G_br ?_ ?_ | refine G_pure ?_ | refine G_store ?_ | refine G_loadV ?_ | refine G_loadV0 ?_ | refine G_loadV2 ?_ | refine G_min ?_ | refine G_skip ?_ | refine G_skip0 ?_)
      | (show spl _ _ _; first | refine spl_no rfl ?_ | refine spl_yes rfl ?_)
      | (show evC _ _ _ _ _; first | refine c_seq ?_ | refine c_region (by exact rfl) ?_ | refine c_cond (by exact rfl) ?_ | refine c_ret ?_ | refine c_skip ?_ | refine c_block ?_ | refine c_exit ?_ | refine std ?_)
      | (show Br _ _ _; first | refine Br.t rfl ?_ | refine Br.f rfl ?_ | refine brs ?_ | (first | refine Br.mkN (fun h => ?_) (fun h => ?_) | refine Br.mk (fun h => ?_) (fun h => ?_)) <;> (try (first | contradiction | (exfalso; omega) | (exfalso; simp at h; done))))
      | refine stp ?_)
    all_goals (show retC _ _ _ _ _ _; refine RETC ?_; exact ret_done (hK))
end
theorem wrongY_ok {r : Nat} {w : Int} (hK : K (.tuple #[]) R) : CallT Try.prog 47 #[.int .i64 w, .bool true, .pointer (some ⟨r, 0, none⟩)] R K := by
  refine callT_intro mixed Try.func47 rfl (by decide) (by decide +kernel) (by exact Nat.le_of_ble_eq_true rfl) ?_
  repeat' (first
    | (show evG _ _ _ _ _ _ _; first | refine G_pure0 ?_ | refine G_load ?_ | refine evG_nil ?_ | refine G_br ?_ ?_ | refine G_pure ?_ | refine G_store ?_ | refine G_loadV ?_ | refine G_loadV0 ?_ | refine G_loadV2 ?_ | (refine G_append ?_; intro _ _) | (refine G_appendN ?_; intro _ _) | refine G_not ?_ | (refine G_buildSlice ?_; intro _))
    | (show spl _ _ _; first | refine spl_no rfl ?_ | refine spl_yes rfl ?_)
    | (show evC _ _ _ _ _; first | refine c_seq ?_ | refine c_region (by exact rfl) ?_ | refine c_cond (by exact rfl) ?_ | refine c_ret ?_ | refine c_skip ?_ | refine c_block ?_ | refine c_exit ?_ | refine std ?_)
    | (show Br _ _ _; first | refine Br.t rfl ?_ | refine Br.f rfl ?_ | refine brs ?_ | (first | refine Br.mkN (fun h => ?_) (fun h => ?_) | refine Br.mk (fun h => ?_) (fun h => ?_)) <;> (try (first | contradiction | (exfalso; omega) | (exfalso; simp at h; done))))
    | refine stp ?_)
  (show retC _ _ _ _ _ _; refine RETC ?_; exact ret_done (hK))
theorem wrongN_ok {r c : Nat} {A : Option Addr} {w : Int} {l : List Int} (hl : l.length ≤ 100) (hK : ∀ A' c', K (.tuple #[]) (pt r [.slice A' (l ++ [w]).length c'] 26 :: row A' c' 3 siC (l ++ [w]) :: R)) : CallT Try.prog 47 #[.int .i64 w, .bool false, .pointer (some ⟨r, 0, none⟩)] (pt r [.slice A l.length c] 26 :: row A c 3 siC l :: R) K := by
  refine callT_intro mixed Try.func47 rfl (by decide) (by decide +kernel) (by exact Nat.le_of_ble_eq_true rfl) ?_
  repeat' (first
    | (show evG _ _ _ _ _ _ _; first | refine G_pure0 ?_ | refine G_load ?_ | refine evG_nil ?_ | refine G_br ?_ ?_ | refine G_pure ?_ | refine G_store ?_ | refine G_loadV ?_ | refine G_loadV0 ?_ | refine G_loadV2 ?_ | (refine G_append ?_; intro _ _) | (refine G_appendN ?_; intro _ _) | refine G_not ?_ | (refine G_buildSlice ?_; intro _))
    | (show spl _ _ _; first | refine spl_no rfl ?_ | refine spl_yes rfl ?_)
    | (show evC _ _ _ _ _; first | refine c_seq ?_ | refine c_region (by exact rfl) ?_ | refine c_cond (by exact rfl) ?_ | refine c_ret ?_ | refine c_skip ?_ | refine c_block ?_ | refine c_exit ?_ | refine std ?_)
    | (show Br _ _ _; first | refine Br.t rfl ?_ | refine Br.f rfl ?_ | refine brs ?_ | (first | refine Br.mkN (fun h => ?_) (fun h => ?_) | refine Br.mk (fun h => ?_) (fun h => ?_)) <;> (try (first | contradiction | (exfalso; omega) | (exfalso; simp at h; done))))
    | refine stp ?_)
  (show retC _ _ _ _ _ _; refine RETC ?_; exact ret_done (hK _ _))
theorem snew33_ok (hK : ∀ x i0 i1 s0 s1 m, K (.pointer (some ⟨x, 0, none⟩)) (pt x [.pointer (some ⟨i0, 0, none⟩), .pointer (some ⟨i1, 0, none⟩), .slice (some ⟨s0, 0, none⟩) 1 1, .slice (some ⟨s1, 0, none⟩) 1 1, .int .i64 0, .int .i64 0, .int .i64 512, .int .i64 512, .map (some m)] 55 :: spP i0 [] 0 :: spP i1 [] 0 :: pt s0 [.int .i64 64, .int .i64 8, .int .i64 4] 58 :: pt s1 [.int .i64 64, .int .i64 8, .int .i64 4] 58 :: mp m [] 0 :: R)) : CallT Try.prog 7 #[] R K := by
  refine callT_intro mixed Try.func7 rfl (by decide) (by decide +kernel) (by exact Nat.le_of_ble_eq_true rfl) ?_
  repeat' (first
    | (show evG _ _ _ _ _ _ _; first | refine G_add64 ?_ | refine G_pure0 ?_ | refine evG_nil ?_ | refine G_br ?_ ?_ | refine G_field ?_ | refine G_pure ?_ | refine G_store ?_ | refine G_index ?_ | refine G_indexA ?_ | refine G_build ?_ | refine G_cat ?_ | refine G_call ?_ | refine G_call0 ?_ | (refine G_box ?_; intro _) | (refine G_buildSlice ?_; intro _) | (refine G_indexV ?_; intro _ _ hA; subst hA))
    | (show spl _ _ _; first | refine spl_no rfl ?_ | refine spl_yes rfl ?_)
    | (show evC _ _ _ _ _; first | refine c_seq ?_ | refine c_region (by exact rfl) ?_ | refine c_cond (by exact rfl) ?_ | refine c_ret ?_ | refine c_skip ?_ | refine c_block ?_ | refine c_exit ?_ | (show evC _ (.region 5 _ true) _ _ _; refine c_drawT (t := (.st 6 1 (.st 7 1 (.br (.st 8 2 (.st 0 3 (.st 1 3 (.st 9 3 (.st 10 3 (.st 11 1 (.st 12 2 (.st 2 4 (.st 3 4 (.st 13 4 (.st 14 4 (.st 15 0 (.st 16 1 (.st 4 5 (.st 5 5 (.st 17 5 (.st 18 5 (.st 19 0 (.st 20 1 .nil))))))))))))))))))) (.st 0 3 (.st 1 3 (.st 9 3 (.st 10 3 (.st 11 1 (.st 12 2 (.st 8 2 (.st 2 4 (.st 3 4 (.st 13 4 (.st 14 4 (.st 15 0 (.st 16 1 (.st 4 5 (.st 5 5 (.st 17 5 (.st 18 5 (.st 19 0 (.st 20 1 .nil))))))))))))))))))))))) (by kernel_rfl) (by decide +kernel) (by exact rfl) ?_) | refine std ?_)
    | (show Br _ _ _; first | refine Br.t rfl ?_ | refine Br.f rfl ?_ | refine brs ?_ | (first | refine Br.mkN (fun h => ?_) (fun h => ?_) | refine Br.mk (fun h => ?_) (fun h => ?_)) <;> (try (first | contradiction | (exfalso; omega) | (exfalso; simp at h; done))))
    | refine stp ?_
    | (show evG _ _ _ _ _ _ _; first | (refine G_makeMap ?_; intro _) | refine G_lookup ?_ | refine G_mapUpdate ?_))
  rename_i m x
  refine LOOP (fun k a C' => ∃ j : Nat, j + k = 2 ∧ Agree a [(1, .pointer (some ⟨x, 0, none⟩)), (6, .int .i64 j)] ∧ ((j = 0 ∧ C' = pt x [.pointer none, .pointer none, .slice none 0 0, .slice none 0 0, .int .i64 0, .int .i64 0, .int .i64 0, .int .i64 0, .map (some m)] 55 :: mp m [] 0 :: R) ∨ (j = 1 ∧ ∃ i0 s0, C' = pt x [.pointer (some ⟨i0, 0, none⟩), .pointer none, .slice (some ⟨s0, 0, none⟩) 1 1, .slice none 0 0, .int .i64 0, .int .i64 0, .int .i64 512, .int .i64 0, .map (some m)] 55 :: spP i0 [] 0 :: pt s0 [.int .i64 64, .int .i64 8, .int .i64 4] 58 :: mp m [] 0 :: R) ∨ (j = 2 ∧ ∃ i0 i1 s0 s1, C' = pt x [.pointer (some ⟨i0, 0, none⟩), .pointer (some ⟨i1, 0, none⟩), .slice (some ⟨s0, 0, none⟩) 1 1, .slice (some ⟨s1, 0, none⟩) 1 1, .int .i64 0, .int .i64 0, .int .i64 512, .int .i64 512, .map (some m)] 55 :: spP i0 [] 0 :: spP i1 [] 0 :: pt s0 [.int .i64 64, .int .i64 8, .int .i64 4] 58 :: pt s1 [.int .i64 64, .int .i64 8, .int .i64 4] 58 :: mp m [] 0 :: R))) 2 (turn 2 ⟨0, by omega, ⟨rfl, rfl, trivial⟩, .inl ⟨rfl, rfl⟩⟩ (by omega)) ?_
  rintro k a C' ⟨j, hj, ha, h | h | h⟩
  · obtain ⟨rfl, rfl⟩ := h
    refine c_fr _ ha ?_
    simp only [updL]
    repeat' (first
      | (show evG _ _ _ _ _ _ _; first | refine G_add64 ?_ | refine G_pure0 ?_ | refine evG_nil ?_ | refine G_br ?_ ?_ | refine G_field ?_ | refine G_pure ?_ | refine G_store ?_ | refine G_index ?_ | refine G_indexA ?_ | refine G_build ?_ | refine G_cat ?_ | refine G_call ?_ | refine G_call0 ?_ | (refine G_box ?_; intro _) | (refine G_buildSlice ?_; intro _) | (refine G_indexV ?_; intro _ _ hA; subst hA))
      | (show spl _ _ _; first | refine spl_no rfl ?_ | refine spl_yes rfl ?_)
      | (show evC _ _ _ _ _; first | refine c_seq ?_ | refine c_region (by exact rfl) ?_ | refine c_cond (by exact rfl) ?_ | refine c_ret ?_ | refine c_skip ?_ | refine c_block ?_ | refine c_exit ?_ | (show evC _ (.region 5 _ true) _ _ _; refine c_drawT (t := (.st 6 1 (.st 7 1 (.br (.st 8 2 (.st 0 3 (.st 1 3 (.st 9 3 (.st 10 3 (.st 11 1 (.st 12 2 (.st 2 4 (.st 3 4 (.st 13 4 (.st 14 4 (.st 15 0 (.st 16 1 (.st 4 5 (.st 5 5 (.st 17 5 (.st 18 5 (.st 19 0 (.st 20 1 .nil))))))))))))))))))) (.st 0 3 (.st 1 3 (.st 9 3 (.st 10 3 (.st 11 1 (.st 12 2 (.st 8 2 (.st 2 4 (.st 3 4 (.st 13 4 (.st 14 4 (.st 15 0 (.st 16 1 (.st 4 5 (.st 5 5 (.st 17 5 (.st 18 5 (.st 19 0 (.st 20 1 .nil))))))))))))))))))))))) (by kernel_rfl) (by decide +kernel) (by exact rfl) ?_) | refine std ?_)
      | (show Br _ _ _; first | refine Br.t rfl ?_ | refine Br.f rfl ?_ | refine brs ?_ | (first | refine Br.mkN (fun h => ?_) (fun h => ?_) | refine Br.mk (fun h => ?_) (fun h => ?_)) <;> (try (first | contradiction | (exfalso; omega) | (exfalso; simp at h; done))))
      | refine stp ?_
      | (show CallT _ 18 _ _ _; refine CA (h := snew_ok (fun i0 => ?_)))
      | (show CallT _ 19 _ _ _; refine CA (h := pfirst_ok ?_)))
    all_goals (show TurnG _ _ _ _; exact turn 1 ⟨1, by omega, ⟨rfl, rfl, trivial⟩, .inr (.inl ⟨rfl, _, _, rfl⟩)⟩)
  · obtain ⟨rfl, i0, s0, rfl⟩ := h
    refine c_fr _ ha ?_
    simp only [updL]
    repeat' (first
      | (show evG _ _ _ _ _ _ _; first | refine G_add64 ?_ | refine G_pure0 ?_ | refine evG_nil ?_ | refine G_br ?_ ?_ | refine G_field ?_ | refine G_pure ?_ | refine G_store ?_ | refine G_index ?_ | refine G_indexA ?_ | refine G_build ?_ | refine G_cat ?_ | refine G_call ?_ | refine G_call0 ?_ | (refine G_box ?_; intro _) | (refine G_buildSlice ?_; intro _) | (refine G_indexV ?_; intro _ _ hA; subst hA))
      | (show spl _ _ _; first | refine spl_no rfl ?_ | refine spl_yes rfl ?_)
      | (show evC _ _ _ _ _; first | refine c_seq ?_ | refine c_region (by exact rfl) ?_ | refine c_cond (by exact rfl) ?_ | refine c_ret ?_ | refine c_skip ?_ | refine c_block ?_ | refine c_exit ?_ | (show evC _ (.region 5 _ true) _ _ _; refine c_drawT (t := (.st 6 1 (.st 7 1 (.br (.st 8 2 (.st 0 3 (.st 1 3 (.st 9 3 (.st 10 3 (.st 11 1 (.st 12 2 (.st 2 4 (.st 3 4 (.st 13 4 (.st 14 4 (.st 15 0 (.st 16 1 (.st 4 5 (.st 5 5 (.st 17 5 (.st 18 5 (.st 19 0 (.st 20 1 .nil))))))))))))))))))) (.st 0 3 (.st 1 3 (.st 9 3 (.st 10 3 (.st 11 1 (.st 12 2 (.st 8 2 (.st 2 4 (.st 3 4 (.st 13 4 (.st 14 4 (.st 15 0 (.st 16 1 (.st 4 5 (.st 5 5 (.st 17 5 (.st 18 5 (.st 19 0 (.st 20 1 .nil))))))))))))))))))))))) (by kernel_rfl) (by decide +kernel) (by exact rfl) ?_) | refine std ?_)
      | (show Br _ _ _; first | refine Br.t rfl ?_ | refine Br.f rfl ?_ | refine brs ?_ | (first | refine Br.mkN (fun h => ?_) (fun h => ?_) | refine Br.mk (fun h => ?_) (fun h => ?_)) <;> (try (first | contradiction | (exfalso; omega) | (exfalso; simp at h; done))))
      | refine stp ?_
      | (show CallT _ 18 _ _ _; refine CA (h := snew_ok (fun i1 => ?_)))
      | (show CallT _ 19 _ _ _; refine CA (h := pfirst_ok ?_)))
    all_goals (show TurnG _ _ _ _; exact turn 0 ⟨2, by omega, ⟨rfl, rfl, trivial⟩, .inr (.inr ⟨rfl, _, _, _, _, rfl⟩)⟩)
  · obtain ⟨rfl, i0, i1, s0, s1, rfl⟩ := h
    refine c_fr _ ha ?_
    simp only [updL]
    repeat' (first
      | (show evG _ _ _ _ _ _ _; first | refine G_add64 ?_ | refine G_pure0 ?_ | refine evG_nil ?_ | refine G_br ?_ ?_ | refine G_field ?_ | refine G_pure ?_ | refine G_store ?_ | refine G_index ?_ | refine G_indexA ?_ | refine G_build ?_ | refine G_cat ?_ | refine G_call ?_ | refine G_call0 ?_ | (refine G_box ?_; intro _) | (refine G_buildSlice ?_; intro _) | (refine G_indexV ?_; intro _ _ hA; subst hA))
      | (show spl _ _ _; first | refine spl_no rfl ?_ | refine spl_yes rfl ?_)
      | (show evC _ _ _ _ _; first | refine c_seq ?_ | refine c_region (by exact rfl) ?_ | refine c_cond (by exact rfl) ?_ | refine c_ret ?_ | refine c_skip ?_ | refine c_block ?_ | refine c_exit ?_ | (show evC _ (.region 5 _ true) _ _ _; refine c_drawT (t := (.st 6 1 (.st 7 1 (.br (.st 8 2 (.st 0 3 (.st 1 3 (.st 9 3 (.st 10 3 (.st 11 1 (.st 12 2 (.st 2 4 (.st 3 4 (.st 13 4 (.st 14 4 (.st 15 0 (.st 16 1 (.st 4 5 (.st 5 5 (.st 17 5 (.st 18 5 (.st 19 0 (.st 20 1 .nil))))))))))))))))))) (.st 0 3 (.st 1 3 (.st 9 3 (.st 10 3 (.st 11 1 (.st 12 2 (.st 8 2 (.st 2 4 (.st 3 4 (.st 13 4 (.st 14 4 (.st 15 0 (.st 16 1 (.st 4 5 (.st 5 5 (.st 17 5 (.st 18 5 (.st 19 0 (.st 20 1 .nil))))))))))))))))))))))) (by kernel_rfl) (by decide +kernel) (by exact rfl) ?_) | refine std ?_)
      | (show Br _ _ _; first | refine Br.t rfl ?_ | refine Br.f rfl ?_ | refine brs ?_ | (first | refine Br.mkN (fun h => ?_) (fun h => ?_) | refine Br.mk (fun h => ?_) (fun h => ?_)) <;> (try (first | contradiction | (exfalso; omega) | (exfalso; simp at h; done))))
      | refine stp ?_)
    all_goals (show retC _ _ _ _ _ _; refine RETC ?_; exact ret_done (hK _ _ _ _ _ _))
end Go.Proofs.Ythoagholmkiknaa

