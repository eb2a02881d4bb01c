/- Header: Put, Get, and the document's: lemmas; each with the conditions that it states. -/
import Derived.Test.YthoagholmkiknaaFh
import Derived.Test.YthoagholmkiknaaH1
import Derived.Test.YthoagholmkiknaaD1

namespace Go.Proofs.Ythoagholmkiknaa
open Go Go.Proofs Go.Sl
set_option maxRecDepth 100000
set_option maxHeartbeats 4000000
set_option linter.unusedSimpArgs false
set_option linter.unusedVariables false
attribute [local irreducible] evG evC spl thenC inBlockC noGotoC CallT retC RetG TurnG CutG pt ro exP star sep pureP
variable {R C : List HP} {K : Value → List HP → Prop}
theorem zeroR_ok {k : Int} (hK : K (.bool (decide (5 ≤ k) && decide (k ≤ 10))) R) : CallT Try.prog 29 #[.int .i64 k] R K := by
  refine callT_intro mixed Try.func29 rfl (by decide) (by decide +kernel) (by exact Nat.le_of_ble_eq_true rfl) ?_
  repeat' (first
    | (show evG _ _ _ _ _ _ _; first | refine G_pure0 ?_ | refine evG_nil ?_ | refine G_br ?_ ?_ | refine G_pure ?_ | refine G_skip ?_ | refine G_skip0 ?_)
    | (show spl _ _ _; first | refine spl_no rfl ?_ | refine spl_yes rfl ?_)
    | (show evC _ _ _ _ _; first | refine c_seq ?_ | refine c_region (by exact rfl) ?_ | refine c_cond (by exact rfl) ?_ | refine c_ret ?_ | refine c_skip ?_ | refine c_block ?_ | refine c_exit ?_ | refine std ?_)
    | (show Br _ _ _; first | refine Br.t rfl ?_ | refine Br.f rfl ?_ | refine brs ?_ | (first | refine Br.mkN (fun h => ?_) (fun h => ?_) | refine Br.mk (fun h => ?_) (fun h => ?_)) <;> (try (first | contradiction | (exfalso; omega) | (exfalso; simp at h; done))))
    | refine stp ?_)
  all_goals (show retC _ _ _ _ _ _; refine RETC ?_; exact ret_done (kb hK (by simp <;> omega)))
theorem oneR_ok {k : Int} (hK : K (.bool (decide (k ≤ 4) || decide (10 ≤ k))) R) : CallT Try.prog 30 #[.int .i64 k] R K := by
  refine callT_intro mixed Try.func30 rfl (by decide) (by decide +kernel) (by exact Nat.le_of_ble_eq_true rfl) ?_
  repeat' (first
    | (show evG _ _ _ _ _ _ _; first | refine G_pure0 ?_ | refine evG_nil ?_ | refine G_br ?_ ?_ | refine G_pure ?_ | refine G_skip ?_ | refine G_skip0 ?_)
    | (show spl _ _ _; first | refine spl_no rfl ?_ | refine spl_yes rfl ?_)
    | (show evC _ _ _ _ _; first | refine c_seq ?_ | refine c_region (by exact rfl) ?_ | refine c_cond (by exact rfl) ?_ | refine c_ret ?_ | refine c_skip ?_ | refine c_block ?_ | refine c_exit ?_ | refine std ?_)
    | (show Br _ _ _; first | refine Br.t rfl ?_ | refine Br.f rfl ?_ | refine brs ?_ | (first | refine Br.mkN (fun h => ?_) (fun h => ?_) | refine Br.mk (fun h => ?_) (fun h => ?_)) <;> (try (first | contradiction | (exfalso; omega) | (exfalso; simp at h; done))))
    | refine stp ?_)
  all_goals (show retC _ _ _ _ _ _; refine RETC ?_; exact ret_done (kb hK (by simp <;> omega)))
def longR (k : Int) : Int := if k = 2 ∨ k = 3 ∨ k = 7 ∨ k = 8 ∨ k = 9 then 8 else if k = 4 ∨ k = 10 ∨ k = 11 then 4 else if k = 6 then 0 else -1
theorem rules_facts (k : Int) (h0 : 0 ≤ k) (h1 : k ≤ 11) : (ruleOf k).1 = (decide (5 ≤ k) && decide (k ≤ 10)) ∧ (ruleOf k).2.1 = (decide (k ≤ 4) || decide (10 ≤ k)) ∧ (ruleOf k).2.2.1 = longR k ∧ ruleE k = 0 ∧ (ruleOf k).2.2.2 = (if k ≤ 1 then 1 else 0) := by
  rcases (by omega : k = 0 ∨ k = 1 ∨ k = 2 ∨ k = 3 ∨ k = 4 ∨ k = 5 ∨ k = 6 ∨ k = 7 ∨ k = 8 ∨ k = 9 ∨ k = 10 ∨ k = 11) with h | h | h | h | h | h | h | h | h | h | h | h <;> subst h <;> decide
def hOk (l t f s : Int) : Bool := decide (0 ≤ l) && decide (l < 16777216) && decide (0 ≤ t) && decide (t < 256) && decide (0 ≤ f) && decide (f < 256) && decide (0 ≤ s) && decide (s ≤ 2147483647)
theorem hlay_ok {l t f s : Int} (hl : l ≤ 9223372036854775807) (ht : t ≤ 9223372036854775807) (hf : f ≤ 9223372036854775807) (hs : s ≤ 9223372036854775807) (hK : K (.string (rB l 3 ++ rB t 1 ++ rB f 1 ++ rB s 4)) R) : CallT Try.prog 27 #[.agg #[.int .i64 l, .int .i64 t, .int .i64 f, .int .i64 s]] R K := by
  have rb : ∀ n w : Int, 0 ≤ w → w ≤ 4 → (rB n w).size ≤ 4 := fun n w h0 h1 => by
    unfold rB; split
    · decide
    · rw [ba_size, wB_len]; omega
  have b1 := rb l 3 (by decide) (by decide)
  have b2 := rb t 1 (by decide) (by decide)
  have b3 := rb f 1 (by decide) (by decide)
  have b4 := rb s 4 (by decide) (by decide)
  refine callT_intro mixed Try.func27 rfl (by decide) (by decide +kernel) (by exact Nat.le_of_ble_eq_true rfl) ?_
  repeat' (first
    | (show evG _ _ _ _ _ _ _; first | refine G_add64 ?_ | refine G_pure0 ?_ | refine G_load ?_ | refine evG_nil ?_ | refine G_br ?_ ?_ | refine G_field ?_ | refine G_pure ?_ | refine G_loadV ?_ | refine G_loadV0 ?_ | refine G_loadV2 ?_ | refine G_cat ?_ | refine G_call ?_ | refine G_call0 ?_ | (refine G_box ?_; intro _))
    | (show spl _ _ _; first | refine spl_no rfl ?_ | refine spl_yes rfl ?_)
    | (show evC _ _ _ _ _; first | refine c_seq ?_ | refine c_region (by exact rfl) ?_ | refine c_cond (by exact rfl) ?_ | refine c_ret ?_ | refine c_skip ?_ | refine c_block ?_ | refine c_exit ?_ | (show evC _ (.region 1 _ true) _ _ _; refine c_draw (l := [(0, 0), (1, 0), (2, 1), (3, 1), (4, 1), (5, 1), (7, 2), (8, 2), (9, 1), (11, 3), (12, 3), (13, 1), (6, 2), (10, 1), (14, 0), (15, 0)]) (by decide +kernel) (by decide +kernel) (by exact rfl) ?_) | refine std ?_)
    | (show Br _ _ _; first | refine Br.t rfl ?_ | refine Br.f rfl ?_ | refine brs ?_ | (first | refine Br.mkN (fun h => ?_) (fun h => ?_) | refine Br.mk (fun h => ?_) (fun h => ?_)) <;> (try (first | contradiction | (exfalso; omega) | (exfalso; simp at h; done))))
    | refine stp ?_
    | (show CallT _ 42 _ _ _; refine CA (h := R01B_ok (by decide) (by assumption) ?_)))
  (show retC _ _ _ _ _ _; refine RETC ?_; exact ret_done (hK))
end Go.Proofs.Ythoagholmkiknaa

