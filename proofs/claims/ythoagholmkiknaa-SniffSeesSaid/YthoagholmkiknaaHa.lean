/- Header: Fits. Header: the laws: lemmas; each with the conditions that it states. -/
import Derived.Test.YthoagholmkiknaaFh
import Derived.Test.YthoagholmkiknaaH2
import Derived.Test.YthoagholmkiknaaH3

namespace Go.Proofs.Ythoagholmkiknaa
open Go Go.Proofs Go.Sl
set_option maxRecDepth 100000
set_option maxHeartbeats 4000000
set_option linter.unusedSimpArgs false
set_option linter.unusedVariables false
attribute [local irreducible] evG evC spl thenC inBlockC noGotoC CallT retC RetG TurnG CutG pt ro exP star sep pureP
variable {R C : List HP} {K : Value → List HP → Prop}
def fitsR (l t f s : Int) : Int := if l < 0 ∨ 256 < l then 6 else if t < 0 ∨ 11 < t ∨ s < 0 then 1 else if (s = 0 ∧ ¬(5 ≤ t ∧ t ≤ 10)) ∨ (0 < s ∧ ¬(t ≤ 4 ∨ 10 ≤ t)) then 1 else if f ≠ 0 ∧ (f ≠ 1 ∨ 1 < t) then 1 else if t = 5 ∧ (l % 6 ≠ 0 ∨ 48 < l) then 6 else if 0 ≤ longR t ∧ l ≠ longR t then 6 else 0
theorem oneA_ok {k : Int} (h0 : 0 ≤ k) (h1 : k ≤ 1) (hK : K (.tuple #[.agg #[.bool false, .bool true, .int .i64 (-1), .int .i64 1], .int .i64 0]) R) : CallT Try.prog 64 #[.int .i64 k] R K := by
  refine one_ok ?_
  rcases (by omega : k = 0 ∨ k = 1) with rfl | rfl <;> exact hK
theorem oneB_ok {k : Int} (h0 : 2 ≤ k) (h1 : k ≤ 11) (hK : K (.tuple #[.agg #[.bool (decide (5 ≤ k) && decide (k ≤ 10)), .bool (decide (k ≤ 4) || decide (10 ≤ k)), .int .i64 (longR k), .int .i64 0], .int .i64 0]) R) : CallT Try.prog 64 #[.int .i64 k] R K := by
  refine one_ok ?_
  obtain ⟨e1, e2, e3, e4, e5⟩ := rules_facts k (by omega) h1
  rw [e1, e2, e3, e4, e5, if_neg (by omega)]
  exact hK
theorem oneC_ok {k : Int} (h0 : k < 0 ∨ 11 < k) (hK : K (.tuple #[.agg #[.bool false, .bool false, .int .i64 0, .int .i64 0], .int .i64 3]) R) : CallT Try.prog 64 #[.int .i64 k] R K := by
  refine one_ok ?_
  have e1 : ruleOf k = (false, false, 0, 0) := by unfold ruleOf; rw [if_pos (by omega)]
  have e2 : ruleE k = 3 := by unfold ruleE; rw [if_pos (by omega)]
  rw [e1, e2]
  exact hK
def headP (p : Nat) (l t f s : Int) : HP := pt p [.int .i64 l, .int .i64 t, .int .i64 f, .int .i64 s] 73
def fitsLong (t l long : Int) : Bool := decide ((t = 5 → (l % 6 = 0 ∧ l ≤ 48)) ∧ (t ≠ 5 → (long < 0 ∨ l = long)))
theorem fits1_ok {p q : Nat} {l t f s long flags : Int} {z o : Bool} (h0 : 0 ≤ l) (hK : K (.bool (fitsLong t l long)) (headP p l t f s :: pt q [.bool z, .bool o, .int .i64 long, .int .i64 flags] 118 :: R)) :
    CallT Try.prog 65 #[.pointer (some ⟨p, 0, none⟩), .pointer (some ⟨q, 0, none⟩)] (headP p l t f s :: pt q [.bool z, .bool o, .int .i64 long, .int .i64 flags] 118 :: R) K := by
  unfold headP at *
  refine callT_intro mixed Try.func65 rfl (by decide) (by decide +kernel) (by exact Nat.le_of_ble_eq_true rfl) ?_
  repeat' (first
    | (show evG _ _ _ _ _ _ _; first | refine G_rem ?_ | refine G_pure0 ?_ | refine G_load ?_ | refine evG_nil ?_ | refine G_br ?_ ?_ | refine G_field ?_ | refine G_pure ?_ | refine G_loadV ?_ | refine G_loadV0 ?_ | refine G_loadV2 ?_ | refine G_eql_agg ?_ | refine G_skip ?_ | refine G_skip0 ?_)
    | (show spl _ _ _; first | refine spl_no rfl ?_ | refine spl_yes rfl ?_)
    | (show evC _ _ _ _ _; first | refine c_seq ?_ | refine c_region (by exact rfl) ?_ | refine c_cond (by exact rfl) ?_ | refine c_ret ?_ | refine c_skip ?_ | refine c_block ?_ | refine c_exit ?_ | refine std ?_)
    | (show Br _ _ _; first | refine Br.t rfl ?_ | refine Br.f rfl ?_ | refine brs ?_ | (first | refine Br.mkN (fun h => ?_) (fun h => ?_) | refine Br.mk (fun h => ?_) (fun h => ?_)) <;> (try (first | contradiction | (exfalso; omega) | (exfalso; simp at h; done))))
    | refine stp ?_)
  all_goals (show retC _ _ _ _ _ _; refine RETC ?_; exact ret_done (kb hK (by unfold fitsLong; simp only [decide_eq_true_eq] <;> simp <;> omega)))
theorem fits_ok {l t f s : Int} (hf : -9223372036854775808 ≤ f ∧ f ≤ 9223372036854775807) (hK : K (.int .i64 (fitsR l t f s)) R) : CallT Try.prog 44 #[.agg #[.int .i64 l, .int .i64 t, .int .i64 f, .int .i64 s]] R K := by
  have h5 : t = 5 → longR t = -1 := fun h => by subst h; rfl
  have h1 : t ≤ 1 → longR t = -1 := fun h => by unfold longR; rw [if_neg (by omega), if_neg (by omega), if_neg (by omega)]
  have c1 := @fits1_ok
  unfold headP at c1
  rcases (by omega : (t < 0 ∨ 11 < t) ∨ (0 ≤ t ∧ t ≤ 1) ∨ (2 ≤ t ∧ t ≤ 11)) with h | h | h
  all_goals
    refine callT_intro mixed Try.func44 rfl (by decide) (by decide +kernel) (by exact Nat.le_of_ble_eq_true rfl) ?_
    repeat' (first
      | (show evG _ _ _ _ _ _ _; first | refine G_andNot0 ?_ | refine G_andNot1 ?_ | refine G_pure0 ?_ | refine G_load ?_ | refine evG_nil ?_ | refine G_br ?_ ?_ | refine G_field ?_ | refine G_pure ?_ | refine G_store ?_ | refine G_loadV ?_ | refine G_loadV0 ?_ | refine G_loadV2 ?_ | refine G_not ?_ | refine G_eql_agg ?_ | refine G_neq_agg ?_ | refine G_call ?_ | refine G_call0 ?_ | refine G_callv ?_ | refine G_callv0 ?_ | (refine G_box ?_; intro _) | (refine G_alloc ?_; intro _) | refine G_skip ?_ | refine G_skip0 ?_)
      | (show spl _ _ _; first | refine spl_no rfl ?_ | refine spl_yes rfl ?_)
      | (show evC _ _ _ _ _; first | refine c_seq ?_ | refine c_region (by exact rfl) ?_ | refine c_cond (by exact rfl) ?_ | refine c_ret ?_ | refine c_skip ?_ | refine c_block ?_ | refine c_exit ?_ | refine std ?_)
      | (show Br _ _ _; first | refine Br.t rfl ?_ | refine Br.f rfl ?_ | refine brs ?_ | (first | refine Br.mkN (fun h => ?_) (fun h => ?_) | refine Br.mk (fun h => ?_) (fun h => ?_)) <;> (try (first | contradiction | (exfalso; omega) | (exfalso; simp at h; done))))
      | refine stp ?_
      | (show CallT _ 64 _ _ _; refine CA (h := oneA_ok (by omega) (by omega) ?_))
      | (show CallT _ 64 _ _ _; refine CA (h := oneB_ok (by omega) (by omega) ?_))
      | (show CallT _ 64 _ _ _; refine CA (h := oneC_ok (by omega) ?_))
      | (show CallT _ 65 _ _ _; refine CA (h := c1 (by omega) ?_)))
    all_goals (try simp only [fitsLong, decide_eq_true_eq, decide_eq_false_iff_not] at *)
    all_goals (show retC _ _ _ _ _ _; refine RETC ?_; exact ret_done (ki hK (by unfold fitsR; (repeat' split) <;> omega)))
end Go.Proofs.Ythoagholmkiknaa


namespace Go.Proofs.Ythoagholmkiknaa
open Go Go.Proofs Go.Sl
set_option maxRecDepth 100000
set_option maxHeartbeats 4000000
set_option linter.unusedSimpArgs false
set_option linter.unusedVariables false
attribute [local irreducible] evG evC spl thenC inBlockC noGotoC CallT retC RetG TurnG CutG pt ro exP star sep pureP
variable {R C : List HP} {K : Value → List HP → Prop}
def hgE (s : ByteArray) : Int := if s.size < 9 then 5 else if 2147483647 < nAt s 5 9 then 6 else 0
def hgN (s : ByteArray) (i j : Nat) : Int := if hgE s = 0 then nAt s i j else 0
def hgV (s : ByteArray) : Value := .tuple #[.agg #[.int .i64 (hgN s 0 3), .int .i64 (hgN s 3 4), .int .i64 (hgN s 4 5), .int .i64 (hgN s 5 9)], .int .i64 (hgE s)]
theorem hgV_eq (s : ByteArray) : hGet s = hgV s := by
  unfold hGet hgV hgN hgE
  by_cases h : s.size < 9
  · simp [h]
  · by_cases h2 : 2147483647 < nAt s 5 9
    · simp [h, h2]
    · simp [h, h2]
theorem hgetC_ok {s : ByteArray} (hK : K (.tuple #[.agg #[.int .i64 (hgN s 0 3), .int .i64 (hgN s 3 4), .int .i64 (hgN s 4 5), .int .i64 (hgN s 5 9)], .int .i64 (hgE s)]) R) : CallT Try.prog 43 #[.string s] R K := hget_ok (by rw [hgV_eq]; exact hK)
/-- a header's bytes -/
def laidH (l t f s : Int) : ByteArray := rB l 3 ++ rB t 1 ++ rB f 1 ++ rB s 4
theorem laid_list {l t f s : Int} (h : hOk l t f s = true) : (laidH l t f s).data.toList = wB l 3 ++ wB t 1 ++ wB f 1 ++ wB s 4 := by
  unfold hOk at h
  simp only [Bool.and_eq_true, decide_eq_true_eq] at h
  unfold laidH rB
  rw [if_neg (by omega), if_neg (by omega), if_neg (by omega), if_neg (by omega)]
  simp
theorem pow256 : (256 : Int) ^ (1 : Nat) = 256 ∧ (256 : Int) ^ (3 : Nat) = 16777216 ∧ (256 : Int) ^ (4 : Nat) = 4294967296 := by decide
theorem may_of {n w : Int} (hw : 0 < w ∧ w ≤ 4) : (pcMay n w = 0 ↔ (0 ≤ n ∧ n < 256 ^ w.toNat)) := by
  constructor
  · intro h; exact may_rng h hw.1
  · intro h
    unfold pcMay
    have e : (2 : Int) ^ (8 * w).toNat = 256 ^ w.toNat := by
      have : (8 * w).toNat = 8 * w.toNat := by omega
      rw [this, Int.pow_mul]; rfl
    rw [e, Int.ediv_eq_zero_of_lt h.1 h.2, if_neg (by omega), if_neg (by omega)]
end Go.Proofs.Ythoagholmkiknaa

