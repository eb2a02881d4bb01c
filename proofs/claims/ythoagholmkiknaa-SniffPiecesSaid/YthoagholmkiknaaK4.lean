/- Frame: the document's Right is Check: lemmas; each with the conditions that it states. -/
import Derived.Test.YthoagholmkiknaaK3

namespace Go.Proofs.Ythoagholmkiknaa
open Go Go.Proofs Go.Sl
set_option maxRecDepth 100000
set_option maxHeartbeats 4000000
set_option linter.unusedSimpArgs false
set_option linter.unusedVariables false
attribute [local irreducible] evG evC spl thenC inBlockC noGotoC CallT retC RetG TurnG CutG pt ro exP star sep pureP
variable {R C : List HP} {K : Value → List HP → Prop}
def RightP (t st : Int) (e : Bool) (d : ByteArray) (k on w : Int) (x : Bool) (c la n : Int) (ps : List Pr) : Prop := (0 ≤ t ∧ t ≤ 11) ∧ (0 ≤ st ∧ st ≤ 2147483647) ∧ (st = 0 → 5 ≤ t ∧ t ≤ 10) ∧ (0 < st → t ≤ 4 ∨ 10 ≤ t) ∧ (e = true → t ≤ 1) ∧ (k ≠ 0 → t = 2) ∧ (c ≠ 0 → t = 4 ∨ t = 9) ∧ (la ≠ 0 → t = 9) ∧ (n ≠ 0 → 10 ≤ t) ∧ (0 < ps.length → t = 5) ∧ (noneB on w x = false → t = 2 ∨ t = 3) ∧ (0 < d.size → t ≤ 1 ∨ t = 7 ∨ t = 8) ∧ (t ≤ 1 → d.size ≤ 256) ∧ (t = 7 ∨ t = 8 → d.size = 8) ∧ (t = 2 → k = 1 ∨ k = 2) ∧ (t = 2 ∨ t = 3 → depB on w = true) ∧ psB ps = true ∧ n31 c = true ∧ n31 la = true ∧ n31 n = true ∧ ps.length ≤ 8
theorem size0 {d : ByteArray} : d = ⟨#[]⟩ ↔ d.size = 0 := by
  constructor
  · rintro rfl; rfl
  · intro h; apply ByteArray.ext; exact Array.eq_empty_of_size_eq_zero h
theorem none_iff (on w : Int) (x : Bool) : noneB on w x = true ↔ (on = 0 ∧ w = 0 ∧ x = false) := by unfold noneB; cases x <;> simp
theorem len0 {l : List Pr} : l.length = 0 → psB l = true := fun h => by rw [List.length_eq_zero_iff.1 h]; rfl
theorem chk_iff (t st : Int) (e : Bool) (d : ByteArray) (k on w : Int) (x : Bool) (c la n : Int) (ps : List Pr) : chkB t st e d k on w x c la n ps = true ↔ RightP t st e d k on w x c la n ps := by
  have hn0 : n31 0 = true := by decide
  have hst := n31_iff st
  have h0 := @len0 ps
  have hnn := none_iff on w x
  have hpn : peq ps [] = true ↔ ps.length = 0 := by rw [peq_nil]; simp
  have hps := peq_self ps
  have hd := @size0 d
  rcases (by omega : (t < 0 ∨ 11 < t) ∨ t = 0 ∨ t = 1 ∨ t = 2 ∨ t = 3 ∨ t = 4 ∨ t = 5 ∨ t = 6 ∨ t = 7 ∨ t = 8 ∨ t = 9 ∨ t = 10 ∨ t = 11) with h | h | h | h | h | h | h | h | h | h | h | h | h
  · constructor
    · intro hh
      unfold chkB at hh
      simp only [Bool.and_eq_true, decide_eq_true_eq] at hh
      omega
    · intro hh
      have := hh.1
      omega
  all_goals
    subst h
    unfold chkB RightP streamB SameP fieldsB
    simp only [oE, oD, oK, oO, oX, oC, oL, oN, oPs, Bool.and_eq_true, Bool.or_eq_true, decide_eq_true_eq]
    grind
end Go.Proofs.Ythoagholmkiknaa

