/- Split: the frames that bytes are, by the document: lemmas; each with the conditions that it states. -/
import Derived.Test.YthoagholmkiknaaFh
import Derived.Test.YthoagholmkiknaaP4

namespace Go.Proofs.Ythoagholmkiknaa
open Go Go.Proofs Go.Sl
set_option maxRecDepth 100000
set_option maxHeartbeats 4000000
set_option linter.unusedSimpArgs false
set_option linter.unusedVariables false
attribute [local irreducible] evG evC spl thenC inBlockC noGotoC CallT retC RetG TurnG CutG pt ro exP star sep pureP
attribute [local irreducible] ByteArray.extract nAt scanP
variable {R C : List HP} {K : Value → List HP → Prop}
theorem st_some {p : ByteArray} {e : Int} (h : stS p = some e) : (p.size < 9 ∧ e = 0) ∨ (9 ≤ p.size ∧ hgE (p.extract 0 9) ≠ 0 ∧ e = 1) ∨ (9 ≤ p.size ∧ hgE (p.extract 0 9) = 0 ∧ fitsR (sL p) (sT p) (sF p) (sS p) ≠ 0 ∧ e = fitsR (sL p) (sT p) (sF p) (sS p)) ∨ (9 ≤ p.size ∧ hgE (p.extract 0 9) = 0 ∧ fitsR (sL p) (sT p) (sF p) (sS p) = 0 ∧ (p.size : Int) < 9 + sL p ∧ e = 0) ∨ (9 ≤ p.size ∧ hgE (p.extract 0 9) = 0 ∧ fitsR (sL p) (sT p) (sF p) (sS p) = 0 ∧ 9 + sL p ≤ p.size ∧ gE (sL p) (sT p) (sF p) (sS p) (sQ p) ≠ 0 ∧ e = gE (sL p) (sT p) (sF p) (sS p) (sQ p)) := by
  unfold stS at h
  split at h
  · cases h; exact .inl ⟨by assumption, rfl⟩
  · split at h
    · split at h
      · split at h
        · cases h; exact .inr (.inr (.inr (.inl ⟨by omega, by assumption, by assumption, by assumption, rfl⟩)))
        · split at h
          · cases h
          · cases h; exact .inr (.inr (.inr (.inr ⟨by omega, by assumption, by assumption, by omega, by assumption, rfl⟩)))
      · cases h; exact .inr (.inr (.inl ⟨by omega, by assumption, by assumption, rfl⟩))
    · cases h; exact .inr (.inl ⟨by omega, by assumption, rfl⟩)
end Go.Proofs.Ythoagholmkiknaa

