/- The document's queue: lemmas; each with the conditions that it states. -/
import Derived.Test.YtbmkghbjooobeaaQb
import Derived.Test.YtbmkghbjooobeaaQa

namespace Go.Proofs.Ytbmkghbjooobeaa
open Go Go.Proofs Go.Sl
set_option maxRecDepth 100000
set_option maxHeartbeats 4000000
set_option linter.unusedSimpArgs false
set_option linter.unusedVariables false
attribute [local irreducible] evG evC spl thenC inBlockC noGotoC CallT retC RetG TurnG CutG pt ro exP star sep pureP
variable {R C : List HP} {K : Value → List HP → Prop}
/-! the document's queue -/
theorem take_tail {α : Type} (l : List α) : List.take (((l.length : Nat) : Int).toNat - (1 : Int).toNat) (List.drop (1 : Int).toNat l) = l.tail := by
  rw [List.take_of_length_le (by simp)]; simp
end Go.Proofs.Ytbmkghbjooobeaa

