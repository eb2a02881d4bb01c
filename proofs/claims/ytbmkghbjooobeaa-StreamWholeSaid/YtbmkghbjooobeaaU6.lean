/- Tx: what must come at any rate; a nil sender: lemmas; each with the conditions that it states. -/
import Derived.Test.YtbmkghbjooobeaaU5

namespace Go.Proofs.Ytbmkghbjooobeaa
open Go Go.Proofs Go.Sl
set_option maxRecDepth 100000
set_option maxHeartbeats 4000000
set_option linter.unusedSimpArgs false
set_option linter.unusedVariables false
attribute [local irreducible] evG evC spl thenC inBlockC noGotoC CallT retC RetG TurnG CutG pt ro exP star sep pureP
variable {R C : List HP} {K : Value → List HP → Prop}
structure TA where
  k : Int
  n : Int
  s : ByteArray
end Go.Proofs.Ytbmkghbjooobeaa

