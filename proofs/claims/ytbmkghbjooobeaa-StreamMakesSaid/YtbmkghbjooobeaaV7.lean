/- Rx: a call of both, of items: lemmas; each with the conditions that it states. -/
import Derived.Test.YtbmkghbjooobeaaV6
import Derived.Test.YtbmkghbjooobeaaQ7

namespace Go.Proofs.Ytbmkghbjooobeaa
open Go Go.Proofs Go.Sl
set_option maxRecDepth 100000
set_option maxHeartbeats 4000000
set_option linter.unusedSimpArgs false
set_option linter.unusedVariables false
attribute [local irreducible] evG evC spl thenC inBlockC noGotoC CallT retC RetG TurnG CutG pt ro exP star sep pureP
variable {R C : List HP} {K : Value → List HP → Prop}
section
variable {r x p n c : Nat} {A : Option Addr} {mr room ask open_ a1 t1 d1 k m w st it : Int} {l : List ByteArray} {en : Bool} {s : ByteArray}
end
end Go.Proofs.Ytbmkghbjooobeaa

