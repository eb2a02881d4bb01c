/- Rx: what must come at any rate; a nil receiver; do both look the same: lemmas; each with the conditions that it states. -/
import Derived.Test.YtbmkghbjooobeaaV4

namespace Go.Proofs.Ytbmkghbjooobeaa
open Go Go.Proofs Go.Sl
set_option maxRecDepth 100000
set_option maxHeartbeats 4000000
set_option linter.unusedSimpArgs false
set_option linter.unusedVariables false
attribute [local irreducible] evG evC spl thenC inBlockC noGotoC CallT retC RetG TurnG CutG pt ro exP star sep pureP
variable {R C : List HP} {K : Value → List HP → Prop} {r : Nat} {s s1 s2 : ByteArray}
section
variable {x p n c : Nat} {A : Option Addr} {cap most gr got us mr room ask open_ a1 t1 d1 : Int} {bs : List UInt8} {l : List ByteArray} {en : Bool}
end
end Go.Proofs.Ytbmkghbjooobeaa

