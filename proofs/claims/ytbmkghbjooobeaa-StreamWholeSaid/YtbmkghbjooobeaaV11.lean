/- Rx: what is read is what came, in order: lemmas; each with the conditions that it states. -/
import Derived.Test.YtbmkghbjooobeaaV8
import Derived.Test.YtbmkghbjooobeaaU8a

namespace Go.Proofs.Ytbmkghbjooobeaa
open Go Go.Proofs Go.Sl
set_option maxRecDepth 100000
set_option maxHeartbeats 4000000
set_option linter.unusedSimpArgs false
set_option linter.unusedVariables false
attribute [local irreducible] evG evC spl thenC inBlockC noGotoC CallT retC RetG TurnG CutG pt ro exP star sep pureP
variable {R C : List HP} {K : Value → List HP → Prop}
variable {A : Option Addr} {n c : Nat} {ls : List RA} {kd w st it : Int}
theorem catS (a : List UInt8) (s : ByteArray) : ByteArray.mk a.toArray ++ s = ⟨(a ++ s.data.toList).toArray⟩ := by
  apply ByteArray.ext
  simp
end Go.Proofs.Ytbmkghbjooobeaa

