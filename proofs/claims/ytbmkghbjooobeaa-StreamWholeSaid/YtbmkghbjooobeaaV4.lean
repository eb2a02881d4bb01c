/- The document's Rx: lemmas; each with the conditions that it states. -/
import Derived.Test.YtbmkghbjooobeaaV3
import Derived.Test.YtbmkghbjooobeaaU0

namespace Go.Proofs.Ytbmkghbjooobeaa
open Go Go.Proofs Go.Sl
set_option maxRecDepth 100000
set_option maxHeartbeats 4000000
set_option linter.unusedSimpArgs false
set_option linter.unusedVariables false
attribute [local irreducible] evG evC spl thenC inBlockC noGotoC CallT retC RetG TurnG CutG pt ro exP star sep pureP
variable {R C : List HP} {K : Value → List HP → Prop}
theorem str_take (bs : List UInt8) (k : Nat) : (ByteArray.mk bs.toArray).extract 0 k = ⟨(bs.take k).toArray⟩ := by
  apply ByteArray.ext
  simp
section
variable {x p n c : Nat} {A : Option Addr} {cap most gr got us room ask open_ : Int} {bs : List UInt8} {l : List ByteArray} {en : Bool} {s : ByteArray}
/-! of bytes -/
/-! of items -/
end
end Go.Proofs.Ytbmkghbjooobeaa

