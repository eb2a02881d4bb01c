/- Rx: a call of both, of bytes: lemmas; each with the conditions that it states. -/
import Derived.Test.YtbmkghbjooobeaaV4

namespace Go.Proofs.Ytbmkghbjooobeaa
open Go Go.Proofs Go.Sl
set_option maxRecDepth 100000
set_option maxHeartbeats 4000000
set_option linter.unusedSimpArgs false
set_option linter.unusedVariables false
attribute [local irreducible] evG evC spl thenC inBlockC noGotoC CallT retC RetG TurnG CutG pt ro exP star sep pureP
variable {R C : List HP} {K : Value → List HP → Prop}
section
variable {r x p n c : Nat} {A : Option Addr} {cap most gr got us mr room ask open_ a1 t1 d1 k m w st it : Int} {bs : List UInt8} {l : List ByteArray} {en : Bool} {s : ByteArray}
theorem rxB_sats {H : Hp} (h : Sats (rxB r cap most gr got us bs en :: C) H) : RB cap most gr got us bs := by
  obtain ⟨g, h1⟩ := h.ex
  obtain ⟨p, h2⟩ := h1.ex
  exact h2.sep2.tail.sep2.tail.sep2.tail.pure.1
theorem rxI_sats {H : Hp} (h : Sats (rxI r mr room open_ ask l a1 t1 d1 en :: C) H) : RI mr room open_ ask l a1 t1 d1 := by
  obtain ⟨q, h1⟩ := h.ex
  obtain ⟨d, h2⟩ := h1.ex
  exact h2.sep2.tail.sep2.tail.sep2.tail.pure.1
end
end Go.Proofs.Ytbmkghbjooobeaa

