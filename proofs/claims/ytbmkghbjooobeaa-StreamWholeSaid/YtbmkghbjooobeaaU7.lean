/- Tx: every call of a sender is answered as the document says: lemmas; each with the conditions that it states. -/
import Derived.Test.YtbmkghbjooobeaaU6

namespace Go.Proofs.Ytbmkghbjooobeaa
open Go Go.Proofs Go.Sl
set_option maxRecDepth 100000
set_option maxHeartbeats 4000000
set_option linter.unusedSimpArgs false
set_option linter.unusedVariables false
attribute [local irreducible] evG evC spl thenC inBlockC noGotoC CallT retC RetG TurnG CutG pt ro exP star sep pureP
variable {R C : List HP} {K : Value → List HP → Prop}
theorem txB_sats {t cap : Nat} {bs : List UInt8} {en ou : Bool} {ac se dr : Int} {H : Hp} (h : Sats (txB t cap bs en ou ac se dr :: C) H) : TB cap bs en ou ac se dr := by
  obtain ⟨r, h1⟩ := h.ex
  exact h1.sep2.tail.sep2.tail.pure.1
theorem txI_sats {t cap : Nat} {st : Int} {l : List ByteArray} {w : Int} {en ou : Bool} {ac se dr : Int} {H : Hp} (h : Sats (txI t cap st l w en ou ac se dr :: C) H) : TI cap st l w en ou ac se dr := by
  obtain ⟨q, h1⟩ := h.ex
  obtain ⟨d, h2⟩ := h1.ex
  exact h2.sep2.tail.sep2.tail.sep2.tail.pure.1
section
variable {t x cap : Nat} {st : Int} {bs : List UInt8} {en ou : Bool} {ac se dr w : Int} {k n : Int} {s : ByteArray} {l : List ByteArray}
end
theorem at_drop {α : Type} {l : List α} {j : Nat} (h : j < l.length) : ∃ y, l[j]? = some y ∧ l.drop j = y :: l.drop (j + 1) :=
  ⟨l[j], List.getElem?_eq_getElem h, List.drop_eq_getElem_cons h⟩
section
variable {A : Option Addr} {n c : Nat} {ls : List TA} {kd st : Int}
end
end Go.Proofs.Ytbmkghbjooobeaa

