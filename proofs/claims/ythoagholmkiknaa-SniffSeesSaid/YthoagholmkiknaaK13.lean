/- Frame: a frame read, by the document: lemmas; each with the conditions that it states. -/
import Derived.Test.YthoagholmkiknaaK12
import Derived.Test.YthoagholmkiknaaK10
import Derived.Test.YthoagholmkiknaaK7
import Derived.Test.YthoagholmkiknaaFe

namespace Go.Proofs.Ythoagholmkiknaa
open Go Go.Proofs Go.Sl
set_option maxRecDepth 100000
set_option maxHeartbeats 4000000
set_option linter.unusedSimpArgs false
set_option linter.unusedVariables false
attribute [local irreducible] evG evC spl thenC inBlockC noGotoC CallT retC RetG TurnG CutG pt ro exP star sep pureP
attribute [local irreducible] ByteArray.extract nAt scanP
variable {R C : List HP} {K : Value → List HP → Prop}
/-- may the frame read be? -/
def gB (t st : Int) (e : Bool) (p : ByteArray) : Bool := chkB t st e (gD t p) (gK t p) (gO t p) (gW t p) (gX t p) (gC t p) (gL t p) (gN t p) (gP t p)
/-- its payload -/
def gY (t : Int) (p : ByteArray) : ByteArray := ⟨(payL t (gD t p) (gK t p) (gO t p) (gW t p) (gX t p) (gC t p) (gL t p) (gN t p) (gP t p)).toArray⟩
def gOk (t st : Int) (e : Bool) (p : ByteArray) : Bool := gB t st e p && decide (gY t p = p)
end Go.Proofs.Ythoagholmkiknaa

