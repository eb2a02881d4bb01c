/- Frame: the document's Right, its first regions. Frame: the document's Right, its next regions: lemmas; each with the conditions that it states. -/
import Derived.Test.YthoagholmkiknaaFh
import Derived.Test.YthoagholmkiknaaK4
import Derived.Test.YthoagholmkiknaaFe

namespace Go.Proofs.Ythoagholmkiknaa
open Go Go.Proofs Go.Sl
set_option maxRecDepth 100000
set_option maxHeartbeats 4000000
set_option linter.unusedSimpArgs false
set_option linter.unusedVariables false
attribute [local irreducible] evG evC spl thenC inBlockC noGotoC CallT retC RetG TurnG CutG pt ro exP star sep pureP
variable {R C : List HP} {K : Value → List HP → Prop}
def b2 (t st : Int) : Bool := !(decide (0 ≤ t) && decide (t ≤ 11) && streamB t st)
def b4 (t : Int) (e : Bool) (k c la n : Int) (m : Nat) : Bool := (e && decide (1 < t)) || (!decide (k = 0) && !decide (t = 2)) || (!decide (c = 0) && !decide (t = 4) && !decide (t = 9)) || (!decide (la = 0) && !decide (t = 9)) || (!decide (n = 0) && decide (t < 10)) || (decide (0 < m) && !decide (t = 5))
end Go.Proofs.Ythoagholmkiknaa


namespace Go.Proofs.Ythoagholmkiknaa
open Go Go.Proofs Go.Sl
set_option maxRecDepth 100000
set_option maxHeartbeats 4000000
set_option linter.unusedSimpArgs false
set_option linter.unusedVariables false
attribute [local irreducible] evG evC spl thenC inBlockC noGotoC CallT retC RetG TurnG CutG pt ro exP star sep pureP
variable {R C : List HP} {K : Value → List HP → Prop}
def b6 (t : Int) (d : ByteArray) (on w : Int) (x : Bool) : Bool := (!noneB on w x && !decide (t = 2) && !decide (t = 3)) || (!decide (d = ⟨#[]⟩) && decide (1 < t) && !decide (t = 7) && !decide (t = 8))
def b8 (t : Int) (d : ByteArray) (k on w : Int) : Bool := (decide (t ≤ 1) && decide (256 < d.size)) || ((decide (t = 7) || decide (t = 8)) && !decide (d.size = 8)) || (decide (t = 2) && !decide (k = 1) && !decide (k = 2)) || ((decide (t = 2) || decide (t = 3)) && !depB on w)
end Go.Proofs.Ythoagholmkiknaa

