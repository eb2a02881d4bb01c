/- Frame: All, by the program and by the document: lemmas; each with the conditions that it states. -/
import Derived.Test.YtndpgmigdgohiaaGreatFh
import Derived.Test.YtndpgmigdgohiaaGreatK3
import Derived.Test.YtndpgmigdgohiaaGreatH3
import Derived.Test.YtndpgmigdgohiaaGreatAa
import Derived.Test.YtndpgmigdgohiaaGreatFe

namespace Go.Proofs.YtndpgmigdgohiaaGreat
open Go Go.Proofs Go.Sl
set_option maxRecDepth 100000
set_option maxHeartbeats 4000000
set_option linter.unusedSimpArgs false
set_option linter.unusedVariables false
attribute [local irreducible] evG evC spl thenC inBlockC noGotoC CallT retC RetG TurnG CutG pt ro exP star sep pureP
attribute [local irreducible] ByteArray.extract nAt scanP
variable {R C : List HP} {K : Value → List HP → Prop}
/-- what is known of a frame's settings -/
def FmV (C : List HP) (y : Fm) : Prop := View C y.pa prC y.ps ∧ y.ps.length = y.pn
theorem FmV.there {X : HP} {y : Fm} (h : FmV C y) : FmV (X :: C) y := ⟨view_there h.1, h.2⟩
def chkF (y : Fm) : Bool := chkB y.t y.st y.e y.d y.k y.on y.w y.x y.c y.la y.n y.ps
end Go.Proofs.YtndpgmigdgohiaaGreat

