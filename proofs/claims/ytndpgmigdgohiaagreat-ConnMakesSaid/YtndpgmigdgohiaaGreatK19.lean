/- Frame: frames read out of the world: lemmas; each with the conditions that it states. -/
import Derived.Test.YtndpgmigdgohiaaGreatK17

namespace Go.Proofs.YtndpgmigdgohiaaGreat
open Go Go.Proofs Go.Sl
set_option maxRecDepth 100000
set_option maxHeartbeats 4000000
set_option linter.unusedSimpArgs false
set_option linter.unusedVariables false
attribute [local irreducible] evG evC spl thenC inBlockC noGotoC CallT retC RetG TurnG CutG pt ro exP star sep pureP
variable {W : World}
def fmP (y : Fm) : HP := rrow y.pa prC y.ps
theorem pers_fmP (y : Fm) : Pers (fmP y) := pers_rrow _ _ _
theorem mono_fmP (y : Fm) : MonoP (fmP y) := mono_rrow _ _ _
end Go.Proofs.YtndpgmigdgohiaaGreat

