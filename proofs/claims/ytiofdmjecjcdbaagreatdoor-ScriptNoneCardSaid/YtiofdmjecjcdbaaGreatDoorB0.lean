/- The program's orders: lemmas; each with the conditions that it states. -/
import Derived.Test.YtiofdmjecjcdbaaGreatDoorProg
import Derived.Test.YtiofdmjecjcdbaaGreatDoorFe

namespace Go.Proofs.YtiofdmjecjcdbaaGreatDoor
open Go Go.Proofs Go.Sl
set_option maxRecDepth 100000
set_option maxHeartbeats 4000000
set_option linter.unusedSimpArgs false
set_option linter.unusedVariables false
attribute [local irreducible] evG evC spl thenC inBlockC noGotoC CallT retC RetG TurnG CutG pt ro exP star sep pureP
theorem mixed : Tryz.prog.follows .mixedOrders = true := by rfl
end Go.Proofs.YtiofdmjecjcdbaaGreatDoor

