/- What joins the statement's row with the program, in parts: lemmas; each with the conditions that it states. -/
import Derived.Test.YtiofdmjecjcdbaaGreatDoorRows
import Derived.Test.YtiofdmjecjcdbaaGreatDoorB0
import Derived.ProofKit
import Derived.Lib.SmallJoins

namespace Go.Proofs.YtiofdmjecjcdbaaGreatDoor
open Go Go.Proofs Go.ChangeShapes Go.WideShapes Go.ChangeAt Go.RowKit
set_option maxRecDepth 100000
theorem j1_scriptPrints : Tryz.prog.inPlace 7 = Rows.scriptPrintsRow.inPlace := by kernel_rfl
theorem j2_scriptPrints : Tryz.prog.unfollowed 7 = Rows.scriptPrintsRow.unfollowed := by kernel_rfl
theorem j3_scriptPrints : Tryz.prog.recurses 7 = Rows.scriptPrintsRow.recurses := by kernel_rfl
theorem j4_scriptPrints : Tryz.prog.varsNamed 7 = Rows.scriptPrintsRow.named := by kernel_rfl
theorem jf_scriptPrints : joinedFacts Tryz.prog 7 Tryz.f7 Rows.scriptPrintsSpec Rows.scriptPrintsRow = true := by
  unfold joinedFacts
  rw [j1_scriptPrints, j2_scriptPrints, j3_scriptPrints, j4_scriptPrints]
  kernel_rfl
end Go.Proofs.YtiofdmjecjcdbaaGreatDoor

