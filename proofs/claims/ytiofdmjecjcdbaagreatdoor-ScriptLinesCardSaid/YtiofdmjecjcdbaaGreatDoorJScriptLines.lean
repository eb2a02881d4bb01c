/- What joins the statement's row with the program, in parts: lemmas; each with the conditions that it states. -/
import Derived.Test.YtiofdmjecjcdbaaGreatDoorRows
import Derived.Test.YtiofdmjecjcdbaaGreatDoorB0
import Derived.ProofKit
import Derived.Lib.SmallJoins

namespace Go.Proofs.YtiofdmjecjcdbaaGreatDoor
open Go Go.Proofs Go.ChangeShapes Go.WideShapes Go.ChangeAt Go.RowKit
set_option maxRecDepth 100000
theorem j1_scriptLines : Tryz.prog.inPlace 5 = Rows.scriptLinesRow.inPlace := by kernel_rfl
theorem j2_scriptLines : Tryz.prog.unfollowed 5 = Rows.scriptLinesRow.unfollowed := by kernel_rfl
theorem j3_scriptLines : Tryz.prog.recurses 5 = Rows.scriptLinesRow.recurses := by kernel_rfl
theorem j4_scriptLines : Tryz.prog.varsNamed 5 = Rows.scriptLinesRow.named := by kernel_rfl
theorem jf_scriptLines : joinedFacts Tryz.prog 5 Tryz.f5 Rows.scriptLinesSpec Rows.scriptLinesRow = true := by
  unfold joinedFacts
  rw [j1_scriptLines, j2_scriptLines, j3_scriptLines, j4_scriptLines]
  kernel_rfl
end Go.Proofs.YtiofdmjecjcdbaaGreatDoor

