/- What joins the statement's row with the program, in parts: lemmas; each with the conditions that it states. -/
import Derived.Test.YtiofdmjecjcdbaaGreatDoorRows
import Derived.Test.YtiofdmjecjcdbaaGreatDoorB0
import Derived.ProofKit
import Derived.Lib.SmallJoins

namespace Go.Proofs.YtiofdmjecjcdbaaGreatDoor
open Go Go.Proofs Go.ChangeShapes Go.WideShapes Go.ChangeAt Go.RowKit
set_option maxRecDepth 100000
theorem j1_scriptBack : Tryz.prog.inPlace 6 = Rows.scriptBackRow.inPlace := by kernel_rfl
theorem j2_scriptBack : Tryz.prog.unfollowed 6 = Rows.scriptBackRow.unfollowed := by kernel_rfl
theorem j3_scriptBack : Tryz.prog.recurses 6 = Rows.scriptBackRow.recurses := by kernel_rfl
theorem j4_scriptBack : Tryz.prog.varsNamed 6 = Rows.scriptBackRow.named := by kernel_rfl
theorem jf_scriptBack : joinedFacts Tryz.prog 6 Tryz.f6 Rows.scriptBackSpec Rows.scriptBackRow = true := by
  unfold joinedFacts
  rw [j1_scriptBack, j2_scriptBack, j3_scriptBack, j4_scriptBack]
  kernel_rfl
end Go.Proofs.YtiofdmjecjcdbaaGreatDoor

