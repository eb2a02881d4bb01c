/- What joins the statement's row with the program, in parts: lemmas; each with the conditions that it states. -/
import Derived.Test.YtiofdmjecjcdbaaGreatDoorRows
import Derived.Test.YtiofdmjecjcdbaaGreatDoorB0
import Derived.ProofKit
import Derived.Lib.SmallJoins

namespace Go.Proofs.YtiofdmjecjcdbaaGreatDoor
open Go Go.Proofs Go.ChangeShapes Go.WideShapes Go.ChangeAt Go.RowKit
set_option maxRecDepth 100000
theorem j1_scriptReads : Tryz.prog.inPlace 8 = Rows.scriptReadsRow.inPlace := by kernel_rfl
theorem j2_scriptReads : Tryz.prog.unfollowed 8 = Rows.scriptReadsRow.unfollowed := by kernel_rfl
theorem j3_scriptReads : Tryz.prog.recurses 8 = Rows.scriptReadsRow.recurses := by kernel_rfl
theorem j4_scriptReads : Tryz.prog.varsNamed 8 = Rows.scriptReadsRow.named := by kernel_rfl
theorem jf_scriptReads : joinedFacts Tryz.prog 8 Tryz.f8 Rows.scriptReadsSpec Rows.scriptReadsRow = true := by
  unfold joinedFacts
  rw [j1_scriptReads, j2_scriptReads, j3_scriptReads, j4_scriptReads]
  kernel_rfl
end Go.Proofs.YtiofdmjecjcdbaaGreatDoor

