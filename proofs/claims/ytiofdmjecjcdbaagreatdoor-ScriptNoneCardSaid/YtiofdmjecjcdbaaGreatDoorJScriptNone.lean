/- What joins the statement's row with the program, in parts: lemmas; each with the conditions that it states. -/
import Derived.Test.YtiofdmjecjcdbaaGreatDoorRows
import Derived.Test.YtiofdmjecjcdbaaGreatDoorB0
import Derived.ProofKit
import Derived.Lib.SmallJoins

namespace Go.Proofs.YtiofdmjecjcdbaaGreatDoor
open Go Go.Proofs Go.ChangeShapes Go.WideShapes Go.ChangeAt Go.RowKit
set_option maxRecDepth 100000
theorem j1_scriptNone : Tryz.prog.inPlace 4 = Rows.scriptNoneRow.inPlace := by kernel_rfl
theorem j2_scriptNone : Tryz.prog.unfollowed 4 = Rows.scriptNoneRow.unfollowed := by kernel_rfl
theorem j3_scriptNone : Tryz.prog.recurses 4 = Rows.scriptNoneRow.recurses := by kernel_rfl
theorem j4_scriptNone : Tryz.prog.varsNamed 4 = Rows.scriptNoneRow.named := by kernel_rfl
theorem jf_scriptNone : joinedFacts Tryz.prog 4 Tryz.f4 Rows.scriptNoneSpec Rows.scriptNoneRow = true := by
  unfold joinedFacts
  rw [j1_scriptNone, j2_scriptNone, j3_scriptNone, j4_scriptNone]
  kernel_rfl
end Go.Proofs.YtiofdmjecjcdbaaGreatDoor

