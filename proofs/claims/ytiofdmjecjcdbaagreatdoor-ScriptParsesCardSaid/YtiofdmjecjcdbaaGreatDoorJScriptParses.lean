/- What joins the statement's row with the program, in parts: lemmas; each with the conditions that it states. -/
import Derived.Test.YtiofdmjecjcdbaaGreatDoorRows
import Derived.Test.YtiofdmjecjcdbaaGreatDoorB0
import Derived.ProofKit
import Derived.Lib.SmallJoins

namespace Go.Proofs.YtiofdmjecjcdbaaGreatDoor
open Go Go.Proofs Go.ChangeShapes Go.WideShapes Go.ChangeAt Go.RowKit
set_option maxRecDepth 100000
theorem j1_scriptParses : Tryz.prog.inPlace 3 = Rows.scriptParsesRow.inPlace := by kernel_rfl
theorem j2_scriptParses : Tryz.prog.unfollowed 3 = Rows.scriptParsesRow.unfollowed := by kernel_rfl
theorem j3_scriptParses : Tryz.prog.recurses 3 = Rows.scriptParsesRow.recurses := by kernel_rfl
theorem j4_scriptParses : Tryz.prog.varsNamed 3 = Rows.scriptParsesRow.named := by kernel_rfl
theorem jf_scriptParses : joinedFacts Tryz.prog 3 Tryz.f3 Rows.scriptParsesSpec Rows.scriptParsesRow = true := by
  unfold joinedFacts
  rw [j1_scriptParses, j2_scriptParses, j3_scriptParses, j4_scriptParses]
  kernel_rfl
end Go.Proofs.YtiofdmjecjcdbaaGreatDoor

