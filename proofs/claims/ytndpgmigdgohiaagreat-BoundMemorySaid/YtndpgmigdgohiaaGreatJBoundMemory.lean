/- What joins the statement's row with the program, in parts: lemmas; each with the conditions that it states. -/
import Derived.Test.YtndpgmigdgohiaaGreatRows
import Derived.Test.YtndpgmigdgohiaaGreatB0
import Derived.ProofKit
import Derived.Lib.SmallJoins

namespace Go.Proofs.YtndpgmigdgohiaaGreat
open Go Go.Proofs Go.ChangeShapes Go.WideShapes Go.ChangeAt Go.RowKit
set_option maxRecDepth 100000
theorem j1_boundMemory : Tryz.prog.inPlace 5 = Rows.boundMemoryRow.inPlace := by kernel_rfl
theorem j2_boundMemory : Tryz.prog.unfollowed 5 = Rows.boundMemoryRow.unfollowed := by kernel_rfl
theorem j3_boundMemory : Tryz.prog.recurses 5 = Rows.boundMemoryRow.recurses := by kernel_rfl
theorem j4_boundMemory : Tryz.prog.varsNamed 5 = Rows.boundMemoryRow.named := by kernel_rfl
theorem jf_boundMemory : joinedFacts Tryz.prog 5 Tryz.f5 Rows.boundMemorySpec Rows.boundMemoryRow = true := by
  unfold joinedFacts
  rw [j1_boundMemory, j2_boundMemory, j3_boundMemory, j4_boundMemory]
  kernel_rfl
end Go.Proofs.YtndpgmigdgohiaaGreat

