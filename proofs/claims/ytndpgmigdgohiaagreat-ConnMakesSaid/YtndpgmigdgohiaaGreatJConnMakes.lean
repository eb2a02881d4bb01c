/- What joins the statement's row with the program, in parts: lemmas; each with the conditions that it states. -/
import Derived.Test.YtndpgmigdgohiaaGreatRows
import Derived.Test.YtndpgmigdgohiaaGreatB0
import Derived.ProofKit
import Derived.Lib.SmallJoins

namespace Go.Proofs.YtndpgmigdgohiaaGreat
open Go Go.Proofs Go.ChangeShapes Go.WideShapes Go.ChangeAt Go.RowKit
set_option maxRecDepth 100000
theorem j1_connMakes : Tryz.prog.inPlace 3 = Rows.connMakesRow.inPlace := by kernel_rfl
theorem j2_connMakes : Tryz.prog.unfollowed 3 = Rows.connMakesRow.unfollowed := by kernel_rfl
theorem j3_connMakes : Tryz.prog.recurses 3 = Rows.connMakesRow.recurses := by kernel_rfl
theorem j4_connMakes : Tryz.prog.varsNamed 3 = Rows.connMakesRow.named := by kernel_rfl
theorem jf_connMakes : joinedFacts Tryz.prog 3 Tryz.f3 Rows.connMakesSpec Rows.connMakesRow = true := by
  unfold joinedFacts
  rw [j1_connMakes, j2_connMakes, j3_connMakes, j4_connMakes]
  kernel_rfl
end Go.Proofs.YtndpgmigdgohiaaGreat

