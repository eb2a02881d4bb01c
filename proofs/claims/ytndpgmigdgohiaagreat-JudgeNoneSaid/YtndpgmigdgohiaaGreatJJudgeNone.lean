/- What joins the statement's row with the program, in parts: lemmas; each with the conditions that it states. -/
import Derived.Test.YtndpgmigdgohiaaGreatRows
import Derived.Test.YtndpgmigdgohiaaGreatB0
import Derived.ProofKit
import Derived.Lib.SmallJoins

namespace Go.Proofs.YtndpgmigdgohiaaGreat
open Go Go.Proofs Go.ChangeShapes Go.WideShapes Go.ChangeAt Go.RowKit
set_option maxRecDepth 100000
theorem j1_judgeNone : Tryz.prog.inPlace 6 = Rows.judgeNoneRow.inPlace := by kernel_rfl
theorem j2_judgeNone : Tryz.prog.unfollowed 6 = Rows.judgeNoneRow.unfollowed := by kernel_rfl
theorem j3_judgeNone : Tryz.prog.recurses 6 = Rows.judgeNoneRow.recurses := by kernel_rfl
theorem j4_judgeNone : Tryz.prog.varsNamed 6 = Rows.judgeNoneRow.named := by kernel_rfl
theorem jf_judgeNone : joinedFacts Tryz.prog 6 Tryz.f6 Rows.judgeNoneSpec Rows.judgeNoneRow = true := by
  unfold joinedFacts
  rw [j1_judgeNone, j2_judgeNone, j3_judgeNone, j4_judgeNone]
  kernel_rfl
end Go.Proofs.YtndpgmigdgohiaaGreat

