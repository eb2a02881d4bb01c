/- What joins the statement's row with the program, in parts: lemmas; each with the conditions that it states. -/
import Derived.Test.YtndpgmigdgohiaaGreatRows
import Derived.Test.YtndpgmigdgohiaaGreatB0
import Derived.ProofKit
import Derived.Lib.SmallJoins

namespace Go.Proofs.YtndpgmigdgohiaaGreat
open Go Go.Proofs Go.ChangeShapes Go.WideShapes Go.ChangeAt Go.RowKit
set_option maxRecDepth 100000
theorem j1_duplexNone : Tryz.prog.inPlace 4 = Rows.duplexNoneRow.inPlace := by kernel_rfl
theorem j2_duplexNone : Tryz.prog.unfollowed 4 = Rows.duplexNoneRow.unfollowed := by kernel_rfl
theorem j3_duplexNone : Tryz.prog.recurses 4 = Rows.duplexNoneRow.recurses := by kernel_rfl
theorem j4_duplexNone : Tryz.prog.varsNamed 4 = Rows.duplexNoneRow.named := by kernel_rfl
theorem jf_duplexNone : joinedFacts Tryz.prog 4 Tryz.f4 Rows.duplexNoneSpec Rows.duplexNoneRow = true := by
  unfold joinedFacts
  rw [j1_duplexNone, j2_duplexNone, j3_duplexNone, j4_duplexNone]
  kernel_rfl
end Go.Proofs.YtndpgmigdgohiaaGreat

