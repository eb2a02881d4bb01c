/- What joins the statement's row with the program, in parts: lemmas; each with the conditions that it states. -/
import Derived.Test.YtifgibijcmppmaaGreatRows
import Derived.ProofKit
import Derived.Lib.SmallJoins
import Derived.Test.YtifgibijcmppmaaGreatMae
set_option linter.unusedVariables false
set_option linter.unusedSimpArgs false
namespace Go.Proofs.YtifgibijcmppmaaGreat
open Go Go.Proofs Go.ChangeShapes Go.WideShapes Go.ChangeAt Go.RowKit
set_option maxRecDepth 100000
theorem IS:Tryz.prog.inPlace 5=Rows.duplexAgainRow.inPlace:=by kernel_rfl
theorem IQ:Tryz.prog.unfollowed 5=Rows.duplexAgainRow.unfollowed:=by kernel_rfl
theorem HT:Tryz.prog.recurses 5=Rows.duplexAgainRow.recurses:=by kernel_rfl
theorem Ic:Tryz.prog.varsNamed 5=Rows.duplexAgainRow.named:=by kernel_rfl
theorem HD:joinedFacts Tryz.prog 5 Tryz.f5 Rows.duplexAgainSpec Rows.duplexAgainRow=true:=by
 unfold joinedFacts
 rw[IS,IQ,HT,Ic]
 kernel_rfl
end Go.Proofs.YtifgibijcmppmaaGreat
