/- What joins the statement's row with the program, in parts: lemmas; each with the conditions that it states. -/
import Derived.Test.YtifgibijcmppmaaGreatRows
import Derived.ProofKit
import Derived.Lib.SmallJoins
import Derived.Test.YtifgibijcmppmaaGreatUaf
set_option linter.unusedVariables false
set_option linter.unusedSimpArgs false
namespace Go.Proofs.YtifgibijcmppmaaGreat
open Go Go.Proofs Go.ChangeShapes Go.WideShapes Go.ChangeAt Go.RowKit
set_option maxRecDepth 100000
theorem Ju:Tryz.prog.inPlace 6=Rows.boundHoldsRow.inPlace:=by kernel_rfl
theorem JQ:Tryz.prog.unfollowed 6=Rows.boundHoldsRow.unfollowed:=by kernel_rfl
theorem JR:Tryz.prog.recurses 6=Rows.boundHoldsRow.recurses:=by kernel_rfl
theorem JY:Tryz.prog.varsNamed 6=Rows.boundHoldsRow.named:=by kernel_rfl
theorem Jt:joinedFacts Tryz.prog 6 Tryz.f6 Rows.boundHoldsSpec Rows.boundHoldsRow=true:=by
 unfold joinedFacts
 rw[Ju,JQ,JR,JY]
 kernel_rfl
end Go.Proofs.YtifgibijcmppmaaGreat
