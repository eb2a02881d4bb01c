/- What joins the statement's row with the program, in parts: lemmas; each with the conditions that it states. -/
import Derived.Test.YtepnmcipkangkaaGreatRows
import Derived.ProofKit
import Derived.Lib.SmallJoins
import Derived.Test.YtepnmcipkangkaaGreatCae
set_option linter.unusedVariables false
set_option linter.unusedSimpArgs false
set_option maxRecDepth 100000
namespace Go.Proofs.YtepnmcipkangkaaGreat
open Go Go.Proofs Go.ChangeShapes Go.WideShapes Go.ChangeAt Go.RowKit
theorem MM:Tryz.prog.inPlace 3=Rows.connPeaceRow.inPlace:=by kernel_rfl
theorem Mu:Tryz.prog.unfollowed 3=Rows.connPeaceRow.unfollowed:=by kernel_rfl
theorem MX:Tryz.prog.recurses 3=Rows.connPeaceRow.recurses:=by kernel_rfl
theorem N4:Tryz.prog.varsNamed 3=Rows.connPeaceRow.named:=by kernel_rfl
theorem Nl:joinedFacts Tryz.prog 3 Tryz.f3 Rows.connPeaceSpec Rows.connPeaceRow=true:=by
 unfold joinedFacts
 rw[MM,Mu,MX,N4]
 kernel_rfl
end Go.Proofs.YtepnmcipkangkaaGreat
