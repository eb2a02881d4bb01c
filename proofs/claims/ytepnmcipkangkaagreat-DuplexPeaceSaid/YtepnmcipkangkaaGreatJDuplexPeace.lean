/- What joins the statement's row with the program, in parts: lemmas; each with the conditions that it states. -/
import Derived.Test.YtepnmcipkangkaaGreatRows
import Derived.ProofKit
import Derived.Lib.SmallJoins
import Derived.Test.YtepnmcipkangkaaGreatPae
set_option linter.unusedVariables false
set_option linter.unusedSimpArgs false
set_option maxRecDepth 100000
namespace Go.Proofs.YtepnmcipkangkaaGreat
open Go Go.Proofs Go.ChangeShapes Go.WideShapes Go.ChangeAt Go.RowKit
theorem IV:Tryz.prog.inPlace 4=Rows.duplexPeaceRow.inPlace:=by kernel_rfl
theorem Jk:Tryz.prog.unfollowed 4=Rows.duplexPeaceRow.unfollowed:=by kernel_rfl
theorem IX:Tryz.prog.recurses 4=Rows.duplexPeaceRow.recurses:=by kernel_rfl
theorem Ks:Tryz.prog.varsNamed 4=Rows.duplexPeaceRow.named:=by kernel_rfl
theorem Ji:joinedFacts Tryz.prog 4 Tryz.f4 Rows.duplexPeaceSpec Rows.duplexPeaceRow=true:=by
 unfold joinedFacts
 rw[IV,Jk,IX,Ks]
 kernel_rfl
end Go.Proofs.YtepnmcipkangkaaGreat
