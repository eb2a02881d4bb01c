/- What joins the statement's row with the program, in parts: lemmas; each with the conditions that it states. -/
import Derived.Test.YtffnpejdkkohcaaGreatRows
import Derived.Test.YtffnpejdkkohcaaGreatBae
import Derived.ProofKit
import Derived.Lib.SmallJoins
import Derived.Test.YtffnpejdkkohcaaGreatQx
namespace Go.Proofs.YtffnpejdkkohcaaGreat
open Go Go.Proofs Go.ChangeShapes Go.WideShapes Go.ChangeAt Go.RowKit
set_option maxRecDepth 100000
theorem j1_connCodes:Tryz.prog.inPlace 3=Rows.connCodesRow.inPlace:=by kernel_rfl
theorem j2_connCodes:Tryz.prog.unfollowed 3=Rows.connCodesRow.unfollowed:=by kernel_rfl
theorem j3_connCodes:Tryz.prog.recurses 3=Rows.connCodesRow.recurses:=by kernel_rfl
theorem j4_connCodes:Tryz.prog.varsNamed 3=Rows.connCodesRow.named:=by kernel_rfl
theorem jf_connCodes:joinedFacts Tryz.prog 3 Tryz.f3 Rows.connCodesSpec Rows.connCodesRow=true:=by
 unfold joinedFacts
 rw[j1_connCodes,j2_connCodes,j3_connCodes,j4_connCodes]
 kernel_rfl
end Go.Proofs.YtffnpejdkkohcaaGreat
