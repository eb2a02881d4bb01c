/- What joins the statement's row with the program, in parts: lemmas; each with the conditions that it states. -/
import Derived.Test.YtifgibijcmppmaaGreatRows
import Derived.ProofKit
import Derived.Lib.SmallJoins
import Derived.Test.YtifgibijcmppmaaGreatNae
set_option linter.unusedVariables false
set_option linter.unusedSimpArgs false
namespace Go.Proofs.YtifgibijcmppmaaGreat
open Go Go.Proofs Go.ChangeShapes Go.WideShapes Go.ChangeAt Go.RowKit
set_option maxRecDepth 100000
theorem N0:Tryz.prog.inPlace 4=Rows.connHarmRow.inPlace:=by kernel_rfl
theorem NM:Tryz.prog.unfollowed 4=Rows.connHarmRow.unfollowed:=by kernel_rfl
theorem Ny:Tryz.prog.recurses 4=Rows.connHarmRow.recurses:=by kernel_rfl
theorem Pt:Tryz.prog.varsNamed 4=Rows.connHarmRow.named:=by kernel_rfl
theorem NH:joinedFacts Tryz.prog 4 Tryz.f4 Rows.connHarmSpec Rows.connHarmRow=true:=by
 unfold joinedFacts
 rw[N0,NM,Ny,Pt]
 kernel_rfl
end Go.Proofs.YtifgibijcmppmaaGreat
