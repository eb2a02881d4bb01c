/- Frame: Put, Lay, and what any bytes are as a frame: lemmas; each with the conditions that it states. -/
import Derived.Test.YtndpgmigdgohiaaGreatK4
import Derived.Test.YtndpgmigdgohiaaGreatH3
import Derived.Test.YtndpgmigdgohiaaGreatH2
import Derived.Test.YtndpgmigdgohiaaGreatFe

namespace Go.Proofs.YtndpgmigdgohiaaGreat
open Go Go.Proofs Go.Sl
set_option maxRecDepth 100000
set_option maxHeartbeats 4000000
set_option linter.unusedSimpArgs false
set_option linter.unusedVariables false
attribute [local irreducible] evG evC spl thenC inBlockC noGotoC CallT retC RetG TurnG CutG pt ro exP star sep pureP
attribute [local irreducible] ByteArray.extract nAt scanP
variable {R C : List HP} {K : Value → List HP → Prop}
theorem checkA_ok {t st : Int} {e : Bool} {d : ByteArray} {k on w : Int} {x : Bool} {c la n : Int} {pa : Option Addr} {pn pc : Nat} {ps : List Pr} (h : chkB t st e d k on w x c la n ps = true) (hv : View C pa prC ps) (hn : ps.length = pn) (hn2 : pn < 1000000000000000) (hK : K (.int .i64 0) C) : CallT Tryz.prog 70 #[.agg #[.int .i64 t, .int .i64 st, .bool e, .string d, .int .i64 k, .int .i64 on, .int .i64 w, .bool x, .int .i64 c, .int .i64 la, .int .i64 n, .slice pa pn pc]] C K := by
  refine fcheck_ok hv hn hn2 ?_
  unfold chkI; rw [h]; exact hK
end Go.Proofs.YtndpgmigdgohiaaGreat

