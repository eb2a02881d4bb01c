/- Frame: Put, Lay, and what any bytes are as a frame. Frame: All, by the program and by the document. Frame: frames read out of the world: lemmas; each with the conditions that it states. -/
import Derived.Test.YtndpgmigdgohiaaGreatFh
import Derived.Test.YtndpgmigdgohiaaGreatK4
import Derived.Test.YtndpgmigdgohiaaGreatH3
import Derived.Test.YtndpgmigdgohiaaGreatH2
import Derived.Test.YtndpgmigdgohiaaGreatFe

namespace Go.Proofs.YtndpgmigdgohiaaGreat
open Go Go.Proofs Go.Sl
set_option maxRecDepth 100000
set_option maxHeartbeats 4000000
set_option linter.unusedSimpArgs false
set_option linter.unusedVariables false
attribute [local irreducible] evG evC spl thenC inBlockC noGotoC CallT retC RetG TurnG CutG pt ro exP star sep pureP
attribute [local irreducible] ByteArray.extract nAt scanP
variable {R C : List HP} {K : Value → List HP → Prop}
theorem checkA_ok {t st : Int} {e : Bool} {d : ByteArray} {k on w : Int} {x : Bool} {c la n : Int} {pa : Option Addr} {pn pc : Nat} {ps : List Pr} (h : chkB t st e d k on w x c la n ps = true) (hv : View C pa prC ps) (hn : ps.length = pn) (hn2 : pn < 1000000000000000) (hK : K (.int .i64 0) C) : CallT Tryz.prog 70 #[.agg #[.int .i64 t, .int .i64 st, .bool e, .string d, .int .i64 k, .int .i64 on, .int .i64 w, .bool x, .int .i64 c, .int .i64 la, .int .i64 n, .slice pa pn pc]] C K := by
  refine fcheck_ok hv hn hn2 ?_
  unfold chkI; rw [h]; exact hK
end Go.Proofs.YtndpgmigdgohiaaGreat


namespace Go.Proofs.YtndpgmigdgohiaaGreat
open Go Go.Proofs Go.Sl
set_option maxRecDepth 100000
set_option maxHeartbeats 4000000
set_option linter.unusedSimpArgs false
set_option linter.unusedVariables false
attribute [local irreducible] evG evC spl thenC inBlockC noGotoC CallT retC RetG TurnG CutG pt ro exP star sep pureP
attribute [local irreducible] ByteArray.extract nAt scanP
variable {R C : List HP} {K : Value → List HP → Prop}
def fmD : List Value → Option Fm
  | [.int .i64 t, .int .i64 st, .bool e, .string d, .int .i64 k, .int .i64 on, .int .i64 w, .bool x, .int .i64 c, .int .i64 la, .int .i64 n, .slice pa pn pc] => some ⟨t, st, e, d, k, on, w, x, c, la, n, pa, pn, pc, []⟩
  | _ => none
theorem fmD_ok (cs : List Value) (y : Fm) (h : fmD cs = some y) : [.int .i64 y.t, .int .i64 y.st, .bool y.e, .string y.d, .int .i64 y.k, .int .i64 y.on, .int .i64 y.w, .bool y.x, .int .i64 y.c, .int .i64 y.la, .int .i64 y.n, .slice y.pa y.pn y.pc] = cs := by
  unfold fmD at h
  split at h
  · cases h; rfl
  · cases h
def fmC : Cod Fm := { enc := fun y => [.int .i64 y.t, .int .i64 y.st, .bool y.e, .string y.d, .int .i64 y.k, .int .i64 y.on, .int .i64 y.w, .bool y.x, .int .i64 y.c, .int .i64 y.la, .int .i64 y.n, .slice y.pa y.pn y.pc], sz := 12, dec := fmD, len := fun _ => rfl, one := fun _ => rfl, ok := fmD_ok }
/-- what is known of a frame's settings -/
def FmV (C : List HP) (y : Fm) : Prop := View C y.pa prC y.ps ∧ y.ps.length = y.pn
theorem FmV.there {X : HP} {y : Fm} (h : FmV C y) : FmV (X :: C) y := ⟨view_there h.1, h.2⟩
def chkF (y : Fm) : Bool := chkB y.t y.st y.e y.d y.k y.on y.w y.x y.c y.la y.n y.ps
def RightF (y : Fm) : Prop := RightP y.t y.st y.e y.d y.k y.on y.w y.x y.c y.la y.n y.ps
theorem chkF_iff (y : Fm) : chkF y = true ↔ RightF y := chk_iff _ _ _ _ _ _ _ _ _ _ _ _
end Go.Proofs.YtndpgmigdgohiaaGreat


namespace Go.Proofs.YtndpgmigdgohiaaGreat
open Go Go.Proofs Go.Sl
set_option maxRecDepth 100000
set_option maxHeartbeats 4000000
set_option linter.unusedSimpArgs false
set_option linter.unusedVariables false
attribute [local irreducible] evG evC spl thenC inBlockC noGotoC CallT retC RetG TurnG CutG pt ro exP star sep pureP
variable {W : World}
def fmP (y : Fm) : HP := rrow y.pa prC y.ps
theorem pers_fmP (y : Fm) : Pers (fmP y) := pers_rrow _ _ _
theorem mono_fmP (y : Fm) : MonoP (fmP y) := mono_rrow _ _ _
end Go.Proofs.YtndpgmigdgohiaaGreat

