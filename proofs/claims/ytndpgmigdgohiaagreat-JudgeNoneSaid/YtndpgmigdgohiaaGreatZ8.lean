/- Conn: the law ConnMakes: lemmas; each with the conditions that it states. -/
import Derived.Test.YtndpgmigdgohiaaGreatFh
import Derived.Test.YtndpgmigdgohiaaGreatZ6
import Derived.Test.YtndpgmigdgohiaaGreatB0
import Derived.Test.YtndpgmigdgohiaaGreatFg
import Derived.Test.YtndpgmigdgohiaaGreatE2
import Derived.Test.YtndpgmigdgohiaaGreatFe

namespace Go.Proofs.YtndpgmigdgohiaaGreat
open Go Go.Proofs Go.Sl
set_option maxRecDepth 100000
set_option maxHeartbeats 4000000
set_option linter.unusedSimpArgs false
set_option linter.unusedVariables false
attribute [local irreducible] evG evC spl thenC inBlockC noGotoC CallT retC RetG TurnG CutG pt ro exP star sep pureP
attribute [local irreducible] mp mit
variable {R C : List HP} {K : Value → List HP → Prop}
variable {side w st it sb si stg ev wa stl : Int}
/-- may there be an endpoint of it? -/
def cOK (side w st it sb si stg ev wa stl : Int) : Bool := decide (side = 0 ∨ side = 1) && chkS w st it && decide (0 ≤ sb ∧ sb ≤ 4096) && decide (0 ≤ si ∧ si ≤ 64) && decide (0 ≤ stg ∧ stg ≤ 2) && decide (0 ≤ ev ∧ ev ≤ 1048576) && decide (0 ≤ wa ∧ wa ≤ 1048576) && decide (0 ≤ stl ∧ stl ≤ 1048576)
theorem cOK_iff : cOK side w st it sb si stg ev wa stl = true ↔ (side = 0 ∨ side = 1) ∧ chkS w st it = true ∧ (0 ≤ sb ∧ sb ≤ 4096) ∧ (0 ≤ si ∧ si ≤ 64) ∧ (0 ≤ stg ∧ stg ≤ 2) ∧ (0 ≤ ev ∧ ev ≤ 1048576) ∧ (0 ≤ wa ∧ wa ≤ 1048576) ∧ (0 ≤ stl ∧ stl ≤ 1048576) := by
  unfold cOK
  simp only [Bool.and_eq_true, decide_eq_true_eq, and_assoc]
theorem cnewGood_ok (h : cOK side w st it sb si stg ev wa stl = true) (hK : ∀ x, K (.tuple #[.pointer (some ⟨x, 0, none⟩), .int .i64 0]) R) : CallT Tryz.prog 7 #[.int .i64 side, .agg #[.int .i64 w, .int .i64 st, .int .i64 it, .int .i64 sb, .int .i64 si, .int .i64 stg, .int .i64 ev, .int .i64 wa, .int .i64 stl]] R K := by
  obtain ⟨h1, h2, h3, h4, h5, h6, h7, h8⟩ := cOK_iff.1 h
  have he := mayE_of h4 h5 h2 h3
  by_cases heq : w = 64 ∧ st = 8 ∧ it = 4
  · exact cnewF_ok h1 he ⟨h6, h7⟩ h8 heq hK
  · exact cnewG_ok h1 he ⟨h6, h7⟩ h8 heq hK
section
variable {sd kd id n on ww xw xs xi : Int} {xx : Bool} {s : ByteArray}
end
end Go.Proofs.YtndpgmigdgohiaaGreat

