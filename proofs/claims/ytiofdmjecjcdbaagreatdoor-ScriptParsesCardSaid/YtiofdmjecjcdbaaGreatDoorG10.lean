/- Script: Line: lemmas; each with the conditions that it states. -/
import Derived.Test.YtiofdmjecjcdbaaGreatDoorFh
import Derived.Test.YtiofdmjecjcdbaaGreatDoorG9

namespace Go.Proofs.YtiofdmjecjcdbaaGreatDoor
open Go Go.Proofs Go.Sl
set_option maxRecDepth 100000
set_option maxHeartbeats 4000000
set_option linter.unusedSimpArgs false
set_option linter.unusedVariables false
attribute [local irreducible] evG evC spl thenC inBlockC noGotoC CallT retC RetG TurnG CutG pt ro exP star sep pureP
variable {R C : List HP} {K : Value → List HP → Prop}
theorem AC_ext {a b : AC} : a = b ↔ a.kd = b.kd ∧ a.sd = b.sd ∧ a.id = b.id ∧ a.n = b.n ∧ a.cd = b.cd ∧ a.s = b.s ∧ a.on = b.on ∧ a.ww = b.ww ∧ a.xx = b.xx ∧ a.xw = b.xw ∧ a.xs = b.xs ∧ a.xi = b.xi := by
  cases a; cases b; simp
/-- are two acts the same? -/
theorem eqV_act (a b : AC) : ∃ r, eqV Tryz.prog 20 28 (.agg #[.int .i64 a.kd, .int .i64 a.sd, .int .i64 a.id, .int .i64 a.n, .int .i64 a.cd, .string a.s, .int .i64 a.on, .int .i64 a.ww, .bool a.xx, .int .i64 a.xw, .int .i64 a.xs, .int .i64 a.xi]) (.agg #[.int .i64 b.kd, .int .i64 b.sd, .int .i64 b.id, .int .i64 b.n, .int .i64 b.cd, .string b.s, .int .i64 b.on, .int .i64 b.ww, .bool b.xx, .int .i64 b.xw, .int .i64 b.xs, .int .i64 b.xi]) = some r ∧ (r = true ↔ a = b) := by
  refine ⟨_, rfl, ?_⟩
  rw [AC_ext]
  simp [Bool.and_eq_true, and_assoc]
  intro _ _ _ _ _ _ _ _ _ _ _
  exact ⟨tl_inj, fun h => by rw [h]⟩
end Go.Proofs.YtiofdmjecjcdbaaGreatDoor

