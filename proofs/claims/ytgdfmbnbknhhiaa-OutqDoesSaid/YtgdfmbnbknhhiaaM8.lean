/- Outq: acts read out of the world: lemmas; each with the conditions that it states. -/
import Derived.Test.YtgdfmbnbknhhiaaM6

namespace Go.Proofs.Ytgdfmbnbknhhiaa
open Go Go.Proofs Go.Sl
set_option maxRecDepth 100000
set_option maxHeartbeats 4000000
set_option linter.unusedSimpArgs false
set_option linter.unusedVariables false
attribute [local irreducible] evG evC spl thenC inBlockC noGotoC CallT retC RetG TurnG CutG pt ro exP star sep pureP
variable {W : World}
def acP (y : Act) : HP := fmP y.f
theorem pers_acP (y : Act) : Pers (acP y) := pers_fmP _
theorem mono_acP (y : Act) : MonoP (acP y) := mono_fmP _
theorem view_acP {C : List HP} {l : List Act} {y : Act} (hy : y ∈ l) : View (allP acP l :: C) y.f.pa prC y.f.ps := view_ent (Ent.allget (P := acP) pers_acP mono_acP hy) view_rrow
theorem good_act {n : Nat} {cs : List Value} (hg : Go.Sl.Good Try.prog W n 67 cs) : ∃ y : Act, cs = acC.enc y ∧ FmW W y.f ∧ 0 ≤ y.many ∧ y.many ≤ 255 := by
  have hz : Try.prog.cellsOf 67 = 15 := by kernel_rfl
  have hz2 : Try.prog.cellsOf 65 = 12 := by kernel_rfl
  obtain ⟨m2, k3, k4⟩ := good_struct Try.underlying67 hg
  obtain ⟨y, r0, hy⟩ := good_frame (k4 0 _ rfl)
  obtain ⟨m, r1, w1⟩ := good_int Try.underlying5 (k4 1 _ rfl)
  obtain ⟨nx, r2⟩ := good_bool Try.underlying4 (k4 2 _ rfl)
  obtain ⟨cl, r3⟩ := good_bool Try.underlying4 (k4 3 _ rfl)
  refine ⟨⟨y, m, nx, cl⟩, ?_, hy, (wf8 w1).1, (wf8 w1).2⟩
  have hl : cs.length = 15 := k3.trans hz
  have e0 : cs.take 12 = fmC.enc y := by rw [← hz2]; exact r0
  have e1 : (cs.drop 12).take 1 = [.int .u8 m] := r1
  have e2 : (cs.drop 13).take 1 = [.bool nx] := r2
  have e3 : (cs.drop 14).take 1 = [.bool cl] := r3
  have d0 := List.take_append_drop 12 cs
  have d1 := List.take_append_drop 1 (cs.drop 12)
  have d2 := List.take_append_drop 1 (cs.drop 13)
  have d3 : (cs.drop 14).take 1 = cs.drop 14 := List.take_of_length_le (by rw [List.length_drop]; omega)
  rw [List.drop_drop, e1] at d1
  rw [List.drop_drop, e2] at d2
  rw [← d0, e0, ← d1, show 12 + 1 = 13 from rfl, ← d2, show 13 + 1 = 14 from rfl, ← d3, e3]
  rfl
end Go.Proofs.Ytgdfmbnbknhhiaa
