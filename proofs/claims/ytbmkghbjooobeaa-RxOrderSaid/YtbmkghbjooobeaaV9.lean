/- Rx: acts and settings out of the world: lemmas; each with the conditions that it states. -/
import Derived.Test.YtbmkghbjooobeaaV8

namespace Go.Proofs.Ytbmkghbjooobeaa
open Go Go.Proofs Go.Sl
set_option maxRecDepth 100000
set_option maxHeartbeats 4000000
set_option linter.unusedSimpArgs false
set_option linter.unusedVariables false
attribute [local irreducible] evG evC spl thenC inBlockC noGotoC CallT retC RetG TurnG CutG pt ro exP star sep pureP
variable {W : World}
theorem good_set {n : Nat} {cs : List Value} (hg : Go.Sl.Good Try.prog W n 53 cs) : ∃ w st it : Int, cs = [.int .i64 w, .int .i64 st, .int .i64 it] := by
  have hz : Try.prog.cellsOf 53 = 3 := by kernel_rfl
  obtain ⟨m2, k3, k4⟩ := good_struct Try.underlying53 hg
  obtain ⟨w, r0, _⟩ := good_int Try.underlying3 (k4 0 _ rfl)
  obtain ⟨st, r1, _⟩ := good_int Try.underlying3 (k4 1 _ rfl)
  obtain ⟨it, r2, _⟩ := good_int Try.underlying3 (k4 2 _ rfl)
  exact ⟨w, st, it, cells3 (k3.trans hz) r0 r1 r2⟩
theorem good_ract {n : Nat} {cs : List Value} (hg : Go.Sl.Good Try.prog W n 60 cs) : ∃ y : RA, cs = raC.enc y ∧ -9223372036854775808 ≤ y.m ∧ y.m ≤ 9223372036854775807 := by
  have hz : Try.prog.cellsOf 60 = 6 := by kernel_rfl
  have hz2 : Try.prog.cellsOf 53 = 3 := by kernel_rfl
  obtain ⟨m2, k3, k4⟩ := good_struct Try.underlying60 hg
  obtain ⟨k, r0, _⟩ := good_int Try.underlying3 (k4 0 _ rfl)
  obtain ⟨m, r1, w1⟩ := good_int Try.underlying3 (k4 1 _ rfl)
  obtain ⟨s, r2, _⟩ := good_string Try.underlying9 (k4 2 _ rfl)
  obtain ⟨w, st, it, r3⟩ := good_set (k4 3 _ rfl)
  have hl : cs.length = 6 := k3.trans hz
  have e3 : (cs.drop 3).take 3 = [.int .i64 w, .int .i64 st, .int .i64 it] := by rw [← hz2]; exact r3
  have d3 : cs.drop 3 = [.int .i64 w, .int .i64 st, .int .i64 it] := by
    rw [← e3]; exact (List.take_of_length_le (by rw [List.length_drop]; omega)).symm
  have d4 : cs.drop 4 = [.int .i64 st, .int .i64 it] := by
    have : cs.drop 4 = (cs.drop 3).drop 1 := by rw [List.drop_drop]
    rw [this, d3]; rfl
  have d5 : cs.drop 5 = [.int .i64 it] := by
    have : cs.drop 5 = (cs.drop 3).drop 2 := by rw [List.drop_drop]
    rw [this, d3]; rfl
  exact ⟨⟨k, m, s, w, st, it⟩, cells6 hl r0 r1 r2 (by rw [d3]; rfl) (by rw [d4]; rfl) (by rw [d5]; rfl), wf64 w1⟩
end Go.Proofs.Ytbmkghbjooobeaa
