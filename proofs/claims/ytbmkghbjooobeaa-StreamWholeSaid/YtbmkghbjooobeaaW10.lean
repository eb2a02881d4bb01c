/- Stream: how it is made, out of the world: lemmas; each with the conditions that it states. -/
import Derived.Test.YtbmkghbjooobeaaW8

namespace Go.Proofs.Ytbmkghbjooobeaa
open Go Go.Proofs Go.Sl
set_option maxRecDepth 100000
set_option maxHeartbeats 4000000
set_option linter.unusedSimpArgs false
set_option linter.unusedVariables false
attribute [local irreducible] evG evC spl thenC inBlockC noGotoC CallT retC RetG TurnG CutG pt ro exP star sep pureP
variable {W : World}
theorem part_in {cs : List Value} {o m j n : Nat} (h : j + n ≤ m) : (((cs.drop o).take m).drop j).take n = (cs.drop (o + j)).take n := by
  rw [List.drop_take, List.take_take, List.drop_drop]
  congr 1
  omega
theorem good_conf {n : Nat} {cs : List Value} (hg : Go.Sl.Good Try.prog W n 76 cs) : cs.length = 9 ∧ ∃ w st it sb si stg ev wa stl : Int, (cs.drop 0).take 1 = [.int .i64 w] ∧ (cs.drop 1).take 1 = [.int .i64 st] ∧ (cs.drop 2).take 1 = [.int .i64 it] ∧ (cs.drop 3).take 1 = [.int .i64 sb] ∧ (cs.drop 4).take 1 = [.int .i64 si] ∧ (cs.drop 5).take 1 = [.int .i64 stg] ∧ (cs.drop 6).take 1 = [.int .i64 ev] ∧ (cs.drop 7).take 1 = [.int .i64 wa] ∧ (cs.drop 8).take 1 = [.int .i64 stl] := by
  have hz : Try.prog.cellsOf 76 = 9 := by kernel_rfl
  have hz2 : Try.prog.cellsOf 53 = 3 := by kernel_rfl
  obtain ⟨m2, k3, k4⟩ := good_struct Try.underlying76 hg
  obtain ⟨m3, j3, j4⟩ := good_struct Try.underlying53 (k4 0 _ rfl)
  obtain ⟨w, r0, _⟩ := good_int Try.underlying3 (j4 0 _ rfl)
  obtain ⟨st, r1, _⟩ := good_int Try.underlying3 (j4 1 _ rfl)
  obtain ⟨it, r2, _⟩ := good_int Try.underlying3 (j4 2 _ rfl)
  obtain ⟨sb, r3, _⟩ := good_int Try.underlying3 (k4 1 _ rfl)
  obtain ⟨si, r4, _⟩ := good_int Try.underlying3 (k4 2 _ rfl)
  obtain ⟨stg, r5, _⟩ := good_int Try.underlying3 (k4 3 _ rfl)
  obtain ⟨ev, r6, _⟩ := good_int Try.underlying3 (k4 4 _ rfl)
  obtain ⟨wa, r7, _⟩ := good_int Try.underlying3 (k4 5 _ rfl)
  obtain ⟨stl, r8, _⟩ := good_int Try.underlying3 (k4 6 _ rfl)
  refine ⟨k3.trans hz, w, st, it, sb, si, stg, ev, wa, stl, ?_, ?_, ?_, r3, r4, r5, r6, r7, r8⟩
  · rw [← r0]; show _ = List.take 1 (List.drop 0 (List.take (Try.prog.cellsOf 53) (List.drop 0 cs))); rw [hz2, part_in (by omega)]
  · rw [← r1]; show _ = List.take 1 (List.drop 1 (List.take (Try.prog.cellsOf 53) (List.drop 0 cs))); rw [hz2, part_in (by omega)]
  · rw [← r2]; show _ = List.take 1 (List.drop 2 (List.take (Try.prog.cellsOf 53) (List.drop 0 cs))); rw [hz2, part_in (by omega)]
end Go.Proofs.Ytbmkghbjooobeaa

