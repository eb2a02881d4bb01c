/- Stream: how it is made, out of the world: lemmas; each with the conditions that it states. -/
import Derived.Test.YtbmkghbjooobeaaW9

namespace Go.Proofs.Ytbmkghbjooobeaa
open Go Go.Proofs Go.Sl
set_option maxRecDepth 100000
set_option maxHeartbeats 4000000
set_option linter.unusedSimpArgs false
set_option linter.unusedVariables false
attribute [local irreducible] evG evC spl thenC inBlockC noGotoC CallT retC RetG TurnG CutG pt ro exP star sep pureP
variable {W : World}
theorem part_in {cs : List Value} {o m j n : Nat} (h : j + n ≤ m) : (((cs.drop o).take m).drop j).take n = (cs.drop (o + j)).take n := by
  rw [List.drop_take, List.take_take, List.drop_drop]
  congr 1
  omega
theorem good_conf {n : Nat} {cs : List Value} (hg : Go.Sl.Good Try.prog W n 76 cs) : cs.length = 9 ∧ ∃ w st it sb si stg ev wa stl : Int, (cs.drop 0).take 1 = [.int .i64 w] ∧ (cs.drop 1).take 1 = [.int .i64 st] ∧ (cs.drop 2).take 1 = [.int .i64 it] ∧ (cs.drop 3).take 1 = [.int .i64 sb] ∧ (cs.drop 4).take 1 = [.int .i64 si] ∧ (cs.drop 5).take 1 = [.int .i64 stg] ∧ (cs.drop 6).take 1 = [.int .i64 ev] ∧ (cs.drop 7).take 1 = [.int .i64 wa] ∧ (cs.drop 8).take 1 = [.int .i64 stl] := by
  have hz : Try.prog.cellsOf 76 = 9 := by kernel_rfl
  have hz2 : Try.prog.cellsOf 53 = 3 := by kernel_rfl
  obtain ⟨m2, k3, k4⟩ := good_struct Try.underlying76 hg
  obtain ⟨m3, j3, j4⟩ := good_struct Try.underlying53 (k4 0 _ rfl)
  obtain ⟨w, r0, _⟩ := good_int Try.underlying3 (j4 0 _ rfl)
  obtain ⟨st, r1, _⟩ := good_int Try.underlying3 (j4 1 _ rfl)
  obtain ⟨it, r2, _⟩ := good_int Try.underlying3 (j4 2 _ rfl)
  obtain ⟨sb, r3, _⟩ := good_int Try.underlying3 (k4 1 _ rfl)
  obtain ⟨si, r4, _⟩ := good_int Try.underlying3 (k4 2 _ rfl)
  obtain ⟨stg, r5, _⟩ := good_int Try.underlying3 (k4 3 _ rfl)
  obtain ⟨ev, r6, _⟩ := good_int Try.underlying3 (k4 4 _ rfl)
  obtain ⟨wa, r7, _⟩ := good_int Try.underlying3 (k4 5 _ rfl)
  obtain ⟨stl, r8, _⟩ := good_int Try.underlying3 (k4 6 _ rfl)
  refine ⟨k3.trans hz, w, st, it, sb, si, stg, ev, wa, stl, ?_, ?_, ?_, r3, r4, r5, r6, r7, r8⟩
  · rw [← r0]; show _ = List.take 1 (List.drop 0 (List.take (Try.prog.cellsOf 53) (List.drop 0 cs))); rw [hz2, part_in (by omega)]
  · rw [← r1]; show _ = List.take 1 (List.drop 1 (List.take (Try.prog.cellsOf 53) (List.drop 0 cs))); rw [hz2, part_in (by omega)]
  · rw [← r2]; show _ = List.take 1 (List.drop 2 (List.take (Try.prog.cellsOf 53) (List.drop 0 cs))); rw [hz2, part_in (by omega)]
theorem good_four {n : Nat} {cs : List Value} (hg : Go.Sl.Good Try.prog W n 78 cs) : ∃ (id k : Int) (own : Bool) (w st it sb si stg ev wa stl : Int), cs = [.int .i64 id, .int .i64 k, .bool own, .int .i64 w, .int .i64 st, .int .i64 it, .int .i64 sb, .int .i64 si, .int .i64 stg, .int .i64 ev, .int .i64 wa, .int .i64 stl] := by
  have hz : Try.prog.cellsOf 78 = 12 := by kernel_rfl
  have hz2 : Try.prog.cellsOf 76 = 9 := by kernel_rfl
  obtain ⟨m2, k3, k4⟩ := good_struct Try.underlying78 hg
  obtain ⟨id, r0, _⟩ := good_int Try.underlying3 (k4 0 _ rfl)
  obtain ⟨k, r1, _⟩ := good_int Try.underlying3 (k4 1 _ rfl)
  obtain ⟨own, r2⟩ := good_bool Try.underlying4 (k4 2 _ rfl)
  have hc := k4 3 _ rfl
  obtain ⟨_, w, st, it, sb, si, stg, ev, wa, stl, q0, q1, q2, q3, q4, q5, q6, q7, q8⟩ := good_conf hc
  have go : ∀ (j : Nat) (v : Value), j + 1 ≤ 9 → List.take 1 (List.drop j (List.take (Try.prog.cellsOf 76) (List.drop 3 cs))) = [v] → (cs.drop (3 + j)).take 1 = [v] := fun j v hj h => by
    rw [hz2, part_in hj] at h; exact h
  exact ⟨id, k, own, w, st, it, sb, si, stg, ev, wa, stl, cells12 (k3.trans hz) r0 r1 r2 (go 0 _ (by omega) q0) (go 1 _ (by omega) q1) (go 2 _ (by omega) q2) (go 3 _ (by omega) q3) (go 4 _ (by omega) q4) (go 5 _ (by omega) q5) (go 6 _ (by omega) q6) (go 7 _ (by omega) q7) (go 8 _ (by omega) q8)⟩
end Go.Proofs.Ytbmkghbjooobeaa

