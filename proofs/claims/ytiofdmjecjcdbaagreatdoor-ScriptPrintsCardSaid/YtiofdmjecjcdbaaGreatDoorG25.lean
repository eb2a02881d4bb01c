/- Script: acts out of the world: lemmas; each with the conditions that it states. -/
import Derived.Test.YtiofdmjecjcdbaaGreatDoorG3
import Derived.Test.YtiofdmjecjcdbaaGreatDoorFe

namespace Go.Proofs.YtiofdmjecjcdbaaGreatDoor
open Go Go.Proofs Go.Sl
set_option maxRecDepth 100000
set_option maxHeartbeats 4000000
set_option linter.unusedSimpArgs false
set_option linter.unusedVariables false
attribute [local irreducible] evG evC spl thenC inBlockC noGotoC CallT retC RetG TurnG CutG pt ro exP star sep pureP
variable {W : World}
theorem part31 {cs : List Value} {o m j n : Nat} (h : j + n ≤ m) : (((cs.drop o).take m).drop j).take n = (cs.drop (o + j)).take n := by
  rw [List.drop_take, List.take_take, List.drop_drop]
  congr 1
  omega
theorem cells31 {cs : List Value} {v0 v1 v2 v3 v4 v5 v6 v7 v8 v9 v10 v11 : Value} (hl : cs.length = 12) (h0 : (cs.drop 0).take 1 = [v0]) (h1 : (cs.drop 1).take 1 = [v1]) (h2 : (cs.drop 2).take 1 = [v2]) (h3 : (cs.drop 3).take 1 = [v3]) (h4 : (cs.drop 4).take 1 = [v4]) (h5 : (cs.drop 5).take 1 = [v5]) (h6 : (cs.drop 6).take 1 = [v6]) (h7 : (cs.drop 7).take 1 = [v7]) (h8 : (cs.drop 8).take 1 = [v8]) (h9 : (cs.drop 9).take 1 = [v9]) (h10 : (cs.drop 10).take 1 = [v10]) (h11 : (cs.drop 11).take 1 = [v11]) : cs = [v0, v1, v2, v3, v4, v5, v6, v7, v8, v9, v10, v11] := by
  match cs, hl with
  | [a0, a1, a2, a3, a4, a5, a6, a7, a8, a9, a10, a11], _ => simp_all
theorem good_act31 {n : Nat} {cs : List Value} (hg : Go.Sl.Good Tryz.prog W n 28 cs) : ∃ a : AC, InA a ∧ cs = [.int .i64 a.kd, .int .i64 a.sd, .int .i64 a.id, .int .i64 a.n, .int .i64 a.cd, .string a.s, .int .i64 a.on, .int .i64 a.ww, .bool a.xx, .int .i64 a.xw, .int .i64 a.xs, .int .i64 a.xi] := by
  have hz : Tryz.prog.cellsOf 28 = 12 := by kernel_rfl
  have hz2 : Tryz.prog.cellsOf 26 = 3 := by kernel_rfl
  have hz3 : Tryz.prog.cellsOf 24 = 3 := by kernel_rfl
  obtain ⟨m2, k3, k4⟩ := good_struct Tryz.underlying28 hg
  obtain ⟨kd, r0, _⟩ := good_int Tryz.underlying3 (k4 0 _ rfl)
  obtain ⟨sd, r1, w1⟩ := good_int Tryz.underlying3 (k4 1 _ rfl)
  obtain ⟨id, r2, w2⟩ := good_int Tryz.underlying3 (k4 2 _ rfl)
  obtain ⟨n, r3, w3⟩ := good_int Tryz.underlying3 (k4 3 _ rfl)
  obtain ⟨cd, r4, w4⟩ := good_int Tryz.underlying3 (k4 4 _ rfl)
  obtain ⟨s, r5, _⟩ := good_string Tryz.underlying9 (k4 5 _ rfl)
  obtain ⟨m5, j5, j6⟩ := good_struct Tryz.underlying24 (k4 6 _ rfl)
  obtain ⟨on, q0, u0⟩ := good_int Tryz.underlying3 (j6 0 _ rfl)
  obtain ⟨ww, q1, u1⟩ := good_int Tryz.underlying3 (j6 1 _ rfl)
  obtain ⟨xx, q2⟩ := good_bool Tryz.underlying4 (j6 2 _ rfl)
  obtain ⟨m3, j3, j4⟩ := good_struct Tryz.underlying26 (k4 7 _ rfl)
  obtain ⟨xw, p0, x0⟩ := good_int Tryz.underlying3 (j4 0 _ rfl)
  obtain ⟨xs, p1, x1⟩ := good_int Tryz.underlying3 (j4 1 _ rfl)
  obtain ⟨xi, p2, x2⟩ := good_int Tryz.underlying3 (j4 2 _ rfl)
  have go : ∀ (j : Nat) (v : Value), j + 1 ≤ 3 → List.take 1 (List.drop j (List.take (Tryz.prog.cellsOf 24) (List.drop 6 cs))) = [v] → (cs.drop (6 + j)).take 1 = [v] := fun j v hj h => by
    rw [hz3, part31 hj] at h; exact h
  have go2 : ∀ (j : Nat) (v : Value), j + 1 ≤ 3 → List.take 1 (List.drop j (List.take (Tryz.prog.cellsOf 26) (List.drop 9 cs))) = [v] → (cs.drop (9 + j)).take 1 = [v] := fun j v hj h => by
    rw [hz2, part31 hj] at h; exact h
  exact ⟨⟨kd, sd, id, n, cd, s, on, ww, xx, xw, xs, xi⟩, ⟨wf64 w1, wf64 w2, wf64 w3, wf64 w4, wf64 u0, wf64 u1, wf64 x0, wf64 x1, wf64 x2⟩, cells31 (k3.trans hz) r0 r1 r2 r3 r4 r5 (go 0 _ (by omega) q0) (go 1 _ (by omega) q1) (go 2 _ (by omega) q2) (go2 0 _ (by omega) p0) (go2 1 _ (by omega) p1) (go2 2 _ (by omega) p2)⟩
end Go.Proofs.YtiofdmjecjcdbaaGreatDoor

