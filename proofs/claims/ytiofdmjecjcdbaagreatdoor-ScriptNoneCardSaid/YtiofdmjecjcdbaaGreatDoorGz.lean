/- Script: acts out of the world. Script: plays out of the world: lemmas; each with the conditions that it states. -/
import Derived.Test.YtiofdmjecjcdbaaGreatDoorGy
import Derived.Test.YtiofdmjecjcdbaaGreatDoorFe
import Derived.Test.YtiofdmjecjcdbaaGreatDoorGx

namespace Go.Proofs.YtiofdmjecjcdbaaGreatDoor
open Go Go.Proofs Go.Sl
set_option maxRecDepth 100000
set_option maxHeartbeats 4000000
set_option linter.unusedSimpArgs false
set_option linter.unusedVariables false
attribute [local irreducible] evG evC spl thenC inBlockC noGotoC CallT retC RetG TurnG CutG pt ro exP star sep pureP
variable {W : World}
theorem part31 {cs : List Value} {o m j n : Nat} (h : j + n ≤ m) : (((cs.drop o).take m).drop j).take n = (cs.drop (o + j)).take n := by
  rw [List.drop_take, List.take_take, List.drop_drop]
  congr 1
  omega
end Go.Proofs.YtiofdmjecjcdbaaGreatDoor


namespace Go.Proofs.YtiofdmjecjcdbaaGreatDoor
open Go Go.Proofs Go.Sl
set_option maxRecDepth 100000
set_option maxHeartbeats 4000000
set_option linter.unusedSimpArgs false
set_option linter.unusedVariables false
attribute [local irreducible] evG evC spl thenC inBlockC noGotoC CallT retC RetG TurnG CutG pt ro exP star sep pureP
variable {W : World}
theorem cells31c {cs : List Value} {v0 v1 v2 v3 v4 v5 v6 v7 v8 : Value} (hl : cs.length = 9) (h0 : (cs.drop 0).take 1 = [v0]) (h1 : (cs.drop 1).take 1 = [v1]) (h2 : (cs.drop 2).take 1 = [v2]) (h3 : (cs.drop 3).take 1 = [v3]) (h4 : (cs.drop 4).take 1 = [v4]) (h5 : (cs.drop 5).take 1 = [v5]) (h6 : (cs.drop 6).take 1 = [v6]) (h7 : (cs.drop 7).take 1 = [v7]) (h8 : (cs.drop 8).take 1 = [v8]) : cs = [v0, v1, v2, v3, v4, v5, v6, v7, v8] := by
  match cs, hl with
  | [a0, a1, a2, a3, a4, a5, a6, a7, a8], _ => simp_all
theorem good_conf31 {n : Nat} {cs : List Value} (hg : Go.Sl.Good Tryz.prog W n 36 cs) : ∃ w st it sb si stg ev wa stl : Int, (∀ n ∈ [w, st, it, sb, si, stg, ev, wa, stl], inR n) ∧ cs = [.int .i64 w, .int .i64 st, .int .i64 it, .int .i64 sb, .int .i64 si, .int .i64 stg, .int .i64 ev, .int .i64 wa, .int .i64 stl] := by
  have hz : Tryz.prog.cellsOf 36 = 9 := by kernel_rfl
  have hz2 : Tryz.prog.cellsOf 26 = 3 := by kernel_rfl
  obtain ⟨m2, k3, k4⟩ := good_struct Tryz.underlying36 hg
  obtain ⟨m3, j3, j4⟩ := good_struct Tryz.underlying26 (k4 0 _ rfl)
  obtain ⟨w, r0, w0⟩ := good_int Tryz.underlying3 (j4 0 _ rfl)
  obtain ⟨st, r1, w1⟩ := good_int Tryz.underlying3 (j4 1 _ rfl)
  obtain ⟨it, r2, w2⟩ := good_int Tryz.underlying3 (j4 2 _ rfl)
  obtain ⟨sb, r3, w3⟩ := good_int Tryz.underlying3 (k4 1 _ rfl)
  obtain ⟨si, r4, w4⟩ := good_int Tryz.underlying3 (k4 2 _ rfl)
  obtain ⟨stg, r5, w5⟩ := good_int Tryz.underlying3 (k4 3 _ rfl)
  obtain ⟨ev, r6, w6⟩ := good_int Tryz.underlying3 (k4 4 _ rfl)
  obtain ⟨wa, r7, w7⟩ := good_int Tryz.underlying3 (k4 5 _ rfl)
  obtain ⟨stl, r8, w8⟩ := good_int Tryz.underlying3 (k4 6 _ rfl)
  have go : ∀ (j : Nat) (v : Value), j + 1 ≤ 3 → List.take 1 (List.drop j (List.take (Tryz.prog.cellsOf 26) (List.drop 0 cs))) = [v] → (cs.drop (0 + j)).take 1 = [v] := fun j v hj h => by
    rw [hz2, part31 hj] at h; exact h
  refine ⟨w, st, it, sb, si, stg, ev, wa, stl, ?_, cells31c (k3.trans hz) (go 0 _ (by omega) r0) (go 1 _ (by omega) r1) (go 2 _ (by omega) r2) r3 r4 r5 r6 r7 r8⟩
  exact (List.forall_mem_cons.2 ⟨(wf64 w0), (List.forall_mem_cons.2 ⟨(wf64 w1), (List.forall_mem_cons.2 ⟨(wf64 w2), (List.forall_mem_cons.2 ⟨(wf64 w3), (List.forall_mem_cons.2 ⟨(wf64 w4), (List.forall_mem_cons.2 ⟨(wf64 w5), (List.forall_mem_cons.2 ⟨(wf64 w6), (List.forall_mem_cons.2 ⟨(wf64 w7), (List.forall_mem_cons.2 ⟨(wf64 w8), List.forall_mem_nil _⟩)⟩)⟩)⟩)⟩)⟩)⟩)⟩)⟩)
end Go.Proofs.YtiofdmjecjcdbaaGreatDoor

