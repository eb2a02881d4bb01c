/- Script: plays out of the world: lemmas; each with the conditions that it states. -/
import Derived.Test.YtiofdmjecjcdbaaGreatDoorG25
import Derived.Test.YtiofdmjecjcdbaaGreatDoorG20

namespace Go.Proofs.YtiofdmjecjcdbaaGreatDoor
open Go Go.Proofs Go.Sl
set_option maxRecDepth 100000
set_option maxHeartbeats 4000000
set_option linter.unusedSimpArgs false
set_option linter.unusedVariables false
attribute [local irreducible] evG evC spl thenC inBlockC noGotoC CallT retC RetG TurnG CutG pt ro exP star sep pureP
variable {W : World}
theorem cells31c {cs : List Value} {v0 v1 v2 v3 v4 v5 v6 v7 v8 : Value} (hl : cs.length = 9) (h0 : (cs.drop 0).take 1 = [v0]) (h1 : (cs.drop 1).take 1 = [v1]) (h2 : (cs.drop 2).take 1 = [v2]) (h3 : (cs.drop 3).take 1 = [v3]) (h4 : (cs.drop 4).take 1 = [v4]) (h5 : (cs.drop 5).take 1 = [v5]) (h6 : (cs.drop 6).take 1 = [v6]) (h7 : (cs.drop 7).take 1 = [v7]) (h8 : (cs.drop 8).take 1 = [v8]) : cs = [v0, v1, v2, v3, v4, v5, v6, v7, v8] := by
  match cs, hl with
  | [a0, a1, a2, a3, a4, a5, a6, a7, a8], _ => simp_all
theorem good_conf31 {n : Nat} {cs : List Value} (hg : Go.Sl.Good Tryz.prog W n 36 cs) : ∃ w st it sb si stg ev wa stl : Int, (∀ n ∈ [w, st, it, sb, si, stg, ev, wa, stl], inR n) ∧ cs = [.int .i64 w, .int .i64 st, .int .i64 it, .int .i64 sb, .int .i64 si, .int .i64 stg, .int .i64 ev, .int .i64 wa, .int .i64 stl] := by
  have hz : Tryz.prog.cellsOf 36 = 9 := by kernel_rfl
  have hz2 : Tryz.prog.cellsOf 26 = 3 := by kernel_rfl
  obtain ⟨m2, k3, k4⟩ := good_struct Tryz.underlying36 hg
  obtain ⟨m3, j3, j4⟩ := good_struct Tryz.underlying26 (k4 0 _ rfl)
  obtain ⟨w, r0, w0⟩ := good_int Tryz.underlying3 (j4 0 _ rfl)
  obtain ⟨st, r1, w1⟩ := good_int Tryz.underlying3 (j4 1 _ rfl)
  obtain ⟨it, r2, w2⟩ := good_int Tryz.underlying3 (j4 2 _ rfl)
  obtain ⟨sb, r3, w3⟩ := good_int Tryz.underlying3 (k4 1 _ rfl)
  obtain ⟨si, r4, w4⟩ := good_int Tryz.underlying3 (k4 2 _ rfl)
  obtain ⟨stg, r5, w5⟩ := good_int Tryz.underlying3 (k4 3 _ rfl)
  obtain ⟨ev, r6, w6⟩ := good_int Tryz.underlying3 (k4 4 _ rfl)
  obtain ⟨wa, r7, w7⟩ := good_int Tryz.underlying3 (k4 5 _ rfl)
  obtain ⟨stl, r8, w8⟩ := good_int Tryz.underlying3 (k4 6 _ rfl)
  have go : ∀ (j : Nat) (v : Value), j + 1 ≤ 3 → List.take 1 (List.drop j (List.take (Tryz.prog.cellsOf 26) (List.drop 0 cs))) = [v] → (cs.drop (0 + j)).take 1 = [v] := fun j v hj h => by
    rw [hz2, part31 hj] at h; exact h
  refine ⟨w, st, it, sb, si, stg, ev, wa, stl, ?_, cells31c (k3.trans hz) (go 0 _ (by omega) r0) (go 1 _ (by omega) r1) (go 2 _ (by omega) r2) r3 r4 r5 r6 r7 r8⟩
  exact (List.forall_mem_cons.2 ⟨(wf64 w0), (List.forall_mem_cons.2 ⟨(wf64 w1), (List.forall_mem_cons.2 ⟨(wf64 w2), (List.forall_mem_cons.2 ⟨(wf64 w3), (List.forall_mem_cons.2 ⟨(wf64 w4), (List.forall_mem_cons.2 ⟨(wf64 w5), (List.forall_mem_cons.2 ⟨(wf64 w6), (List.forall_mem_cons.2 ⟨(wf64 w7), (List.forall_mem_cons.2 ⟨(wf64 w8), List.forall_mem_nil _⟩)⟩)⟩)⟩)⟩)⟩)⟩)⟩)⟩)
theorem play_parts {cs a b : List Value} {v : Value} (hl : cs.length = 19) (h1 : (cs.drop 0).take 9 = a) (h2 : (cs.drop 9).take 9 = b) (h3 : (cs.drop 18).take 1 = [v]) : cs = a ++ (b ++ [v]) := by
  have e : cs.drop 18 = [v] := by
    rw [← h3, List.take_of_length_le (by rw [List.length_drop]; omega)]
  have e2 := List.take_append_drop 9 (cs.drop 9)
  rw [h2, List.drop_drop] at e2
  have e2 : b ++ cs.drop 18 = cs.drop 9 := e2
  have e1 := List.take_append_drop 9 cs
  have h1 : cs.take 9 = a := h1
  rw [h1, ← e2, e] at e1
  exact e1.symm
theorem good_play31 {n : Nat} {cs : List Value} (hg : Go.Sl.Good Tryz.prog W n 39 cs) : ∃ n0 n1 n2 n3 n4 n5 n6 n7 n8 n9 n10 n11 n12 n13 n14 n15 n16 n17 : Int, (∀ n ∈ [n0, n1, n2, n3, n4, n5, n6, n7, n8, n9, n10, n11, n12, n13, n14, n15, n16, n17], inR n) ∧ ∃ (A : Option Addr) (c : Nat) (L : List AC), cs = [.int .i64 n0, .int .i64 n1, .int .i64 n2, .int .i64 n3, .int .i64 n4, .int .i64 n5, .int .i64 n6, .int .i64 n7, .int .i64 n8, .int .i64 n9, .int .i64 n10, .int .i64 n11, .int .i64 n12, .int .i64 n13, .int .i64 n14, .int .i64 n15, .int .i64 n16, .int .i64 n17, .slice A L.length c] ∧ rrow A acC31 L (allRO W) ∧ ∀ a ∈ L, InA a := by
  have hz : Tryz.prog.cellsOf 39 = 19 := by kernel_rfl
  have hz2 : Tryz.prog.cellsOf 36 = 9 := by kernel_rfl
  have hz0 : Tryz.prog.cellsOf 28 = 12 := by kernel_rfl
  obtain ⟨m2, k3, k4⟩ := good_struct Tryz.underlying39 hg
  obtain ⟨n0, n1, n2, n3, n4, n5, n6, n7, n8, hA, q1⟩ := good_conf31 (k4 0 _ rfl)
  obtain ⟨n9, n10, n11, n12, n13, n14, n15, n16, n17, hB, q2⟩ := good_conf31 (k4 1 _ rfl)
  have hsl := good_slice Tryz.underlying37 (k4 2 _ rfl)
  have q1 : List.take (Tryz.prog.cellsOf 36) (List.drop 0 cs) = _ := q1
  have q2 : List.take (Tryz.prog.cellsOf 36) (List.drop 9 cs) = _ := q2
  rw [hz2] at q1 q2
  refine ⟨n0, n1, n2, n3, n4, n5, n6, n7, n8, n9, n10, n11, n12, n13, n14, n15, n16, n17, fun x hx => ?_, ?_⟩
  · have hx : x ∈ [n0, n1, n2, n3, n4, n5, n6, n7, n8] ++ [n9, n10, n11, n12, n13, n14, n15, n16, n17] := hx
    rcases List.mem_append.1 hx with hx | hx
    · exact hA x hx
    · exact hB x hx
  · rcases hsl with h2 | ⟨ad, len, cap, m, h2, hl, hc, hi⟩
    · exact ⟨none, 0, [], play_parts (k3.trans hz) q1 q2 h2, .inl rfl, fun x hx => by cases hx⟩
    · rw [hz0] at hi
      obtain ⟨xs, h1, h3, h5⟩ := rrow_of (E := acC31) (φ := InA) (by decide) (fun i hil => by
        obtain ⟨cs', k1, k2⟩ := hi i hil
        obtain ⟨y, e1, e2⟩ := good_act31 k2
        exact ⟨y, by rw [show acC31.sz = 12 from rfl, k1, e2]; rfl, e1⟩)
      subst h1
      exact ⟨some ad, cap, xs, play_parts (k3.trans hz) q1 q2 h2, h3, h5⟩
end Go.Proofs.YtiofdmjecjcdbaaGreatDoor

