/- Duplex: the law DuplexNone: lemmas; each with the conditions that it states. -/
import Derived.Test.YtndpgmigdgohiaaGreatFh
import Derived.Test.YtndpgmigdgohiaaGreatZ11
import Derived.Test.YtndpgmigdgohiaaGreatE2
import Derived.Test.YtndpgmigdgohiaaGreatZ10

namespace Go.Proofs.YtndpgmigdgohiaaGreat
open Go Go.Proofs Go.Sl
set_option maxRecDepth 100000
set_option maxHeartbeats 4000000
set_option linter.unusedSimpArgs false
set_option linter.unusedVariables false
attribute [local irreducible] evG evC spl thenC inBlockC noGotoC CallT retC RetG TurnG CutG pt ro exP star sep pureP
attribute [local irreducible] mp mit
variable {R C : List HP} {K : Value → List HP → Prop}
variable {w st it sb si stg ev wa stl kd sd id n cd on ww xw xs xi : Int} {xx : Bool} {s : ByteArray}
theorem cE_cases : cE w st it sb si stg ev wa stl = 0 ∨ cE w st it sb si stg ev wa stl = 2 ∨ cE w st it sb si stg ev wa stl = 3 := by
  unfold cE
  rcases mayE_cases (w := w) (st := st) (it := it) (sb := sb) (si := si) (stg := stg) with h | h | h
  · rw [if_pos h]; split <;> simp
  · rw [if_neg (by rw [h]; decide), h]; simp
  · rw [if_neg (by rw [h]; decide), h]; simp
theorem cE_conf : cE 64 8 4 100 5 0 0 0 0 = 0 := by decide +kernel
theorem zgood_apiact {W : World} {n : Nat} {cs : List Value} (hg : Go.Sl.Good Tryz.prog W n 70 cs) : ∃ (kd sd id n cd : Int) (s : ByteArray) (on ww : Int) (xx : Bool) (xw xs xi : Int), cs = [.int .i64 kd, .int .i64 sd, .int .i64 id, .int .i64 n, .int .i64 cd, .string s, .int .i64 on, .int .i64 ww, .bool xx, .int .i64 xw, .int .i64 xs, .int .i64 xi] := by
  have hz : Tryz.prog.cellsOf 70 = 12 := by kernel_rfl
  have hz2 : Tryz.prog.cellsOf 23 = 3 := by kernel_rfl
  have hz3 : Tryz.prog.cellsOf 27 = 3 := by kernel_rfl
  obtain ⟨m2, k3, k4⟩ := good_struct Tryz.underlying70 hg
  obtain ⟨kd, r0, _⟩ := good_int Tryz.underlying3 (k4 0 _ rfl)
  obtain ⟨sd, r1, _⟩ := good_int Tryz.underlying3 (k4 1 _ rfl)
  obtain ⟨id, r2, _⟩ := good_int Tryz.underlying3 (k4 2 _ rfl)
  obtain ⟨n, r3, _⟩ := good_int Tryz.underlying3 (k4 3 _ rfl)
  obtain ⟨cd, r4, _⟩ := good_int Tryz.underlying3 (k4 4 _ rfl)
  obtain ⟨s, r5, _⟩ := good_string Tryz.underlying9 (k4 5 _ rfl)
  obtain ⟨m5, j5, j6⟩ := good_struct Tryz.underlying27 (k4 6 _ rfl)
  obtain ⟨on, q0, _⟩ := good_int Tryz.underlying3 (j6 0 _ rfl)
  obtain ⟨ww, q1, _⟩ := good_int Tryz.underlying3 (j6 1 _ rfl)
  obtain ⟨xx, q2⟩ := good_bool Tryz.underlying4 (j6 2 _ rfl)
  obtain ⟨m3, j3, j4⟩ := good_struct Tryz.underlying23 (k4 7 _ rfl)
  obtain ⟨xw, p0, _⟩ := good_int Tryz.underlying3 (j4 0 _ rfl)
  obtain ⟨xs, p1, _⟩ := good_int Tryz.underlying3 (j4 1 _ rfl)
  obtain ⟨xi, p2, _⟩ := good_int Tryz.underlying3 (j4 2 _ rfl)
  have go : ∀ (j : Nat) (v : Value), j + 1 ≤ 3 → List.take 1 (List.drop j (List.take (Tryz.prog.cellsOf 27) (List.drop 6 cs))) = [v] → (cs.drop (6 + j)).take 1 = [v] := fun j v hj h => by
    rw [hz3, zpart_in hj] at h; exact h
  have go2 : ∀ (j : Nat) (v : Value), j + 1 ≤ 3 → List.take 1 (List.drop j (List.take (Tryz.prog.cellsOf 23) (List.drop 9 cs))) = [v] → (cs.drop (9 + j)).take 1 = [v] := fun j v hj h => by
    rw [hz2, zpart_in hj] at h; exact h
  exact ⟨kd, sd, id, n, cd, s, on, ww, xx, xw, xs, xi, cells12 (k3.trans hz) r0 r1 r2 r3 r4 r5 (go 0 _ (by omega) q0) (go 1 _ (by omega) q1) (go 2 _ (by omega) q2) (go2 0 _ (by omega) p0) (go2 1 _ (by omega) p1) (go2 2 _ (by omega) p2)⟩
end Go.Proofs.YtndpgmigdgohiaaGreat

