/- Frame: frames read out of the world: lemmas; each with the conditions that it states. -/
import Derived.Test.YthoagholmkiknaaK17

namespace Go.Proofs.Ythoagholmkiknaa
open Go Go.Proofs Go.Sl
set_option maxRecDepth 100000
set_option maxHeartbeats 4000000
set_option linter.unusedSimpArgs false
set_option linter.unusedVariables false
attribute [local irreducible] evG evC spl thenC inBlockC noGotoC CallT retC RetG TurnG CutG pt ro exP star sep pureP
variable {W : World}
def fmP (y : Fm) : HP := rrow y.pa prC y.ps
theorem pers_fmP (y : Fm) : Pers (fmP y) := pers_rrow _ _ _
theorem mono_fmP (y : Fm) : MonoP (fmP y) := mono_rrow _ _ _
theorem view_fmP {C : List HP} {l : List Fm} {y : Fm} (hy : y ∈ l) : View (allP fmP l :: C) y.pa prC y.ps := view_ent (Ent.allget (P := fmP) pers_fmP mono_fmP hy) view_rrow
/-- what is known of a frame that was handed in -/
def FmW (W : World) (y : Fm) : Prop := rrow y.pa prC y.ps (allRO W) ∧ y.ps.length = y.pn ∧ y.pn < 1000000000000000 ∧ (-9223372036854775808 ≤ y.n ∧ y.n ≤ 9223372036854775807)
theorem good_param {n : Nat} {cs : List Value} (hg : Go.Sl.Good Try.prog W n 76 cs) : ∃ y : Pr, cs = prC.enc y := by
  have hz : Try.prog.cellsOf 76 = 2 := by kernel_rfl
  obtain ⟨m2, k3, k4⟩ := good_struct Try.underlying76 hg
  obtain ⟨i, r0, _⟩ := good_int Try.underlying3 (k4 0 _ rfl)
  obtain ⟨v, r1, _⟩ := good_int Try.underlying3 (k4 1 _ rfl)
  exact ⟨⟨i, v⟩, cells2 (k3.trans hz) r0 r1⟩
theorem good_frame {n : Nat} {cs : List Value} (hg : Go.Sl.Good Try.prog W n 38 cs) : ∃ y : Fm, cs = fmC.enc y ∧ FmW W y := by
  have hz : Try.prog.cellsOf 38 = 12 := by kernel_rfl
  have hz2 : Try.prog.cellsOf 76 = 2 := by kernel_rfl
  have hz3 : Try.prog.cellsOf 35 = 3 := by kernel_rfl
  have hby : Try.prog.bytesOf 76 = 16 := by kernel_rfl
  have hr : reachBytes = 140737488351232 := by decide
  obtain ⟨m2, k3, k4⟩ := good_struct Try.underlying38 hg
  obtain ⟨t, r0, _⟩ := good_int Try.underlying3 (k4 0 _ rfl)
  obtain ⟨st, r1, _⟩ := good_int Try.underlying3 (k4 1 _ rfl)
  obtain ⟨e, r2⟩ := good_bool Try.underlying4 (k4 2 _ rfl)
  obtain ⟨d, r3, _⟩ := good_string Try.underlying9 (k4 3 _ rfl)
  obtain ⟨k, r4, _⟩ := good_int Try.underlying3 (k4 4 _ rfl)
  obtain ⟨m5, j3, j4⟩ := good_struct Try.underlying35 (k4 5 _ rfl)
  obtain ⟨on, s0, _⟩ := good_int Try.underlying3 (j4 0 _ rfl)
  obtain ⟨w, s1, _⟩ := good_int Try.underlying3 (j4 1 _ rfl)
  obtain ⟨x, s2⟩ := good_bool Try.underlying4 (j4 2 _ rfl)
  obtain ⟨c, r6, _⟩ := good_int Try.underlying3 (k4 6 _ rfl)
  obtain ⟨la, r7, _⟩ := good_int Try.underlying3 (k4 7 _ rfl)
  obtain ⟨n, r8, w8⟩ := good_int Try.underlying3 (k4 8 _ rfl)
  have hsl := good_slice Try.underlying36 (k4 9 _ rfl)
  have s0' : (cs.drop 5).take 1 = [.int .i64 on] := by
    have := s0
    rw [← this]
    show _ = List.take 1 (List.drop 0 (List.take (Try.prog.cellsOf 35) (List.drop 5 cs)))
    rw [hz3]; simp [List.take_take]
  have s1' : (cs.drop 6).take 1 = [.int .i64 w] := by
    rw [← s1]
    show _ = List.take 1 (List.drop 1 (List.take (Try.prog.cellsOf 35) (List.drop 5 cs)))
    rw [hz3]; simp [List.take_take, List.drop_take]
  have s2' : (cs.drop 7).take 1 = [.bool x] := by
    rw [← s2]
    show _ = List.take 1 (List.drop 2 (List.take (Try.prog.cellsOf 35) (List.drop 5 cs)))
    rw [hz3]; simp [List.take_take, List.drop_take]
  rcases hsl with h2 | ⟨ad, len, cap, m, h2, hl, hc, hi⟩
  · exact ⟨⟨t, st, e, d, k, on, w, x, c, la, n, none, 0, 0, []⟩, cells12 (k3.trans hz) r0 r1 r2 r3 r4 s0' s1' s2' r6 r7 r8 h2, .inl rfl, rfl, by show (0 : Nat) < _; decide, wf64 w8⟩
  · rw [hz2] at hi
    rw [hby] at hc
    obtain ⟨xs, h1, h3, _⟩ := rrow_of (E := prC) (φ := fun _ => True) (by decide) (fun i hil => by
      obtain ⟨cs', q1, q2⟩ := hi i hil
      obtain ⟨y, hy⟩ := good_param q2
      exact ⟨y, by rw [show prC.sz = 2 from rfl, q1, hy], trivial⟩)
    exact ⟨⟨t, st, e, d, k, on, w, x, c, la, n, some ad, len, cap, xs⟩, cells12 (k3.trans hz) r0 r1 r2 r3 r4 s0' s1' s2' r6 r7 r8 h2, h3, h1, by show len < _; omega, wf64 w8⟩
end Go.Proofs.Ythoagholmkiknaa

