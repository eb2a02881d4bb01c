/- Frames read out of the world (for a seat without the frames' functions): lemmas; each with the conditions that it states. -/
import Derived.Test.YtbmkghbjooobeaaW6

namespace Go.Proofs.Ytbmkghbjooobeaa
open Go Go.Proofs Go.Sl
set_option maxRecDepth 100000
set_option maxHeartbeats 4000000
set_option linter.unusedSimpArgs false
set_option linter.unusedVariables false
attribute [local irreducible] evG evC spl thenC inBlockC noGotoC CallT retC RetG TurnG CutG pt ro exP star sep pureP
variable {R C : List HP} {K : Value → List HP → Prop}
structure Pr where
  i : Int
  v : Int
def prD : List Value → Option Pr
  | [.int .i64 i, .int .i64 v] => some ⟨i, v⟩
  | _ => none
theorem prD_ok (cs : List Value) (y : Pr) (h : prD cs = some y) : [.int .i64 y.i, .int .i64 y.v] = cs := by
  unfold prD at h
  split at h
  · cases h; rfl
  · cases h
def prC : Cod Pr := { enc := fun p => [.int .i64 p.i, .int .i64 p.v], sz := 2, dec := prD, len := fun _ => rfl, one := fun _ => rfl, ok := prD_ok }
/-- a frame: its settings are what its row holds -/
structure Fm where
  t : Int
  st : Int
  e : Bool
  d : ByteArray
  k : Int
  on : Int
  w : Int
  x : Bool
  c : Int
  la : Int
  n : Int
  pa : Option Addr
  pn : Nat
  pc : Nat
  ps : List Pr
def fmD : List Value → Option Fm
  | [.int .i64 t, .int .i64 st, .bool e, .string d, .int .i64 k, .int .i64 on, .int .i64 w, .bool x, .int .i64 c, .int .i64 la, .int .i64 n, .slice pa pn pc] => some ⟨t, st, e, d, k, on, w, x, c, la, n, pa, pn, pc, []⟩
  | _ => none
theorem fmD_ok (cs : List Value) (y : Fm) (h : fmD cs = some y) : [.int .i64 y.t, .int .i64 y.st, .bool y.e, .string y.d, .int .i64 y.k, .int .i64 y.on, .int .i64 y.w, .bool y.x, .int .i64 y.c, .int .i64 y.la, .int .i64 y.n, .slice y.pa y.pn y.pc] = cs := by
  unfold fmD at h
  split at h
  · cases h; rfl
  · cases h
def fmC : Cod Fm := { enc := fun y => [.int .i64 y.t, .int .i64 y.st, .bool y.e, .string y.d, .int .i64 y.k, .int .i64 y.on, .int .i64 y.w, .bool y.x, .int .i64 y.c, .int .i64 y.la, .int .i64 y.n, .slice y.pa y.pn y.pc], sz := 12, dec := fmD, len := fun _ => rfl, one := fun _ => rfl, ok := fmD_ok }
variable {W : World}
/-- what is known of a frame that was handed in -/
def FmW (W : World) (y : Fm) : Prop := rrow y.pa prC y.ps (allRO W) ∧ y.ps.length = y.pn ∧ y.pn < 1000000000000000 ∧ (-9223372036854775808 ≤ y.n ∧ y.n ≤ 9223372036854775807)
theorem good_param {n : Nat} {cs : List Value} (hg : Go.Sl.Good Try.prog W n 154 cs) : ∃ y : Pr, cs = prC.enc y := by
  have hz : Try.prog.cellsOf 154 = 2 := by kernel_rfl
  obtain ⟨m2, k3, k4⟩ := good_struct Try.underlying154 hg
  obtain ⟨i, r0, _⟩ := good_int Try.underlying3 (k4 0 _ rfl)
  obtain ⟨v, r1, _⟩ := good_int Try.underlying3 (k4 1 _ rfl)
  exact ⟨⟨i, v⟩, cells2 (k3.trans hz) r0 r1⟩
theorem good_frame {n : Nat} {cs : List Value} (hg : Go.Sl.Good Try.prog W n 94 cs) : ∃ y : Fm, cs = fmC.enc y ∧ FmW W y := by
  have hz : Try.prog.cellsOf 94 = 12 := by kernel_rfl
  have hz2 : Try.prog.cellsOf 154 = 2 := by kernel_rfl
  have hz3 : Try.prog.cellsOf 91 = 3 := by kernel_rfl
  have hby : Try.prog.bytesOf 154 = 16 := by kernel_rfl
  have hr : reachBytes = 140737488351232 := by decide
  obtain ⟨m2, k3, k4⟩ := good_struct Try.underlying94 hg
  obtain ⟨t, r0, _⟩ := good_int Try.underlying3 (k4 0 _ rfl)
  obtain ⟨st, r1, _⟩ := good_int Try.underlying3 (k4 1 _ rfl)
  obtain ⟨e, r2⟩ := good_bool Try.underlying4 (k4 2 _ rfl)
  obtain ⟨d, r3, _⟩ := good_string Try.underlying9 (k4 3 _ rfl)
  obtain ⟨k, r4, _⟩ := good_int Try.underlying3 (k4 4 _ rfl)
  obtain ⟨m5, j3, j4⟩ := good_struct Try.underlying91 (k4 5 _ rfl)
  obtain ⟨on, s0, _⟩ := good_int Try.underlying3 (j4 0 _ rfl)
  obtain ⟨w, s1, _⟩ := good_int Try.underlying3 (j4 1 _ rfl)
  obtain ⟨x, s2⟩ := good_bool Try.underlying4 (j4 2 _ rfl)
  obtain ⟨c, r6, _⟩ := good_int Try.underlying3 (k4 6 _ rfl)
  obtain ⟨la, r7, _⟩ := good_int Try.underlying3 (k4 7 _ rfl)
  obtain ⟨n, r8, w8⟩ := good_int Try.underlying3 (k4 8 _ rfl)
  have hsl := good_slice Try.underlying92 (k4 9 _ rfl)
  have s0' : (cs.drop 5).take 1 = [.int .i64 on] := by
    have := s0
    rw [← this]
    show _ = List.take 1 (List.drop 0 (List.take (Try.prog.cellsOf 91) (List.drop 5 cs)))
    rw [hz3]; simp [List.take_take]
  have s1' : (cs.drop 6).take 1 = [.int .i64 w] := by
    rw [← s1]
    show _ = List.take 1 (List.drop 1 (List.take (Try.prog.cellsOf 91) (List.drop 5 cs)))
    rw [hz3]; simp [List.take_take, List.drop_take]
  have s2' : (cs.drop 7).take 1 = [.bool x] := by
    rw [← s2]
    show _ = List.take 1 (List.drop 2 (List.take (Try.prog.cellsOf 91) (List.drop 5 cs)))
    rw [hz3]; simp [List.take_take, List.drop_take]
  rcases hsl with h2 | ⟨ad, len, cap, m, h2, hl, hc, hi⟩
  · exact ⟨⟨t, st, e, d, k, on, w, x, c, la, n, none, 0, 0, []⟩, cells12 (k3.trans hz) r0 r1 r2 r3 r4 s0' s1' s2' r6 r7 r8 h2, .inl rfl, rfl, by show (0 : Nat) < _; decide, wf64 w8⟩
  · rw [hz2] at hi
    rw [hby] at hc
    obtain ⟨xs, h1, h3, _⟩ := rrow_of (E := prC) (φ := fun _ => True) (by decide) (fun i hil => by
      obtain ⟨cs', q1, q2⟩ := hi i hil
      obtain ⟨y, hy⟩ := good_param q2
      exact ⟨y, by rw [show prC.sz = 2 from rfl, q1, hy], trivial⟩)
    exact ⟨⟨t, st, e, d, k, on, w, x, c, la, n, some ad, len, cap, xs⟩, cells12 (k3.trans hz) r0 r1 r2 r3 r4 s0' s1' s2' r6 r7 r8 h2, h3, h1, by show len < _; omega, wf64 w8⟩
end Go.Proofs.Ytbmkghbjooobeaa

