/- Frame: Put, Lay, and what any bytes are as a frame. Frame: what any bytes are as a frame. Frame: All, by the program and by the document. Frame: frames read out of the world: lemmas; each with the conditions that it states. -/
import Derived.Test.YthoagholmkiknaaFh
import Derived.Test.YthoagholmkiknaaKc
import Derived.Test.YthoagholmkiknaaK7
import Derived.Test.YthoagholmkiknaaKe

namespace Go.Proofs.Ythoagholmkiknaa
open Go Go.Proofs Go.Sl
set_option maxRecDepth 100000
set_option maxHeartbeats 4000000
set_option linter.unusedSimpArgs false
set_option linter.unusedVariables false
attribute [local irreducible] evG evC spl thenC inBlockC noGotoC CallT retC RetG TurnG CutG pt ro exP star sep pureP
attribute [local irreducible] ByteArray.extract nAt scanP
variable {R C : List HP} {K : Value → List HP → Prop}
/-- a frame's bytes -/
def frB (t st : Int) (e : Bool) (d : ByteArray) (k on w : Int) (x : Bool) (c la n : Int) (ps : List Pr) : ByteArray := laidH ((ByteArray.mk (payL t d k on w x c la n ps).toArray).size : Nat) t (bitI e) st ++ ⟨(payL t d k on w x c la n ps).toArray⟩
theorem right_head {t st : Int} {e : Bool} {d : ByteArray} {k on w : Int} {x : Bool} {c la n : Int} {ps : List Pr} (h : RightP t st e d k on w x c la n ps) : hOk ((ByteArray.mk (payL t d k on w x c la n ps).toArray).size : Nat) t (bitI e) st = true := by
  have hl := (pay_law h).2
  have hb := bitI_rng e
  obtain ⟨h1, h2, _⟩ := h
  unfold hOk
  simp only [Bool.and_eq_true, decide_eq_true_eq, ba_size]
  omega
theorem laid_size {l t f s : Int} (h : hOk l t f s = true) : (laidH l t f s).size = 9 := by
  have e := laid_list h
  have : (laidH l t f s).data.toList.length = (laidH l t f s).size := by simp
  rw [← this, e]
  simp only [List.length_append, wB_len]
  decide
theorem hlayA_ok {l t f s : Int} (h : hOk l t f s = true) (hK : K (.string (laidH l t f s)) R) : CallT Try.prog 27 #[.agg #[.int .i64 l, .int .i64 t, .int .i64 f, .int .i64 s]] R K := by
  unfold hOk at h
  simp only [Bool.and_eq_true, decide_eq_true_eq] at h
  exact hlay_ok (by omega) (by omega) (by omega) (by omega) hK
theorem rlay3_ok {t st : Int} {e : Bool} {d : ByteArray} {k on w : Int} {x : Bool} {c la n : Int} {pa : Option Addr} {pn pc : Nat} {ps : List Pr} (h : RightP t st e d k on w x c la n ps) (hv : View C pa prC ps) (hn : ps.length = pn) (hK : K (.string (frB t st e d k on w x c la n ps)) C) : CallT Try.prog 12 #[.agg #[.int .i64 t, .int .i64 st, .bool e, .string d, .int .i64 k, .int .i64 on, .int .i64 w, .bool x, .int .i64 c, .int .i64 la, .int .i64 n, .slice pa pn pc]] C K := by
  have ho := right_head h
  have hs := laid_size ho
  have hp := (pay_law h).2
  have hps : (ByteArray.mk (payL t d k on w x c la n ps).toArray).size ≤ 256 := by rw [ba_size]; exact hp
  have hO := ho
  unfold hOk at hO
  simp only [Bool.and_eq_true, decide_eq_true_eq] at hO
  unfold frB at hK
  refine callT_intro mixed Try.func12 rfl (by decide) (by decide +kernel) (by exact Nat.le_of_ble_eq_true rfl) ?_
  cases e
  all_goals
    simp only [bitI] at ho hs hK
    repeat' (first
      | (show evG _ _ _ _ _ _ _; first | refine G_add64 ?_ | refine G_pure0 ?_ | refine G_load ?_ | refine evG_nil ?_ | refine G_br ?_ ?_ | refine G_field ?_ | refine G_pure ?_ | refine G_loadV ?_ | refine G_loadV0 ?_ | refine G_loadV2 ?_ | refine G_build ?_ | refine G_cat ?_ | refine G_call ?_ | refine G_call0 ?_ | (refine G_box ?_; intro _))
      | (show spl _ _ _; first | refine spl_no rfl ?_ | refine spl_yes rfl ?_)
      | (show evC _ _ _ _ _; first | refine c_seq ?_ | refine c_region (by exact rfl) ?_ | refine c_cond (by exact rfl) ?_ | refine c_ret ?_ | refine c_skip ?_ | refine c_block ?_ | refine c_exit ?_ | refine std ?_)
      | (show Br _ _ _; first | refine Br.t rfl ?_ | refine Br.f rfl ?_ | refine brs ?_ | (first | refine Br.mkN (fun h => ?_) (fun h => ?_) | refine Br.mk (fun h => ?_) (fun h => ?_)) <;> (try (first | contradiction | (exfalso; omega) | (exfalso; simp at h; done))))
      | refine stp ?_
      | (show CallT _ 26 _ _ _; refine CA (h := rpayload_ok (ps := ps) h (view_there hv) hn ?_))
      | (show CallT _ 27 _ _ _; refine CA (h := hlayA_ok ho ?_)))
    all_goals (show retC _ _ _ _ _ _; refine RETC ?_; exact ret_done (hK))
end Go.Proofs.Ythoagholmkiknaa


namespace Go.Proofs.Ythoagholmkiknaa
open Go Go.Proofs Go.Sl
set_option maxRecDepth 100000
set_option maxHeartbeats 4000000
set_option linter.unusedSimpArgs false
set_option linter.unusedVariables false
attribute [local irreducible] evG evC spl thenC inBlockC noGotoC CallT retC RetG TurnG CutG pt ro exP star sep pureP
attribute [local irreducible] ByteArray.extract nAt scanP
variable {R C : List HP} {K : Value → List HP → Prop}
theorem fgetA_ok {l t f s : Int} {p : ByteArray} (hf : -9223372036854775808 ≤ f ∧ f ≤ 9223372036854775807) (h : gE l t f s p = 0) (hK : ∀ A c, K (.tuple #[.agg #[.int .i64 t, .int .i64 s, .bool (f == 1), .string (gD t p), .int .i64 (gK t p), .int .i64 (gO t p), .int .i64 (gW t p), .bool (gX t p), .int .i64 (gC t p), .int .i64 (gL t p), .int .i64 (gN t p), .slice A (gP t p).length c], .int .i64 0]) (row A c 76 prC (gP t p) :: R)) : CallT Try.prog 45 #[.agg #[.int .i64 l, .int .i64 t, .int .i64 f, .int .i64 s], .string p] R K := fget_ok hf (fun _ => hK) (fun h' => absurd h h')
theorem fgetB_ok {l t f s : Int} {p : ByteArray} (hf : -9223372036854775808 ≤ f ∧ f ≤ 9223372036854775807) (h : gE l t f s p ≠ 0) (hK : K (.tuple #[.agg #[.int .i64 0, .int .i64 0, .bool false, .string ⟨#[]⟩, .int .i64 0, .int .i64 0, .int .i64 0, .bool false, .int .i64 0, .int .i64 0, .int .i64 0, .slice none 0 0], .int .i64 (gE l t f s p)]) R) : CallT Try.prog 45 #[.agg #[.int .i64 l, .int .i64 t, .int .i64 f, .int .i64 s], .string p] R K := fget_ok hf (fun h' => absurd h' h) (fun _ => hK)
end Go.Proofs.Ythoagholmkiknaa


namespace Go.Proofs.Ythoagholmkiknaa
open Go Go.Proofs Go.Sl
set_option maxRecDepth 100000
set_option maxHeartbeats 4000000
set_option linter.unusedSimpArgs false
set_option linter.unusedVariables false
attribute [local irreducible] evG evC spl thenC inBlockC noGotoC CallT retC RetG TurnG CutG pt ro exP star sep pureP
attribute [local irreducible] ByteArray.extract nAt scanP
variable {R C : List HP} {K : Value → List HP → Prop}
def fmD : List Value → Option Fm
  | [.int .i64 t, .int .i64 st, .bool e, .string d, .int .i64 k, .int .i64 on, .int .i64 w, .bool x, .int .i64 c, .int .i64 la, .int .i64 n, .slice pa pn pc] => some ⟨t, st, e, d, k, on, w, x, c, la, n, pa, pn, pc, []⟩
  | _ => none
theorem fmD_ok (cs : List Value) (y : Fm) (h : fmD cs = some y) : [.int .i64 y.t, .int .i64 y.st, .bool y.e, .string y.d, .int .i64 y.k, .int .i64 y.on, .int .i64 y.w, .bool y.x, .int .i64 y.c, .int .i64 y.la, .int .i64 y.n, .slice y.pa y.pn y.pc] = cs := by
  unfold fmD at h
  split at h
  · cases h; rfl
  · cases h
def fmC : Cod Fm := { enc := fun y => [.int .i64 y.t, .int .i64 y.st, .bool y.e, .string y.d, .int .i64 y.k, .int .i64 y.on, .int .i64 y.w, .bool y.x, .int .i64 y.c, .int .i64 y.la, .int .i64 y.n, .slice y.pa y.pn y.pc], sz := 12, dec := fmD, len := fun _ => rfl, one := fun _ => rfl, ok := fmD_ok }
/-- what is known of a frame's settings -/
def FmV (C : List HP) (y : Fm) : Prop := View C y.pa prC y.ps ∧ y.ps.length = y.pn
theorem FmV.there {X : HP} {y : Fm} (h : FmV C y) : FmV (X :: C) y := ⟨view_there h.1, h.2⟩
def frF (y : Fm) : ByteArray := frB y.t y.st y.e y.d y.k y.on y.w y.x y.c y.la y.n y.ps
def RightF (y : Fm) : Prop := RightP y.t y.st y.e y.d y.k y.on y.w y.x y.c y.la y.n y.ps
theorem fr_le {y : Fm} (h : RightF y) : (frF y).size ≤ 265 := by
  have h1 := laid_size (right_head h)
  have h2 := (pay_law h).2
  have : (frF y).size = 9 + (payL y.t y.d y.k y.on y.w y.x y.c y.la y.n y.ps).length := by
    unfold frF frB
    rw [ByteArray.size_append, h1, ba_size]
  omega
theorem light3_ok {t st : Int} {e : Bool} {d : ByteArray} {k on w : Int} {x : Bool} {c la n : Int} {pa : Option Addr} {pn pc : Nat} (hK : K (.bool (decide (d.size < 600) && decide (pn < 20))) R) : CallT Try.prog 13 #[.agg #[.int .i64 t, .int .i64 st, .bool e, .string d, .int .i64 k, .int .i64 on, .int .i64 w, .bool x, .int .i64 c, .int .i64 la, .int .i64 n, .slice pa pn pc]] R K := by
  refine callT_intro mixed Try.func13 rfl (by decide) (by decide +kernel) (by exact Nat.le_of_ble_eq_true rfl) ?_
  repeat' (first
    | (show evG _ _ _ _ _ _ _; first | refine G_pure0 ?_ | refine G_load ?_ | refine evG_nil ?_ | refine G_br ?_ ?_ | refine G_field ?_ | refine G_pure ?_ | refine G_loadV ?_ | refine G_loadV0 ?_ | refine G_loadV2 ?_ | (refine G_box ?_; intro _) | refine G_skip ?_ | refine G_skip0 ?_)
    | (show spl _ _ _; first | refine spl_no rfl ?_ | refine spl_yes rfl ?_)
    | (show evC _ _ _ _ _; first | refine c_seq ?_ | refine c_region (by exact rfl) ?_ | refine c_cond (by exact rfl) ?_ | refine c_ret ?_ | refine c_skip ?_ | refine c_block ?_ | refine c_exit ?_ | refine std ?_)
    | (show Br _ _ _; first | refine Br.t rfl ?_ | refine Br.f rfl ?_ | refine brs ?_ | (first | refine Br.mkN (fun h => ?_) (fun h => ?_) | refine Br.mk (fun h => ?_) (fun h => ?_)) <;> (try (first | contradiction | (exfalso; omega) | (exfalso; simp at h; done))))
    | refine stp ?_)
  all_goals (show retC _ _ _ _ _ _; refine RETC ?_; exact ret_done (kb hK (by simp <;> omega)))
end Go.Proofs.Ythoagholmkiknaa


namespace Go.Proofs.Ythoagholmkiknaa
open Go Go.Proofs Go.Sl
set_option maxRecDepth 100000
set_option maxHeartbeats 4000000
set_option linter.unusedSimpArgs false
set_option linter.unusedVariables false
attribute [local irreducible] evG evC spl thenC inBlockC noGotoC CallT retC RetG TurnG CutG pt ro exP star sep pureP
variable {W : World}
def fmP (y : Fm) : HP := rrow y.pa prC y.ps
theorem pers_fmP (y : Fm) : Pers (fmP y) := pers_rrow _ _ _
theorem mono_fmP (y : Fm) : MonoP (fmP y) := mono_rrow _ _ _
theorem view_fmP {C : List HP} {l : List Fm} {y : Fm} (hy : y ∈ l) : View (allP fmP l :: C) y.pa prC y.ps := view_ent (Ent.allget (P := fmP) pers_fmP mono_fmP hy) view_rrow
/-- what is known of a frame that was handed in -/
def FmW (W : World) (y : Fm) : Prop := rrow y.pa prC y.ps (allRO W) ∧ y.ps.length = y.pn ∧ y.pn < 1000000000000000 ∧ (-9223372036854775808 ≤ y.n ∧ y.n ≤ 9223372036854775807)
theorem good_param {n : Nat} {cs : List Value} (hg : Go.Sl.Good Try.prog W n 76 cs) : ∃ y : Pr, cs = prC.enc y := by
  have hz : Try.prog.cellsOf 76 = 2 := by kernel_rfl
  obtain ⟨m2, k3, k4⟩ := good_struct Try.underlying76 hg
  obtain ⟨i, r0, _⟩ := good_int Try.underlying3 (k4 0 _ rfl)
  obtain ⟨v, r1, _⟩ := good_int Try.underlying3 (k4 1 _ rfl)
  exact ⟨⟨i, v⟩, cells2 (k3.trans hz) r0 r1⟩
theorem good_frame {n : Nat} {cs : List Value} (hg : Go.Sl.Good Try.prog W n 38 cs) : ∃ y : Fm, cs = fmC.enc y ∧ FmW W y := by
  have hz : Try.prog.cellsOf 38 = 12 := by kernel_rfl
  have hz2 : Try.prog.cellsOf 76 = 2 := by kernel_rfl
  have hz3 : Try.prog.cellsOf 35 = 3 := by kernel_rfl
  have hby : Try.prog.bytesOf 76 = 16 := by kernel_rfl
  have hr : reachBytes = 140737488351232 := by decide
  obtain ⟨m2, k3, k4⟩ := good_struct Try.underlying38 hg
  obtain ⟨t, r0, _⟩ := good_int Try.underlying3 (k4 0 _ rfl)
  obtain ⟨st, r1, _⟩ := good_int Try.underlying3 (k4 1 _ rfl)
  obtain ⟨e, r2⟩ := good_bool Try.underlying4 (k4 2 _ rfl)
  obtain ⟨d, r3, _⟩ := good_string Try.underlying9 (k4 3 _ rfl)
  obtain ⟨k, r4, _⟩ := good_int Try.underlying3 (k4 4 _ rfl)
  obtain ⟨m5, j3, j4⟩ := good_struct Try.underlying35 (k4 5 _ rfl)
  obtain ⟨on, s0, _⟩ := good_int Try.underlying3 (j4 0 _ rfl)
  obtain ⟨w, s1, _⟩ := good_int Try.underlying3 (j4 1 _ rfl)
  obtain ⟨x, s2⟩ := good_bool Try.underlying4 (j4 2 _ rfl)
  obtain ⟨c, r6, _⟩ := good_int Try.underlying3 (k4 6 _ rfl)
  obtain ⟨la, r7, _⟩ := good_int Try.underlying3 (k4 7 _ rfl)
  obtain ⟨n, r8, w8⟩ := good_int Try.underlying3 (k4 8 _ rfl)
  have hsl := good_slice Try.underlying36 (k4 9 _ rfl)
  have s0' : (cs.drop 5).take 1 = [.int .i64 on] := by
    have := s0
    rw [← this]
    show _ = List.take 1 (List.drop 0 (List.take (Try.prog.cellsOf 35) (List.drop 5 cs)))
    rw [hz3]; simp [List.take_take]
  have s1' : (cs.drop 6).take 1 = [.int .i64 w] := by
    rw [← s1]
    show _ = List.take 1 (List.drop 1 (List.take (Try.prog.cellsOf 35) (List.drop 5 cs)))
    rw [hz3]; simp [List.take_take, List.drop_take]
  have s2' : (cs.drop 7).take 1 = [.bool x] := by
    rw [← s2]
    show _ = List.take 1 (List.drop 2 (List.take (Try.prog.cellsOf 35) (List.drop 5 cs)))
    rw [hz3]; simp [List.take_take, List.drop_take]
  rcases hsl with h2 | ⟨ad, len, cap, m, h2, hl, hc, hi⟩
  · exact ⟨⟨t, st, e, d, k, on, w, x, c, la, n, none, 0, 0, []⟩, cells12 (k3.trans hz) r0 r1 r2 r3 r4 s0' s1' s2' r6 r7 r8 h2, .inl rfl, rfl, by show (0 : Nat) < _; decide, wf64 w8⟩
  · rw [hz2] at hi
    rw [hby] at hc
    obtain ⟨xs, h1, h3, _⟩ := rrow_of (E := prC) (φ := fun _ => True) (by decide) (fun i hil => by
      obtain ⟨cs', q1, q2⟩ := hi i hil
      obtain ⟨y, hy⟩ := good_param q2
      exact ⟨y, by rw [show prC.sz = 2 from rfl, q1, hy], trivial⟩)
    exact ⟨⟨t, st, e, d, k, on, w, x, c, la, n, some ad, len, cap, xs⟩, cells12 (k3.trans hz) r0 r1 r2 r3 r4 s0' s1' s2' r6 r7 r8 h2, h3, h1, by show len < _; omega, wf64 w8⟩
end Go.Proofs.Ythoagholmkiknaa

