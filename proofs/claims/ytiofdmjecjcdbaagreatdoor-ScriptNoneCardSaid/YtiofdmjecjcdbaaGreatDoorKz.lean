/- Frame: the document's Right is Check. A truth as a number. Frame: payload. Frame: the document's Right, its first regions. Frame: the document's Right, its next regions. Frame: Put, Lay, and what any bytes are as a frame. Frame: All, by the program and by the document. Frame: frames read out of the world: lemmas; each with the conditions that it states. -/
import Derived.Test.YtiofdmjecjcdbaaGreatDoorK3
import Derived.Test.YtiofdmjecjcdbaaGreatDoorFh
import Derived.Test.YtiofdmjecjcdbaaGreatDoorHz
import Derived.Test.YtiofdmjecjcdbaaGreatDoorFe

namespace Go.Proofs.YtiofdmjecjcdbaaGreatDoor
open Go Go.Proofs Go.Sl
set_option maxRecDepth 100000
set_option maxHeartbeats 4000000
set_option linter.unusedSimpArgs false
set_option linter.unusedVariables false
attribute [local irreducible] evG evC spl thenC inBlockC noGotoC CallT retC RetG TurnG CutG pt ro exP star sep pureP
variable {R C : List HP} {K : Value → List HP → Prop}
def RightP (t st : Int) (e : Bool) (d : ByteArray) (k on w : Int) (x : Bool) (c la n : Int) (ps : List Pr) : Prop := (0 ≤ t ∧ t ≤ 11) ∧ (0 ≤ st ∧ st ≤ 2147483647) ∧ (st = 0 → 5 ≤ t ∧ t ≤ 10) ∧ (0 < st → t ≤ 4 ∨ 10 ≤ t) ∧ (e = true → t ≤ 1) ∧ (k ≠ 0 → t = 2) ∧ (c ≠ 0 → t = 4 ∨ t = 9) ∧ (la ≠ 0 → t = 9) ∧ (n ≠ 0 → 10 ≤ t) ∧ (0 < ps.length → t = 5) ∧ (noneB on w x = false → t = 2 ∨ t = 3) ∧ (0 < d.size → t ≤ 1 ∨ t = 7 ∨ t = 8) ∧ (t ≤ 1 → d.size ≤ 256) ∧ (t = 7 ∨ t = 8 → d.size = 8) ∧ (t = 2 → k = 1 ∨ k = 2) ∧ (t = 2 ∨ t = 3 → depB on w = true) ∧ psB ps = true ∧ n31 c = true ∧ n31 la = true ∧ n31 n = true ∧ ps.length ≤ 8
theorem size0 {d : ByteArray} : d = ⟨#[]⟩ ↔ d.size = 0 := by
  constructor
  · rintro rfl; rfl
  · intro h; apply ByteArray.ext; exact Array.eq_empty_of_size_eq_zero h
theorem none_iff (on w : Int) (x : Bool) : noneB on w x = true ↔ (on = 0 ∧ w = 0 ∧ x = false) := by unfold noneB; cases x <;> simp
theorem len0 {l : List Pr} : l.length = 0 → psB l = true := fun h => by rw [List.length_eq_zero_iff.1 h]; rfl
theorem chk_iff (t st : Int) (e : Bool) (d : ByteArray) (k on w : Int) (x : Bool) (c la n : Int) (ps : List Pr) : chkB t st e d k on w x c la n ps = true ↔ RightP t st e d k on w x c la n ps := by
  have hn0 : n31 0 = true := by decide
  have hst := n31_iff st
  have h0 := @len0 ps
  have hnn := none_iff on w x
  have hpn : peq ps [] = true ↔ ps.length = 0 := by rw [peq_nil]; simp
  have hps := peq_self ps
  have hd := @size0 d
  rcases (by omega : (t < 0 ∨ 11 < t) ∨ t = 0 ∨ t = 1 ∨ t = 2 ∨ t = 3 ∨ t = 4 ∨ t = 5 ∨ t = 6 ∨ t = 7 ∨ t = 8 ∨ t = 9 ∨ t = 10 ∨ t = 11) with h | h | h | h | h | h | h | h | h | h | h | h | h
  · constructor
    · intro hh
      unfold chkB at hh
      simp only [Bool.and_eq_true, decide_eq_true_eq] at hh
      omega
    · intro hh
      have := hh.1
      omega
  all_goals
    subst h
    unfold chkB RightP streamB SameP fieldsB
    simp only [oE, oD, oK, oO, oX, oC, oL, oN, oPs, Bool.and_eq_true, Bool.or_eq_true, decide_eq_true_eq]
    grind
end Go.Proofs.YtiofdmjecjcdbaaGreatDoor


namespace Go.Proofs.YtiofdmjecjcdbaaGreatDoor
open Go Go.Proofs Go.Sl
def bitI (e : Bool) : Int := match e with
  | true => 1
  | false => 0
end Go.Proofs.YtiofdmjecjcdbaaGreatDoor


namespace Go.Proofs.YtiofdmjecjcdbaaGreatDoor
open Go Go.Proofs Go.Sl
set_option maxRecDepth 100000
set_option maxHeartbeats 4000000
set_option linter.unusedSimpArgs false
set_option linter.unusedVariables false
attribute [local irreducible] evG evC spl thenC inBlockC noGotoC CallT retC RetG TurnG CutG pt ro exP star sep pureP
variable {R C : List HP} {K : Value → List HP → Prop}
def headPs (t : Int) (d : ByteArray) (k on w : Int) (x : Bool) (c la n : Int) : List Pc := if t = 0 ∨ t = 1 ∨ t = 7 ∨ t = 8 then [⟨0, 0, d⟩] else if t = 2 ∨ t = 3 then [⟨k, 1, ⟨#[]⟩⟩, ⟨bitI x, 1, ⟨#[]⟩⟩, ⟨w - 1, 1, ⟨#[]⟩⟩, ⟨0, 1, ⟨#[]⟩⟩, ⟨on, 4, ⟨#[]⟩⟩] else if t = 4 then [⟨c, 4, ⟨#[]⟩⟩] else if t = 9 then [⟨la, 4, ⟨#[]⟩⟩, ⟨c, 4, ⟨#[]⟩⟩] else if t = 10 ∨ t = 11 then [⟨n, 4, ⟨#[]⟩⟩] else []
section
variable {t : Int} {d : ByteArray} {k on w : Int} {x : Bool} {c la n : Int}
theorem hp1 (h : t = 0 ∨ t = 1 ∨ t = 7 ∨ t = 8) : headPs t d k on w x c la n = [⟨0, 0, d⟩] := by unfold headPs; rw [if_pos h]
theorem hp2 (h : t = 2 ∨ t = 3) : headPs t d k on w x c la n = [⟨k, 1, ⟨#[]⟩⟩, ⟨bitI x, 1, ⟨#[]⟩⟩, ⟨w - 1, 1, ⟨#[]⟩⟩, ⟨0, 1, ⟨#[]⟩⟩, ⟨on, 4, ⟨#[]⟩⟩] := by unfold headPs; rw [if_neg (by omega), if_pos h]
theorem hp3 (h : t = 4) : headPs t d k on w x c la n = [⟨c, 4, ⟨#[]⟩⟩] := by unfold headPs; rw [if_neg (by omega), if_neg (by omega), if_pos h]
end
end Go.Proofs.YtiofdmjecjcdbaaGreatDoor


namespace Go.Proofs.YtiofdmjecjcdbaaGreatDoor
open Go Go.Proofs Go.Sl
set_option maxRecDepth 100000
set_option maxHeartbeats 4000000
set_option linter.unusedSimpArgs false
set_option linter.unusedVariables false
attribute [local irreducible] evG evC spl thenC inBlockC noGotoC CallT retC RetG TurnG CutG pt ro exP star sep pureP
variable {R C : List HP} {K : Value → List HP → Prop}
def b2 (t st : Int) : Bool := !(decide (0 ≤ t) && decide (t ≤ 11) && streamB t st)
def b4 (t : Int) (e : Bool) (k c la n : Int) (m : Nat) : Bool := (e && decide (1 < t)) || (!decide (k = 0) && !decide (t = 2)) || (!decide (c = 0) && !decide (t = 4) && !decide (t = 9)) || (!decide (la = 0) && !decide (t = 9)) || (!decide (n = 0) && decide (t < 10)) || (decide (0 < m) && !decide (t = 5))
end Go.Proofs.YtiofdmjecjcdbaaGreatDoor


namespace Go.Proofs.YtiofdmjecjcdbaaGreatDoor
open Go Go.Proofs Go.Sl
set_option maxRecDepth 100000
set_option maxHeartbeats 4000000
set_option linter.unusedSimpArgs false
set_option linter.unusedVariables false
attribute [local irreducible] evG evC spl thenC inBlockC noGotoC CallT retC RetG TurnG CutG pt ro exP star sep pureP
variable {R C : List HP} {K : Value → List HP → Prop}
def b6 (t : Int) (d : ByteArray) (on w : Int) (x : Bool) : Bool := (!noneB on w x && !decide (t = 2) && !decide (t = 3)) || (!decide (d = ⟨#[]⟩) && decide (1 < t) && !decide (t = 7) && !decide (t = 8))
def b8 (t : Int) (d : ByteArray) (k on w : Int) : Bool := (decide (t ≤ 1) && decide (256 < d.size)) || ((decide (t = 7) || decide (t = 8)) && !decide (d.size = 8)) || (decide (t = 2) && !decide (k = 1) && !decide (k = 2)) || ((decide (t = 2) || decide (t = 3)) && !depB on w)
end Go.Proofs.YtiofdmjecjcdbaaGreatDoor


namespace Go.Proofs.YtiofdmjecjcdbaaGreatDoor
open Go Go.Proofs Go.Sl
set_option maxRecDepth 100000
set_option maxHeartbeats 4000000
set_option linter.unusedSimpArgs false
set_option linter.unusedVariables false
attribute [local irreducible] evG evC spl thenC inBlockC noGotoC CallT retC RetG TurnG CutG pt ro exP star sep pureP
attribute [local irreducible] ByteArray.extract nAt scanP
variable {R C : List HP} {K : Value → List HP → Prop}
theorem checkA_ok {t st : Int} {e : Bool} {d : ByteArray} {k on w : Int} {x : Bool} {c la n : Int} {pa : Option Addr} {pn pc : Nat} {ps : List Pr} (h : chkB t st e d k on w x c la n ps = true) (hv : View C pa prC ps) (hn : ps.length = pn) (hn2 : pn < 1000000000000000) (hK : K (.int .i64 0) C) : CallT Tryz.prog 165 #[.agg #[.int .i64 t, .int .i64 st, .bool e, .string d, .int .i64 k, .int .i64 on, .int .i64 w, .bool x, .int .i64 c, .int .i64 la, .int .i64 n, .slice pa pn pc]] C K := by
  refine fcheck_ok hv hn hn2 ?_
  unfold chkI; rw [h]; exact hK
end Go.Proofs.YtiofdmjecjcdbaaGreatDoor


namespace Go.Proofs.YtiofdmjecjcdbaaGreatDoor
open Go Go.Proofs Go.Sl
set_option maxRecDepth 100000
set_option maxHeartbeats 4000000
set_option linter.unusedSimpArgs false
set_option linter.unusedVariables false
attribute [local irreducible] evG evC spl thenC inBlockC noGotoC CallT retC RetG TurnG CutG pt ro exP star sep pureP
attribute [local irreducible] ByteArray.extract nAt scanP
variable {R C : List HP} {K : Value → List HP → Prop}
def fmD : List Value → Option Fm
  | [.int .i64 t, .int .i64 st, .bool e, .string d, .int .i64 k, .int .i64 on, .int .i64 w, .bool x, .int .i64 c, .int .i64 la, .int .i64 n, .slice pa pn pc] => some ⟨t, st, e, d, k, on, w, x, c, la, n, pa, pn, pc, []⟩
  | _ => none
theorem fmD_ok (cs : List Value) (y : Fm) (h : fmD cs = some y) : [.int .i64 y.t, .int .i64 y.st, .bool y.e, .string y.d, .int .i64 y.k, .int .i64 y.on, .int .i64 y.w, .bool y.x, .int .i64 y.c, .int .i64 y.la, .int .i64 y.n, .slice y.pa y.pn y.pc] = cs := by
  unfold fmD at h
  split at h
  · cases h; rfl
  · cases h
def fmC : Cod Fm := { enc := fun y => [.int .i64 y.t, .int .i64 y.st, .bool y.e, .string y.d, .int .i64 y.k, .int .i64 y.on, .int .i64 y.w, .bool y.x, .int .i64 y.c, .int .i64 y.la, .int .i64 y.n, .slice y.pa y.pn y.pc], sz := 12, dec := fmD, len := fun _ => rfl, one := fun _ => rfl, ok := fmD_ok }
/-- what is known of a frame's settings -/
def FmV (C : List HP) (y : Fm) : Prop := View C y.pa prC y.ps ∧ y.ps.length = y.pn
theorem FmV.there {X : HP} {y : Fm} (h : FmV C y) : FmV (X :: C) y := ⟨view_there h.1, h.2⟩
def chkF (y : Fm) : Bool := chkB y.t y.st y.e y.d y.k y.on y.w y.x y.c y.la y.n y.ps
def RightF (y : Fm) : Prop := RightP y.t y.st y.e y.d y.k y.on y.w y.x y.c y.la y.n y.ps
theorem chkF_iff (y : Fm) : chkF y = true ↔ RightF y := chk_iff _ _ _ _ _ _ _ _ _ _ _ _
end Go.Proofs.YtiofdmjecjcdbaaGreatDoor


namespace Go.Proofs.YtiofdmjecjcdbaaGreatDoor
open Go Go.Proofs Go.Sl
set_option maxRecDepth 100000
set_option maxHeartbeats 4000000
set_option linter.unusedSimpArgs false
set_option linter.unusedVariables false
attribute [local irreducible] evG evC spl thenC inBlockC noGotoC CallT retC RetG TurnG CutG pt ro exP star sep pureP
variable {W : World}
def fmP (y : Fm) : HP := rrow y.pa prC y.ps
theorem pers_fmP (y : Fm) : Pers (fmP y) := pers_rrow _ _ _
theorem mono_fmP (y : Fm) : MonoP (fmP y) := mono_rrow _ _ _
end Go.Proofs.YtiofdmjecjcdbaaGreatDoor

