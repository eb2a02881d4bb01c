/- Frame: All, by the program and by the document: lemmas; each with the conditions that it states. -/
import Derived.Test.YtgaekagocbcebaaK16

namespace Go.Proofs.Ytgaekagocbcebaa
open Go Go.Proofs Go.Sl
set_option maxRecDepth 100000
set_option maxHeartbeats 4000000
set_option linter.unusedSimpArgs false
set_option linter.unusedVariables false
attribute [local irreducible] evG evC spl thenC inBlockC noGotoC CallT retC RetG TurnG CutG pt ro exP star sep pureP
attribute [local irreducible] ByteArray.extract nAt scanP
variable {R C : List HP} {K : Value → List HP → Prop}
def fmD : List Value → Option Fm
  | [.int .i64 t, .int .i64 st, .bool e, .string d, .int .i64 k, .int .i64 on, .int .i64 w, .bool x, .int .i64 c, .int .i64 la, .int .i64 n, .slice pa pn pc] => some ⟨t, st, e, d, k, on, w, x, c, la, n, pa, pn, pc, []⟩
  | _ => none
theorem fmD_ok (cs : List Value) (y : Fm) (h : fmD cs = some y) : [.int .i64 y.t, .int .i64 y.st, .bool y.e, .string y.d, .int .i64 y.k, .int .i64 y.on, .int .i64 y.w, .bool y.x, .int .i64 y.c, .int .i64 y.la, .int .i64 y.n, .slice y.pa y.pn y.pc] = cs := by
  unfold fmD at h
  split at h
  · cases h; rfl
  · cases h
def fmC : Cod Fm := { enc := fun y => [.int .i64 y.t, .int .i64 y.st, .bool y.e, .string y.d, .int .i64 y.k, .int .i64 y.on, .int .i64 y.w, .bool y.x, .int .i64 y.c, .int .i64 y.la, .int .i64 y.n, .slice y.pa y.pn y.pc], sz := 12, dec := fmD, len := fun _ => rfl, one := fun _ => rfl, ok := fmD_ok }
/-- what is known of a frame's settings -/
def FmV (C : List HP) (y : Fm) : Prop := View C y.pa prC y.ps ∧ y.ps.length = y.pn
theorem FmV.there {X : HP} {y : Fm} (h : FmV C y) : FmV (X :: C) y := ⟨view_there h.1, h.2⟩
def chkF (y : Fm) : Bool := chkB y.t y.st y.e y.d y.k y.on y.w y.x y.c y.la y.n y.ps
def frF (y : Fm) : ByteArray := frB y.t y.st y.e y.d y.k y.on y.w y.x y.c y.la y.n y.ps
def RightF (y : Fm) : Prop := RightP y.t y.st y.e y.d y.k y.on y.w y.x y.c y.la y.n y.ps
theorem chkF_iff (y : Fm) : chkF y = true ↔ RightF y := chk_iff _ _ _ _ _ _ _ _ _ _ _ _
theorem fr_le {y : Fm} (h : RightF y) : (frF y).size ≤ 265 := by
  have h1 := laid_size (right_head h)
  have h2 := (pay_law h).2
  have : (frF y).size = 9 + (payL y.t y.d y.k y.on y.w y.x y.c y.la y.n y.ps).length := by
    unfold frF frB
    rw [ByteArray.size_append, h1, ba_size]
  omega
def allF (l : List Fm) : List UInt8 := l.flatMap fun y => (frF y).data.toList
theorem allF_le : ∀ {l : List Fm}, (∀ y ∈ l, RightF y) → (allF l).length ≤ 265 * l.length
  | [], _ => by simp [allF]
  | y :: l, h => by
    have h1 := fr_le (h y (by simp))
    have h2 := allF_le (l := l) fun z hz => h z (List.mem_cons_of_mem _ hz)
    have e : (frF y).data.toList.length = (frF y).size := by simp
    have e2 : (allF (y :: l)).length = (frF y).size + (allF l).length := by rw [← e]; simp [allF]
    rw [e2, List.length_cons]; omega
theorem allF_take {l : List Fm} {j : Nat} {y : Fm} (h : l[j]? = some y) : allF (l.take (j + 1)) = allF (l.take j) ++ (frF y).data.toList := by
  unfold allF
  rw [List.take_add_one, h]
  simp
def lightF (y : Fm) : Bool := decide (y.d.size < 600) && decide (y.pn < 20)
end Go.Proofs.Ytgaekagocbcebaa
