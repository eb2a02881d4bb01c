/- Outq: of windows nothing is lost: lemmas; each with the conditions that it states. -/
import Derived.Test.YtgdfmbnbknhhiaaM5

namespace Go.Proofs.Ytgdfmbnbknhhiaa
open Go Go.Proofs Go.Sl
set_option maxRecDepth 100000
set_option maxHeartbeats 4000000
set_option linter.unusedSimpArgs false
set_option linter.unusedVariables false
attribute [local irreducible] evG evC spl thenC inBlockC noGotoC CallT retC RetG TurnG CutG pt ro exP star sep pureP
variable {R C : List HP} {K : Value → List HP → Prop}
/-- an act: a frame, how often, or the next, or all -/
structure Act where
  f : Fm
  many : Int
  nx : Bool
  cl : Bool
def acD : List Value → Option Act
  | [.int .i64 t, .int .i64 st, .bool e, .string d, .int .i64 k, .int .i64 on, .int .i64 w, .bool x, .int .i64 c, .int .i64 la, .int .i64 n, .slice pa pn pc, .int .u8 m, .bool nx, .bool cl] => some ⟨⟨t, st, e, d, k, on, w, x, c, la, n, pa, pn, pc, []⟩, m, nx, cl⟩
  | _ => none
def acE (y : Act) : List Value := [.int .i64 y.f.t, .int .i64 y.f.st, .bool y.f.e, .string y.f.d, .int .i64 y.f.k, .int .i64 y.f.on, .int .i64 y.f.w, .bool y.f.x, .int .i64 y.f.c, .int .i64 y.f.la, .int .i64 y.f.n, .slice y.f.pa y.f.pn y.f.pc, .int .u8 y.many, .bool y.nx, .bool y.cl]
theorem acD_ok (cs : List Value) (y : Act) (h : acD cs = some y) : acE y = cs := by
  unfold acD at h
  split at h
  · cases h; rfl
  · cases h
def acC : Cod Act := { enc := acE, sz := 15, dec := acD, len := fun _ => rfl, one := fun _ => rfl, ok := acD_ok }
def sumN (xs : List Fm) : Int := (xs.map (·.n)).sum
/-- what a queue is kept at -/
def QInv (xs : List Fm) : Prop := xs.length ≤ 64 ∧ ∀ z ∈ xs, 0 ≤ z.n ∧ z.n ≤ 2147483647
theorem sum_nn : ∀ {xs : List Fm}, (∀ z ∈ xs, 0 ≤ z.n ∧ z.n ≤ 2147483647) → 0 ≤ sumN xs ∧ sumN xs ≤ 2147483647 * xs.length
  | [], _ => by simp [sumN]
  | x :: l, h => by
    have h1 := h x (by simp)
    have h2 := sum_nn (xs := l) fun z hz => h z (List.mem_cons_of_mem _ hz)
    unfold sumN at h2 ⊢
    simp only [List.map_cons, List.sum_cons, List.length_cons]
    omega
theorem qinv_tail {z : Fm} {zs : List Fm} (h : QInv (z :: zs)) : QInv zs ∧ zs.length ≤ 63 ∧ sumN (z :: zs) = z.n + sumN zs ∧ 0 ≤ z.n ∧ z.n ≤ 2147483647 := by
  have h1 : zs.length + 1 ≤ 64 := h.1
  exact ⟨⟨by omega, fun y hy => h.2 y (List.mem_cons_of_mem _ hy)⟩, by omega, by simp [sumN], (h.2 z (by simp)).1, (h.2 z (by simp)).2⟩
theorem sum_app (xs ys : List Fm) : sumN (xs ++ ys) = sumN xs + sumN ys := by unfold sumN; simp
theorem sum_set {xs : List Fm} {j : Nat} {y : Fm} {n : Int} (h : xs[j]? = some y) : sumN (xs.set j (bump y n)) = sumN xs + n := by
  have hlt : j < xs.length := (List.getElem?_eq_some_iff.1 h).1
  have h2 := List.drop_eq_getElem_cons hlt
  rw [List.getElem?_eq_getElem hlt] at h
  cases h
  have e1 : xs = xs.take j ++ xs[j] :: xs.drop (j + 1) := by rw [← h2, List.take_append_drop]
  have e2 : xs.set j (bump xs[j] n) = xs.take j ++ bump xs[j] n :: xs.drop (j + 1) := List.set_eq_take_append_cons_drop ▸ (by rw [if_pos hlt])
  rw [e2, sum_app]
  conv => rhs; rw [e1, sum_app]
  unfold sumN bump
  simp only [List.map_cons, List.sum_cons]
  omega
/-- the first frame of the queue that takes what f grants -/
theorem like_cases (f : Fm) : ∀ xs : List Fm, (∀ z ∈ xs, likeB f z = false) ∨ ∃ j y, xs[j]? = some y ∧ likeB f y = true ∧ ∀ (i : Nat) (z : Fm), i < j → xs[i]? = some z → likeB f z = false
  | [] => .inl (by simp)
  | x :: l => by
    cases hx : likeB f x
    · rcases like_cases f l with h | ⟨j, y, h1, h2, h3⟩
      · exact .inl fun z hz => by
          rcases List.mem_cons.1 hz with rfl | hz
          · exact hx
          · exact h z hz
      · refine .inr ⟨j + 1, y, by simpa using h1, h2, fun i z hi hz => ?_⟩
        cases i with
        | zero => simp at hz; exact hz ▸ hx
        | succ i => exact h3 i z (by omega) (by simpa using hz)
    · exact .inr ⟨0, x, rfl, hx, fun i z hi _ => by omega⟩
theorem like_yes' {f z : Fm} (h : likeB f z = true) : z.n + f.n ≤ 2147483647 := by
  unfold likeB at h
  simp only [Bool.and_eq_true, Bool.or_eq_true, decide_eq_true_eq] at h
  omega
theorem sum_fresh (xs : List Fm) (f : Fm) (A : Option Addr) (c : Nat) : sumN (xs ++ [⟨f.t, f.st, f.e, f.d, f.k, f.on, f.w, f.x, f.c, f.la, f.n, A, f.ps.length, c, f.ps⟩]) = sumN xs + f.n := by rw [sum_app]; simp [sumN]
/-- Push, whatever comes: what waits grows by what was granted, if it is OK -/
theorem qpush_ok {q : Nat} {f : Fm} {xs : List Fm} (hq : QInv xs) (hv : View R f.pa prC f.ps) (hvn : f.ps.length = f.pn) (hn2 : f.pn < 1000000000000000) (hK : ∀ xs' e, QInv xs' → xs'.length ≤ 64 → ((e = 0 ∧ sumN xs' = sumN xs + f.n ∧ 0 ≤ f.n ∧ f.n ≤ 2147483647) ∨ (e ≠ 0 ∧ xs' = xs)) → K (.int .i64 e) (queP q xs' :: R)) : CallT Try.prog 41 #[.pointer (some ⟨q, 0, none⟩), .agg #[.int .i64 f.t, .int .i64 f.st, .bool f.e, .string f.d, .int .i64 f.k, .int .i64 f.on, .int .i64 f.w, .bool f.x, .int .i64 f.c, .int .i64 f.la, .int .i64 f.n, .slice f.pa f.pn f.pc]] (queP q xs :: R) K := by
  obtain ⟨hl, hr⟩ := hq
  cases hc : chkF f
  · exact qpushA_ok (by simp) hc ⟨view_there hv, hvn⟩ hn2 (hK xs 2 ⟨hl, hr⟩ hl (.inr ⟨by decide, rfl⟩))
  have h1 := ((chkF_iff f).1 hc).1
  have hnn := right_n hc
  by_cases ht : f.t = 0 ∨ f.t = 1
  · exact qpushK_ok (by simp) hc ht ⟨view_there hv, hvn⟩ hn2 (hK xs 13 ⟨hl, hr⟩ hl (.inr ⟨by decide, rfl⟩))
  rcases like_cases f xs with hb | ⟨j, y, hj, hy, hb⟩
  · by_cases h64 : 64 ≤ xs.length
    · exact qpushF_ok hc (by omega) hb (by omega) h64 hv hvn hn2 (hK xs 9 ⟨hl, hr⟩ hl (.inr ⟨by decide, rfl⟩))
    · refine qpushP_ok hc (by omega) hb (by omega) hv hvn fun A' c' => hK _ 0 ⟨by simp; omega, fun z hz => ?_⟩ (by simp; omega) (.inl ⟨rfl, sum_fresh _ _ _ _, hnn⟩)
      rcases List.mem_append.1 hz with h' | h'
      · exact hr z h'
      · rw [List.mem_singleton.1 h']; exact hnn
  · have hyr := hr y (List.mem_of_getElem? hj)
    have hyy := like_yes' hy
    refine qpushM_ok hc (by omega) hj hy hb hyr.1 (by omega) hv hvn hn2 (hK _ 0 ⟨by rw [List.length_set]; exact hl, fun z hz => ?_⟩ (by rw [List.length_set]; exact hl) (.inl ⟨rfl, sum_set hj, hnn⟩))
    rcases List.mem_or_eq_of_mem_set hz with h' | rfl
    · exact hr z h'
    · show 0 ≤ y.n + f.n ∧ y.n + f.n ≤ 2147483647
      omega
end Go.Proofs.Ytgdfmbnbknhhiaa
