/- Outq: the queue and the document's list: lemmas; each with the conditions that it states. -/
import Derived.Test.YtgdfmbnbknhhiaaM8
import Derived.Test.YtgdfmbnbknhhiaaM4

namespace Go.Proofs.Ytgdfmbnbknhhiaa
open Go Go.Proofs Go.Sl
set_option maxRecDepth 100000
set_option maxHeartbeats 4000000
set_option linter.unusedSimpArgs false
set_option linter.unusedVariables false
attribute [local irreducible] evG evC spl thenC inBlockC noGotoC CallT retC RetG TurnG CutG pt ro exP star sep pureP
/-- a frame but for where its settings lie -/
def core (y : Fm) : Fm := ⟨y.t, y.st, y.e, y.d, y.k, y.on, y.w, y.x, y.c, y.la, y.n, none, y.pn, 0, y.ps⟩
def Rel (C : List HP) (xs ys : List Fm) : Prop := xs.map core = ys.map core ∧ QInv xs ∧ (∀ z ∈ xs, chkF z = true) ∧ (∀ z ∈ ys, FmV C z)
variable {C : List HP} {xs ys : List Fm} {x y f : Fm}
theorem core_t (h : core x = core y) : x.t = y.t ∧ x.st = y.st ∧ x.n = y.n := ⟨by have := congrArg Fm.t h; exact this, by have := congrArg Fm.st h; exact this, by have := congrArg Fm.n h; exact this⟩
theorem like_core (h : core x = core y) : likeB f x = likeB f y := by
  obtain ⟨h1, h2, h3⟩ := core_t h
  unfold likeB
  rw [h1, h2, h3]
theorem rel_len (h : Rel C xs ys) : xs.length = ys.length := by simpa using congrArg List.length h.1
theorem rel_at (h : Rel C xs ys) (i : Nat) : (xs[i]?).map core = (ys[i]?).map core := by
  have := congrArg (·[i]?) h.1
  simpa using this
theorem rel_at1 (h : Rel C xs ys) {i : Nat} (hy : ys[i]? = some y) : ∃ x, xs[i]? = some x ∧ core x = core y := by
  have := rel_at h i
  rw [hy] at this
  cases hx : xs[i]? with
  | none => rw [hx] at this; cases this
  | some x => rw [hx] at this; exact ⟨x, rfl, Option.some.inj this⟩
theorem rel_at2 (h : Rel C xs ys) {i : Nat} (hx : xs[i]? = some x) : ∃ y, ys[i]? = some y ∧ core x = core y := by
  have := rel_at h i
  rw [hx] at this
  cases hy : ys[i]? with
  | none => rw [hy] at this; cases this
  | some y => rw [hy] at this; exact ⟨y, rfl, Option.some.inj this⟩
theorem rel_nil : Rel C [] [] := ⟨rfl, ⟨by decide, by simp⟩, by simp, by simp⟩
theorem rel_range (h : Rel C xs ys) : ∀ z ∈ ys, 0 ≤ z.n ∧ z.n ≤ 2147483647 := fun z hz => by
  obtain ⟨i, hi, e⟩ := List.getElem_of_mem hz
  obtain ⟨x, h1, h2⟩ := rel_at1 h (i := i) (y := z) (by rw [List.getElem?_eq_getElem hi, e])
  have := h.2.1.2 x (List.mem_of_getElem? h1)
  rw [(core_t h2).2.2] at this
  exact this
theorem rel_none (h : Rel C xs ys) (hb : ∀ z ∈ xs, likeB f z = false) : ∀ z ∈ ys, likeB f z = false := fun z hz => by
  obtain ⟨i, hi, e⟩ := List.getElem_of_mem hz
  obtain ⟨x, h1, h2⟩ := rel_at1 h (i := i) (y := z) (by rw [List.getElem?_eq_getElem hi, e])
  rw [← like_core h2]
  exact hb x (List.mem_of_getElem? h1)
theorem rel_tail (h : Rel C (x :: xs) (y :: ys)) : Rel C xs ys ∧ core x = core y := by
  obtain ⟨h1, h2, h3, h4⟩ := h
  rw [List.map_cons, List.map_cons, List.cons.injEq] at h1
  exact ⟨⟨h1.2, (qinv_tail h2).1, fun z hz => h3 z (List.mem_cons_of_mem _ hz), fun z hz => h4 z (List.mem_cons_of_mem _ hz)⟩, h1.1⟩
theorem rel_push (h : Rel C xs ys) (hc : chkF f = true) (hf : FmV C f) (hl : xs.length < 64) (A : Option Addr) (c : Nat) : Rel C (xs ++ [⟨f.t, f.st, f.e, f.d, f.k, f.on, f.w, f.x, f.c, f.la, f.n, A, f.ps.length, c, f.ps⟩]) (ys ++ [f]) := by
  obtain ⟨h1, h2, h3, h4⟩ := h
  have hnn := right_n hc
  refine ⟨by rw [List.map_append, List.map_append, h1]; simp [core, hf.2], ⟨by simp; omega, fun z hz => ?_⟩, fun z hz => ?_, fun z hz => ?_⟩
  · rcases List.mem_append.1 hz with h' | h'
    · exact h2.2 z h'
    · rw [List.mem_singleton.1 h']; exact hnn
  · rcases List.mem_append.1 hz with h' | h'
    · exact h3 z h'
    · rw [List.mem_singleton.1 h']; exact hc
  · rcases List.mem_append.1 hz with h' | h'
    · exact h4 z h'
    · rw [List.mem_singleton.1 h']; exact hf
theorem grant_shape (hc : chkF y = true) (ht : 10 ≤ y.t) : y.e = false ∧ y.d = ⟨#[]⟩ ∧ y.k = 0 ∧ y.on = 0 ∧ y.w = 0 ∧ y.x = false ∧ y.c = 0 ∧ y.la = 0 ∧ y.ps = [] := by
  have h := (chkF_iff y).1 hc
  unfold RightF RightP at h
  obtain ⟨h1, h2, h3, h4, h5, h6, h7, h8, h9, h10, h11, h12, h13, h14, h15, h16, h17, h18, h19, h20, h21⟩ := h
  have e1 : y.e = false := by
    cases he : y.e
    · rfl
    · have := h5 he; omega
  have e2 : y.d = ⟨#[]⟩ := size0.2 (by
    rcases Nat.eq_zero_or_pos y.d.size with h' | h'
    · exact h'
    · have := h12 h'; omega)
  have e3 : noneB y.on y.w y.x = true := by
    cases hq : noneB y.on y.w y.x
    · have := h11 hq; omega
    · rfl
  obtain ⟨o1, o2, o3⟩ := (none_iff _ _ _).1 e3
  have e4 : y.ps = [] := by
    rcases Nat.eq_zero_or_pos y.ps.length with h' | h'
    · exact List.length_eq_zero_iff.1 h'
    · have := h10 h'; omega
  exact ⟨e1, e2, Classical.byContradiction fun h' => by have := h6 h'; omega, o1, o2, o3, Classical.byContradiction fun h' => by have := h7 h'; omega, Classical.byContradiction fun h' => by have := h8 h'; omega, e4⟩
theorem bump_chk {n : Int} (hc : chkF y = true) (ht : 10 ≤ y.t) (hn : 0 ≤ y.n + n ∧ y.n + n ≤ 2147483647) : chkF (bump y n) = true := by
  have hs := (grant_shape hc ht).2.2.2.2.2.2.2.2
  have h := (chkF_iff y).1 hc
  refine (chkF_iff _).2 ?_
  unfold RightF RightP at h ⊢
  obtain ⟨h1, h2, h3, h4, h5, h6, h7, h8, h9, h10, h11, h12, h13, h14, h15, h16, h17, h18, h19, h20, h21⟩ := h
  exact ⟨h1, h2, h3, h4, h5, h6, h7, h8, fun _ => ht, by simp [bump], h11, h12, h13, h14, h15, h16, rfl, h18, h19, (n31_iff _).2 hn, by simp [bump]⟩
theorem rel_bump (h : Rel C xs ys) {j : Nat} (hx : xs[j]? = some x) (hy : ys[j]? = some y) (hl : likeB f x = true) (hf : 0 ≤ f.n) (hp : x.pn = 0) : Rel C (xs.set j (bump x f.n)) (ys.set j (fresh f (y.n + f.n))) := by
  have hlen := rel_len h
  have hm := List.mem_of_getElem? hx
  obtain ⟨y', h5, h6⟩ := rel_at2 h hx
  rw [hy] at h5
  cases h5
  obtain ⟨h1, h2, h3, h4⟩ := h
  obtain ⟨l1, l2, l3, l4⟩ := like_yes hl
  have hc := h3 x hm
  obtain ⟨s1, s2, s3, s4, s5, s6, s7, s8, s9⟩ := grant_shape hc (by omega)
  have hxn := h2.2 x hm
  have hcb := bump_chk (n := f.n) hc (by omega) ⟨by omega, by omega⟩
  refine ⟨?_, ⟨by rw [List.length_set]; exact h2.1, fun z hz => ?_⟩, fun z hz => ?_, fun z hz => ?_⟩
  · rw [List.map_set, List.map_set, h1]
    congr 1
    unfold core bump fresh
    simp only [s1, s2, s3, s4, s5, s6, s7, s8, hp, l2, l3, (core_t h6).2.2]
  · rcases List.mem_or_eq_of_mem_set hz with h' | rfl
    · exact h2.2 z h'
    · show 0 ≤ x.n + f.n ∧ x.n + f.n ≤ 2147483647
      omega
  · rcases List.mem_or_eq_of_mem_set hz with h' | rfl
    · exact h3 z h'
    · exact hcb
  · rcases List.mem_or_eq_of_mem_set hz with h' | rfl
    · exact h4 z h'
    · exact ⟨view_nil, rfl⟩
theorem rel_pn (h : Rel C xs ys) {j : Nat} (hx : xs[j]? = some x) (ht : 10 ≤ x.t) : x.pn = 0 := by
  obtain ⟨y, h5, h6⟩ := rel_at2 h hx
  have hp := (h.2.2.2 y (List.mem_of_getElem? h5)).2
  have e1 : x.pn = y.pn := by have := congrArg Fm.pn h6; exact this
  have e2 : x.ps = y.ps := by have := congrArg Fm.ps h6; exact this
  have s := (grant_shape (h.2.2.1 x (List.mem_of_getElem? hx)) ht).2.2.2.2.2.2.2.2
  rw [e1, ← hp, ← e2, s]; rfl
theorem rel_small (h : Rel C xs ys) : ∀ z ∈ ys, z.pn < 1000000000000000 := fun z hz => by
  obtain ⟨i, hi, e⟩ := List.getElem_of_mem hz
  obtain ⟨x, h1, h2⟩ := rel_at1 h (i := i) (y := z) (by rw [List.getElem?_eq_getElem hi, e])
  have hp := (h.2.2.2 z hz).2
  have e2 : x.ps = z.ps := by have := congrArg Fm.ps h2; exact this
  have h8 : x.ps.length ≤ 8 := ((chkF_iff x).1 (h.2.2.1 x (List.mem_of_getElem? h1))).2.2.2.2.2.2.2.2.2.2.2.2.2.2.2.2.2.2.2.2
  rw [e2] at h8
  omega
end Go.Proofs.Ytgdfmbnbknhhiaa
