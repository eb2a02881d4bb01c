/- Sniff: what a frame makes of it, as a plain function. Sniff: its functions against the plain model: lemmas; each with the conditions that it states. -/
import Derived.Test.YthoagholmkiknaaS15
import Derived.Test.YthoagholmkiknaaFh

namespace Go.Proofs.Ythoagholmkiknaa
open Go Go.Proofs Go.Sl
set_option maxRecDepth 100000
set_option maxHeartbeats 4000000
set_option linter.unusedSimpArgs false
set_option linter.unusedVariables false
attribute [local irreducible] evG evC spl thenC inBlockC noGotoC CallT retC RetG TurnG CutG pt ro exP star sep pureP
attribute [local irreducible] mp mit
variable {R C : List HP} {K : Value → List HP → Prop}
/-- a sniffer, but for where it lies -/
structure Sn where
  s0 : List St3
  s1 : List St3
  a0 : Nat
  a1 : Nat
  c0 : Int
  c1 : Int
  ls : List (Int × Ln)
def absL (l : List En) : List (Int × Ln) := l.map fun e => (e.k, e.y)
def lsGet (id : Int) : List (Int × Ln) → Option Ln
  | [] => none
  | p :: r => if p.1 = id then some p.2 else lsGet id r
def lsUpd (id : Int) (f : Ln → Ln) : List (Int × Ln) → List (Int × Ln)
  | [] => []
  | p :: r => if p.1 = id then (p.1, f p.2) :: r else p :: lsUpd id f r
theorem lsUpd_mem {id : Int} {f : Ln → Ln} : ∀ {ls : List (Int × Ln)} {p : Int × Ln}, p ∈ lsUpd id f ls → p ∈ ls ∨ ∃ q ∈ ls, p = (q.1, f q.2)
  | [], p, h => by cases h
  | z :: r, p, h => by
    unfold lsUpd at h
    split at h
    · rcases List.mem_cons.1 h with rfl | h
      · exact .inr ⟨z, List.mem_cons_self .., rfl⟩
      · exact .inl (List.mem_cons_of_mem _ h)
    · rcases List.mem_cons.1 h with rfl | h
      · exact .inl (List.mem_cons_self ..)
      · rcases lsUpd_mem h with h | ⟨q, hq, rfl⟩
        · exact .inl (List.mem_cons_of_mem _ h)
        · exact .inr ⟨q, List.mem_cons_of_mem _ hq, rfl⟩
theorem lsUpd_no {id : Int} {f : Ln → Ln} : ∀ {ls : List (Int × Ln)}, lsGet id ls = none → lsUpd id f ls = ls
  | [], _ => rfl
  | z :: r, h => by
    unfold lsGet at h
    split at h
    · cases h
    · rename_i hz
      unfold lsUpd
      rw [if_neg hz, lsUpd_no h]
/-- a key is of no entry, or of one, and then this is it -/
theorem en_cases (id : Int) : ∀ (l : List En), ((∀ e ∈ l, e.k ≠ id) ∧ lsGet id (absL l) = none) ∨ ∃ a e c, l = a ++ e :: c ∧ e.k = id ∧ (∀ z ∈ a, z.k ≠ id) ∧ lsGet id (absL l) = some e.y ∧ ∀ f, lsUpd id f (absL l) = absL (a ++ ⟨e.k, e.q, e.b, f e.y⟩ :: c)
  | [] => .inl ⟨fun e h => (by cases h), rfl⟩
  | e :: l => by
    by_cases he : e.k = id
    · refine .inr ⟨[], e, l, rfl, he, fun z h => (by cases h), ?_, fun f => ?_⟩
      · show (if e.k = id then some e.y else _) = _
        rw [if_pos he]
      · show (if e.k = id then _ else _) = _
        rw [if_pos he]
        rfl
    · rcases en_cases id l with ⟨h1, h2⟩ | ⟨a, z, c, h1, h2, h3, h4, h5⟩
      · refine .inl ⟨fun z hz => ?_, ?_⟩
        · rcases List.mem_cons.1 hz with rfl | hz
          · exact he
          · exact h1 z hz
        · show (if e.k = id then _ else _) = _
          rw [if_neg he]
          exact h2
      · refine .inr ⟨e :: a, z, c, by rw [h1]; rfl, h2, fun z hz => ?_, ?_, fun f => ?_⟩
        · rcases List.mem_cons.1 hz with rfl | hz
          · exact he
          · exact h3 z hz
        · show (if e.k = id then _ else _) = _
          rw [if_neg he]
          exact h4
        · show (if e.k = id then _ else _) = _
          rw [if_neg he]
          exact congrArg _ (h5 f)
theorem enok_upd {a c : List En} {e : En} {y : Ln} {ck : Nat} (h : EnOk (a ++ e :: c) ck) : EnOk (a ++ ⟨e.k, e.q, e.b, y⟩ :: c) ck := by
  obtain ⟨h1, h3⟩ := h
  refine ⟨?_, fun z hz => ?_⟩
  · simpa using h1
  · rcases List.mem_append.1 hz with hz | hz
    · exact h3 z (List.mem_append.2 (.inl hz))
    · rcases List.mem_cons.1 hz with rfl | hz
      · exact h3 e (by simp)
      · exact h3 z (by simp [hz])
theorem enm_upd {a c : List En} {e : En} {y : Ln} : (a ++ ⟨e.k, e.q, e.b, y⟩ :: c).map enM = (a ++ e :: c).map enM := by simp [enM]
theorem enok_snoc {l : List En} {ck q : Nat} {id : Int} {y : Ln} (h : EnOk l ck) : EnOk (l ++ [En.mk id q ck y]) (ck + 1) := by
  obtain ⟨h1, h3⟩ := h
  refine ⟨?_, fun z hz => ?_⟩
  · rw [List.map_append]
    refine List.nodup_append.2 ⟨h1, by simp, ?_⟩
    intro b hb b' hb' he
    obtain ⟨z, hz, rfl⟩ := List.mem_map.1 hb
    have := h3 z hz
    simp at hb'
    omega
  · rcases List.mem_append.1 hz with hz | hz
    · have := h3 z hz; omega
    · rw [List.mem_singleton] at hz; subst hz; exact Nat.lt_succ_self _
theorem enok_map {l : List En} {ck : Nat} {f : Ln → Ln} (h : EnOk l ck) : EnOk (l.map fun e => ⟨e.k, e.q, e.b, f e.y⟩) ck := by
  obtain ⟨h1, h3⟩ := h
  refine ⟨?_, fun z hz => ?_⟩
  · rw [List.map_map]; exact h1
  · obtain ⟨e, he, rfl⟩ := List.mem_map.1 hz; exact h3 e he
theorem enm_map {l : List En} {f : Ln → Ln} : (l.map fun e => (⟨e.k, e.q, e.b, f e.y⟩ : En)).map enM = l.map enM := by rw [List.map_map]; rfl
theorem abs_map {l : List En} {f : Ln → Ln} : absL (l.map fun e => (⟨e.k, e.q, e.b, f e.y⟩ : En)) = (absL l).map fun p => (p.1, f p.2) := by unfold absL; rw [List.map_map, List.map_map]; rfl
def stAt (s : List St3) (i : Nat) : St3 := s[i]?.getD ⟨0, 0, 0⟩
theorem stAt_some {s : List St3} {i : Nat} (h : i < s.length) : s[i]? = some (stAt s i) := by unfold stAt; rw [List.getElem?_eq_getElem h]; rfl
theorem stAt_mem {s : List St3} {i : Nat} (h : i < s.length) : stAt s i ∈ s := List.mem_of_getElem? (stAt_some h)
def opn0 (st : Int) (σ : Sn) : Sn := match lsGet st σ.ls with
  | some _ => σ
  | none => ⟨σ.s0, σ.s1, σ.a0, σ.a1, σ.c0, σ.c1, σ.ls ++ [(st, ⟨(stAt σ.s1 σ.a0).w, (stAt σ.s0 (σ.s0.length - 1)).w, 0, 0, σ.a0 + 1, σ.s0.length⟩)]⟩
def set0 (ps : List Pr) (σ : Sn) : Sn := ⟨σ.s0 ++ [apS (stAt σ.s0 (σ.s0.length - 1)) ps], σ.s1, σ.a0, σ.a1, σ.c0, σ.c1, σ.ls⟩
def akn0 (σ : Sn) : Sn := if σ.a0 + 1 < σ.s1.length then ⟨σ.s0, σ.s1, σ.a0 + 1, σ.a1, σ.c0, σ.c1, σ.ls.map fun p => (p.1, ackU0 (σ.a0 + 1) ((stAt σ.s1 (σ.a0 + 1)).w - (stAt σ.s1 σ.a0).w) p.2)⟩ else σ
def grn0 (t st n : Int) (σ : Sn) : Sn := ⟨σ.s0, σ.s1, σ.a0, σ.a1, σ.c0, grC st n σ.c1, lsUpd st (grL0 t st n) σ.ls⟩
def bL0 (n : Int) (y : Ln) : Ln := ⟨spN y.b0 n, y.b1, y.i0, y.i1, y.f0, y.f1⟩
def iL0 (y : Ln) : Ln := ⟨y.b0, y.b1, spN y.i0 1, y.i1, y.f0, y.f1⟩
def dat0 (st n : Int) (σ : Sn) : Sn := ⟨σ.s0, σ.s1, σ.a0, σ.a1, spN σ.c0 n, σ.c1, lsUpd st (bL0 n) σ.ls⟩
def itm0 (st : Int) (σ : Sn) : Sn := ⟨σ.s0, σ.s1, σ.a0, σ.a1, σ.c0, σ.c1, lsUpd st iL0 σ.ls⟩
def datO0 (st n : Int) (σ : Sn) : List Int := match lsGet st σ.ls with
  | none => wrL [] 9 (spO σ.c0 n)
  | some y => wrL (wrL [] 9 (spO σ.c0 n)) 8 (spO y.b0 n)
def itmO0 (st : Int) (σ : Sn) : List Int := match lsGet st σ.ls with
  | none => []
  | some y => wrL [] 10 (spO y.i0 1)
def snF0 (t st : Int) (e : Bool) (d : ByteArray) (n : Int) (ps : List Pr) (σ : Sn) : Sn := if t = 2 then opn0 st σ else if t = 5 then set0 ps σ else if t = 6 then akn0 σ else if t = 10 ∨ t = 11 then grn0 t st n σ else if t = 0 then dat0 st (d.size : Nat) σ else if t = 1 ∧ (d ≠ ⟨#[]⟩ ∨ e = false) then itm0 st σ else σ
def snO0 (t st : Int) (e : Bool) (d : ByteArray) (σ : Sn) : List Int := if t = 0 then datO0 st (d.size : Nat) σ else if t = 1 ∧ (d ≠ ⟨#[]⟩ ∨ e = false) then itmO0 st σ else []
def opn1 (st : Int) (σ : Sn) : Sn := match lsGet st σ.ls with
  | some _ => σ
  | none => ⟨σ.s0, σ.s1, σ.a0, σ.a1, σ.c0, σ.c1, σ.ls ++ [(st, ⟨(stAt σ.s1 (σ.s1.length - 1)).w, (stAt σ.s0 σ.a1).w, 0, 0, σ.s1.length, σ.a1 + 1⟩)]⟩
def set1 (ps : List Pr) (σ : Sn) : Sn := ⟨σ.s0, σ.s1 ++ [apS (stAt σ.s1 (σ.s1.length - 1)) ps], σ.a0, σ.a1, σ.c0, σ.c1, σ.ls⟩
def akn1 (σ : Sn) : Sn := if σ.a1 + 1 < σ.s0.length then ⟨σ.s0, σ.s1, σ.a0, σ.a1 + 1, σ.c0, σ.c1, σ.ls.map fun p => (p.1, ackU1 (σ.a1 + 1) ((stAt σ.s0 (σ.a1 + 1)).w - (stAt σ.s0 σ.a1).w) p.2)⟩ else σ
def grn1 (t st n : Int) (σ : Sn) : Sn := ⟨σ.s0, σ.s1, σ.a0, σ.a1, grC st n σ.c0, σ.c1, lsUpd st (grL1 t st n) σ.ls⟩
def bL1 (n : Int) (y : Ln) : Ln := ⟨y.b0, spN y.b1 n, y.i0, y.i1, y.f0, y.f1⟩
def iL1 (y : Ln) : Ln := ⟨y.b0, y.b1, y.i0, spN y.i1 1, y.f0, y.f1⟩
def dat1 (st n : Int) (σ : Sn) : Sn := ⟨σ.s0, σ.s1, σ.a0, σ.a1, σ.c0, spN σ.c1 n, lsUpd st (bL1 n) σ.ls⟩
def itm1 (st : Int) (σ : Sn) : Sn := ⟨σ.s0, σ.s1, σ.a0, σ.a1, σ.c0, σ.c1, lsUpd st iL1 σ.ls⟩
def datO1 (st n : Int) (σ : Sn) : List Int := match lsGet st σ.ls with
  | none => wrL [] 9 (spO σ.c1 n)
  | some y => wrL (wrL [] 9 (spO σ.c1 n)) 8 (spO y.b1 n)
def itmO1 (st : Int) (σ : Sn) : List Int := match lsGet st σ.ls with
  | none => []
  | some y => wrL [] 10 (spO y.i1 1)
def snF1 (t st : Int) (e : Bool) (d : ByteArray) (n : Int) (ps : List Pr) (σ : Sn) : Sn := if t = 2 then opn1 st σ else if t = 5 then set1 ps σ else if t = 6 then akn1 σ else if t = 10 ∨ t = 11 then grn1 t st n σ else if t = 0 then dat1 st (d.size : Nat) σ else if t = 1 ∧ (d ≠ ⟨#[]⟩ ∨ e = false) then itm1 st σ else σ
def snO1 (t st : Int) (e : Bool) (d : ByteArray) (σ : Sn) : List Int := if t = 0 then datO1 st (d.size : Nat) σ else if t = 1 ∧ (d ≠ ⟨#[]⟩ ∨ e = false) then itmO1 st σ else []
theorem snO1_len (t st : Int) (e : Bool) (d : ByteArray) (σ : Sn) : (snO1 t st e d σ).length ≤ 2 := by
  unfold snO1
  split
  · unfold datO1; split
    · exact Nat.le_trans (wrL_len ..) (by simp)
    · exact Nat.le_trans (wrL_len ..) (Nat.succ_le_succ (Nat.le_trans (wrL_len ..) (by simp)))
  · split
    · unfold itmO1; split
      · simp
      · exact Nat.le_trans (wrL_len ..) (by simp)
    · simp
/-- what is known of a sniffer behind j frames -/
def lnB (B : Int) (y : Ln) : Prop := (-B ≤ y.b0 ∧ y.b0 ≤ B) ∧ (-B ≤ y.b1 ∧ y.b1 ≤ B) ∧ (-B ≤ y.i0 ∧ y.i0 ≤ B) ∧ (-B ≤ y.i1 ∧ y.i1 ≤ B)
def stB (z : St3) : Prop := 0 ≤ z.w ∧ z.w ≤ 2147483647
structure InvS (j : Nat) (σ : Sn) : Prop where
  l0 : 0 < σ.s0.length ∧ σ.s0.length ≤ j + 1
  l1 : 0 < σ.s1.length ∧ σ.s1.length ≤ j + 1
  a0 : σ.a0 < σ.s1.length
  a1 : σ.a1 < σ.s0.length
  w0 : ∀ z ∈ σ.s0, stB z
  w1 : ∀ z ∈ σ.s1, stB z
  c0 : -(5000000000 * (j + 1 : Int)) ≤ σ.c0 ∧ σ.c0 ≤ 5000000000 * (j + 1)
  c1 : -(5000000000 * (j + 1 : Int)) ≤ σ.c1 ∧ σ.c1 ≤ 5000000000 * (j + 1)
  ls : ∀ p ∈ σ.ls, lnB (5000000000 * (j + 1)) p.2
theorem lnB_mono {B B' : Int} {y : Ln} (h : lnB B y) (hB : B ≤ B') : lnB B' y := by unfold lnB at *; omega
theorem inv_mono {j : Nat} {σ : Sn} (h : InvS j σ) : InvS (j + 1) σ := by
  obtain ⟨h1, h2, h3, h4, h5, h6, h7, h8, h9⟩ := h
  exact ⟨by omega, by omega, h3, h4, h5, h6, by omega, by omega, fun p hp => lnB_mono (h9 p hp) (by omega)⟩
theorem apL_B : ∀ (ps : List Pr) (s : St3), stB s → ∀ z, apL s ps = some z → stB z
  | [], s, h, z, e => by cases e; exact h
  | p :: ps, s, h, z, e => by
    unfold apL at e
    split at e
    · rename_i hp
      refine apL_B ps _ ?_ z e
      unfold ap1 stB at *
      split
      · exact hp
      · split
        · exact h
        · split
          · exact h
          · exact h
    · cases e
theorem apS_B {s : St3} {ps : List Pr} (h : stB s) : stB (apS s ps) := by
  unfold apS
  cases e : apL s ps with
  | none => exact h
  | some z => exact apL_B ps s h z e
theorem spN_B {B c n : Int} (h : -B ≤ c ∧ c ≤ B) (hn : 0 ≤ n) : -(B + 5000000000) ≤ spN c n ∧ spN c n ≤ B + 5000000000 := by
  unfold spN
  split <;> omega
theorem inv_upd {j : Nat} {ls : List (Int × Ln)} {id : Int} {f : Ln → Ln} (h : ∀ p ∈ ls, lnB (5000000000 * (j + 1)) p.2) (hf : ∀ y, lnB (5000000000 * (j + 1)) y → lnB (5000000000 * ((j + 1 : Nat) + 1)) (f y)) : ∀ p ∈ lsUpd id f ls, lnB (5000000000 * ((j + 1 : Nat) + 1)) p.2 := fun p hp => by
  rcases lsUpd_mem hp with hp | ⟨q, hq, rfl⟩
  · exact lnB_mono (h p hp) (by omega)
  · exact hf q.2 (h q hq)
theorem inv_opn1 {j : Nat} {σ : Sn} {st : Int} (h : InvS j σ) : InvS (j + 1) (opn1 st σ) := by
  have h0 := inv_mono h
  unfold opn1
  cases hg : lsGet st σ.ls with
  | some y => exact h0
  | none =>
    obtain ⟨h1, h2, h3, h4, h5, h6, h7, h8, h9⟩ := h0
    refine ⟨h1, h2, h3, h4, h5, h6, h7, h8, fun p hp => ?_⟩
    rcases List.mem_append.1 hp with hp | hp
    · exact h9 p hp
    · rw [List.mem_singleton] at hp
      subst hp
      have w1 := h5 _ (stAt_mem h4)
      have w2 := h6 _ (stAt_mem (show σ.s1.length - 1 < σ.s1.length by omega))
      unfold stB at w1 w2
      unfold lnB
      simp only
      omega
theorem inv_set1 {j : Nat} {σ : Sn} {ps : List Pr} (h : InvS j σ) : InvS (j + 1) (set1 ps σ) := by
  obtain ⟨h1, h2, h3, h4, h5, h6, h7, h8, h9⟩ := h
  have ww := h6 _ (stAt_mem (show σ.s1.length - 1 < σ.s1.length by omega))
  have hl : (σ.s1 ++ [apS (stAt σ.s1 (σ.s1.length - 1)) ps]).length = σ.s1.length + 1 := by simp
  have hm : ∀ z ∈ σ.s1 ++ [apS (stAt σ.s1 (σ.s1.length - 1)) ps], stB z := fun z hz => by
    rcases List.mem_append.1 hz with hz | hz
    · exact h6 z hz
    · rw [List.mem_singleton] at hz; subst hz; exact apS_B ww
  unfold set1
  refine ⟨?_, ?_, ?_, ?_, h5, hm, by simp only; omega, by simp only; omega, fun p hp => lnB_mono (h9 p hp) (by omega)⟩ <;> (first | omega | (simp only; omega))
theorem inv_akn1 {j : Nat} {σ : Sn} (h : InvS j σ) : InvS (j + 1) (akn1 σ) := by
  have h0 := inv_mono h
  unfold akn1
  split
  · rename_i hlt
    obtain ⟨h1, h2, h3, h4, h5, h6, h7, h8, h9⟩ := h
    have w1 := h5 _ (stAt_mem hlt)
    have w2 := h5 _ (stAt_mem h4)
    unfold stB at w1 w2
    refine ⟨h0.l0, h0.l1, h3, hlt, h5, h6, h0.c0, h0.c1, fun p hp => ?_⟩
    obtain ⟨q, hq, rfl⟩ := List.mem_map.1 hp
    have := h9 q hq
    unfold ackU1
    unfold lnB at *
    simp only
    split <;> (first | omega | (simp only; omega))
  · exact h0
theorem inv_grn1 {j : Nat} {σ : Sn} {t st n : Int} (hn : 0 ≤ n ∧ n ≤ 4294967295) (h : InvS j σ) : InvS (j + 1) (grn1 t st n σ) := by
  have h0 := inv_mono h
  obtain ⟨h1, h2, h3, h4, h5, h6, h7, h8, h9⟩ := h
  have hc : -(5000000000 * ((j + 1 : Nat) + 1 : Int)) ≤ grC st n σ.c0 ∧ grC st n σ.c0 ≤ 5000000000 * ((j + 1 : Nat) + 1) := by unfold grC; split <;> omega
  refine ⟨h0.l0, h0.l1, h3, h4, h5, h6, hc, h0.c1, inv_upd h9 fun y hy => ?_⟩
  unfold grL1
  unfold lnB at *
  split
  · omega
  · split <;> (first | omega | (simp only; omega))
theorem inv_dat1 {j : Nat} {σ : Sn} {st n : Int} (hn : 0 ≤ n) (h : InvS j σ) : InvS (j + 1) (dat1 st n σ) := by
  have h0 := inv_mono h
  obtain ⟨h1, h2, h3, h4, h5, h6, h7, h8, h9⟩ := h
  have hc := spN_B h8 hn
  have hc' : -(5000000000 * ((j + 1 : Nat) + 1 : Int)) ≤ spN σ.c1 n ∧ spN σ.c1 n ≤ 5000000000 * ((j + 1 : Nat) + 1) := by omega
  refine ⟨h0.l0, h0.l1, h3, h4, h5, h6, h0.c0, hc', inv_upd h9 fun y hy => ?_⟩
  unfold bL1
  unfold lnB at *
  have := spN_B hy.2.1 hn
  simp only
  omega
theorem inv_itm1 {j : Nat} {σ : Sn} {st : Int} (h : InvS j σ) : InvS (j + 1) (itm1 st σ) := by
  have h0 := inv_mono h
  obtain ⟨h1, h2, h3, h4, h5, h6, h7, h8, h9⟩ := h
  refine ⟨h0.l0, h0.l1, h3, h4, h5, h6, h0.c0, h0.c1, inv_upd h9 fun y hy => ?_⟩
  unfold iL1
  unfold lnB at *
  have := spN_B hy.2.2.2 (show (0 : Int) ≤ 1 by decide)
  simp only
  omega
theorem inv_snF1 {j : Nat} {σ : Sn} {t st n : Int} {e : Bool} {d : ByteArray} {ps : List Pr} (hn : 0 ≤ n ∧ n ≤ 4294967295) (h : InvS j σ) : InvS (j + 1) (snF1 t st e d n ps σ) := by
  unfold snF1
  split
  · exact inv_opn1 h
  · split
    · exact inv_set1 h
    · split
      · exact inv_akn1 h
      · split
        · exact inv_grn1 hn h
        · split
          · exact inv_dat1 (by omega) h
          · split
            · exact inv_itm1 h
            · exact inv_mono h
end Go.Proofs.Ythoagholmkiknaa


namespace Go.Proofs.Ythoagholmkiknaa
open Go Go.Proofs Go.Sl
set_option maxRecDepth 100000
set_option maxHeartbeats 4000000
set_option linter.unusedSimpArgs false
set_option linter.unusedVariables false
attribute [local irreducible] evG evC spl thenC inBlockC noGotoC CallT retC RetG TurnG CutG pt ro exP star sep pureP
attribute [local irreducible] mp mit
variable {R C : List HP} {K : Value → List HP → Prop}
variable {x i0 i1 m ck k0 k1 j : Nat} {A0 A1 : Option Addr} {σ : Sn} {l : List En}
theorem abs_B {B : Int} (hab : absL l = σ.ls) (h : ∀ p ∈ σ.ls, lnB B p.2) : ∀ e ∈ l, lnB B e.y := fun e he => h (e.k, e.y) (by rw [← hab]; exact List.mem_map_of_mem (f := fun e : En => (e.k, e.y)) he)
theorem gopnA1_ok {id : Int} (hi : InvS j σ) (hj : j ≤ 10000) (hab : absL l = σ.ls) (hok : EnOk l ck) (hK : ∀ l' ck', absL l' = (opn1 id σ).ls → EnOk l' ck' → K (.tuple #[]) (pt x [.pointer (some ⟨i0, 0, none⟩), .pointer (some ⟨i1, 0, none⟩), .slice A0 (opn1 id σ).s0.length k0, .slice A1 (opn1 id σ).s1.length k1, .int .i64 ((opn1 id σ).a0 : Nat), .int .i64 ((opn1 id σ).a1 : Nat), .int .i64 (opn1 id σ).c0, .int .i64 (opn1 id σ).c1, .map (some m)] 55 :: row A0 k0 58 st3C (opn1 id σ).s0 :: row A1 k1 58 st3C (opn1 id σ).s1 :: mp m (l'.map enM) ck' :: stars enP l' :: R)) : CallT Try.prog 35 #[.pointer (some ⟨x, 0, none⟩), .int .i64 1, .int .i64 id] (pt x [.pointer (some ⟨i0, 0, none⟩), .pointer (some ⟨i1, 0, none⟩), .slice A0 σ.s0.length k0, .slice A1 σ.s1.length k1, .int .i64 (σ.a0 : Nat), .int .i64 (σ.a1 : Nat), .int .i64 σ.c0, .int .i64 σ.c1, .map (some m)] 55 :: row A0 k0 58 st3C σ.s0 :: row A1 k1 58 st3C σ.s1 :: mp m (l.map enM) ck :: stars enP l :: R) K := by
  obtain ⟨hl0, hl1, ha0, ha1, hw0, hw1, hc0, hc1, hls⟩ := hi
  rcases en_cases id l with ⟨hno, hg⟩ | ⟨a, e, c, rfl, he, hno, hg, hu⟩
  · rw [hab] at hg
    simp only [opn1, hg] at hK
    have hws : σ.s1[(((σ.s1.length : Nat) : Int) - 1).toNat]? = some (stAt σ.s1 (σ.s1.length - 1)) := by
      have e : (((σ.s1.length : Nat) : Int) - 1).toNat = σ.s1.length - 1 := by omega
      rw [e]; exact stAt_some (by omega)
    have hwo : σ.s0[((σ.a1 : Nat) : Int).toNat]? = some (stAt σ.s0 σ.a1) := by
      rw [Int.toNat_natCast]; exact stAt_some ha1
    refine CallT.ent (C' := pt x [.pointer (some ⟨i0, 0, none⟩), .pointer (some ⟨i1, 0, none⟩), .slice A0 σ.s0.length k0, .slice A1 σ.s1.length k1, .int .i64 (σ.a0 : Nat), .int .i64 (σ.a1 : Nat), .int .i64 σ.c0, .int .i64 σ.c1, .map (some m)] 55 :: row A0 k0 58 st3C σ.s0 :: row A1 k1 58 st3C σ.s1 :: mp m (l.map enM) ck :: stars enP l :: R) (by exact entA) ?_
    refine CallT.entK (gopenN1_ok (look_no hno) (fun q y => put_no hno q y) (by omega) (by omega) (List.length_pos_iff.1 (by omega)) ha1 hwo hws fun q => ⟨_, ?_, hK (l ++ [En.mk id q ck ⟨(stAt σ.s1 (σ.s1.length - 1)).w, (stAt σ.s0 σ.a1).w, 0, 0, σ.s1.length, σ.a1 + 1⟩]) (ck + 1) ?_ (enok_snoc hok)⟩)
    · exact Ent.trans (by exact entA) (Ent.trans (Ent.starsSnoc (P := enP) (a := l) (x := En.mk id q ck ⟨(stAt σ.s1 (σ.s1.length - 1)).w, (stAt σ.s0 σ.a1).w, 0, 0, σ.s1.length, σ.a1 + 1⟩)) (by exact entA))
    · rw [← hab]; simp [absL]
  · rw [hab] at hg
    simp only [opn1, hg] at hK
    refine CallT.ent (C' := pt x [.pointer (some ⟨i0, 0, none⟩), .pointer (some ⟨i1, 0, none⟩), .slice A0 σ.s0.length k0, .slice A1 σ.s1.length k1, .int .i64 (σ.a0 : Nat), .int .i64 (σ.a1 : Nat), .int .i64 σ.c0, .int .i64 σ.c1, .map (some m)] 55 :: mp m ((a ++ e :: c).map enM) ck :: stars enP (a ++ e :: c) :: row A0 k0 58 st3C σ.s0 :: row A1 k1 58 st3C σ.s1 :: R) (by exact entA) ?_
    exact CallT.entK (gopenY1_ok (look_yes he hno) ⟨_, by exact entA, hK _ _ hab hok⟩)
theorem gsetA1_ok {tf stf : Int} {ef : Bool} {df : ByteArray} {kf onf wf : Int} {xf : Bool} {cf laf nf : Int} {paf : Option Addr} {pnf pcf : Nat} {ps : List Pr} (hi : InvS j σ) (hj : j ≤ 10000) (hab : absL l = σ.ls) (hok : EnOk l ck) (hv : View R paf prC ps) (hn : ps.length = pnf ∧ pnf < 1000000000000000) (hK : ∀ A' k', K (.tuple #[]) (pt x [.pointer (some ⟨i0, 0, none⟩), .pointer (some ⟨i1, 0, none⟩), .slice A0 (set1 ps σ).s0.length k0, .slice A' (set1 ps σ).s1.length k', .int .i64 ((set1 ps σ).a0 : Nat), .int .i64 ((set1 ps σ).a1 : Nat), .int .i64 (set1 ps σ).c0, .int .i64 (set1 ps σ).c1, .map (some m)] 55 :: row A0 k0 58 st3C (set1 ps σ).s0 :: row A' k' 58 st3C (set1 ps σ).s1 :: mp m (l.map enM) ck :: stars enP l :: R)) : CallT Try.prog 36 #[.pointer (some ⟨x, 0, none⟩), .int .i64 1, .agg #[.int .i64 tf, .int .i64 stf, .bool ef, .string df, .int .i64 kf, .int .i64 onf, .int .i64 wf, .bool xf, .int .i64 cf, .int .i64 laf, .int .i64 nf, .slice paf pnf pcf]] (pt x [.pointer (some ⟨i0, 0, none⟩), .pointer (some ⟨i1, 0, none⟩), .slice A0 σ.s0.length k0, .slice A1 σ.s1.length k1, .int .i64 (σ.a0 : Nat), .int .i64 (σ.a1 : Nat), .int .i64 σ.c0, .int .i64 σ.c1, .map (some m)] 55 :: row A0 k0 58 st3C σ.s0 :: row A1 k1 58 st3C σ.s1 :: mp m (l.map enM) ck :: stars enP l :: R) K := by
  obtain ⟨hl0, hl1, ha0, ha1, hw0, hw1, hc0, hc1, hls⟩ := hi
  have hws : σ.s1[(((σ.s1.length : Nat) : Int) - 1).toNat]? = some (stAt σ.s1 (σ.s1.length - 1)) := by
    have e : (((σ.s1.length : Nat) : Int) - 1).toNat = σ.s1.length - 1 := by omega
    rw [e]; exact stAt_some (by omega)
  simp only [set1] at hK
  refine CallT.ent (C' := pt x [.pointer (some ⟨i0, 0, none⟩), .pointer (some ⟨i1, 0, none⟩), .slice A0 σ.s0.length k0, .slice A1 σ.s1.length k1, .int .i64 (σ.a0 : Nat), .int .i64 (σ.a1 : Nat), .int .i64 σ.c0, .int .i64 σ.c1, .map (some m)] 55 :: row A1 k1 58 st3C σ.s1 :: row A0 k0 58 st3C σ.s0 :: mp m (l.map enM) ck :: stars enP l :: R) (by exact entA) ?_
  exact CallT.entK (gset1_ok (by omega) (List.length_pos_iff.1 (by omega)) hws (view_there (view_there (view_there hv))) hn fun A' k' => ⟨_, by exact entA, hK A' k'⟩)
theorem gakn1A_ok (hi : InvS j σ) (hj : j ≤ 10000) (hab : absL l = σ.ls) (hok : EnOk l ck) (hK : ∀ l', absL l' = (akn1 σ).ls → EnOk l' ck → K (.tuple #[]) (pt x [.pointer (some ⟨i0, 0, none⟩), .pointer (some ⟨i1, 0, none⟩), .slice A0 (akn1 σ).s0.length k0, .slice A1 (akn1 σ).s1.length k1, .int .i64 ((akn1 σ).a0 : Nat), .int .i64 ((akn1 σ).a1 : Nat), .int .i64 (akn1 σ).c0, .int .i64 (akn1 σ).c1, .map (some m)] 55 :: row A0 k0 58 st3C (akn1 σ).s0 :: row A1 k1 58 st3C (akn1 σ).s1 :: mp m (l'.map enM) ck :: stars enP l' :: R)) : CallT Try.prog 37 #[.pointer (some ⟨x, 0, none⟩), .int .i64 1] (pt x [.pointer (some ⟨i0, 0, none⟩), .pointer (some ⟨i1, 0, none⟩), .slice A0 σ.s0.length k0, .slice A1 σ.s1.length k1, .int .i64 (σ.a0 : Nat), .int .i64 (σ.a1 : Nat), .int .i64 σ.c0, .int .i64 σ.c1, .map (some m)] 55 :: row A0 k0 58 st3C σ.s0 :: row A1 k1 58 st3C σ.s1 :: mp m (l.map enM) ck :: stars enP l :: R) K := by
  have hls := abs_B hab hi.ls
  obtain ⟨hl0, hl1, ha0, ha1, hw0, hw1, hc0, hc1, _⟩ := hi
  by_cases hlt : σ.a1 + 1 < σ.s0.length
  · simp only [akn1, if_pos hlt] at hK
    have h1 : σ.s0[(((σ.a1 + 1 : Nat) : Int)).toNat]? = some (stAt σ.s0 (σ.a1 + 1)) := by
      rw [Int.toNat_natCast]; exact stAt_some hlt
    have h0 : σ.s0[((((σ.a1 + 1 : Nat) : Int)) - 1).toNat]? = some (stAt σ.s0 σ.a1) := by
      have e : ((((σ.a1 + 1 : Nat) : Int)) - 1).toNat = σ.a1 := by omega
      rw [e]; exact stAt_some (by omega)
    have w1 := hw0 _ (stAt_mem hlt)
    have w2 := hw0 _ (stAt_mem (show σ.a1 < σ.s0.length by omega))
    unfold stB at w1 w2
    have hK' := hK (l.map fun e => ⟨e.k, e.q, e.b, ackU1 (σ.a1 + 1) ((stAt σ.s0 (σ.a1 + 1)).w - (stAt σ.s0 σ.a1).w) e.y⟩) (by rw [abs_map, hab]) (enok_map hok)
    rw [enm_map] at hK'
    refine CallT.ent (C' := pt x [.pointer (some ⟨i0, 0, none⟩), .pointer (some ⟨i1, 0, none⟩), .slice A0 σ.s0.length k0, .slice A1 σ.s1.length k1, .int .i64 (σ.a0 : Nat), .int .i64 (σ.a1 : Nat), .int .i64 σ.c0, .int .i64 σ.c1, .map (some m)] 55 :: row A0 k0 58 st3C σ.s0 :: mp m (l.map enM) ck :: stars enP l :: row A1 k1 58 st3C σ.s1 :: R) (by exact entA) ?_
    exact CallT.entK (gackY1_ok (B := 5000000000 * (j + 1)) hlt (by omega) hok h1 h0 ⟨w1.1, w1.2, w2.1, w2.2⟩ (by omega) (fun e he => by have := hls e he; unfold lnB at this; omega) ⟨_, by exact entA, hK'⟩)
  · simp only [akn1, if_neg hlt] at hK
    refine CallT.ent (C' := pt x [.pointer (some ⟨i0, 0, none⟩), .pointer (some ⟨i1, 0, none⟩), .slice A0 σ.s0.length k0, .slice A1 σ.s1.length k1, .int .i64 (σ.a0 : Nat), .int .i64 (σ.a1 : Nat), .int .i64 σ.c0, .int .i64 σ.c1, .map (some m)] 55 :: row A0 k0 58 st3C σ.s0 :: row A1 k1 58 st3C σ.s1 :: mp m (l.map enM) ck :: stars enP l :: R) (by exact entA) ?_
    exact CallT.entK (gackN1_ok (by omega) (by omega) ⟨_, by exact entA, hK _ hab hok⟩)
theorem ggrnA1_ok {tf stf : Int} {ef : Bool} {df : ByteArray} {kf onf wf : Int} {xf : Bool} {cf laf nf : Int} {paf : Option Addr} {pnf pcf : Nat} (hi : InvS j σ) (hj : j ≤ 10000) (hab : absL l = σ.ls) (hok : EnOk l ck) (hn : 0 ≤ nf ∧ nf ≤ 4294967295) (hK : ∀ l', absL l' = (grn1 tf stf nf σ).ls → EnOk l' ck → K (.tuple #[]) (pt x [.pointer (some ⟨i0, 0, none⟩), .pointer (some ⟨i1, 0, none⟩), .slice A0 (grn1 tf stf nf σ).s0.length k0, .slice A1 (grn1 tf stf nf σ).s1.length k1, .int .i64 ((grn1 tf stf nf σ).a0 : Nat), .int .i64 ((grn1 tf stf nf σ).a1 : Nat), .int .i64 (grn1 tf stf nf σ).c0, .int .i64 (grn1 tf stf nf σ).c1, .map (some m)] 55 :: row A0 k0 58 st3C (grn1 tf stf nf σ).s0 :: row A1 k1 58 st3C (grn1 tf stf nf σ).s1 :: mp m (l'.map enM) ck :: stars enP l' :: R)) : CallT Try.prog 38 #[.pointer (some ⟨x, 0, none⟩), .int .i64 1, .agg #[.int .i64 tf, .int .i64 stf, .bool ef, .string df, .int .i64 kf, .int .i64 onf, .int .i64 wf, .bool xf, .int .i64 cf, .int .i64 laf, .int .i64 nf, .slice paf pnf pcf]] (pt x [.pointer (some ⟨i0, 0, none⟩), .pointer (some ⟨i1, 0, none⟩), .slice A0 σ.s0.length k0, .slice A1 σ.s1.length k1, .int .i64 (σ.a0 : Nat), .int .i64 (σ.a1 : Nat), .int .i64 σ.c0, .int .i64 σ.c1, .map (some m)] 55 :: row A0 k0 58 st3C σ.s0 :: row A1 k1 58 st3C σ.s1 :: mp m (l.map enM) ck :: stars enP l :: R) K := by
  have hls := abs_B hab hi.ls
  obtain ⟨hl0, hl1, ha0, ha1, hw0, hw1, hc0, hc1, _⟩ := hi
  simp only [grn1] at hK
  rcases en_cases stf l with ⟨hno, hg⟩ | ⟨a, e, c, rfl, he, hno, hg, hu⟩
  · rw [hab] at hg
    rw [lsUpd_no hg] at hK
    refine CallT.ent (C' := pt x [.pointer (some ⟨i0, 0, none⟩), .pointer (some ⟨i1, 0, none⟩), .slice A0 σ.s0.length k0, .slice A1 σ.s1.length k1, .int .i64 (σ.a0 : Nat), .int .i64 (σ.a1 : Nat), .int .i64 σ.c0, .int .i64 σ.c1, .map (some m)] 55 :: mp m (l.map enM) ck :: stars enP l :: row A0 k0 58 st3C σ.s0 :: row A1 k1 58 st3C σ.s1 :: R) (by exact entA) ?_
    exact CallT.entK (ggrantN1_ok (by omega) (by omega) (look_no hno) ⟨_, by exact entA, hK _ hab hok⟩)
  · have hu' := hu (grL1 tf stf nf)
    rw [hab] at hu'
    have hK' := hK (a ++ ⟨e.k, e.q, e.b, grL1 tf stf nf e.y⟩ :: c) hu'.symm (enok_upd hok)
    rw [enm_upd] at hK'
    have hb := hls e (by simp)
    unfold lnB at hb
    refine CallT.ent (C' := pt x [.pointer (some ⟨i0, 0, none⟩), .pointer (some ⟨i1, 0, none⟩), .slice A0 σ.s0.length k0, .slice A1 σ.s1.length k1, .int .i64 (σ.a0 : Nat), .int .i64 (σ.a1 : Nat), .int .i64 σ.c0, .int .i64 σ.c1, .map (some m)] 55 :: mp m ((a ++ e :: c).map enM) ck :: lnP e.q e.y :: stars enP (a ++ c) :: row A0 k0 58 st3C σ.s0 :: row A1 k1 58 st3C σ.s1 :: R) (Ent.trans (Ent.pickA (A := stars enP (a ++ e :: c)) (h := Ent.refl _)) (Ent.trans Ent.starsOut (by exact entA))) ?_
    exact CallT.entK (ggrantY1_ok (by omega) (by omega) (by omega) (by omega) (look_yes he hno) ⟨_, Ent.trans (by exact entA) (Ent.trans (Ent.starsIn (P := enP) (a := a) (b := c) (x := ⟨e.k, e.q, e.b, grL1 tf stf nf e.y⟩)) (by exact entA)), hK'⟩)
theorem gdatA1_ok {stf : Int} {ef : Bool} {df : ByteArray} {kf onf wf : Int} {xf : Bool} {cf laf nf : Int} {paf : Option Addr} {pnf pcf : Nat} (hi : InvS j σ) (hj : j ≤ 10000) (hab : absL l = σ.ls) (hok : EnOk l ck) (hd : df.size ≤ 10000) (hK : ∀ l', absL l' = (dat1 stf (df.size : Nat) σ).ls → EnOk l' ck → ∀ A c, K (.slice A (datO1 stf (df.size : Nat) σ).length c) (row A c 3 siC (datO1 stf (df.size : Nat) σ) :: pt x [.pointer (some ⟨i0, 0, none⟩), .pointer (some ⟨i1, 0, none⟩), .slice A0 (dat1 stf (df.size : Nat) σ).s0.length k0, .slice A1 (dat1 stf (df.size : Nat) σ).s1.length k1, .int .i64 ((dat1 stf (df.size : Nat) σ).a0 : Nat), .int .i64 ((dat1 stf (df.size : Nat) σ).a1 : Nat), .int .i64 (dat1 stf (df.size : Nat) σ).c0, .int .i64 (dat1 stf (df.size : Nat) σ).c1, .map (some m)] 55 :: row A0 k0 58 st3C (dat1 stf (df.size : Nat) σ).s0 :: row A1 k1 58 st3C (dat1 stf (df.size : Nat) σ).s1 :: mp m (l'.map enM) ck :: stars enP l' :: R)) : CallT Try.prog 39 #[.pointer (some ⟨x, 0, none⟩), .int .i64 1, .agg #[.int .i64 0, .int .i64 stf, .bool ef, .string df, .int .i64 kf, .int .i64 onf, .int .i64 wf, .bool xf, .int .i64 cf, .int .i64 laf, .int .i64 nf, .slice paf pnf pcf]] (pt x [.pointer (some ⟨i0, 0, none⟩), .pointer (some ⟨i1, 0, none⟩), .slice A0 σ.s0.length k0, .slice A1 σ.s1.length k1, .int .i64 (σ.a0 : Nat), .int .i64 (σ.a1 : Nat), .int .i64 σ.c0, .int .i64 σ.c1, .map (some m)] 55 :: row A0 k0 58 st3C σ.s0 :: row A1 k1 58 st3C σ.s1 :: mp m (l.map enM) ck :: stars enP l :: R) K := by
  have hls := abs_B hab hi.ls
  obtain ⟨hl0, hl1, ha0, ha1, hw0, hw1, hc0, hc1, _⟩ := hi
  simp only [dat1] at hK
  rcases en_cases stf l with ⟨hno, hg⟩ | ⟨a, e, c, rfl, he, hno, hg, hu⟩
  · rw [hab] at hg
    rw [lsUpd_no hg] at hK
    simp only [datO1, hg] at hK
    refine CallT.ent (C' := pt x [.pointer (some ⟨i0, 0, none⟩), .pointer (some ⟨i1, 0, none⟩), .slice A0 σ.s0.length k0, .slice A1 σ.s1.length k1, .int .i64 (σ.a0 : Nat), .int .i64 (σ.a1 : Nat), .int .i64 σ.c0, .int .i64 σ.c1, .map (some m)] 55 :: mp m (l.map enM) ck :: stars enP l :: row A0 k0 58 st3C σ.s0 :: row A1 k1 58 st3C σ.s1 :: R) (by exact entA) ?_
    exact CallT.entK (gdataN1_ok hd (by omega) (look_no hno) fun A c => ⟨_, by exact entA, hK _ hab hok A c⟩)
  · have hu' := hu (bL1 (df.size : Nat))
    rw [hab] at hu' hg
    simp only [datO1, hg] at hK
    have hK' := hK (a ++ ⟨e.k, e.q, e.b, bL1 (df.size : Nat) e.y⟩ :: c) hu'.symm (enok_upd hok)
    rw [enm_upd] at hK'
    have hb := hls e (by simp)
    unfold lnB at hb
    refine CallT.ent (C' := pt x [.pointer (some ⟨i0, 0, none⟩), .pointer (some ⟨i1, 0, none⟩), .slice A0 σ.s0.length k0, .slice A1 σ.s1.length k1, .int .i64 (σ.a0 : Nat), .int .i64 (σ.a1 : Nat), .int .i64 σ.c0, .int .i64 σ.c1, .map (some m)] 55 :: mp m ((a ++ e :: c).map enM) ck :: lnP e.q e.y :: stars enP (a ++ c) :: row A0 k0 58 st3C σ.s0 :: row A1 k1 58 st3C σ.s1 :: R) (Ent.trans (Ent.pickA (A := stars enP (a ++ e :: c)) (h := Ent.refl _)) (Ent.trans Ent.starsOut (by exact entA))) ?_
    exact CallT.entK (gdataY1_ok hd (by omega) (by omega) (look_yes he hno) fun A c' => ⟨_, Ent.trans (by exact entA) (Ent.trans (Ent.starsIn (P := enP) (a := a) (b := c) (x := ⟨e.k, e.q, e.b, bL1 (df.size : Nat) e.y⟩)) (by exact entA)), hK' A c'⟩)
theorem gitmA1_ok {stf : Int} {ef : Bool} {df : ByteArray} {kf onf wf : Int} {xf : Bool} {cf laf nf : Int} {paf : Option Addr} {pnf pcf : Nat} (hi : InvS j σ) (hj : j ≤ 10000) (hab : absL l = σ.ls) (hok : EnOk l ck) (hs : df ≠ ⟨#[]⟩ ∨ ef = false) (hK : ∀ l', absL l' = (itm1 stf σ).ls → EnOk l' ck → ∀ A c, K (.slice A (itmO1 stf σ).length c) (row A c 3 siC (itmO1 stf σ) :: pt x [.pointer (some ⟨i0, 0, none⟩), .pointer (some ⟨i1, 0, none⟩), .slice A0 (itm1 stf σ).s0.length k0, .slice A1 (itm1 stf σ).s1.length k1, .int .i64 ((itm1 stf σ).a0 : Nat), .int .i64 ((itm1 stf σ).a1 : Nat), .int .i64 (itm1 stf σ).c0, .int .i64 (itm1 stf σ).c1, .map (some m)] 55 :: row A0 k0 58 st3C (itm1 stf σ).s0 :: row A1 k1 58 st3C (itm1 stf σ).s1 :: mp m (l'.map enM) ck :: stars enP l' :: R)) : CallT Try.prog 39 #[.pointer (some ⟨x, 0, none⟩), .int .i64 1, .agg #[.int .i64 1, .int .i64 stf, .bool ef, .string df, .int .i64 kf, .int .i64 onf, .int .i64 wf, .bool xf, .int .i64 cf, .int .i64 laf, .int .i64 nf, .slice paf pnf pcf]] (pt x [.pointer (some ⟨i0, 0, none⟩), .pointer (some ⟨i1, 0, none⟩), .slice A0 σ.s0.length k0, .slice A1 σ.s1.length k1, .int .i64 (σ.a0 : Nat), .int .i64 (σ.a1 : Nat), .int .i64 σ.c0, .int .i64 σ.c1, .map (some m)] 55 :: row A0 k0 58 st3C σ.s0 :: row A1 k1 58 st3C σ.s1 :: mp m (l.map enM) ck :: stars enP l :: R) K := by
  have hls := abs_B hab hi.ls
  obtain ⟨hl0, hl1, ha0, ha1, hw0, hw1, hc0, hc1, _⟩ := hi
  simp only [itm1] at hK
  rcases en_cases stf l with ⟨hno, hg⟩ | ⟨a, e, c, rfl, he, hno, hg, hu⟩
  · rw [hab] at hg
    rw [lsUpd_no hg] at hK
    simp only [itmO1, hg] at hK
    refine CallT.ent (C' := pt x [.pointer (some ⟨i0, 0, none⟩), .pointer (some ⟨i1, 0, none⟩), .slice A0 σ.s0.length k0, .slice A1 σ.s1.length k1, .int .i64 (σ.a0 : Nat), .int .i64 (σ.a1 : Nat), .int .i64 σ.c0, .int .i64 σ.c1, .map (some m)] 55 :: mp m (l.map enM) ck :: stars enP l :: row A0 k0 58 st3C σ.s0 :: row A1 k1 58 st3C σ.s1 :: R) (by exact entA) ?_
    exact CallT.entK (gitemN1_ok (look_no hno) fun A c => ⟨_, by exact entA, hK _ hab hok A c⟩)
  · have hu' := hu iL1
    rw [hab] at hu' hg
    simp only [itmO1, hg] at hK
    have hK' := hK (a ++ ⟨e.k, e.q, e.b, iL1 e.y⟩ :: c) hu'.symm (enok_upd hok)
    rw [enm_upd] at hK'
    have hb := hls e (by simp)
    unfold lnB at hb
    refine CallT.ent (C' := pt x [.pointer (some ⟨i0, 0, none⟩), .pointer (some ⟨i1, 0, none⟩), .slice A0 σ.s0.length k0, .slice A1 σ.s1.length k1, .int .i64 (σ.a0 : Nat), .int .i64 (σ.a1 : Nat), .int .i64 σ.c0, .int .i64 σ.c1, .map (some m)] 55 :: mp m ((a ++ e :: c).map enM) ck :: lnP e.q e.y :: stars enP (a ++ c) :: row A0 k0 58 st3C σ.s0 :: row A1 k1 58 st3C σ.s1 :: R) (Ent.trans (Ent.pickA (A := stars enP (a ++ e :: c)) (h := Ent.refl _)) (Ent.trans Ent.starsOut (by exact entA))) ?_
    exact CallT.entK (gitemY1_ok hs (by omega) (look_yes he hno) fun A c' => ⟨_, Ent.trans (by exact entA) (Ent.trans (Ent.starsIn (P := enP) (a := a) (b := c) (x := ⟨e.k, e.q, e.b, iL1 e.y⟩)) (by exact entA)), hK' A c'⟩)
theorem gitmE1_ok {stf : Int} {ef : Bool} {df : ByteArray} {kf onf wf : Int} {xf : Bool} {cf laf nf : Int} {paf : Option Addr} {pnf pcf : Nat} (hi : InvS j σ) (hj : j ≤ 10000) (hab : absL l = σ.ls) (hok : EnOk l ck) (hs : ¬ (df ≠ ⟨#[]⟩ ∨ ef = false)) (hK : ∀ A c, K (.slice A ([] : List Int).length c) (row A c 3 siC [] :: pt x [.pointer (some ⟨i0, 0, none⟩), .pointer (some ⟨i1, 0, none⟩), .slice A0 σ.s0.length k0, .slice A1 σ.s1.length k1, .int .i64 (σ.a0 : Nat), .int .i64 (σ.a1 : Nat), .int .i64 σ.c0, .int .i64 σ.c1, .map (some m)] 55 :: row A0 k0 58 st3C σ.s0 :: row A1 k1 58 st3C σ.s1 :: mp m (l.map enM) ck :: stars enP l :: R)) : CallT Try.prog 39 #[.pointer (some ⟨x, 0, none⟩), .int .i64 1, .agg #[.int .i64 1, .int .i64 stf, .bool ef, .string df, .int .i64 kf, .int .i64 onf, .int .i64 wf, .bool xf, .int .i64 cf, .int .i64 laf, .int .i64 nf, .slice paf pnf pcf]] (pt x [.pointer (some ⟨i0, 0, none⟩), .pointer (some ⟨i1, 0, none⟩), .slice A0 σ.s0.length k0, .slice A1 σ.s1.length k1, .int .i64 (σ.a0 : Nat), .int .i64 (σ.a1 : Nat), .int .i64 σ.c0, .int .i64 σ.c1, .map (some m)] 55 :: row A0 k0 58 st3C σ.s0 :: row A1 k1 58 st3C σ.s1 :: mp m (l.map enM) ck :: stars enP l :: R) K := by
  have hs1 : df = ⟨#[]⟩ := Classical.byContradiction fun h => hs (.inl h)
  have hs2 : ef = true := by cases ef with | true => rfl | false => exact absurd (.inr rfl) hs
  rcases en_cases stf l with ⟨hno, hg⟩ | ⟨a, e, c, rfl, he, hno, hg, hu⟩
  · refine CallT.ent (C' := pt x [.pointer (some ⟨i0, 0, none⟩), .pointer (some ⟨i1, 0, none⟩), .slice A0 σ.s0.length k0, .slice A1 σ.s1.length k1, .int .i64 (σ.a0 : Nat), .int .i64 (σ.a1 : Nat), .int .i64 σ.c0, .int .i64 σ.c1, .map (some m)] 55 :: mp m (l.map enM) ck :: stars enP l :: row A0 k0 58 st3C σ.s0 :: row A1 k1 58 st3C σ.s1 :: R) (by exact entA) ?_
    exact CallT.entK (gitemN1_ok (look_no hno) fun A c => ⟨_, by exact entA, hK A c⟩)
  · refine CallT.ent (C' := pt x [.pointer (some ⟨i0, 0, none⟩), .pointer (some ⟨i1, 0, none⟩), .slice A0 σ.s0.length k0, .slice A1 σ.s1.length k1, .int .i64 (σ.a0 : Nat), .int .i64 (σ.a1 : Nat), .int .i64 σ.c0, .int .i64 σ.c1, .map (some m)] 55 :: mp m ((a ++ e :: c).map enM) ck :: stars enP (a ++ e :: c) :: row A0 k0 58 st3C σ.s0 :: row A1 k1 58 st3C σ.s1 :: R) (by exact entA) ?_
    exact CallT.entK (gitemE1_ok hs1 hs2 (look_yes he hno) fun A c => ⟨_, by exact entA, hK A c⟩)
end Go.Proofs.Ythoagholmkiknaa

