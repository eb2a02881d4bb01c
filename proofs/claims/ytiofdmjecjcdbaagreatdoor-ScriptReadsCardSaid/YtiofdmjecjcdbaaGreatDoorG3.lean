/- Script: whole scripts, plain: lemmas; each with the conditions that it states. -/
import Derived.Test.YtiofdmjecjcdbaaGreatDoorG2

namespace Go.Proofs.YtiofdmjecjcdbaaGreatDoor
open Go Go.Proofs Go.Sl
set_option linter.unusedSimpArgs false
set_option linter.unusedVariables false
/-! ### what is read is in range -/
theorem inR0 : inR 0 := ⟨by decide, by decide⟩
theorem AC0_in (k : Int) : InA (AC0 k) := ⟨inR0, inR0, inR0, inR0, inR0, inR0, inR0, inR0, inR0⟩
theorem set_in {a a' : AC} {c : UInt8} {l : List UInt8} (hc : isL c) (h : setA a c l = some a') (ha : InA a) : InA a' := by
  obtain ⟨h1, h2, h3, h4, h5, h6, h7, h8, h9⟩ := ha
  rcases hc with rfl | rfl | rfl | rfl | rfl | rfl | rfl | rfl | rfl | rfl | rfl <;> simp +decide only [setA, reduceIte] at h
  case inr.inr.inr.inr.inr.inr.inr.inl =>
    obtain ⟨n, hn, h2⟩ := Option.bind_eq_some_iff.1 h
    split at h2
    · cases h2; constructor <;> assumption
    · split at h2
      · cases h2; constructor <;> assumption
      · cases h2
  case inr.inr.inr.inr.inl =>
    obtain ⟨n, hn, rfl⟩ := Option.map_eq_some_iff.1 h
    constructor <;> assumption
  all_goals
    obtain ⟨n, hn, rfl⟩ := Option.map_eq_some_iff.1 h
    have hr := (rdI_some.1 hn).1
    constructor <;> assumption
theorem fold_in : ∀ {cs : List UInt8} {ls : List (List UInt8)} {a b : AC}, (∀ c ∈ cs, isL c) → foldA a cs ls = some b → InA a → InA b
  | [], [], _, _, _, h, hs => by cases h; exact hs
  | [], _ :: _, _, _, _, h, _ => by cases h
  | _ :: _, [], _, _, _, h, _ => by cases h
  | c :: cs, l :: ls, a, b, hc, h, hs => by
    simp only [foldA] at h
    cases hx : setA a c l with
    | none => rw [hx] at h; cases h
    | some a' =>
      rw [hx] at h
      exact fold_in (fun z hz => hc z (List.mem_cons_of_mem _ hz)) h (set_in (hc c (by simp)) hx hs)
theorem prs_in {l : List UInt8} {b : AC} (h : prs l = some b) : InA b := by
  unfold prs at h
  cases hs : spl1 32 l with
  | nil => rw [hs] at h; cases h
  | cons w ps =>
    rw [hs] at h
    simp only [prsP] at h
    cases hk : kin w with
    | none => rw [hk] at h; cases h
    | some k =>
      rw [hk] at h
      exact fold_in (wdF_L k (kin_some hk).2.2) h (AC0_in _)
/-! ### heads -/
def titB : List UInt8 := [112, 97, 116, 101, 114, 110, 111, 115, 116, 101, 114]
def hdP (ns : List Int) : List (List UInt8) := titB :: ns.map dgL
def hdS (ns : List Int) : List UInt8 := joi 32 (hdP ns)
noncomputable def rdIs : List (List UInt8) → Option (List Int)
  | [] => some []
  | l :: ls => match rdI l with
    | none => none
    | some n => (rdIs ls).map (n :: ·)
theorem rdIs_some : ∀ {ls : List (List UInt8)} {ns : List Int}, rdIs ls = some ns ↔ (∀ n ∈ ns, inR n) ∧ ns.map dgL = ls
  | [], ns => by
    constructor
    · intro h; cases h; exact ⟨by simp, rfl⟩
    · intro ⟨_, h⟩
      cases ns with
      | nil => rfl
      | cons n r => cases h
  | l :: ls, ns => by
    unfold rdIs
    constructor
    · intro h
      cases hr : rdI l with
      | none => rw [hr] at h; cases h
      | some n =>
        rw [hr] at h
        obtain ⟨r, h1, rfl⟩ := Option.map_eq_some_iff.1 h
        obtain ⟨g1, g2⟩ := rdIs_some.1 h1
        obtain ⟨k1, k2⟩ := rdI_some.1 hr
        refine ⟨fun z hz => ?_, ?_⟩
        · rcases List.mem_cons.1 hz with rfl | hz
          · exact k1
          · exact g1 z hz
        · rw [List.map_cons, g2, k2]
    · intro ⟨h1, h2⟩
      cases ns with
      | nil => cases h2
      | cons n r =>
        rw [List.map_cons] at h2
        obtain ⟨e1, e2⟩ := List.cons.inj h2
        rw [rdI_some.2 ⟨h1 n (by simp), e1⟩]
        simp only
        rw [rdIs_some.2 ⟨fun z hz => h1 z (List.mem_cons_of_mem _ hz), e2⟩]
        rfl
noncomputable def rdHd (l : List UInt8) : Option (List Int) := match spl1 32 l with
  | [] => none
  | t :: ps => if t = titB ∧ ps.length = 18 then rdIs ps else none
theorem tit_no : ∀ b ∈ titB, b ≠ 32 ∧ b ≠ 10 := by decide
theorem spl_hd (ns : List Int) : spl1 32 (hdS ns) = hdP ns := by
  refine spl1_joi (by simp [hdP]) fun p hp b hb => ?_
  rcases List.mem_cons.1 hp with rfl | hp
  · exact (tit_no b hb).1
  · obtain ⟨c, _, rfl⟩ := List.mem_map.1 hp
    exact (dgL_no c b hb).1
theorem hd_no10 (ns : List Int) : ∀ b ∈ hdS ns, b ≠ 10 := by
  refine joi_no (by decide) fun p hp b hb => ?_
  rcases List.mem_cons.1 hp with rfl | hp
  · exact (tit_no b hb).2
  · obtain ⟨c, _, rfl⟩ := List.mem_map.1 hp
    exact (dgL_no c b hb).2
theorem rdHd_some {l : List UInt8} {ns : List Int} : rdHd l = some ns ↔ (ns.length = 18 ∧ ∀ n ∈ ns, inR n) ∧ hdS ns = l := by
  unfold rdHd
  constructor
  · intro h
    cases hs : spl1 32 l with
    | nil => rw [hs] at h; cases h
    | cons t ps =>
      rw [hs] at h
      simp only at h
      split at h
      · rename_i hc
        obtain ⟨g1, g2⟩ := rdIs_some.1 h
        refine ⟨⟨by rw [← hc.2, ← g2, List.length_map], g1⟩, ?_⟩
        unfold hdS hdP
        rw [g2, ← hc.1, ← hs]
        exact joi_spl 32 l
      · cases h
  · intro ⟨⟨h1, h2⟩, h3⟩
    subst h3
    rw [spl_hd]
    show (if titB = titB ∧ (ns.map dgL).length = 18 then rdIs (ns.map dgL) else none) = _
    rw [if_pos ⟨rfl, by simpa using h1⟩]
    exact rdIs_some.2 ⟨h2, rfl⟩
/-! ### scripts -/
structure PL where
  ns : List Int
  l : List AC
def PL0 : PL := ⟨[0, 0, 0, 0, 0, 0, 0, 0, 0, 0, 0, 0, 0, 0, 0, 0, 0, 0], []⟩
def lnS (a : AC) : List UInt8 := lineS a ++ [10]
def scrS (p : PL) : List UInt8 := hdS p.ns ++ 10 :: p.l.flatMap lnS
noncomputable def rdScr : Nat → PL → List (List UInt8) → PL × Nat × Int
  | i, _, [] => (PL0, i, 5)
  | i, p, [l] => if l = [] ∧ 0 < i then (p, 0, 0) else (PL0, i + 1, 5)
  | i, p, l :: m :: r => if 512 < i then (PL0, i + 1, 4) else if i = 0 then (match rdHd l with
      | none => (PL0, i + 1, 30)
      | some ns => rdScr (i + 1) ⟨ns, p.l⟩ (m :: r)) else match prs l with
      | none => (PL0, i + 1, 30)
      | some a => rdScr (i + 1) ⟨p.ns, p.l ++ [a]⟩ (m :: r)
theorem rdScr_one {i : Nat} {p : PL} {l : List UInt8} : rdScr i p [l] = if l = [] ∧ 0 < i then (p, 0, 0) else (PL0, i + 1, 5) := by
  rw [rdScr]
theorem rdScr_cons {i : Nat} {p : PL} {l : List UInt8} {r : List (List UInt8)} (hr : r ≠ []) : rdScr i p (l :: r) = if 512 < i then (PL0, i + 1, 4) else if i = 0 then (match rdHd l with
      | none => (PL0, i + 1, 30)
      | some ns => rdScr (i + 1) ⟨ns, p.l⟩ r) else match prs l with
      | none => (PL0, i + 1, 30)
      | some a => rdScr (i + 1) ⟨p.ns, p.l ++ [a]⟩ r := by
  cases r with
  | nil => exact absurd rfl hr
  | cons m r => rw [rdScr]
def okL (a : AC) : Prop := lineF a = some (lineS a) ∧ InA a
structure OkP (p : PL) : Prop where
  n18 : p.ns.length = 18
  rng : ∀ n ∈ p.ns, inR n
  most : p.l.length ≤ 512
  ok : ∀ a ∈ p.l, okL a
theorem okL_k {a : AC} (h : okL a) : okK a := (lineF_some.1 h.1).1.1
theorem rdScr_acts : ∀ {ws : List AC} {i : Nat} {p : PL}, 0 < i → i + ws.length ≤ 513 → (∀ a ∈ ws, okL a) → rdScr i p (spl1 10 (ws.flatMap lnS)) = (⟨p.ns, p.l ++ ws⟩, 0, 0)
  | [], i, p, h0, _, _ => by
    show rdScr i p [[]] = _
    rw [rdScr_one, if_pos ⟨rfl, h0⟩, List.append_nil]
  | a :: ws, i, p, h0, h1, h => by
    have ha := h a (by simp)
    rw [List.length_cons] at h1
    have e : spl1 10 ((a :: ws).flatMap lnS) = lineS a :: spl1 10 (ws.flatMap lnS) := by
      rw [List.flatMap_cons]
      show spl1 10 (lineS a ++ [10] ++ _) = _
      rw [List.append_assoc]
      exact spl1_app _ (line_no10 (okL_k ha))
    rw [e, rdScr_cons (spl1_ne 10 _), if_neg (by omega), if_neg (by omega), line_back ha.2 ha.1]
    simp only
    rw [rdScr_acts (by omega) (by omega) fun z hz => h z (List.mem_cons_of_mem _ hz)]
    simp
/-- what was printed is read as it was -/
theorem rd_scr {p : PL} (h : OkP p) : rdScr 0 PL0 (spl1 10 (scrS p)) = (p, 0, 0) := by
  unfold scrS
  rw [spl1_app _ (hd_no10 p.ns), rdScr_cons (spl1_ne 10 _), if_neg (by omega), if_pos rfl, rdHd_some.2 ⟨⟨h.n18, h.rng⟩, rfl⟩]
  simp only
  rw [rdScr_acts (by omega) (by have := h.most; omega) h.ok]
  rfl
theorem scr_acts : ∀ {ls : List (List UInt8)} {i : Nat} {p q : PL} {k : Nat}, 0 < i → ls ≠ [] → rdScr i p ls = (q, k, 0) → ∃ ws, q = ⟨p.ns, p.l ++ ws⟩ ∧ k = 0 ∧ joi 10 ls = ws.flatMap lnS ∧ i + ws.length ≤ 513 + (if ws = [] then i else 0) ∧ ∀ a ∈ ws, okL a
  | [], _, _, _, _, _, h, _ => absurd rfl h
  | [l], i, p, q, k, h0, _, h => by
    rw [rdScr_one] at h
    split at h
    · rename_i hc
      cases h
      exact ⟨[], by simp, rfl, by rw [hc.1]; rfl, by simp, by simp⟩
    · cases h
  | l :: m :: r, i, p, q, k, h0, _, h => by
    rw [rdScr_cons (by simp)] at h
    split at h
    · cases h
    · rename_i h512
      rw [if_neg (by omega)] at h
      cases hp : prs l with
      | none => rw [hp] at h; cases h
      | some a =>
        rw [hp] at h
        obtain ⟨ws, e1, e2, e3, e4, e5⟩ := scr_acts (by omega) (by simp) h
        have hl := prs_back hp
        have he : lineS a = l := (prs_spec hp).2.2.1
        refine ⟨a :: ws, by rw [e1]; simp, e2, ?_, ?_, fun z hz => ?_⟩
        · rw [joi_cons (by simp), e3, List.flatMap_cons, ← he]
          simp [lnS]
        · rw [List.length_cons, if_neg (by simp)]
          split at e4
          · rename_i h3; subst h3; simp; omega
          · omega
        · rcases List.mem_cons.1 hz with rfl | hz
          · exact ⟨by rw [he]; exact hl, prs_in hp⟩
          · exact e5 z hz
/-- what is read is printed as it was -/
theorem scr_rd {s : List UInt8} {q : PL} {k : Nat} (h : rdScr 0 PL0 (spl1 10 s) = (q, k, 0)) : k = 0 ∧ scrS q = s ∧ OkP q := by
  have hj := joi_spl 10 s
  cases hs : spl1 10 s with
  | nil => exact absurd hs (spl1_ne 10 s)
  | cons l r =>
    rw [hs] at h hj
    cases r with
    | nil =>
      rw [rdScr_one, if_neg (by omega)] at h
      cases h
    | cons m r =>
      rw [rdScr_cons (by simp), if_neg (by omega), if_pos rfl] at h
      cases hh : rdHd l with
      | none => rw [hh] at h; cases h
      | some ns =>
        rw [hh] at h
        obtain ⟨ws, e1, e2, e3, e4, e5⟩ := scr_acts (by omega) (by simp) h
        obtain ⟨⟨g1, g2⟩, g3⟩ := rdHd_some.1 hh
        have e1 : q = ⟨ns, ws⟩ := by rw [e1]; rfl
        subst e1
        refine ⟨e2, ?_, g1, g2, ?_, e5⟩
        · rw [← hj, joi_cons (by simp), e3, ← g3]
          rfl
        · show ws.length ≤ 512
          split at e4
          · rename_i h3; rw [h3]; simp
          · omega
/-- an error's number -/
theorem rd_err : ∀ {ls : List (List UInt8)} {i : Nat} {p q : PL} {k : Nat} {e : Int}, rdScr i p ls = (q, k, e) → (e = 0 ∨ (q = PL0 ∧ e ≠ 0)) ∧ k ≤ i + ls.length
  | [], _, _, _, _, _, h => by cases h; exact ⟨.inr ⟨rfl, by decide⟩, by simp⟩
  | [l], i, p, q, k, e, h => by
    rw [rdScr_one] at h
    split at h <;> cases h
    · exact ⟨.inl rfl, by simp⟩
    · exact ⟨.inr ⟨rfl, by decide⟩, by simp⟩
  | l :: m :: r, i, p, q, k, e, h => by
    rw [rdScr_cons (by simp)] at h
    rw [List.length_cons]
    split at h
    · cases h; exact ⟨.inr ⟨rfl, by decide⟩, by omega⟩
    · split at h
      · cases hh : rdHd l with
        | none => rw [hh] at h; cases h; exact ⟨.inr ⟨rfl, by decide⟩, by omega⟩
        | some ns => rw [hh] at h; have := rd_err h; exact ⟨this.1, by omega⟩
      · cases hh : prs l with
        | none => rw [hh] at h; cases h; exact ⟨.inr ⟨rfl, by decide⟩, by omega⟩
        | some ns => rw [hh] at h; have := rd_err h; exact ⟨this.1, by omega⟩
end Go.Proofs.YtiofdmjecjcdbaaGreatDoor

