/- Script: whole scripts, plain: lemmas; each with the conditions that it states. -/
import Derived.Test.YtiofdmjecjcdbaaGreatDoorG2

namespace Go.Proofs.YtiofdmjecjcdbaaGreatDoor
open Go Go.Proofs Go.Sl
set_option linter.unusedSimpArgs false
set_option linter.unusedVariables false
/-! ### what is read is in range -/
/-! ### heads -/
def titB : List UInt8 := [112, 97, 116, 101, 114, 110, 111, 115, 116, 101, 114]
def hdP (ns : List Int) : List (List UInt8) := titB :: ns.map dgL
def hdS (ns : List Int) : List UInt8 := joi 32 (hdP ns)
noncomputable def rdIs : List (List UInt8) → Option (List Int)
  | [] => some []
  | l :: ls => match rdI l with
    | none => none
    | some n => (rdIs ls).map (n :: ·)
theorem rdIs_some : ∀ {ls : List (List UInt8)} {ns : List Int}, rdIs ls = some ns ↔ (∀ n ∈ ns, inR n) ∧ ns.map dgL = ls
  | [], ns => by
    constructor
    · intro h; cases h; exact ⟨by simp, rfl⟩
    · intro ⟨_, h⟩
      cases ns with
      | nil => rfl
      | cons n r => cases h
  | l :: ls, ns => by
    unfold rdIs
    constructor
    · intro h
      cases hr : rdI l with
      | none => rw [hr] at h; cases h
      | some n =>
        rw [hr] at h
        obtain ⟨r, h1, rfl⟩ := Option.map_eq_some_iff.1 h
        obtain ⟨g1, g2⟩ := rdIs_some.1 h1
        obtain ⟨k1, k2⟩ := rdI_some.1 hr
        refine ⟨fun z hz => ?_, ?_⟩
        · rcases List.mem_cons.1 hz with rfl | hz
          · exact k1
          · exact g1 z hz
        · rw [List.map_cons, g2, k2]
    · intro ⟨h1, h2⟩
      cases ns with
      | nil => cases h2
      | cons n r =>
        rw [List.map_cons] at h2
        obtain ⟨e1, e2⟩ := List.cons.inj h2
        rw [rdI_some.2 ⟨h1 n (by simp), e1⟩]
        simp only
        rw [rdIs_some.2 ⟨fun z hz => h1 z (List.mem_cons_of_mem _ hz), e2⟩]
        rfl
noncomputable def rdHd (l : List UInt8) : Option (List Int) := match spl1 32 l with
  | [] => none
  | t :: ps => if t = titB ∧ ps.length = 18 then rdIs ps else none
theorem tit_no : ∀ b ∈ titB, b ≠ 32 ∧ b ≠ 10 := by decide
theorem spl_hd (ns : List Int) : spl1 32 (hdS ns) = hdP ns := by
  refine spl1_joi (by simp [hdP]) fun p hp b hb => ?_
  rcases List.mem_cons.1 hp with rfl | hp
  · exact (tit_no b hb).1
  · obtain ⟨c, _, rfl⟩ := List.mem_map.1 hp
    exact (dgL_no c b hb).1
theorem hd_no10 (ns : List Int) : ∀ b ∈ hdS ns, b ≠ 10 := by
  refine joi_no (by decide) fun p hp b hb => ?_
  rcases List.mem_cons.1 hp with rfl | hp
  · exact (tit_no b hb).2
  · obtain ⟨c, _, rfl⟩ := List.mem_map.1 hp
    exact (dgL_no c b hb).2
theorem rdHd_some {l : List UInt8} {ns : List Int} : rdHd l = some ns ↔ (ns.length = 18 ∧ ∀ n ∈ ns, inR n) ∧ hdS ns = l := by
  unfold rdHd
  constructor
  · intro h
    cases hs : spl1 32 l with
    | nil => rw [hs] at h; cases h
    | cons t ps =>
      rw [hs] at h
      simp only at h
      split at h
      · rename_i hc
        obtain ⟨g1, g2⟩ := rdIs_some.1 h
        refine ⟨⟨by rw [← hc.2, ← g2, List.length_map], g1⟩, ?_⟩
        unfold hdS hdP
        rw [g2, ← hc.1, ← hs]
        exact joi_spl 32 l
      · cases h
  · intro ⟨⟨h1, h2⟩, h3⟩
    subst h3
    rw [spl_hd]
    show (if titB = titB ∧ (ns.map dgL).length = 18 then rdIs (ns.map dgL) else none) = _
    rw [if_pos ⟨rfl, by simpa using h1⟩]
    exact rdIs_some.2 ⟨h2, rfl⟩
/-! ### scripts -/
structure PL where
  ns : List Int
  l : List AC
def PL0 : PL := ⟨[0, 0, 0, 0, 0, 0, 0, 0, 0, 0, 0, 0, 0, 0, 0, 0, 0, 0], []⟩
def lnS (a : AC) : List UInt8 := lineS a ++ [10]
def scrS (p : PL) : List UInt8 := hdS p.ns ++ 10 :: p.l.flatMap lnS
noncomputable def rdScr : Nat → PL → List (List UInt8) → PL × Nat × Int
  | i, _, [] => (PL0, i, 5)
  | i, p, [l] => if l = [] ∧ 0 < i then (p, 0, 0) else (PL0, i + 1, 5)
  | i, p, l :: m :: r => if 512 < i then (PL0, i + 1, 4) else if i = 0 then (match rdHd l with
      | none => (PL0, i + 1, 30)
      | some ns => rdScr (i + 1) ⟨ns, p.l⟩ (m :: r)) else match prs l with
      | none => (PL0, i + 1, 30)
      | some a => rdScr (i + 1) ⟨p.ns, p.l ++ [a]⟩ (m :: r)
theorem rdScr_one {i : Nat} {p : PL} {l : List UInt8} : rdScr i p [l] = if l = [] ∧ 0 < i then (p, 0, 0) else (PL0, i + 1, 5) := by
  rw [rdScr]
theorem rdScr_cons {i : Nat} {p : PL} {l : List UInt8} {r : List (List UInt8)} (hr : r ≠ []) : rdScr i p (l :: r) = if 512 < i then (PL0, i + 1, 4) else if i = 0 then (match rdHd l with
      | none => (PL0, i + 1, 30)
      | some ns => rdScr (i + 1) ⟨ns, p.l⟩ r) else match prs l with
      | none => (PL0, i + 1, 30)
      | some a => rdScr (i + 1) ⟨p.ns, p.l ++ [a]⟩ r := by
  cases r with
  | nil => exact absurd rfl hr
  | cons m r => rw [rdScr]
def okL (a : AC) : Prop := lineF a = some (lineS a) ∧ InA a
structure OkP (p : PL) : Prop where
  n18 : p.ns.length = 18
  rng : ∀ n ∈ p.ns, inR n
  most : p.l.length ≤ 512
  ok : ∀ a ∈ p.l, okL a
theorem okL_k {a : AC} (h : okL a) : okK a := (lineF_some.1 h.1).1.1
theorem rdScr_acts : ∀ {ws : List AC} {i : Nat} {p : PL}, 0 < i → i + ws.length ≤ 513 → (∀ a ∈ ws, okL a) → rdScr i p (spl1 10 (ws.flatMap lnS)) = (⟨p.ns, p.l ++ ws⟩, 0, 0)
  | [], i, p, h0, _, _ => by
    show rdScr i p [[]] = _
    rw [rdScr_one, if_pos ⟨rfl, h0⟩, List.append_nil]
  | a :: ws, i, p, h0, h1, h => by
    have ha := h a (by simp)
    rw [List.length_cons] at h1
    have e : spl1 10 ((a :: ws).flatMap lnS) = lineS a :: spl1 10 (ws.flatMap lnS) := by
      rw [List.flatMap_cons]
      show spl1 10 (lineS a ++ [10] ++ _) = _
      rw [List.append_assoc]
      exact spl1_app _ (line_no10 (okL_k ha))
    rw [e, rdScr_cons (spl1_ne 10 _), if_neg (by omega), if_neg (by omega), line_back ha.2 ha.1]
    simp only
    rw [rdScr_acts (by omega) (by omega) fun z hz => h z (List.mem_cons_of_mem _ hz)]
    simp
/-- what was printed is read as it was -/
theorem rd_scr {p : PL} (h : OkP p) : rdScr 0 PL0 (spl1 10 (scrS p)) = (p, 0, 0) := by
  unfold scrS
  rw [spl1_app _ (hd_no10 p.ns), rdScr_cons (spl1_ne 10 _), if_neg (by omega), if_pos rfl, rdHd_some.2 ⟨⟨h.n18, h.rng⟩, rfl⟩]
  simp only
  rw [rdScr_acts (by omega) (by have := h.most; omega) h.ok]
  rfl
end Go.Proofs.YtiofdmjecjcdbaaGreatDoor

