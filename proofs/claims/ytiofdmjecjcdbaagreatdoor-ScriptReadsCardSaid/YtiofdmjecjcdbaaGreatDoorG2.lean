/- Script: acts and their lines, plain: lemmas; each with the conditions that it states. -/
import Derived.Test.YtiofdmjecjcdbaaGreatDoorG1

namespace Go.Proofs.YtiofdmjecjcdbaaGreatDoor
open Go Go.Proofs Go.Sl
set_option linter.unusedSimpArgs false
set_option linter.unusedVariables false
structure AC where
  kd : Int
  sd : Int
  id : Int
  n : Int
  cd : Int
  s : ByteArray
  on : Int
  ww : Int
  xx : Bool
  xw : Int
  xs : Int
  xi : Int
def AC0 (k : Int) : AC := ⟨k, 0, 0, 0, 0, ⟨#[]⟩, 0, 0, false, 0, 0, 0⟩
/-- a field's text -/
def fld (a : AC) (c : UInt8) : List UInt8 :=
  if c = 115 then dgL a.sd else if c = 105 then dgL a.id else if c = 110 then dgL a.n else if c = 99 then dgL a.cd
  else if c = 116 then txtL a.s.data.toList else if c = 111 then dgL a.on else if c = 119 then dgL a.ww
  else if c = 120 then (if a.xx then [49] else [48]) else if c = 112 then dgL a.xw else if c = 113 then dgL a.xs else dgL a.xi
/-- a field laid over -/
def cpA (a : AC) (b : AC) (c : UInt8) : AC :=
  if c = 115 then { b with sd := a.sd } else if c = 105 then { b with id := a.id } else if c = 110 then { b with n := a.n } else if c = 99 then { b with cd := a.cd }
  else if c = 116 then { b with s := a.s } else if c = 111 then { b with on := a.on } else if c = 119 then { b with ww := a.ww }
  else if c = 120 then { b with xx := a.xx } else if c = 112 then { b with xw := a.xw } else if c = 113 then { b with xs := a.xs } else { b with xi := a.xi }
/-- a field set by its text -/
noncomputable def setA (a : AC) (c : UInt8) (l : List UInt8) : Option AC :=
  if c = 115 then (rdI l).map fun n => { a with sd := n }
  else if c = 105 then (rdI l).map fun n => { a with id := n }
  else if c = 110 then (rdI l).map fun n => { a with n := n }
  else if c = 99 then (rdI l).map fun n => { a with cd := n }
  else if c = 116 then (rdT l).map fun t => { a with s := bq t }
  else if c = 111 then (rdI l).map fun n => { a with on := n }
  else if c = 119 then (rdI l).map fun n => { a with ww := n }
  else if c = 120 then (rdI l).bind fun n => if n = 0 then some { a with xx := false } else if n = 1 then some { a with xx := true } else none
  else if c = 112 then (rdI l).map fun n => { a with xw := n }
  else if c = 113 then (rdI l).map fun n => { a with xs := n }
  else (rdI l).map fun n => { a with xi := n }
/-- an act whose numbers are ints, whose text is not too long -/
structure InA (a : AC) : Prop where
  sd : inR a.sd
  id : inR a.id
  n : inR a.n
  cd : inR a.cd
  on : inR a.on
  ww : inR a.ww
  xw : inR a.xw
  xs : inR a.xs
  xi : inR a.xi
def isL (c : UInt8) : Prop := c = 115 ∨ c = 105 ∨ c = 110 ∨ c = 99 ∨ c = 116 ∨ c = 111 ∨ c = 119 ∨ c = 120 ∨ c = 112 ∨ c = 113 ∨ c = 114
instance (c : UInt8) : Decidable (isL c) := by unfold isL; infer_instance
theorem dgL_one : dgL 1 = [49] := by decide
theorem dgL_zero : dgL 0 = [48] := by decide
theorem rd_bit (b : Bool) : rdI (if b then [49] else [48]) = some (if b then 1 else 0) := by
  cases b
  · exact rdI_some.2 ⟨by unfold inR; decide, dgL_zero⟩
  · exact rdI_some.2 ⟨by unfold inR; decide, dgL_one⟩
theorem set_fld {a b : AC} {c : UInt8} (hc : isL c) (ha : InA a) (hs : a.s.size ≤ 600) : setA b c (fld a c) = some (cpA a b c) := by
  obtain ⟨h1, h2, h3, h4, h5, h6, h7, h8, h9⟩ := ha
  rcases hc with rfl | rfl | rfl | rfl | rfl | rfl | rfl | rfl | rfl | rfl | rfl <;>
    simp +decide only [setA, fld, cpA, reduceIte, rdI_dg, *, Option.map_some, rd_bit, Option.bind_some]
  · rw [rdT_some.2 ⟨by simpa using hs, rfl⟩]
    simp [bq_data]
  · cases a.xx <;> simp
/-- all fields set -/
noncomputable def foldA : AC → List UInt8 → List (List UInt8) → Option AC
  | a, [], [] => some a
  | a, c :: cs, l :: ls => (setA a c l).bind fun a' => foldA a' cs ls
  | _, _, _ => none
theorem fold_fld {a : AC} (ha : InA a) (hs : a.s.size ≤ 600) : ∀ {cs : List UInt8} {b : AC}, (∀ c ∈ cs, isL c) → foldA b cs (cs.map (fld a)) = some (cs.foldl (cpA a) b)
  | [], b, _ => rfl
  | c :: cs, b, h => by
    show (setA b c (fld a c)).bind _ = _
    rw [set_fld (h c (by simp)) ha hs]
    exact fold_fld ha hs fun z hz => h z (List.mem_cons_of_mem _ hz)
theorem fold_len : ∀ {cs : List UInt8} {ls : List (List UInt8)} {a b : AC}, foldA a cs ls = some b → ls.length = cs.length
  | [], [], _, _, _ => rfl
  | [], _ :: _, _, _, h => by cases h
  | _ :: _, [], _, _, h => by cases h
  | c :: cs, l :: ls, a, b, h => by
    simp only [foldA] at h
    cases hx : setA a c l with
    | none => rw [hx] at h; cases h
    | some a' =>
      rw [hx] at h
      simp only [List.length_cons, fold_len h]
/-- two acts' same field -/
def eqF (c : UInt8) (a b : AC) : Prop :=
  if c = 115 then a.sd = b.sd else if c = 105 then a.id = b.id else if c = 110 then a.n = b.n else if c = 99 then a.cd = b.cd
  else if c = 116 then a.s = b.s else if c = 111 then a.on = b.on else if c = 119 then a.ww = b.ww
  else if c = 120 then a.xx = b.xx else if c = 112 then a.xw = b.xw else if c = 113 then a.xs = b.xs else a.xi = b.xi
theorem eqF_trans {c : UInt8} {a b d : AC} (h : eqF c a b) (h2 : eqF c b d) : eqF c a d := by
  unfold eqF at h h2 ⊢
  repeat' (split at h <;> rename_i hh <;> simp only [hh, reduceIte] at h2 ⊢)
  all_goals exact h.trans h2
theorem eqF_fld {c : UInt8} {a b : AC} (h : eqF c a b) : fld a c = fld b c := by
  unfold eqF at h
  unfold fld
  repeat' (split at h <;> rename_i hh <;> simp only [hh, reduceIte])
  all_goals rw [h]
theorem eqF_cp {c : UInt8} {a b d : AC} (h : eqF c a b) : cpA a d c = cpA b d c := by
  unfold eqF at h
  unfold cpA
  repeat' (split at h <;> rename_i hh <;> simp only [hh, reduceIte])
  all_goals rw [h]
theorem rd_two {l : List UInt8} {n : Int} (h : rdI l = some n) : dgL n = l := (rdI_some.1 h).2
theorem set_spec {a a' : AC} {c : UInt8} {l : List UInt8} (hc : isL c) (h : setA a c l = some a') : fld a' c = l ∧ cpA a' a c = a' ∧ a'.kd = a.kd ∧ ∀ d, isL d → d ≠ c → eqF d a a' := by
  rcases hc with rfl | rfl | rfl | rfl | rfl | rfl | rfl | rfl | rfl | rfl | rfl <;> simp +decide only [setA, reduceIte] at h
  case inr.inr.inr.inr.inl =>
    cases hr : rdT l with
    | none => rw [hr] at h; cases h
    | some t =>
      rw [hr] at h
      cases h
      refine ⟨?_, rfl, rfl, ?_⟩
      · simp +decide only [fld, reduceIte, data_bq]
        exact (rdT_some.1 hr).2
      · intro d hd hn
        rcases hd with rfl | rfl | rfl | rfl | rfl | rfl | rfl | rfl | rfl | rfl | rfl <;> first | exact absurd rfl hn | rfl
  case inr.inr.inr.inr.inr.inr.inr.inl =>
    cases hr : rdI l with
    | none => rw [hr] at h; cases h
    | some t =>
      rw [hr] at h
      simp only [Option.bind_some] at h
      have e := rd_two hr
      split at h
      · rename_i h0
        subst h0
        cases h
        refine ⟨?_, rfl, rfl, ?_⟩
        · rw [← e, dgL_zero]; rfl
        · intro d hd hn
          rcases hd with rfl | rfl | rfl | rfl | rfl | rfl | rfl | rfl | rfl | rfl | rfl <;> first | exact absurd rfl hn | rfl
      · split at h
        · rename_i h0
          subst h0
          cases h
          refine ⟨?_, rfl, rfl, ?_⟩
          · rw [← e, dgL_one]; rfl
          · intro d hd hn
            rcases hd with rfl | rfl | rfl | rfl | rfl | rfl | rfl | rfl | rfl | rfl | rfl <;> first | exact absurd rfl hn | rfl
        · cases h
  all_goals
    cases hr : rdI l with
    | none => rw [hr] at h; cases h
    | some t =>
      rw [hr] at h
      cases h
      have e := rd_two hr
      refine ⟨e, rfl, rfl, ?_⟩
      intro d hd hn
      rcases hd with rfl | rfl | rfl | rfl | rfl | rfl | rfl | rfl | rfl | rfl | rfl <;> first | exact absurd rfl hn | rfl
theorem fold_spec : ∀ {cs : List UInt8} {ls : List (List UInt8)} {a b : AC}, (∀ c ∈ cs, isL c) → cs.Nodup → foldA a cs ls = some b → ls = cs.map (fld b) ∧ b = cs.foldl (cpA b) a ∧ b.kd = a.kd ∧ ∀ d, isL d → d ∉ cs → eqF d a b
  | [], [], a, b, _, _, h => by
    cases h
    refine ⟨rfl, rfl, rfl, fun d hd _ => ?_⟩
    rcases hd with rfl | rfl | rfl | rfl | rfl | rfl | rfl | rfl | rfl | rfl | rfl <;> rfl
  | [], _ :: _, _, _, _, _, h => by cases h
  | _ :: _, [], _, _, _, _, h => by cases h
  | c :: cs, l :: ls, a, b, hc, hn, h => by
    simp only [foldA] at h
    cases hx : setA a c l with
    | none => rw [hx] at h; cases h
    | some a' =>
      rw [hx] at h
      have hcl := hc c (by simp)
      have hnd := List.nodup_cons.1 hn
      obtain ⟨g1, g2, g3, g4⟩ := set_spec hcl hx
      obtain ⟨k1, k2, k3, k4⟩ := fold_spec (fun z hz => hc z (List.mem_cons_of_mem _ hz)) hnd.2 h
      have hcb := k4 c hcl hnd.1
      refine ⟨?_, ?_, k3.trans g3, fun d hd hdn => ?_⟩
      · rw [List.map_cons, ← k1, ← eqF_fld hcb, g1]
      · rw [List.foldl_cons, ← eqF_cp hcb, g2]
        exact k2
      · exact eqF_trans (g4 d hd fun e => hdn (by rw [e]; simp)) (k4 d hd fun e => hdn (List.mem_cons_of_mem _ e))
/-! ### words -/
def wdN (k : Nat) : List UInt8 := match k with
  | 1 => [111, 112, 101, 110] | 2 => [111, 102, 102, 101, 114] | 3 => [102, 105, 110, 105, 115, 104] | 4 => [114, 101, 97, 100] | 5 => [105, 116, 101, 109] | 6 => [97, 115, 107] | 7 => [109, 111, 118, 101]
  | 8 => [114, 101, 115, 101, 116] | 9 => [103, 111, 97, 119, 97, 121] | 10 => [115, 101, 116, 116, 105, 110, 103, 115] | 11 => [115, 116, 101, 112] | 12 => [100, 101, 108, 105, 118, 101, 114] | 13 => [116, 105, 99, 107] | 14 => [105, 110, 106, 101, 99, 116] | _ => []
def wdF (k : Nat) : List UInt8 := match k with
  | 1 => [115, 110, 99, 111, 119, 120] | 2 => [115, 105, 116] | 3 => [115, 105] | 4 => [115, 105, 110] | 5 => [115, 105] | 6 => [115, 105, 110] | 7 => [115, 105, 111, 119, 120]
  | 8 => [115, 105, 99] | 9 => [115] | 10 => [115, 112, 113, 114] | 11 => [115] | 12 => [115, 110] | 13 => [] | 14 => [115, 116] | _ => []
theorem wd_inj : ∀ i < 15, ∀ j < 15, 1 ≤ i → wdN i = wdN j → i = j := by decide
theorem wd_no32 : ∀ i < 15, ∀ b ∈ wdN i, b ≠ 32 := by decide
theorem wdF_L : ∀ i < 15, ∀ c ∈ wdF i, isL c := by decide
theorem wdF_nd : ∀ i < 15, (wdF i).Nodup := by decide
theorem wdF_len : ∀ i < 15, (wdF i).length ≤ 6 := by decide
theorem wdN_len : ∀ i < 15, (wdN i).length ≤ 8 := by decide
/-- which kind a word is, from a kind on -/
def kinF : Nat → Nat → List UInt8 → Option Nat
  | 0, _, _ => none
  | f + 1, k, l => if wdN k = l then some k else kinF f (k + 1) l
def kin (l : List UInt8) : Option Nat := kinF 14 1 l
theorem kinF_some : ∀ {f k : Nat} {l : List UInt8} {j : Nat}, kinF f k l = some j → wdN j = l ∧ k ≤ j ∧ j < k + f
  | 0, _, _, _, h => by cases h
  | f + 1, k, l, j, h => by
    unfold kinF at h
    split at h
    · cases h; rename_i e; exact ⟨e, by omega, by omega⟩
    · have := kinF_some h; exact ⟨this.1, by omega, by omega⟩
theorem kinF_none : ∀ {f k : Nat} {l : List UInt8}, kinF f k l = none → ∀ j, k ≤ j → j < k + f → wdN j ≠ l
  | 0, _, _, _, j, h1, h2 => by omega
  | f + 1, k, l, h, j, h1, h2 => by
    unfold kinF at h
    split at h
    · cases h
    · rename_i e
      by_cases hj : j = k
      · subst hj; exact e
      · exact kinF_none h j (by omega) (by omega)
theorem kin_some {l : List UInt8} {j : Nat} (h : kin l = some j) : wdN j = l ∧ 1 ≤ j ∧ j < 15 := kinF_some h
theorem kin_none {l : List UInt8} (h : kin l = none) : ∀ j, 1 ≤ j → j < 15 → wdN j ≠ l := kinF_none h
theorem kin_of {j : Nat} (h1 : 1 ≤ j) (h2 : j < 15) : kin (wdN j) = some j := by
  cases h : kin (wdN j) with
  | none => exact absurd rfl (kin_none h j h1 h2)
  | some i =>
    obtain ⟨g1, g2, g3⟩ := kin_some h
    exact congrArg some (wd_inj i g3 j h2 g2 g1)
/-- the act of a line's parts -/
noncomputable def prsP : List (List UInt8) → Option AC
  | [] => none
  | w :: ps => match kin w with
    | none => none
    | some k => foldA (AC0 k) (wdF k) ps
noncomputable def prs (l : List UInt8) : Option AC := prsP (spl1 32 l)
def lineP (a : AC) : List (List UInt8) := wdN a.kd.toNat :: (wdF a.kd.toNat).map (fld a)
def lineS (a : AC) : List UInt8 := joi 32 (lineP a)
def cano (a : AC) : AC := (wdF a.kd.toNat).foldl (cpA a) (AC0 a.kd)
def okK (a : AC) : Prop := 1 ≤ a.kd ∧ a.kd ≤ 14 ∧ a.s.size ≤ 600
theorem isD_no {b : UInt8} (h : isD b) : b ≠ 32 ∧ b ≠ 10 := ⟨fun e => by subst e; exact absurd h.1 (by decide), fun e => by subst e; exact absurd h.1 (by decide)⟩
theorem dgL_no (n : Int) : ∀ b ∈ dgL n, b ≠ 32 ∧ b ≠ 10 := fun b hb => by
  unfold dgL at hb
  split at hb
  · rcases List.mem_cons.1 hb with rfl | hb
    · decide
    · exact isD_no (upL_dig _ b hb)
  · exact isD_no (upL_dig _ b hb)
theorem plB_no {b : UInt8} (h : plB b = true) : b ≠ 32 ∧ b ≠ 10 := ⟨fun e => by subst e; exact absurd h (by decide), fun e => by subst e; exact absurd h (by decide)⟩
theorem txtL_no (l : List UInt8) : ∀ b ∈ txtL l, b ≠ 32 ∧ b ≠ 10 := fun b hb => by
  unfold txtL at hb
  split at hb
  · rw [List.mem_singleton] at hb; subst hb; decide
  · obtain ⟨c, _, hc⟩ := List.mem_flatMap.1 hb
    unfold escL at hc
    have hlt := c.toNat_lt
    split at hc
    · rename_i h
      rw [List.mem_singleton] at hc; subst hc; exact plB_no h
    · rcases List.mem_cons.1 hc with rfl | hc
      · decide
      · rcases List.mem_cons.1 hc with rfl | hc
        · exact plB_no (hexD_plain (by omega))
        · rw [List.mem_singleton] at hc
          subst hc
          exact plB_no (hexD_plain (by omega))
theorem fld_no (a : AC) (c : UInt8) : ∀ b ∈ fld a c, b ≠ 32 ∧ b ≠ 10 := by
  unfold fld
  repeat' split
  all_goals first | exact dgL_no _ | exact txtL_no _ | decide
theorem wd_no10 : ∀ i < 15, ∀ b ∈ wdN i, b ≠ 10 := by decide
theorem spl_line {a : AC} (h : okK a) : spl1 32 (lineS a) = lineP a := by
  obtain ⟨h1, h2, h3⟩ := h
  refine spl1_joi (by simp [lineP]) fun p hp b hb => ?_
  rcases List.mem_cons.1 hp with rfl | hp
  · exact wd_no32 _ (by omega) b hb
  · obtain ⟨c, _, rfl⟩ := List.mem_map.1 hp
    exact (fld_no a c b hb).1
theorem joi_no {c d : UInt8} (hd : c ≠ d) : ∀ {ps : List (List UInt8)}, (∀ p ∈ ps, ∀ b ∈ p, b ≠ d) → ∀ b ∈ joi c ps, b ≠ d
  | [], _, b, hb => by cases hb
  | [p], h, b, hb => h p (by simp) b hb
  | p :: q :: r, h, b, hb => by
    rcases List.mem_append.1 (show b ∈ p ++ c :: joi c (q :: r) from hb) with hb | hb
    · exact h p (by simp) b hb
    · rcases List.mem_cons.1 hb with rfl | hb
      · exact hd
      · exact joi_no hd (fun z hz => h z (List.mem_cons_of_mem _ hz)) b hb
theorem line_no10 {a : AC} (h : okK a) : ∀ b ∈ lineS a, b ≠ 10 := by
  obtain ⟨h1, h2, h3⟩ := h
  refine joi_no (by decide) fun p hp b hb => ?_
  rcases List.mem_cons.1 hp with rfl | hp
  · exact wd_no10 _ (by omega) b hb
  · obtain ⟨c, _, rfl⟩ := List.mem_map.1 hp
    exact (fld_no a c b hb).2
theorem prs_line {a : AC} (h : okK a) (ha : InA a) : prs (lineS a) = some (cano a) := by
  unfold prs
  rw [spl_line h]
  obtain ⟨h1, h2, h3⟩ := h
  show (match kin (wdN a.kd.toNat) with | none => none | some k => foldA (AC0 k) (wdF k) ((wdF a.kd.toNat).map (fld a))) = _
  rw [kin_of (by omega) (by omega)]
  simp only
  rw [fold_fld ha h3 (wdF_L _ (by omega))]
  unfold cano
  rw [show ((a.kd.toNat : Nat) : Int) = a.kd by omega]
theorem prs_spec {l : List UInt8} {b : AC} (h : prs l = some b) : 1 ≤ b.kd ∧ b.kd ≤ 14 ∧ lineS b = l ∧ cano b = b := by
  unfold prs at h
  cases hs : spl1 32 l with
  | nil => rw [hs] at h; cases h
  | cons w ps =>
    rw [hs] at h
    simp only [prsP] at h
    cases hk : kin w with
    | none => rw [hk] at h; cases h
    | some k =>
      rw [hk] at h
      simp only at h
      obtain ⟨g1, g2, g3⟩ := kin_some hk
      obtain ⟨k1, k2, k3, _⟩ := fold_spec (wdF_L k g3) (wdF_nd k g3) h
      have ek : b.kd = k := k3
      have en : b.kd.toNat = k := by omega
      refine ⟨by omega, by omega, ?_, ?_⟩
      · unfold lineS lineP
        rw [en, g1, ← k1, ← hs]
        exact joi_spl 32 l
      · unfold cano
        rw [en, ek, ← k2]
/-- what is read has a text of 600 at most -/
theorem set_size {a a' : AC} {c : UInt8} {l : List UInt8} (hc : isL c) (h : setA a c l = some a') (hs : a.s.size ≤ 600) : a'.s.size ≤ 600 := by
  rcases hc with rfl | rfl | rfl | rfl | rfl | rfl | rfl | rfl | rfl | rfl | rfl <;> simp +decide only [setA, reduceIte] at h
  case inr.inr.inr.inr.inl =>
    obtain ⟨n, hn, rfl⟩ := Option.map_eq_some_iff.1 h
    show (bq n).size ≤ 600
    rw [bq_size]
    exact (rdT_some.1 hn).1
  case inr.inr.inr.inr.inr.inr.inr.inl =>
    obtain ⟨n, hn, h2⟩ := Option.bind_eq_some_iff.1 h
    split at h2
    · cases h2; exact hs
    · split at h2
      · cases h2; exact hs
      · cases h2
  all_goals
    obtain ⟨n, hn, rfl⟩ := Option.map_eq_some_iff.1 h
    exact hs
theorem fold_size : ∀ {cs : List UInt8} {ls : List (List UInt8)} {a b : AC}, (∀ c ∈ cs, isL c) → foldA a cs ls = some b → a.s.size ≤ 600 → b.s.size ≤ 600
  | [], [], _, _, _, h, hs => by cases h; exact hs
  | [], _ :: _, _, _, _, h, _ => by cases h
  | _ :: _, [], _, _, _, h, _ => by cases h
  | c :: cs, l :: ls, a, b, hc, h, hs => by
    simp only [foldA] at h
    cases hx : setA a c l with
    | none => rw [hx] at h; cases h
    | some a' =>
      rw [hx] at h
      exact fold_size (fun z hz => hc z (List.mem_cons_of_mem _ hz)) h (set_size (hc c (by simp)) hx hs)
theorem prs_size {l : List UInt8} {b : AC} (h : prs l = some b) : b.s.size ≤ 600 := by
  unfold prs at h
  cases hs : spl1 32 l with
  | nil => rw [hs] at h; cases h
  | cons w ps =>
    rw [hs] at h
    simp only [prsP] at h
    cases hk : kin w with
    | none => rw [hk] at h; cases h
    | some k =>
      rw [hk] at h
      exact fold_size (wdF_L k (kin_some hk).2.2) h (show (0 : Nat) ≤ 600 by decide)
/-- an act's line -/
noncomputable def lineF (a : AC) : Option (List UInt8) := open Classical in if okK a ∧ cano a = a then some (lineS a) else none
theorem lineF_some {a : AC} {l : List UInt8} : lineF a = some l ↔ (okK a ∧ cano a = a) ∧ lineS a = l := by
  unfold lineF
  split
  · rename_i h; simp [h]
  · rename_i h
    constructor
    · intro h2; cases h2
    · intro h2; exact absurd h2.1 h
theorem line_back {a : AC} {l : List UInt8} (ha : InA a) (h : lineF a = some l) : prs l = some a := by
  obtain ⟨⟨h1, h2⟩, rfl⟩ := lineF_some.1 h
  rw [prs_line h1 ha, h2]
theorem prs_back {l : List UInt8} {b : AC} (h : prs l = some b) : lineF b = some l := by
  obtain ⟨h1, h2, h3, h4⟩ := prs_spec h
  exact lineF_some.2 ⟨⟨⟨h1, h2, prs_size h⟩, h4⟩, h3⟩
end Go.Proofs.YtiofdmjecjcdbaaGreatDoor

