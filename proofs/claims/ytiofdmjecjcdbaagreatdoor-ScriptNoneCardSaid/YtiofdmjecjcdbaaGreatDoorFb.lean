/- Chunks: a state is a list of assertions on parts of the heap that share nothing but what nobody writes. Codes over chunks: the walk's steps. Steps of the walk for what only computes, for loads, stores, new memory and calls. Rows: what a slice reads as. Slices of slices; bytes to strings. The end of a walk, calls of contracts, loops: lemmas; each with the conditions that it states. -/
import Derived.Test.YtiofdmjecjcdbaaGreatDoorFs
set_option linter.unusedVariables false
set_option linter.unusedSimpArgs false
namespace Go.Sl

abbrev HP := Hp → Prop

def Blk.le (b b' : Blk) : Prop := b' = b ∨ ∃ cs e, b = .cells cs e false ∧ b' = .cells cs e true
theorem Blk.le_refl (b : Blk) : b.le b := .inl rfl
theorem Blk.le_trans {a b c : Blk} (h : a.le b) (k : b.le c) : a.le c := by
  rcases h with rfl | ⟨cs, e, rfl, rfl⟩
  · exact k
  · rcases k with rfl | ⟨cs', e', h1, h2⟩
    · exact .inr ⟨cs, e, rfl, rfl⟩
    · cases h1
theorem Blk.le_own {b b' : Blk} (h : b.le b') (ho : b.own = true) : b' = b := by
  rcases h with rfl | ⟨cs, e, rfl, rfl⟩
  · rfl
  · cases ho
theorem Blk.le_two {a b c : Blk} (h : a.le c) (k : b.le c) (ha : a.own = false) (hb : b.own = false) : a = b := by
  rcases h with rfl | ⟨cs, e, rfl, rfl⟩
  · rcases k with rfl | ⟨cs, e, rfl, rfl⟩
    · rfl
    · cases ha
  · rcases k with rfl | ⟨cs', e', rfl, h2⟩
    · cases hb
    · cases h2; rfl
theorem BlkIs.le {w : World} {B : Nat} {b b' : Blk} (h : BlkIs w B b') (hl : b.le b') : BlkIs w B b := by
  rcases hl with rfl | ⟨cs, e, rfl, rfl⟩
  · exact h
  · obtain ⟨arr, fz, h1, h2, _⟩ := h
    exact ⟨arr, fz, h1, h2, fun h => by cases h⟩

def Hle (H1 H : Hp) : Prop := ∀ B b, H1 B = some b → ∃ b', H B = some b' ∧ b.le b'
theorem Hle.refl (H : Hp) : Hle H H := fun _ b h => ⟨b, h, b.le_refl⟩
theorem Hle.trans {A B C : Hp} (h : Hle A B) (k : Hle B C) : Hle A C := fun r b hb => by
  obtain ⟨b1, h1, l1⟩ := h r b hb
  obtain ⟨b2, h2, l2⟩ := k r b1 h1
  exact ⟨b2, h2, Blk.le_trans l1 l2⟩

def Comp (H1 H2 : Hp) : Prop := ∀ B b c, H1 B = some b → H2 B = some c → b.own = false ∧ c.own = false
theorem Comp.symm {H1 H2 : Hp} (h : Comp H1 H2) : Comp H2 H1 := fun B b c hb hc => (h B c b hc hb).symm
theorem own_le {b b' : Blk} (h : b.le b') (ho : b'.own = false) : b.own = false := by
  cases hb : b.own with
  | false => rfl
  | true => rw [Blk.le_own h hb, hb] at ho; cases ho
theorem Comp.le {A B A' : Hp} (h : Comp A' B) (hl : Hle A A') : Comp A B := fun r b c hb hc => by
  obtain ⟨b', h1, l1⟩ := hl r b hb
  obtain ⟨h2, h3⟩ := h r b' c h1 hc
  exact ⟨own_le l1 h2, h3⟩
theorem Comp.le2 {A B B' : Hp} (h : Comp A B') (hl : Hle B B') : Comp A B := (h.symm.le hl).symm

def hjoin (A B : Hp) : Hp := fun r => match A r with
  | some b => some b
  | none => B r
theorem hjoin_left (A B : Hp) : Hle A (hjoin A B) := fun r b h => ⟨b, by simp [hjoin, h], b.le_refl⟩
theorem hjoin_right {A B H : Hp} (hc : Comp A B) (h1 : Hle A H) (h2 : Hle B H) : Hle B (hjoin A B) := fun r b h => by
  cases ha : A r with
  | none => exact ⟨b, by simp [hjoin, ha, h], b.le_refl⟩
  | some a =>
    obtain ⟨o1, o2⟩ := hc r a b ha h
    obtain ⟨a', h3, l3⟩ := h1 r a ha
    obtain ⟨b', h4, l4⟩ := h2 r b h
    rw [h3] at h4; cases h4
    have := Blk.le_two l3 l4 o1 o2
    subst this
    exact ⟨a, by simp [hjoin, ha], a.le_refl⟩
theorem hjoin_le {A B H : Hp} (h1 : Hle A H) (h2 : Hle B H) : Hle (hjoin A B) H := fun r b h => by
  unfold hjoin at h
  split at h
  · rename_i a ha; cases h; exact h1 r b ha
  · exact h2 r b h
theorem Comp.join {A B C : Hp} (h1 : Comp A C) (h2 : Comp B C) : Comp (hjoin A B) C := fun r b c hb hc => by
  unfold hjoin at hb
  split at hb
  · rename_i a ha; cases hb; exact h1 r b c ha hc
  · exact h2 r b c hb hc

def Sats : List HP → Hp → Prop
  | [], _ => True
  | A :: l, H => ∃ H1 H2, Comp H1 H2 ∧ Hle H1 H ∧ Hle H2 H ∧ A H1 ∧ Sats l H2

theorem Sats.mono : ∀ {C : List HP} {H H' : Hp}, Sats C H → Hle H H' → Sats C H'
  | [], _, _, _, _ => trivial
  | _ :: _, _, _, ⟨H1, H2, hc, h1, h2, ha, hs⟩, hl => ⟨H1, H2, hc, h1.trans hl, h2.trans hl, ha, hs⟩

theorem Sats.tail {A : HP} {C : List HP} {H : Hp} (h : Sats (A :: C) H) : Sats C H := by
  obtain ⟨H1, H2, hc, h1, h2, ha, hs⟩ := h
  exact hs.mono h2

theorem Sats.swap {A B : HP} {C : List HP} {H : Hp} (h : Sats (A :: B :: C) H) : Sats (B :: A :: C) H := by
  obtain ⟨H1, H2, hc, h1, h2, ha, G1, G2, kc, k1, k2, kb, ks⟩ := h
  refine ⟨G1, hjoin H1 G2, ?_, k1.trans h2, hjoin_le h1 (k2.trans h2), kb, H1, G2, hc.le2 k2, hjoin_left _ _, hjoin_right (hc.le2 k2) h1 (k2.trans h2), ha, ks⟩
  exact (Comp.join (hc.le2 k1) kc.symm).symm

theorem Sats.perm {C C' : List HP} (hp : C.Perm C') : ∀ {H : Hp}, Sats C H → Sats C' H := by
  induction hp with
  | nil => exact fun h => h
  | cons x _ ih => exact fun ⟨H1, H2, hc, h1, h2, ha, hs⟩ => ⟨H1, H2, hc, h1, h2, ha, ih hs⟩
  | swap x y l => exact fun h => h.swap
  | trans _ _ ih1 ih2 => exact fun h => ih2 (ih1 h)

theorem Sats.append : ∀ {C R : List HP} {H : Hp}, Sats (C ++ R) H → ∃ H1 H2, Comp H1 H2 ∧ Hle H1 H ∧ Hle H2 H ∧ Sats C H1 ∧ Sats R H2
  | [], R, H, h => ⟨fun _ => none, H, (fun _ _ _ h => by cases h), (fun _ _ h => by cases h), Hle.refl H, trivial, h⟩
  | A :: C, R, H, ⟨H1, H2, hc, h1, h2, ha, hs⟩ => by
    obtain ⟨G1, G2, kc, k1, k2, ka, ks⟩ := Sats.append hs
    exact ⟨hjoin H1 G1, G2, Comp.join (hc.le2 k2) kc, hjoin_le h1 (k1.trans h2), k2.trans h2, ⟨H1, G1, hc.le2 k1, hjoin_left _ _, hjoin_right (hc.le2 k1) h1 (k1.trans h2), ha, ka⟩, ks⟩
theorem Sats.join : ∀ {C R : List HP} {H1 H2 H : Hp}, Comp H1 H2 → Hle H1 H → Hle H2 H → Sats C H1 → Sats R H2 → Sats (C ++ R) H
  | [], _, _, _, _, _, _, h2, _, hs => hs.mono h2
  | _ :: _, _, _, _, _, hc, h1, h2, ⟨G1, G2, kc, k1, k2, ka, ks⟩, hs =>
    ⟨G1, hjoin G2 _, (Comp.join kc.symm (hc.symm.le2 k1)).symm, k1.trans h1, hjoin_le (k2.trans h1) h2, ka,
      Sats.join (hc.le k2) (hjoin_left _ _) (hjoin_right (hc.le k2) (k2.trans h1) h2) ks hs⟩

/-- one chunk out of a list -/
inductive Pick (A : HP) : List HP → List HP → Prop where
  | here {l : List HP} : Pick A (A :: l) l
  | there {B : HP} {l r : List HP} : Pick A l r → Pick A (B :: l) (B :: r)
theorem Pick.perm {A : HP} {l r : List HP} (h : Pick A l r) : l.Perm (A :: r) := by
  induction h with
  | here => exact List.Perm.refl _
  | there _ ih => exact (List.Perm.cons _ ih).trans (List.Perm.swap _ _ _)
theorem Pick.sats {A : HP} {l r : List HP} (h : Pick A l r) {H : Hp} (hs : Sats l H) : Sats (A :: r) H := hs.perm h.perm

/-- what one list says another one says -/
def Ent (C C' : List HP) : Prop := ∀ H, Sats C H → Sats C' H
theorem Ent.refl (C : List HP) : Ent C C := fun _ h => h
theorem Ent.trans {A B C : List HP} (h : Ent A B) (k : Ent B C) : Ent A C := fun H x => k H (h H x)
theorem Ent.nil {C : List HP} : Ent C [] := fun _ _ => trivial
theorem Ent.cons {A : HP} {C C' : List HP} (h : Ent C C') : Ent (A :: C) (A :: C') := fun _ ⟨H1, H2, hc, h1, h2, ha, hs⟩ => ⟨H1, H2, hc, h1, h2, ha, h _ hs⟩
theorem Ent.pick {A : HP} {C R C' : List HP} (hp : Pick A C R) (h : Ent R C') : Ent C (A :: C') := fun _ hs => (Ent.cons h) _ (hp.sats hs)
theorem Ent.drop {A : HP} {C C' : List HP} (h : Ent C C') : Ent (A :: C) C' := fun H hs => h H hs.tail
theorem Ent.imp {A B : HP} {C C' : List HP} (hab : ∀ H, A H → B H) (h : Ent C C') : Ent (A :: C) (B :: C') := fun _ ⟨H1, H2, hc, h1, h2, ha, hs⟩ => ⟨H1, H2, hc, h1, h2, hab _ ha, h _ hs⟩

/-! ### Assertions -/
def exP {α : Type} (g : α → HP) : HP := fun H => ∃ x, g x H
def star (l : List HP) : HP := Sats l
def pureP (p : Prop) : HP := fun _ => p
def pt (r : Nat) (cs : List Value) (e : TypeId) : HP := fun H => H r = some (.cells cs e true)
def ro (r : Nat) (cs : List Value) (e : TypeId) : HP := fun H => H r = some (.cells cs e false)

theorem Sats.ex {α : Type} {g : α → HP} {C : List HP} {H : Hp} (h : Sats (exP g :: C) H) : ∃ x, Sats (g x :: C) H := by
  obtain ⟨H1, H2, hc, h1, h2, ⟨x, ha⟩, hs⟩ := h
  exact ⟨x, H1, H2, hc, h1, h2, ha, hs⟩
theorem Sats.star {l C : List HP} {H : Hp} (h : Sats (star l :: C) H) : Sats (l ++ C) H := by
  obtain ⟨H1, H2, hc, h1, h2, ha, hs⟩ := h
  exact Sats.join hc h1 h2 ha hs
theorem Sats.pure {p : Prop} {C : List HP} {H : Hp} (h : Sats (pureP p :: C) H) : p ∧ Sats C H := ⟨by obtain ⟨_, _, _, _, _, ha, _⟩ := h; exact ha, h.tail⟩
theorem Ent.ex {α : Type} {g : α → HP} {C C' : List HP} (x : α) (h : Ent C (g x :: C')) : Ent C (exP g :: C') := fun H hs => by
  obtain ⟨H1, H2, hc, h1, h2, ha, hs⟩ := h H hs
  exact ⟨H1, H2, hc, h1, h2, ⟨x, ha⟩, hs⟩
theorem Ent.star {l C C' : List HP} (h : Ent C (l ++ C')) : Ent C (star l :: C') := fun H hs => by
  obtain ⟨H1, H2, hc, h1, h2, ha, hs⟩ := (h H hs).append
  exact ⟨H1, H2, hc, h1, h2, ha, hs⟩
theorem Ent.pure {p : Prop} {C C' : List HP} (hp : p) (h : Ent C C') : Ent C (pureP p :: C') := fun H hs =>
  ⟨fun _ => none, H, (fun _ _ _ h => by cases h), (fun _ _ h => by cases h), Hle.refl H, hp, h H hs⟩

/-- an assertion on what nobody writes may be had twice -/
def Pers (A : HP) : Prop := ∀ H, A H → ∃ H', Hle H' H ∧ A H' ∧ ∀ B b, H' B = some b → b.own = false
def hone (r : Nat) (b : Blk) : Hp := fun i => if i = r then some b else none
theorem hone_le {r : Nat} {b b' : Blk} {H : Hp} (h : H r = some b') (hl : b.le b') : Hle (hone r b) H := fun i c hc => by
  unfold hone at hc; split at hc
  · rename_i e; subst e; cases hc; exact ⟨b', h, hl⟩
  · cases hc
theorem hone_eq {r i : Nat} {b c : Blk} (h : hone r b i = some c) : i = r ∧ c = b := by
  unfold hone at h; split at h
  · rename_i e; cases h; exact ⟨e, rfl⟩
  · cases h
theorem hone_same (r : Nat) (b : Blk) : hone r b r = some b := by simp [hone]
theorem pers_ro (r : Nat) (cs : List Value) (e : TypeId) : Pers (ro r cs e) := fun H h =>
  ⟨hone r (.cells cs e false), hone_le h (Blk.le_refl _), hone_same _ _, fun B b hb => by rw [(hone_eq hb).2]; rfl⟩
theorem pers_pure (p : Prop) : Pers (pureP p) := fun _ h => ⟨fun _ => none, (fun _ _ h => by cases h), h, (fun _ _ h => by cases h)⟩
theorem pers_ex {α : Type} {g : α → HP} (h : ∀ x, Pers (g x)) : Pers (exP g) := fun H ⟨x, hx⟩ => by
  obtain ⟨H', h1, h2, h3⟩ := h x H hx
  exact ⟨H', h1, ⟨x, h2⟩, h3⟩
theorem pers_star_nil : Pers (star []) := fun _ _ => ⟨fun _ => none, (fun _ _ h => by cases h), trivial, (fun _ _ h => by cases h)⟩
theorem pers_star_cons {A : HP} {l : List HP} (h1 : Pers A) (h2 : Pers (star l)) : Pers (star (A :: l)) := fun H ⟨H1, H2, hc, k1, k2, ka, ks⟩ => by
  obtain ⟨G1, a1, b1, c1⟩ := h1 _ ka
  obtain ⟨G2, a2, b2, c2⟩ := h2 _ ks
  refine ⟨hjoin G1 G2, hjoin_le (a1.trans k1) (a2.trans k2), ⟨G1, G2, fun B b c hb hc => ⟨c1 _ _ hb, c2 _ _ hc⟩, hjoin_left _ _, hjoin_right (fun B b c hb hc => ⟨c1 _ _ hb, c2 _ _ hc⟩) (a1.trans k1) (a2.trans k2), b1, b2⟩, ?_⟩
  intro B b hb
  unfold hjoin at hb
  split at hb
  · rename_i x hx; cases hb; exact c1 _ _ hx
  · exact c2 _ _ hb
theorem Sats.dup {A : HP} {C : List HP} {H : Hp} (hp : Pers A) (h : Sats (A :: C) H) : Sats (A :: A :: C) H := by
  obtain ⟨H1, H2, hc, h1, h2, ha, hs⟩ := h
  obtain ⟨G, g1, g2, g3⟩ := hp H1 ha
  refine ⟨G, hjoin G H2, ?_, g1.trans h1, hjoin_le (g1.trans h1) h2, g2, G, H2, hc.le g1, hjoin_left _ _, hjoin_right (hc.le g1) (g1.trans h1) h2, g2, hs⟩
  refine (Comp.join (fun B b c hb hc => ⟨g3 _ _ hb, g3 _ _ hc⟩) (hc.le g1).symm).symm
theorem Ent.pickP {A : HP} {C R C' : List HP} (hq : Pers A) (hp : Pick A C R) (h : Ent (A :: R) C') : Ent C (A :: C') := fun _ hs => (Ent.cons h) _ ((hp.sats hs).dup hq)
/-- nobody writes any more -/
theorem Ent.freeze {r : Nat} {cs : List Value} {e : TypeId} {C R C' : List HP} (hp : Pick (pt r cs e) C R) (h : Ent (ro r cs e :: R) C') : Ent C C' := fun H hs => by
  obtain ⟨H1, H2, hc, h1, h2, ha, hs⟩ := hp.sats hs
  refine h H ⟨hone r (.cells cs e false), H2, hc.le ?_, Hle.trans ?_ h1, h2, hone_same _ _, hs⟩
  · exact hone_le ha (.inr ⟨cs, e, rfl, rfl⟩)
  · exact hone_le ha (.inr ⟨cs, e, rfl, rfl⟩)

/-! ### Contracts and codes over chunks -/
def upC (Q : Fr → List HP → Prop) : Fr → Hp → Prop := fun a H => ∃ C, Sats C H ∧ Q a C
def upV (K : Value → List HP → Prop) : Value → Hp → Prop := fun v H => ∃ C, Sats C H ∧ K v C
def upE (Q : Exit → Fr → List HP → Prop) : Exit → Fr → Hp → Prop := fun e => upC (Q e)
def CallT (P : Program) (f : FuncId) (args : Array Value) (C : List HP) (K : Value → List HP → Prop) : Prop := ∀ H, Sats C H → CallS P f args H (upV K)
def evC (P : Program) (c : Code) (Q : Exit → Fr → List HP → Prop) (a : Fr) (C : List HP) : Prop := ∀ H, Sats C H → ev P c (upE Q) a H

theorem CallT.ent {P : Program} {f : FuncId} {args : Array Value} {C C' : List HP} {K : Value → List HP → Prop} (he : Ent C C') (h : CallT P f args C' K) : CallT P f args C K := fun H hs => h H (he H hs)
theorem CallT.ex {P : Program} {f : FuncId} {args : Array Value} {α : Type} {g : α → HP} {C : List HP} {K : Value → List HP → Prop} (h : ∀ x, CallT P f args (g x :: C) K) : CallT P f args (exP g :: C) K := fun H hs => by
  obtain ⟨x, hx⟩ := hs.ex
  exact h x H hx
theorem CallT.star {P : Program} {f : FuncId} {args : Array Value} {l C : List HP} {K : Value → List HP → Prop} (h : CallT P f args (l ++ C) K) : CallT P f args (star l :: C) K := fun H hs => h H hs.star
theorem CallT.pure {P : Program} {f : FuncId} {args : Array Value} {p : Prop} {C : List HP} {K : Value → List HP → Prop} (h : p → CallT P f args C K) : CallT P f args (pureP p :: C) K := fun H hs => h hs.pure.1 H hs.pure.2
theorem CallT.mono {P : Program} {f : FuncId} {args : Array Value} {C : List HP} {K K' : Value → List HP → Prop} (h : CallT P f args C K) (hk : ∀ v C, K v C → K' v C) : CallT P f args C K' := fun H hs => (h H hs).mono fun v _ ⟨C', h1, h2⟩ => ⟨C', h1, hk v C' h2⟩

/-! monotony -/
theorem evL_mono {P : Program} {ops : Array Oper} {Q Q' : Fr → Hp → Prop} (hq : ∀ a H, Q a H → Q' a H) : ∀ (l : List Oper) (i : Nat) (a : Fr) (H : Hp), evL P ops Q i l a H → evL P ops Q' i l a H
  | [], _, a, H, h => hq a H h
  | o :: l, i, a, H, h => by
    unfold evL at h ⊢
    split
    · rename_i hw
      rw [if_pos hw] at h
      refine evOp_mono (fun v H' hv => ?_) h
      rw [spl_iff] at hv ⊢
      exact evL_mono hq l _ _ _ hv
    · rename_i hw
      rw [if_neg hw] at h
      exact evL_mono hq l _ _ _ h
theorem evD_mono {P : Program} {ops : Array Oper} {Q Q' : Fr → Hp → Prop} (hq : ∀ a H, Q a H → Q' a H) : ∀ (l : List (Nat × Nat)) (hist : List Hp) (a : Fr) (H : Hp), evD P ops Q l hist a H → evD P ops Q' l hist a H
  | [], _, a, H, h => hq a H h
  | (i, c) :: l, hist, a, H, h => by
    simp only [evD] at h ⊢
    split at h
    · exact h.elim
    · split
      · rename_i hw
        rw [if_pos hw] at h
        split at h
        · obtain ⟨v, h1, h2⟩ := h
          rw [spl_iff] at h2
          exact ⟨v, h1, (spl_iff _ _ _).2 (evD_mono hq l _ _ _ h2)⟩
        · obtain ⟨v, h1, h3, h2⟩ := h
          rw [spl_iff] at h2
          exact ⟨v, h1, h3, (spl_iff _ _ _).2 (evD_mono hq l _ _ _ h2)⟩
        · refine evOp_mono (fun v H' hv => ?_) h
          rw [spl_iff] at hv ⊢
          exact evD_mono hq l _ _ _ hv
      · rename_i hw
        rw [if_neg hw] at h
        exact evD_mono hq l _ _ _ h
theorem evT_mono {P : Program} {ops : Array Oper} {Q Q' : Fr → Hp → Prop} (hq : ∀ a H, Q a H → Q' a H) : ∀ (t : Tr) (hist : List Hp) (a : Fr) (H : Hp), evT P ops Q t hist a H → evT P ops Q' t hist a H
  | .nil, _, a, H, h => hq a H h
  | .br t u, _, _, _, h => ⟨evT_mono hq t _ _ _ h.1, evT_mono hq u _ _ _ h.2⟩
  | .st i c l, hist, a, H, h => by
    simp only [evT] at h ⊢
    split at h
    · exact h.elim
    · split
      · rename_i hw
        rw [if_pos hw] at h
        split at h
        · obtain ⟨v, h1, h2⟩ := h
          rw [spl_iff] at h2
          exact ⟨v, h1, (spl_iff _ _ _).2 (evT_mono hq l _ _ _ h2)⟩
        · obtain ⟨v, h1, h3, h2⟩ := h
          rw [spl_iff] at h2
          exact ⟨v, h1, h3, (spl_iff _ _ _).2 (evT_mono hq l _ _ _ h2)⟩
        · refine evOp_mono (fun v H' hv => ?_) h
          rw [spl_iff] at hv ⊢
          exact evT_mono hq l _ _ _ hv
      · rename_i hw
        rw [if_neg hw] at h
        exact evT_mono hq l _ _ _ h
theorem ev_monoQ {P : Program} (c : Code) : ∀ {Q Q' : Exit → Fr → Hp → Prop} (_ : ∀ e a H, Q e a H → Q' e a H) (a : Fr) (H : Hp), ev P c Q a H → ev P c Q' a H := by
  induction c with
  | region id ops d =>
    intro Q Q' hq a H h
    cases d
    · exact evL_mono (hq .normal) _ _ _ _ h
    · exact h.imp (fun h => ⟨h.1, evD_mono (hq .normal) _ _ _ _ h.2⟩) fun ⟨t, h1, h2⟩ => ⟨t, h1, evT_mono (hq .normal) _ _ _ _ h2⟩
  | seq x y ihx ihy =>
    intro Q Q' hq a H h
    refine ihx (Q := thenE (ev P y Q) Q) (fun e a H h => ?_) a H h
    cases e <;> first | exact hq _ _ _ h | exact ihy hq a H h
  | cond c x y ihx ihy =>
    intro Q Q' hq a H h
    simp only [ev] at h ⊢
    split
    · rename_i b hb; rw [hb] at h; exact ⟨fun hb => ihx hq a H (h.yes hb), fun hb => ihy hq a H (h.no hb)⟩
    · rename_i hb
      split at h
      · rename_i b hb'; exact absurd hb' (hb b)
      · exact h
  | block id c ih =>
    intro Q Q' hq a H h
    refine ih (Q := inBlockE id Q) (fun e a H h => ?_) a H h
    cases e <;> first
      | exact hq _ _ _ h
      | (simp only [inBlockE] at h ⊢; split <;> rename_i hj <;> simp only [hj, if_true, if_false] at h <;> exact hq _ _ _ h)
  | loop c ih =>
    intro Q Q' hq a H h
    obtain ⟨I, n, h0, hr⟩ := h
    refine ⟨I, n, h0, fun n a H hI => ih (Q := thenE _ Q) (fun e a H h => ?_) a H (hr n a H hI)⟩
    cases e <;> first | exact h | exact hq _ _ _ h
  | scope c ih =>
    intro Q Q' hq a H h
    refine ih (Q := noGotoE Q) (fun e a H h => ?_) a H h
    cases e <;> first | exact hq _ _ _ h | exact h.elim
  | skip => exact fun hq a H h => hq _ _ _ h
  | exit id => exact fun hq a H h => hq _ _ _ h
  | label l => exact fun hq a H h => hq _ _ _ h
  | ret => exact fun hq a H h => hq _ _ _ h
  | _ => exact fun hq a H h => h.elim
end Go.Sl

namespace Go.Sl

def thenC (K : Fr → List HP → Prop) (Q : Exit → Fr → List HP → Prop) : Exit → Fr → List HP → Prop
  | Exit.normal => K
  | e => Q e
def inBlockC (id : Nat) (Q : Exit → Fr → List HP → Prop) : Exit → Fr → List HP → Prop
  | Exit.exit j => if j = id then Q .normal else Q (.exit j)
  | e => Q e
def noGotoC (Q : Exit → Fr → List HP → Prop) : Exit → Fr → List HP → Prop
  | Exit.goto _ => fun _ _ => False
  | e => Q e

def sep (A B : HP) : HP := star [A, B]
theorem CallT.sep {P : Program} {f : FuncId} {args : Array Value} {A B : HP} {C : List HP} {K : Value → List HP → Prop} (h : CallT P f args (A :: B :: C) K) : CallT P f args (sep A B :: C) K := fun H hs => h H hs.star
theorem Ent.sep {A B : HP} {C C' : List HP} (h : Ent C (A :: B :: C')) : Ent C (sep A B :: C') := Ent.star h
theorem pers_sep {A B : HP} (h1 : Pers A) (h2 : Pers B) : Pers (sep A B) := pers_star_cons h1 (pers_star_cons h2 pers_star_nil)
section
variable {P : Program} {Q : Exit → Fr → List HP → Prop} {K : Fr → List HP → Prop} {a : Fr} {C : List HP} {x y : Code} {id : Nat}
theorem c_seq (h : evC P x (thenC (evC P y Q) Q) a C) : evC P (.seq x y) Q a C := fun H hs => by
  refine ev_monoQ x (fun e a H hq => ?_) a H (h H hs)
  obtain ⟨C', h1, h2⟩ := hq
  cases e <;> first | exact ⟨C', h1, h2⟩ | exact h2 H h1
theorem c_cond {c : Operand} {b : Bool} (hc : opd a c = .bool b) (h : Br b (evC P x Q a C) (evC P y Q a C)) : evC P (.cond c x y) Q a C := fun H hs => by
  simp only [ev, hc]
  exact ⟨fun hb => h.yes hb H hs, fun hb => h.no hb H hs⟩
theorem c_block (h : evC P x (inBlockC id Q) a C) : evC P (.block id x) Q a C := fun H hs => by
  refine ev_monoQ x (fun e a H hq => ?_) a H (h H hs)
  obtain ⟨C', h1, h2⟩ := hq
  cases e <;> first
    | exact ⟨C', h1, h2⟩
    | (simp only [inBlockC, inBlockE] at h2 ⊢; split <;> rename_i hj <;> simp only [hj, if_true, if_false] at h2 <;> exact ⟨C', h1, h2⟩)
theorem c_scope (h : evC P x (noGotoC Q) a C) : evC P (.scope x) Q a C := fun H hs => by
  refine ev_monoQ x (fun e a H hq => ?_) a H (h H hs)
  obtain ⟨C', h1, h2⟩ := hq
  cases e <;> first | exact ⟨C', h1, h2⟩ | exact h2.elim
theorem c_skip (h : Q .normal a C) : evC P .skip Q a C := fun H hs => ⟨C, hs, h⟩
theorem c_label (h : Q .normal a C) : evC P (.label id) Q a C := fun H hs => ⟨C, hs, h⟩
theorem c_exit (h : Q (.exit id) a C) : evC P (.exit id) Q a C := fun H hs => ⟨C, hs, h⟩
theorem c_ret (h : Q .ret a C) : evC P .ret Q a C := fun H hs => ⟨C, hs, h⟩
theorem t_n (h : K a C) : thenC K Q .normal a C := h
theorem t_e (h : Q (.exit id) a C) : thenC K Q (.exit id) a C := h
theorem t_r (h : Q .ret a C) : thenC K Q .ret a C := h
theorem b_n (h : Q .normal a C) : inBlockC id Q .normal a C := h
theorem b_r (h : Q .ret a C) : inBlockC id Q .ret a C := h
theorem b_hit {j : Nat} (hj : (j == id) = true) (h : Q .normal a C) : inBlockC id Q (.exit j) a C := by simp at hj; simp only [inBlockC, hj, if_true]; exact h
theorem b_miss {j : Nat} (hj : (j == id) = false) (h : Q (.exit j) a C) : inBlockC id Q (.exit j) a C := by simp at hj; simp only [inBlockC, hj, if_false]; exact h
theorem g_n (h : Q .normal a C) : noGotoC Q .normal a C := h
theorem g_r (h : Q .ret a C) : noGotoC Q .ret a C := h
theorem g_e (h : Q (.exit id) a C) : noGotoC Q (.exit id) a C := h

/-- A loop: what holds at its head, by a number that goes down. -/
theorem c_loop (I : Nat → Fr → List HP → Prop) (n : Nat) (C0 : List HP) (he : Ent C C0) (h0 : I n a C0)
    (hr : ∀ n a C, I n a C → evC P x (thenC (fun a' C' => ∃ m C'', m < n ∧ Ent C' C'' ∧ I m a' C'') Q) a C) : evC P (.loop x) Q a C := fun H hs => by
  refine ⟨fun n a H => ∃ C, Sats C H ∧ I n a C, n, ⟨C0, he H hs, h0⟩, fun n a H ⟨C, hs, hI⟩ => ?_⟩
  refine ev_monoQ x (fun e a H hq => ?_) a H (hr n a C hI H hs)
  obtain ⟨C', h1, h2⟩ := hq
  cases e <;> first
    | exact ⟨C', h1, h2⟩
    | (obtain ⟨m, C'', hm, hE, hI⟩ := h2; exact ⟨m, hm, C'', hE H h1, hI⟩)
theorem c_fr (l : List (Nat × Value)) (h : Agree a l) (he : evC P x Q (updL a l) C) : evC P x Q a C := by rw [updL_eq h] at he; exact he
end

/-! ### Regions -/
abbrev Entry := Nat × Bool × Oper
/-- what a region still has to do: a tree of orders -/
inductive ET where
  | nil
  | cons (e : Entry) (l : ET)
  | br (l m : ET)

def gev (P : Program) (ops : Array Oper) (Q : Fr → Hp → Prop) : ET → List Hp → Fr → Hp → Prop
  | .nil, _, a, H => Q a H
  | .br l m, hist, a, H => gev P ops Q l hist a H ∧ gev P ops Q m hist a H
  | ET.cons (c, _, o) l, hist, a, H =>
    if wantB ops o a = true then
      match kd P o.op with
      | .pure => ∃ v, pureV P o a = some v ∧ gev P ops Q l hist (putO a o.dst v) H
      | .load => ∃ v, rdV P o a H = some v ∧ (∀ h ∈ hist.take c, rdV P o a h = some v) ∧ gev P ops Q l hist (putO a o.dst v) H
      | .other => evOp P o a H fun v H' => gev P ops Q l (H :: hist) (putO a o.dst v) H'
    else gev P ops Q l hist (putO a o.dst undef) H

def entL (ops : Array Oper) : Nat → List Oper → Option (ET)
  | _, [] => some .nil
  | i, o :: l => match isG ops i with
    | true => match entL ops (i + 1) l with
      | some r => some (ET.cons (0, true, o) r)
      | none => none
    | false => match entL ops (i + 1) l with
      | some r => some (ET.cons (0, false, o) r)
      | none => none
def entD (ops : Array Oper) : List (Nat × Nat) → Option (ET)
  | [] => some .nil
  | (i, c) :: l => match ops[i]? with
    | none => none
    | some o => match isG ops i with
      | true => match entD ops l with
        | some r => some (ET.cons (c, true, o) r)
        | none => none
      | false => match entD ops l with
        | some r => some (ET.cons (c, false, o) r)
        | none => none

theorem entL_cons {ops : Array Oper} {i : Nat} {o : Oper} {l : List Oper} {es : ET} (h : entL ops i (o :: l) = some es) : ∃ g r, es = ET.cons (0, g, o) r ∧ entL ops (i + 1) l = some r := by
  simp only [entL] at h
  split at h <;> split at h <;> first | (cases h; done) | (rename_i r hr; cases h; exact ⟨_, r, rfl, hr⟩)
theorem entD_cons {ops : Array Oper} {i c : Nat} {l : List (Nat × Nat)} {es : ET} (h : entD ops ((i, c) :: l) = some es) : ∃ g r o, ops[i]? = some o ∧ es = ET.cons (c, g, o) r ∧ entD ops l = some r := by
  simp only [entD] at h
  split at h
  · cases h
  · rename_i o ho
    split at h <;> split at h <;> first | (cases h; done) | (rename_i r hr; cases h; exact ⟨_, r, o, ho, rfl, hr⟩)

theorem gev_L {P : Program} {ops : Array Oper} {Q : Fr → Hp → Prop} : ∀ (l : List Oper) (i : Nat) (es : ET) (hist : List Hp) (a : Fr) (H : Hp), entL ops i l = some es → gev P ops Q es hist a H → evL P ops Q i l a H
  | [], _, es, hist, a, H, he, h => by cases he; exact h
  | o :: l, i, es, hist, a, H, he, h => by
    obtain ⟨g, r, rfl, hr⟩ := entL_cons he
    simp only [gev] at h
    split at h
    · rename_i hw
      split at h
      · obtain ⟨v, hv, h⟩ := h
        exact evL_p hw hv ((spl_iff _ _ _).2 (gev_L l _ r _ _ _ hr h))
      · obtain ⟨v, hv, _, h⟩ := h
        exact evL_r hw hv ((spl_iff _ _ _).2 (gev_L l _ r _ _ _ hr h))
      · refine evL_o hw (evOp_mono (fun v H' hk => ?_) h)
        exact (spl_iff _ _ _).2 (gev_L l _ r _ _ _ hr hk)
    · rename_i hw
      exact evL_s (by simpa using hw) (gev_L l _ r _ _ _ hr h)
theorem gev_D {P : Program} {ops : Array Oper} {Q : Fr → Hp → Prop} : ∀ (l : List (Nat × Nat)) (es : ET) (hist : List Hp) (a : Fr) (H : Hp), entD ops l = some es → gev P ops Q es hist a H → evD P ops Q l hist a H
  | [], es, hist, a, H, he, h => by cases he; exact h
  | (i, c) :: l, es, hist, a, H, he, h => by
    obtain ⟨g, r, o, ho, rfl, hr⟩ := entD_cons he
    simp only [gev] at h
    split at h
    · rename_i hw
      split at h
      · rename_i hk
        obtain ⟨v, hv, h⟩ := h
        exact evD_p ho hk hw hv ((spl_iff _ _ _).2 (gev_D l r _ _ _ hr h))
      · rename_i hk
        obtain ⟨v, hv, hh, h⟩ := h
        exact evD_r ho hk hw hv hh ((spl_iff _ _ _).2 (gev_D l r _ _ _ hr h))
      · rename_i hk
        refine evD_o ho hk hw (evOp_mono (fun v H' hk => ?_) h)
        exact (spl_iff _ _ _).2 (gev_D l r _ _ _ hr hk)
    · rename_i hw
      exact evD_s ho (by simpa using hw) (gev_D l r _ _ _ hr h)


def entT (ops : Array Oper) : Tr → Option ET
  | .nil => some .nil
  | .br t u => match entT ops t with
    | some x => match entT ops u with
      | some y => some (.br x y)
      | none => none
    | none => none
  | .st i c l => match ops[i]? with
    | none => none
    | some o => match isG ops i with
      | true => match entT ops l with
        | some r => some (ET.cons (c, true, o) r)
        | none => none
      | false => match entT ops l with
        | some r => some (ET.cons (c, false, o) r)
        | none => none
theorem entT_st {ops : Array Oper} {i c : Nat} {l : Tr} {es : ET} (h : entT ops (.st i c l) = some es) : ∃ g r o, ops[i]? = some o ∧ es = ET.cons (c, g, o) r ∧ entT ops l = some r := by
  simp only [entT] at h
  split at h
  · cases h
  · rename_i o ho
    split at h <;> split at h <;> first | (cases h; done) | (rename_i r hr; cases h; exact ⟨_, r, o, ho, rfl, hr⟩)
theorem entT_br {ops : Array Oper} {t u : Tr} {es : ET} (h : entT ops (.br t u) = some es) : ∃ x y, es = .br x y ∧ entT ops t = some x ∧ entT ops u = some y := by
  simp only [entT] at h
  split at h
  · rename_i x hx
    split at h
    · rename_i y hy; cases h; exact ⟨x, y, rfl, hx, hy⟩
    · cases h
  · cases h
theorem gev_T {P : Program} {ops : Array Oper} {Q : Fr → Hp → Prop} : ∀ (t : Tr) (es : ET) (hist : List Hp) (a : Fr) (H : Hp), entT ops t = some es → gev P ops Q es hist a H → evT P ops Q t hist a H
  | .nil, es, hist, a, H, he, h => by cases he; exact h
  | .br t u, es, hist, a, H, he, h => by
    obtain ⟨x, y, rfl, hx, hy⟩ := entT_br he
    exact ⟨gev_T t x hist a H hx h.1, gev_T u y hist a H hy h.2⟩
  | .st i c l, es, hist, a, H, he, h => by
    obtain ⟨g, r, o, ho, rfl, hr⟩ := entT_st he
    simp only [gev] at h
    simp only [evT, ho]
    split at h
    · rename_i hw
      rw [if_pos hw]
      split at h
      · rename_i hkd; simp only [hkd]; obtain ⟨v, hv, h⟩ := h
        exact ⟨v, hv, (spl_iff _ _ _).2 (gev_T l r _ _ _ hr h)⟩
      · rename_i hkd; simp only [hkd]; obtain ⟨v, hv, hh, h⟩ := h
        exact ⟨v, hv, hh, (spl_iff _ _ _).2 (gev_T l r _ _ _ hr h)⟩
      · rename_i hkd; simp only [hkd]; refine evOp_mono (fun v H' hk => ?_) h
        exact (spl_iff _ _ _).2 (gev_T l r _ _ _ hr hk)
    · rename_i hw
      rw [if_neg hw]
      exact gev_T l r _ _ _ hr h
/-- all orders of a drawn region -/
def canonT (P : Program) (ops : Array Oper) (bs : Array Nat) : Nat → List Nat → List Nat → Tr
  | n, acc, S =>
    let all := List.range ops.size
    let cnt := fun i => nOther P ops ((all.map fun j => (j, 0)).filter fun j => !(bs.getD i 0).testBit j.1 && !(bs.getD j.1 0).testBit i)
    match n with
    | 0 => (all.filter fun i => !acc.contains i).foldr (fun i t => .st i (cnt i) t) .nil
    | n + 1 =>
      let one := fun e => let new := (all.filter fun i => (bs.getD e 0).testBit i && !acc.contains i) ++ [e]
        new.foldr (fun i t => .st i (cnt i) t) (canonT P ops bs n (acc ++ new) (S.filter fun j => !(j == e)))
      match S.filter fun e => !S.any fun j => (bs.getD e 0).testBit j with
      | [] => .nil
      | e :: l => l.foldl (fun t e => .br t (one e)) (one e)
def othersOf (P : Program) (ops : Array Oper) : List Nat := (List.range ops.size).filter fun i => match ops[i]? with | some o => isOther P o.op | none => false
def trF : Tr → Option Tr
  | .nil => some .nil
  | .st i c t => match natF i with
    | some i => match natF c with
      | some c => match trF t with
        | some t => some (.st i c t)
        | none => none
      | none => none
    | none => none
  | .br t u => match trF t with
    | some t => match trF u with
      | some u => some (.br t u)
      | none => none
    | none => none
def SatsL : List (List HP) → List Hp → Prop
  | [], [] => True
  | C :: l, H :: m => Sats C H ∧ SatsL l m
  | _, _ => False
theorem SatsL.take : ∀ {l : List (List HP)} {m : List Hp}, SatsL l m → ∀ {c : Nat} {h : Hp}, h ∈ m.take c → ∃ C ∈ l.take c, Sats C h
  | [], [], _, _, _, hh => by simp at hh
  | C :: l, H :: m, hs, 0, _, hh => by simp at hh
  | C :: l, H :: m, hs, c + 1, h, hh => by
    simp only [List.take_succ_cons, List.mem_cons] at hh
    rcases hh with rfl | hh
    · exact ⟨C, by simp, hs.1⟩
    · obtain ⟨C', h1, h2⟩ := SatsL.take hs.2 hh
      exact ⟨C', by simp [h1], h2⟩
  | [], _ :: _, hs, _, _, _ => hs.elim
  | _ :: _, [], hs, _, _, _ => hs.elim

def evG (P : Program) (ops : Array Oper) (Q : Fr → List HP → Prop) (es : ET) (hist : List (List HP)) (a : Fr) (C : List HP) : Prop :=
  ∀ Hs H, SatsL hist Hs → Sats C H → gev P ops (upC Q) es Hs a H
def RdC (P : Program) (o : Oper) (a : Fr) (C : List HP) (v : Value) : Prop := ∀ H, Sats C H → rdV P o a H = some v
def allRd (p : List HP → Prop) : List (List HP) → Prop
  | [] => True
  | C :: l => p C ∧ allRd p l
theorem allRd_spec {p : List HP → Prop} : ∀ {l : List (List HP)}, allRd p l → ∀ C ∈ l, p C
  | [], _, _, h => by cases h
  | _ :: _, hp, C, h => by
    rcases List.mem_cons.1 h with rfl | h
    · exact hp.1
    · exact allRd_spec hp.2 C h
def EvOp (P : Program) (o : Oper) (a : Fr) (C : List HP) (k : Value → List HP → Prop) : Prop := ∀ H, Sats C H → evOp P o a H (upV k)

section
variable {P : Program} {ops : Array Oper} {Q : Fr → List HP → Prop} {a : Fr} {C : List HP} {c : Nat} {g : Bool} {o : Oper} {es : ET} {hist : List (List HP)} {v : Value}
theorem evG_p (hk : kd P o.op = .pure) (hw : wantB ops o a = true) (hv : pureV P o a = some v) (h : spl g v fun v => evG P ops Q es hist (putO a o.dst v) C) : evG P ops Q (ET.cons (c, g, o) es) hist a C := fun Hs H h1 h2 => by
  simp only [gev, hw, if_true, hk]
  rw [spl_iff] at h
  exact ⟨v, hv, h Hs H h1 h2⟩
theorem evG_r (hk : kd P o.op = .load) (hw : wantB ops o a = true) (hv : RdC P o a C v) (hh : allRd (fun C' => RdC P o a C' v) (hist.take c)) (h : spl g v fun v => evG P ops Q es hist (putO a o.dst v) C) : evG P ops Q (ET.cons (c, g, o) es) hist a C := fun Hs H h1 h2 => by
  simp only [gev, hw, if_true, hk]
  rw [spl_iff] at h
  refine ⟨v, hv H h2, fun x hx => ?_, h Hs H h1 h2⟩
  obtain ⟨C', k1, k2⟩ := h1.take hx
  exact allRd_spec hh C' k1 x k2
theorem evG_o (hk : kd P o.op = .other) (hw : wantB ops o a = true) (h : EvOp P o a C fun v C' => spl g v fun v => evG P ops Q es (C :: hist) (putO a o.dst v) C') : evG P ops Q (ET.cons (c, g, o) es) hist a C := fun Hs H h1 h2 => by
  simp only [gev, hw, if_true, hk]
  refine evOp_mono (fun v H' hk => ?_) (h H h2)
  obtain ⟨C', k1, k2⟩ := hk
  rw [spl_iff] at k2
  exact k2 (H :: Hs) H' ⟨h2, h1⟩ k1
theorem evG_s (hw : wantB ops o a = false) (h : evG P ops Q es hist (putO a o.dst undef) C) : evG P ops Q (ET.cons (c, g, o) es) hist a C := fun Hs H h1 h2 => by
  simp only [gev, hw]
  exact h Hs H h1 h2
theorem G_br {x y : ET} (h1 : evG P ops Q x hist a C) (h2 : evG P ops Q y hist a C) : evG P ops Q (.br x y) hist a C := fun Hs H k1 k2 => ⟨h1 Hs H k1 k2, h2 Hs H k1 k2⟩
theorem evG_nil (h : Q a C) : evG P ops Q .nil hist a C := fun _ _ _ h2 => ⟨C, h2, h⟩
theorem evG_ent {C' : List HP} (he : Ent C C') (h : evG P ops Q es hist a C') : evG P ops Q es hist a C := fun Hs H h1 h2 => h Hs H h1 (he H h2)
end

section
variable {P : Program} {Q : Exit → Fr → List HP → Prop} {a : Fr} {C : List HP} {id : Nat} {ol : List Oper} {es : ET}
theorem c_region (he : entL ol.toArray 0 ol = some es) (h : evG P ol.toArray (Q .normal) es [] a C) : evC P (.region id ol.toArray false) Q a C := fun H hs =>
  gev_L ol 0 es [] a H he (h [] H trivial hs)
theorem c_draw {l : List (Nat × Nat)} (hl : pairsF (canon P ol.toArray (Region.before ol.toArray)) = some l) (hc : canonOk P ol.toArray (Region.before ol.toArray) l = true) (he : entD ol.toArray l = some es)
    (h : evG P ol.toArray (Q .normal) es [] a C) : evC P (.region id ol.toArray true) Q a C := fun H hs => by
  have e := pairsF_eq hl
  exact .inl ⟨by rw [e]; exact hc, by rw [e]; exact gev_D l es [] a H he (h [] H trivial hs)⟩
theorem c_drawT {t : Tr} (hl : trF (canonT P ol.toArray (Region.before ol.toArray) (othersOf P ol.toArray).length [] (othersOf P ol.toArray)) = some t) (hc : treeOk P ol.toArray (Region.before ol.toArray) t = true) (he : entT ol.toArray t = some es)
    (h : evG P ol.toArray (Q .normal) es [] a C) : evC P (.region id ol.toArray true) Q a C := fun H hs =>
  .inr ⟨t, hc, gev_T t es [] a H he (h [] H trivial hs)⟩
end

/-! ### A function's contract out of its code -/
def retC (P : Program) (fn : Func) (K : Value → List HP → Prop) : Exit → Fr → List HP → Prop
  | Exit.normal => fun a C => ∀ H, Sats C H → resP P fn (upV K) a H
  | Exit.ret => fun a C => ∀ H, Sats C H → resP P fn (upV K) a H
  | _ => fun _ _ => False
theorem callT_intro {P : Program} (hm : P.follows .mixedOrders = true) {f : FuncId} {fn : Func} {c : Code} {args : Array Value} {C : List HP} {K : Value → List HP → Prop} (hf : P.funcs[f]? = some fn) (hb : fn.body = some c)
    (hn : (fn.name == "runtime.NumGoroutine") = false) (hc : codeOk fn.ntmps c = true) (hsz : args.size ≤ fn.ntmps) (h : evC P c (retC P fn K) (frameOf args.toList) C) : CallT P f args C K := fun H hs => by
  refine callS_intro hm hf hb hn hc hsz (ev_monoQ c (fun e a H hq => ?_) _ H (h H hs))
  obtain ⟨C', h1, h2⟩ := hq
  cases e <;> first | exact h2 H h1 | exact h2.elim

def resVC (P : Program) (a : Fr) (C : List HP) (rs : List ResultVar) (vs : List Value) : Prop := ∀ H, Sats C H → resVs P a H rs = some vs
theorem rc_nil {P : Program} {a : Fr} {C : List HP} : resVC P a C [] [] := fun _ _ => rfl
theorem rc_tmp {P : Program} {a : Fr} {C : List HP} {t : Tmp} {rs : List ResultVar} {v : Value} {vs : List Value} (hx : force (a t) = some v) (h : resVC P a C rs vs) : resVC P a C (.tmp t :: rs) (v :: vs) := fun H hs => rs_tmp hx (h H hs)

/-- what a chunk says of a block -/
def Has (C : List HP) (B : Nat) (cs : List Value) : Prop := ∀ H, Sats C H → ∃ e rw, H B = some (.cells cs e rw)
theorem has_pt {C : List HP} {B : Nat} {cs : List Value} {e : TypeId} : Has (pt B cs e :: C) B cs := fun H ⟨H1, H2, _, h1, _, ha, _⟩ => by
  obtain ⟨b, h, l⟩ := h1 B _ ha
  have := Blk.le_own l rfl
  subst this
  exact ⟨e, true, h⟩
theorem has_ro {C : List HP} {B : Nat} {cs : List Value} {e : TypeId} : Has (ro B cs e :: C) B cs := fun H ⟨H1, H2, _, h1, _, ha, _⟩ => by
  obtain ⟨b, h, l⟩ := h1 B _ ha
  rcases l with rfl | ⟨cs', e', h1, rfl⟩
  · exact ⟨e, false, h⟩
  · cases h1; exact ⟨e, true, h⟩
theorem has_there {A : HP} {C : List HP} {B : Nat} {cs : List Value} (h : Has C B cs) : Has (A :: C) B cs := fun H hs => h H hs.tail
theorem rc_cell {P : Program} {a : Fr} {C : List HP} {p : Tmp} {t : TypeId} {B off : Nat} {cs : List Value} {rs : List ResultVar} {v : Value} {vs : List Value} (hx : a p = .pointer (some ⟨B, off, none⟩)) (hb : Has C B cs) (hv : ldC P t cs off = some v)
    (h : resVC P a C rs vs) : resVC P a C (.cell p t :: rs) (v :: vs) := fun H hs => by
  obtain ⟨e, rw, hB⟩ := hb H hs
  exact rs_cell hx hB hv (h H hs)
theorem retC_r {P : Program} {fn : Func} {K : Value → List HP → Prop} {a : Fr} {C C' : List HP} {rs : List ResultVar} {vs : List Value} {v : Value} (hl : copyL fn.results.toList = some rs) (hv : resVC P a C rs vs) (ht : force (tupV vs) = some v) (he : Ent C C') (hk : K v C') :
    retC P fn K .ret a C := fun H hs => ⟨vs, by rw [copyL_eq hl]; exact hv H hs, H, Hsub.refl H, C', he H hs, by rw [force_eq ht]; exact hk⟩
theorem retC_n {P : Program} {fn : Func} {K : Value → List HP → Prop} {a : Fr} {C C' : List HP} {rs : List ResultVar} {vs : List Value} {v : Value} (hl : copyL fn.results.toList = some rs) (hv : resVC P a C rs vs) (ht : force (tupV vs) = some v) (he : Ent C C') (hk : K v C') :
    retC P fn K .normal a C := fun H hs => ⟨vs, by rw [copyL_eq hl]; exact hv H hs, H, Hsub.refl H, C', he H hs, by rw [force_eq ht]; exact hk⟩
end Go.Sl

namespace Go.Sl
theorem ba_size (l : List UInt8) : (ByteArray.mk l.toArray).size = l.length := by simp [ByteArray.size]
theorem bget {s : ByteArray} {j : Nat} {b : UInt8} (h : s.data.toList[j]? = some b) : s[((j : Int)).toNat]? = some b := by
  simp only [Int.toNat_natCast]
  rw [Array.getElem?_toList] at h
  exact h
theorem wrap_u8 (z : Int) : IntKind.wrap .u8 z = z % 256 := by
  simp [IntKind.wrap, IntKind.bits, IntKind.signed]
theorem wrap_u64 (z : Int) : IntKind.wrap .u64 z = z % 18446744073709551616 := by
  simp [IntKind.wrap, IntKind.bits, IntKind.signed]
theorem wrap_quo {k : IntKind} {m n : Int} (h0 : 0 ≤ m) (h1 : 0 < n) (hm : k.wrap (m / n) = m / n) : k.wrap (m / n) = m / n := hm
section
variable {P : Program} {a : Fr} {d : Option Tmp} {ty : TypeId} {pos : String} {after : Array Edge} {g : Option (Nat × Bool)} {t yt : TypeId} {x y z : Operand}
theorem pv_quoN {k : IntKind} {m n : Int} (hx : opd a x = .int k m) (hy : opd a y = .int k n) (h0 : 0 ≤ m) (h1 : 0 < n) (h2 : k.wrap (m / n) = m / n) : pureV P ⟨d, .binOp .quo t x y yt, ty, pos, after, g⟩ a = some (.int k (m / n)) := by
  have := pv_quo (P := P) (d := d) (t := t) (yt := yt) (ty := ty) (pos := pos) (after := after) (g := g) hx hy (by omega)
  rw [this, Int.tdiv_eq_ediv_of_nonneg h0, h2]
theorem pv_remN {k : IntKind} {m n : Int} (hx : opd a x = .int k m) (hy : opd a y = .int k n) (h0 : 0 ≤ m) (h1 : 0 < n) : pureV P ⟨d, .binOp .rem t x y yt, ty, pos, after, g⟩ a = some (.int k (m % n)) := by
  have := pv_rem (P := P) (d := d) (t := t) (yt := yt) (ty := ty) (pos := pos) (after := after) (g := g) hx hy (by omega)
  rw [this, Int.tmod_eq_emod_of_nonneg h0]
theorem pv_neg64 {n : Int} (hx : opd a x = .int .i64 n) (h0 : -9223372036854775808 ≤ 0 - n) (h1 : 0 - n ≤ 9223372036854775807) : pureV P ⟨d, .unOp .neg t x, ty, pos, after, g⟩ a = some (.int .i64 (0 - n)) := by
  have := pv_neg (P := P) (d := d) (t := t) (ty := ty) (pos := pos) (after := after) (g := g) hx
  rw [this, wrap64 h0 h1]
theorem pv_maxN {k k' : IntKind} {m n : Int} {as : Array Operand} {ts : Array TypeId} (hargs : as.toList.map (opd a) = [.int k m, .int k' n]) : pureV P ⟨d, .call { callee := .builtin .max, args := as, argTypes := ts }, ty, pos, after, g⟩ a = some (.int k (max m n)) := by
  rw [pv_max hargs]
  congr 2
  split <;> omega
theorem pv_conv8 {t' : TypeId} {k' : IntKind} {n : Int} (hs : (P.underlying t).isSome = true) (ht : intT P t' = some .u8) (hx : opd a x = .int k' n) : pureV P ⟨d, .convert t t' x, ty, pos, after, g⟩ a = some (.int .u8 (n % 256)) := by
  have := pv_conv (P := P) (d := d) (ty := ty) (pos := pos) (after := after) (g := g) hs ht hx
  rw [wrap_u8] at this; exact this
theorem pv_convu {t' : TypeId} {k' : IntKind} {n : Int} (hs : (P.underlying t).isSome = true) (ht : intT P t' = some .u64) (hx : opd a x = .int k' n) : pureV P ⟨d, .convert t t' x, ty, pos, after, g⟩ a = some (.int .u64 (n % 18446744073709551616)) := by
  have := pv_conv (P := P) (d := d) (ty := ty) (pos := pos) (after := after) (g := g) hs ht hx
  rw [wrap_u64] at this; exact this
end
section
variable {P : Program} {ops : Array Oper} {Q : Fr → List HP → Prop} {a : Fr} {C : List HP} {c : Nat} {g : Bool} {o : Oper} {es : ET} {hist : List (List HP)} {v : Value} {k : Value → List HP → Prop}
end
section
variable {P : Program} {ops : Array Oper} {Q : Fr → List HP → Prop} {a : Fr} {C : List HP} {c : Nat} {gd : Bool} {es : ET} {hist : List (List HP)} {d' : Tmp} {d : Option Tmp} {v : Value} {k : Value → List HP → Prop}
variable {ty : TypeId} {pos : String} {after : Array Edge} {g : Option (Nat × Bool)} {t yt : TypeId} {x y z : Operand} {op : Op}
theorem G_skip (h : evG P ops Q es hist (upd a d' undef) C) (hw : wantB ops ⟨some d', op, ty, pos, after, g⟩ a = false := by exact rfl) : evG P ops Q (ET.cons (c, gd, ⟨some d', op, ty, pos, after, g⟩) es) hist a C := evG_s hw h
theorem G_skip0 (h : evG P ops Q es hist a C) (hw : wantB ops ⟨none, op, ty, pos, after, g⟩ a = false := by exact rfl) : evG P ops Q (ET.cons (c, gd, ⟨none, op, ty, pos, after, g⟩) es) hist a C := evG_s hw h
theorem G_pure0 (h : evG P ops Q es hist (upd a d' v) C) (hv : opV P op a = some v := by exact rfl) (hw : wantB ops ⟨some d', op, ty, pos, after, g⟩ a = true := by exact rfl) : evG P ops Q (ET.cons (c, false, ⟨some d', op, ty, pos, after, g⟩) es) hist a C :=
  evG_p (opV_kd hv) hw (opV_pure hv) (spl_no rfl h)
theorem G_pure (h : spl gd v fun v => evG P ops Q es hist (upd a d' v) C) (hv : opV P op a = some v := by exact rfl) (hw : wantB ops ⟨some d', op, ty, pos, after, g⟩ a = true := by exact rfl) : evG P ops Q (ET.cons (c, gd, ⟨some d', op, ty, pos, after, g⟩) es) hist a C :=
  evG_p (opV_kd hv) hw (opV_pure hv) h
theorem G_add64 {m n : Int} (h : spl gd (.int .i64 (m + n)) fun v => evG P ops Q es hist (upd a d' v) C) (hx : opd a x = .int .i64 m := by exact rfl) (hy : opd a y = .int .i64 n := by exact rfl) (h0 : -9223372036854775808 ≤ m + n := by first | omega | assumption) (h1 : m + n ≤ 9223372036854775807 := by first | omega | assumption) (hw : wantB ops ⟨some d', .binOp .add t x y yt, ty, pos, after, g⟩ a = true := by exact rfl) : evG P ops Q (ET.cons (c, gd, ⟨some d', .binOp .add t x y yt, ty, pos, after, g⟩) es) hist a C :=
  evG_p rfl hw (pv_add64 hx hy h0 h1) h
theorem G_sub64 {m n : Int} (h : spl gd (.int .i64 (m - n)) fun v => evG P ops Q es hist (upd a d' v) C) (hx : opd a x = .int .i64 m := by exact rfl) (hy : opd a y = .int .i64 n := by exact rfl) (h0 : -9223372036854775808 ≤ m - n := by first | omega | assumption) (h1 : m - n ≤ 9223372036854775807 := by first | omega | assumption) (hw : wantB ops ⟨some d', .binOp .sub t x y yt, ty, pos, after, g⟩ a = true := by exact rfl) : evG P ops Q (ET.cons (c, gd, ⟨some d', .binOp .sub t x y yt, ty, pos, after, g⟩) es) hist a C :=
  evG_p rfl hw (pv_sub64 hx hy h0 h1) h
theorem G_mul64 {m n : Int} (h : spl gd (.int .i64 (m * n)) fun v => evG P ops Q es hist (upd a d' v) C) (hx : opd a x = .int .i64 m := by exact rfl) (hy : opd a y = .int .i64 n := by exact rfl) (h0 : -9223372036854775808 ≤ m * n := by first | omega | assumption) (h1 : m * n ≤ 9223372036854775807 := by first | omega | assumption) (hw : wantB ops ⟨some d', .binOp .mul t x y yt, ty, pos, after, g⟩ a = true := by exact rfl) : evG P ops Q (ET.cons (c, gd, ⟨some d', .binOp .mul t x y yt, ty, pos, after, g⟩) es) hist a C :=
  evG_p rfl hw (pv_mul64 hx hy h0 h1) h
theorem G_quo {k : IntKind} {m n : Int} (h : spl gd (.int k (m / n)) fun v => evG P ops Q es hist (upd a d' v) C) (hx : opd a x = .int k m := by exact rfl) (hy : opd a y = .int k n := by exact rfl) (h0 : 0 ≤ m := by first | omega | assumption) (h1 : 0 < n := by first | omega | assumption) (h2 : k.wrap (m / n) = m / n := by first | (refine wrap64 ?_ ?_ <;> omega) | (refine wrap_quo ?_ ?_ (by assumption) <;> omega)) (hw : wantB ops ⟨some d', .binOp .quo t x y yt, ty, pos, after, g⟩ a = true := by exact rfl) : evG P ops Q (ET.cons (c, gd, ⟨some d', .binOp .quo t x y yt, ty, pos, after, g⟩) es) hist a C :=
  evG_p rfl hw (pv_quoN hx hy h0 h1 h2) h
theorem G_rem {k : IntKind} {m n : Int} (h : spl gd (.int k (m % n)) fun v => evG P ops Q es hist (upd a d' v) C) (hx : opd a x = .int k m := by exact rfl) (hy : opd a y = .int k n := by exact rfl) (h0 : 0 ≤ m := by first | omega | assumption) (h1 : 0 < n := by first | omega | assumption) (hw : wantB ops ⟨some d', .binOp .rem t x y yt, ty, pos, after, g⟩ a = true := by exact rfl) : evG P ops Q (ET.cons (c, gd, ⟨some d', .binOp .rem t x y yt, ty, pos, after, g⟩) es) hist a C :=
  evG_p rfl hw (pv_remN hx hy h0 h1) h
theorem G_neg64 {n : Int} (h : spl gd (.int .i64 (0 - n)) fun v => evG P ops Q es hist (upd a d' v) C) (hx : opd a x = .int .i64 n := by exact rfl) (h0 : -9223372036854775808 ≤ 0 - n := by first | omega | assumption) (h1 : 0 - n ≤ 9223372036854775807 := by first | omega | assumption) (hw : wantB ops ⟨some d', .unOp .neg t x, ty, pos, after, g⟩ a = true := by exact rfl) : evG P ops Q (ET.cons (c, gd, ⟨some d', .unOp .neg t x, ty, pos, after, g⟩) es) hist a C :=
  evG_p rfl hw (pv_neg64 hx h0 h1) h
theorem G_not {b : Bool} {v : Value} (h : spl gd (v) fun v => evG P ops Q es hist (upd a d' v) C) (hx : opd a x = .bool b := by exact rfl) (hv : force (.bool !b) = some v := by exact rfl) (hw : wantB ops ⟨some d', .unOp .not t x, ty, pos, after, g⟩ a = true := by exact rfl) : evG P ops Q (ET.cons (c, gd, ⟨some d', .unOp .not t x, ty, pos, after, g⟩) es) hist a C :=
  evG_p rfl hw (pv_not hx hv) h
theorem G_cat {m n : ByteArray} (h : spl gd (.string (m ++ n)) fun v => evG P ops Q es hist (upd a d' v) C) (hx : opd a x = .string m := by exact rfl) (hy : opd a y = .string n := by exact rfl) (hs : m.size + n.size ≤ 9223372036854775807 := by first | omega | (simp [ba_size] <;> omega) | decide) (hw : wantB ops ⟨some d', .binOp .add t x y yt, ty, pos, after, g⟩ a = true := by exact rfl) : evG P ops Q (ET.cons (c, gd, ⟨some d', .binOp .add t x y yt, ty, pos, after, g⟩) es) hist a C :=
  evG_p rfl hw (pv_cat hx hy hs) h
theorem G_index {B off n cp sz : Nat} {k : IntKind} {j : Int} (h : spl gd (.pointer (some ⟨B, off + j.toNat * sz, none⟩)) fun v => evG P ops Q es hist (upd a d' v) C) (hx : opd a x = .slice (some ⟨B, off, none⟩) n cp := by exact rfl) (hy : opd a y = .int k j := by exact rfl) (ht : elemSz P t = some sz := by exact rfl) (h0 : 0 ≤ j := by first | omega | assumption) (h1 : j < n := by first | omega | assumption) (hw : wantB ops ⟨some d', .indexAddr t x y, ty, pos, after, g⟩ a = true := by exact rfl) : evG P ops Q (ET.cons (c, gd, ⟨some d', .indexAddr t x y, ty, pos, after, g⟩) es) hist a C :=
  evG_p rfl hw (pv_index ht hx hy h0 h1) h
theorem G_indexA {B off n sz : Nat} {k : IntKind} {j : Int} (h : spl gd (.pointer (some ⟨B, off + j.toNat * sz, none⟩)) fun v => evG P ops Q es hist (upd a d' v) C) (hx : opd a x = .pointer (some ⟨B, off, none⟩) := by exact rfl) (hy : opd a y = .int k j := by exact rfl) (ht : arrT P t = some (n, sz) := by exact rfl) (h0 : 0 ≤ j := by first | omega | assumption) (h1 : j < n := by first | omega | assumption) (hw : wantB ops ⟨some d', .indexAddr t x y, ty, pos, after, g⟩ a = true := by exact rfl) : evG P ops Q (ET.cons (c, gd, ⟨some d', .indexAddr t x y, ty, pos, after, g⟩) es) hist a C :=
  evG_p rfl hw (pv_indexA ht hx hy h0 h1) h
theorem G_indexS {s : ByteArray} {k : IntKind} {j : Int} {b : UInt8} (h : spl gd (.int .u8 b.toNat) fun v => evG P ops Q es hist (upd a d' v) C) (hx : opd a x = .string s := by exact rfl) (hy : opd a y = .int k j := by exact rfl) (ht : isStrT P t = true := by exact rfl) (h0 : 0 ≤ j := by first | omega | assumption) (hb : s[j.toNat]? = some b := by first | assumption | exact bget (by assumption)) (hw : wantB ops ⟨some d', .index t x y, ty, pos, after, g⟩ a = true := by exact rfl) : evG P ops Q (ET.cons (c, gd, ⟨some d', .index t x y, ty, pos, after, g⟩) es) hist a C :=
  evG_p rfl hw (pv_indexS ht hx hy h0 hb) h
theorem G_slo {s : ByteArray} {k : IntKind} {j : Int} (h : spl gd (.string (s.extract j.toNat s.size)) fun v => evG P ops Q es hist (upd a d' v) C) (hx : opd a x = .string s := by exact rfl) (hy : opd a y = .int k j := by exact rfl) (ht : isStrT P t = true := by exact rfl) (h0 : 0 ≤ j := by first | omega | assumption) (h1 : j ≤ s.size := by first | omega | assumption) (hw : wantB ops ⟨some d', .slice t x (some y) none none, ty, pos, after, g⟩ a = true := by exact rfl) : evG P ops Q (ET.cons (c, gd, ⟨some d', .slice t x (some y) none none, ty, pos, after, g⟩) es) hist a C :=
  evG_p rfl hw (pv_strslice_lo ht hx hy h0 h1) h
theorem G_shi {s : ByteArray} {k : IntKind} {j : Int} (h : spl gd (.string (s.extract 0 j.toNat)) fun v => evG P ops Q es hist (upd a d' v) C) (hx : opd a x = .string s := by exact rfl) (hy : opd a y = .int k j := by exact rfl) (ht : isStrT P t = true := by exact rfl) (h0 : 0 ≤ j := by first | omega | assumption) (h1 : j ≤ s.size := by first | omega | assumption) (hw : wantB ops ⟨some d', .slice t x none (some y) none, ty, pos, after, g⟩ a = true := by exact rfl) : evG P ops Q (ET.cons (c, gd, ⟨some d', .slice t x none (some y) none, ty, pos, after, g⟩) es) hist a C :=
  evG_p rfl hw (pv_strslice_hi ht hx hy h0 h1) h
theorem G_slh {s : ByteArray} {k k' : IntKind} {j m : Int} (h : spl gd (.string (s.extract j.toNat m.toNat)) fun v => evG P ops Q es hist (upd a d' v) C) (hx : opd a x = .string s := by exact rfl) (hy : opd a y = .int k j := by exact rfl) (hz : opd a z = .int k' m := by exact rfl) (ht : isStrT P t = true := by exact rfl) (h0 : 0 ≤ j := by first | omega | assumption) (h1 : j ≤ m := by first | omega | assumption) (h2 : m ≤ s.size := by first | omega | assumption) (hw : wantB ops ⟨some d', .slice t x (some y) (some z) none, ty, pos, after, g⟩ a = true := by exact rfl) : evG P ops Q (ET.cons (c, gd, ⟨some d', .slice t x (some y) (some z) none, ty, pos, after, g⟩) es) hist a C :=
  evG_p rfl hw (pv_strslice ht hx hy hz h0 h1 h2) h
theorem G_build {ps : Array (Nat × Operand)} {vs : List (Nat × Value)} {v : Value} (h : spl gd (v) fun v => evG P ops Q es hist (upd a d' v) C) (hps : partsV a ps.toList = some vs := by exact rfl) (hv : buildV P t vs = some v := by exact rfl) (hw : wantB ops ⟨some d', .build t ps, ty, pos, after, g⟩ a = true := by exact rfl) : evG P ops Q (ET.cons (c, gd, ⟨some d', .build t ps, ty, pos, after, g⟩) es) hist a C :=
  evG_p rfl hw (pv_build hps hv) h
theorem G_max {k k' : IntKind} {m n : Int} {as : Array Operand} {ts : Array TypeId} (h : spl gd (.int k (max m n)) fun v => evG P ops Q es hist (upd a d' v) C) (hargs : as.toList.map (opd a) = [.int k m, .int k' n] := by exact rfl) (hw : wantB ops ⟨some d', .call { callee := .builtin .max, args := as, argTypes := ts }, ty, pos, after, g⟩ a = true := by exact rfl) : evG P ops Q (ET.cons (c, gd, ⟨some d', .call { callee := .builtin .max, args := as, argTypes := ts }, ty, pos, after, g⟩) es) hist a C :=
  evG_p rfl hw (pv_maxN hargs) h
theorem G_eql_agg {xs ys : Array Value} {b : Bool} (h : spl gd (.bool b) fun v => evG P ops Q es hist (upd a d' v) C) (hx : opd a x = .agg xs := by exact rfl) (hy : opd a y = .agg ys := by exact rfl) (hg : (!P.eqGuardType P.depth t && eqFree P 20 t) = true := by decide +kernel) (he : eqV P 20 t (.agg xs) (.agg ys) = some b := by exact rfl) (hw : wantB ops ⟨some d', .binOp .eql t x y yt, ty, pos, after, g⟩ a = true := by exact rfl) : evG P ops Q (ET.cons (c, gd, ⟨some d', .binOp .eql t x y yt, ty, pos, after, g⟩) es) hist a C :=
  evG_p rfl hw (pv_eql_agg hx hy hg he) h
theorem G_neq_agg {xs ys : Array Value} {b : Bool} (h : spl gd (.bool (!b)) fun v => evG P ops Q es hist (upd a d' v) C) (hx : opd a x = .agg xs := by exact rfl) (hy : opd a y = .agg ys := by exact rfl) (hg : (!P.eqGuardType P.depth t && eqFree P 20 t) = true := by decide +kernel) (he : eqV P 20 t (.agg xs) (.agg ys) = some b := by exact rfl) (hw : wantB ops ⟨some d', .binOp .neq t x y yt, ty, pos, after, g⟩ a = true := by exact rfl) : evG P ops Q (ET.cons (c, gd, ⟨some d', .binOp .neq t x y yt, ty, pos, after, g⟩) es) hist a C :=
  evG_p rfl hw (pv_neq_agg hx hy hg he) h
theorem G_conv64 {t' : TypeId} {k' : IntKind} {n : Int} (h : spl gd (.int .i64 n) fun v => evG P ops Q es hist (upd a d' v) C) (hx : opd a x = .int k' n := by exact rfl) (ht : intT P t' = some .i64 := by exact rfl) (hs : (P.underlying t).isSome = true := by exact rfl) (h0 : -9223372036854775808 ≤ n := by first | omega | assumption) (h1 : n ≤ 9223372036854775807 := by first | omega | assumption) (hk : kd P (.convert t t' x) = .pure := by exact rfl) (hw : wantB ops ⟨some d', .convert t t' x, ty, pos, after, g⟩ a = true := by exact rfl) : evG P ops Q (ET.cons (c, gd, ⟨some d', .convert t t' x, ty, pos, after, g⟩) es) hist a C :=
  evG_p hk hw (pv_conv64 hs ht hx h0 h1) h
theorem G_conv8 {t' : TypeId} {k' : IntKind} {n : Int} (h : spl gd (.int .u8 (n % 256)) fun v => evG P ops Q es hist (upd a d' v) C) (hx : opd a x = .int k' n := by exact rfl) (ht : intT P t' = some .u8 := by exact rfl) (hs : (P.underlying t).isSome = true := by exact rfl) (hk : kd P (.convert t t' x) = .pure := by exact rfl) (hw : wantB ops ⟨some d', .convert t t' x, ty, pos, after, g⟩ a = true := by exact rfl) : evG P ops Q (ET.cons (c, gd, ⟨some d', .convert t t' x, ty, pos, after, g⟩) es) hist a C :=
  evG_p hk hw (pv_conv8 hs ht hx) h
theorem G_convu {t' : TypeId} {k' : IntKind} {n : Int} (h : spl gd (.int .u64 (n % 18446744073709551616)) fun v => evG P ops Q es hist (upd a d' v) C) (hx : opd a x = .int k' n := by exact rfl) (ht : intT P t' = some .u64 := by exact rfl) (hs : (P.underlying t).isSome = true := by exact rfl) (hk : kd P (.convert t t' x) = .pure := by exact rfl) (hw : wantB ops ⟨some d', .convert t t' x, ty, pos, after, g⟩ a = true := by exact rfl) : evG P ops Q (ET.cons (c, gd, ⟨some d', .convert t t' x, ty, pos, after, g⟩) es) hist a C :=
  evG_p hk hw (pv_convu hs ht hx) h
theorem G_conv {t' : TypeId} {k k' : IntKind} {n : Int} (h : spl gd (.int k (k.wrap n)) fun v => evG P ops Q es hist (upd a d' v) C) (hx : opd a x = .int k' n := by exact rfl) (ht : intT P t' = some k := by exact rfl) (hs : (P.underlying t).isSome = true := by exact rfl) (hk : kd P (.convert t t' x) = .pure := by exact rfl) (hw : wantB ops ⟨some d', .convert t t' x, ty, pos, after, g⟩ a = true := by exact rfl) : evG P ops Q (ET.cons (c, gd, ⟨some d', .convert t t' x, ty, pos, after, g⟩) es) hist a C :=
  evG_p hk hw (pv_conv hs ht hx) h
/-! loads -/
theorem rd_has {B off : Nat} {cs : List Value} (hb : Has C B cs) (hx : opd a x = .pointer (some ⟨B, off, none⟩)) (hv : ldC P t cs off = some v) : RdC P ⟨d, .load t x, ty, pos, after, g⟩ a C v := fun H hs => by
  obtain ⟨e, rw, hB⟩ := hb H hs
  exact rv_load (by rw [hx]; exact ldC_ldV hB hv)
/-- the same load in what was before -/
def HasL (P : Program) (t : TypeId) (B off : Nat) (v : Value) (C : List HP) : Prop := ∃ cs, Has C B cs ∧ ldC P t cs off = some v
theorem hl_mk {B off : Nat} {cs : List Value} (hb : Has C B cs := by ((repeat (first | exact has_pt | exact has_ro | apply has_there)) <;> exact has_pt)) (hv : ldC P t cs off = some v := by exact rfl) : HasL P t B off v C := ⟨cs, hb, hv⟩
theorem ar_nil {p : List HP → Prop} : allRd p [] := trivial
theorem ar_cons {p : List HP → Prop} {l : List (List HP)} (h : p C) (hl : allRd p l) : allRd p (C :: l) := ⟨h, hl⟩
theorem ar_imp {p q : List HP → Prop} (hpq : ∀ C, p C → q C) : ∀ {l : List (List HP)}, allRd p l → allRd q l
  | [], _ => trivial
  | _ :: _, h => ⟨hpq _ h.1, ar_imp hpq h.2⟩
theorem G_load {B off : Nat} {cs : List Value} (h : spl gd v fun v => evG P ops Q es hist (upd a d' v) C) (hx : opd a x = .pointer (some ⟨B, off, none⟩) := by exact rfl)
    (hb : Has C B cs := by ((repeat (first | exact has_pt | exact has_ro | apply has_there)) <;> exact has_pt)) (hv : ldC P t cs off = some v := by exact rfl)
    (hh : allRd (HasL P t B off v) (hist.take c) := by ((repeat (first | exact ar_nil | refine ar_cons hl_mk ?_)) <;> exact ar_nil))
    (hw : wantB ops ⟨some d', .load t x, ty, pos, after, g⟩ a = true := by exact rfl) : evG P ops Q (ET.cons (c, gd, ⟨some d', .load t x, ty, pos, after, g⟩) es) hist a C :=
  evG_r rfl hw (rd_has hb hx hv) (ar_imp (fun _ ⟨_, k1, k2⟩ => rd_has k1 hx k2) hh) h

/-! stores, new memory -/
theorem sats_pt {B : Nat} {cs : List Value} {e : TypeId} {H : Hp} (hs : Sats (pt B cs e :: C) H) : H B = some (.cells cs e true) ∧ ∀ b : Blk, (∃ cs', b = .cells cs' e true) → Sats C (hupd H B b) := by
  obtain ⟨H1, H2, hc, h1, h2, ha, hs⟩ := hs
  obtain ⟨b, hb, l⟩ := h1 B _ ha
  have := Blk.le_own l rfl
  subst this
  refine ⟨hb, fun b _ => hs.mono fun r x hx => ?_⟩
  have hne : r ≠ B := fun e => by subst e; have := (hc r _ x ha hx).1; cases this
  rw [hupd_ne _ _ hne]
  exact h2 r x hx
theorem sats_new {r : Nat} {cs : List Value} {e : TypeId} {H : Hp} (hr : H r = none) (hs : Sats C H) : Sats (pt r cs e :: C) (hupd H r (.cells cs e true)) :=
  ⟨hone r (.cells cs e true), H, (fun B b x hb hx => by rw [(hone_eq hb).1, hr] at hx; cases hx), hone_le (hupd_same _ _ _) (Blk.le_refl _),
    (fun B b hb => ⟨b, by rw [hupd_ne _ _ (fun e => by subst e; rw [hr] at hb; cases hb)]; exact hb, b.le_refl⟩), hone_same _ _, hs⟩
theorem sats_put {B : Nat} {cs cs' : List Value} {e : TypeId} {H : Hp} (hs : Sats (pt B cs e :: C) H) : Sats (pt B cs' e :: C) (hupd H B (.cells cs' e true)) := by
  obtain ⟨H1, H2, hc, h1, h2, ha, hs⟩ := hs
  have hn : H2 B = none := by
    cases hx : H2 B with
    | none => rfl
    | some x => have := (hc B _ x ha hx).1; cases this
  refine ⟨hone B (.cells cs' e true), H2, (fun r b x hb hx => by rw [(hone_eq hb).1, hn] at hx; cases hx), hone_le (hupd_same _ _ _) (Blk.le_refl _), fun r b hb => ?_, hone_same _ _, hs⟩
  rw [hupd_ne _ _ (fun e => by subst e; rw [hn] at hb; cases hb)]
  exact h2 r b hb
theorem G_o (h : EvOp P ⟨some d', op, ty, pos, after, g⟩ a C fun v C' => spl gd v fun v => evG P ops Q es (C :: hist) (upd a d' v) C') (hk : kd P op = .other := by exact rfl) (hw : wantB ops ⟨some d', op, ty, pos, after, g⟩ a = true := by exact rfl) :
    evG P ops Q (ET.cons (c, gd, ⟨some d', op, ty, pos, after, g⟩) es) hist a C := evG_o hk hw h
theorem G_o0 (h : EvOp P ⟨none, op, ty, pos, after, g⟩ a C fun _ C' => evG P ops Q es (C :: hist) a C') (hk : kd P op = .other := by exact rfl) (hw : wantB ops ⟨none, op, ty, pos, after, g⟩ a = true := by exact rfl) :
    evG P ops Q (ET.cons (c, gd, ⟨none, op, ty, pos, after, g⟩) es) hist a C := evG_o hk hw fun H hs => evOp_mono (fun _ _ ⟨C', h1, h2⟩ => ⟨C', h1, (spl_iff _ _ _).2 h2⟩) (h H hs)
theorem G_store {B off n : Nat} {cs cs' vs : List Value} {e : TypeId} {u : Value} {R : List HP} (h : evG P ops Q es (C :: hist) a (pt B cs' e :: R)) (hx : opd a x = .pointer (some ⟨B, off, none⟩) := by exact rfl)
    (hp : Pick (pt B cs e) C R := by ((repeat (first | exact Pick.here | apply Pick.there)) <;> exact Pick.here)) (hy : force (opd a y) = some u := by exact rfl) (hvs : copyL u.cells.toList = some vs := by exact rfl) (ht : infoSz P t = some n := by exact rfl)
    (hn : (vs.length == n) = true := by exact rfl) (hone : (vs.all Value.oneCell') = true := by exact rfl) (hle : Nat.ble (off + n) cs.length = true := by exact rfl) (hs : copyL (setF cs off vs) = some cs' := by exact rfl)
    (hw : wantB ops ⟨none, .store t x y, ty, pos, after, g⟩ a = true := by exact rfl) : evG P ops Q (ET.cons (c, gd, ⟨none, .store t x y, ty, pos, after, g⟩) es) hist a C :=
  G_o0 (hw := hw) fun H hH => by
    have h1 := hp.sats hH
    exact eo_store_c hx hy hvs ht hn hone (sats_pt h1).1 hle hs ⟨_, sats_put h1, h⟩
theorem G_alloc {zs zs' : List Value} (h : ∀ r, spl gd (.pointer (some ⟨r, 0, none⟩)) fun v => evG P ops Q es (C :: hist) (upd a d' v) (pt r zs' t :: C)) (hz : zeroL P t = some zs := by exact rfl) (hc : copyL zs = some zs' := by exact rfl)
    (hw : wantB ops ⟨some d', .alloc t, ty, pos, after, g⟩ a = true := by exact rfl) : evG P ops Q (ET.cons (c, gd, ⟨some d', .alloc t, ty, pos, after, g⟩) es) hist a C :=
  evG_o rfl hw fun H hH => eo_alloc_c hz hc fun r hr => ⟨_, sats_new hr hH, h r⟩
theorem G_box {u : Value} {vs : List Value} (h : ∀ r, spl gd (.pointer (some ⟨r, 0, none⟩)) fun v => evG P ops Q es (C :: hist) (upd a d' v) (pt r vs t :: C)) (hx : force (opd a x) = some u := by exact rfl) (hvs : copyL u.cells.toList = some vs := by exact rfl)
    (hw : wantB ops ⟨some d', .box t x, ty, pos, after, g⟩ a = true := by exact rfl) : evG P ops Q (ET.cons (c, gd, ⟨some d', .box t x, ty, pos, after, g⟩) es) hist a C :=
  evG_o rfl hw fun H hH => eo_box_c hx hvs fun r hr => ⟨_, sats_new hr hH, h r⟩
theorem G_buildSlice {ps : Array (Nat × Operand)} {n : Nat} {vs : List (Nat × Value)} {cs : List Value} {e : TypeId} (h : ∀ r, spl gd (.slice (some ⟨r, 0, none⟩) n n) fun v => evG P ops Q es (C :: hist) (upd a d' v) (pt r cs e :: C))
    (hps : partsV a ps.toList = some vs := by exact rfl) (he : elemOfS P t = some e := by exact rfl) (hc : bsCells P t n vs = some cs := by exact rfl)
    (hw : wantB ops ⟨some d', .buildSlice t n ps, ty, pos, after, g⟩ a = true := by exact rfl) : evG P ops Q (ET.cons (c, gd, ⟨some d', .buildSlice t n ps, ty, pos, after, g⟩) es) hist a C :=
  evG_o rfl hw fun H hH => eo_buildSlice hps he hc fun r hr => ⟨_, sats_new hr hH, h r⟩
/-! calls -/
theorem G_call {f : FuncId} {as : Array Operand} {ts : Array TypeId} {vs : List Value} (h : CallT P f vs.toArray C fun v C' => spl gd v fun v => evG P ops Q es (C :: hist) (upd a d' v) C') (hargs : forceL a as.toList = some vs := by exact rfl)
    (hw : wantB ops ⟨some d', .call { callee := .value (.func f), args := as, argTypes := ts }, ty, pos, after, g⟩ a = true := by exact rfl) :
    evG P ops Q (ET.cons (c, gd, ⟨some d', .call { callee := .value (.func f), args := as, argTypes := ts }, ty, pos, after, g⟩) es) hist a C :=
  evG_o rfl hw fun H hH => eo_call hargs (h H hH)
theorem G_call0 {f : FuncId} {as : Array Operand} {ts : Array TypeId} {vs : List Value} (h : CallT P f vs.toArray C fun _ C' => evG P ops Q es (C :: hist) a C') (hargs : forceL a as.toList = some vs := by exact rfl)
    (hw : wantB ops ⟨none, .call { callee := .value (.func f), args := as, argTypes := ts }, ty, pos, after, g⟩ a = true := by exact rfl) :
    evG P ops Q (ET.cons (c, gd, ⟨none, .call { callee := .value (.func f), args := as, argTypes := ts }, ty, pos, after, g⟩) es) hist a C :=
  G_o0 (hw := hw) fun H hH => eo_call hargs (h H hH)
theorem G_callv {f : FuncId} {fs cs : Array Value} {as : Array Operand} {ts : Array TypeId} {vs ws : List Value} (h : CallT P f ws.toArray C fun v C' => spl gd v fun v => evG P ops Q es (C :: hist) (upd a d' v) C') (hx : opd a x = .func (.func f) fs cs := by exact rfl) (hargs : forceL a as.toList = some vs := by exact rfl)
    (hws : copyL (fs.toList ++ vs ++ cs.toList) = some ws := by exact rfl) (hw : wantB ops ⟨some d', .call { callee := .value x, args := as, argTypes := ts }, ty, pos, after, g⟩ a = true := by exact rfl) :
    evG P ops Q (ET.cons (c, gd, ⟨some d', .call { callee := .value x, args := as, argTypes := ts }, ty, pos, after, g⟩) es) hist a C :=
  evG_o rfl hw fun H hH => eo_callv hx hargs (by have e := copyL_eq hws; have e2 : (fs ++ vs.toArray ++ cs) = ws.toArray := by apply Array.ext'; simp [← e]
                                                 rw [e2]; exact h H hH)
theorem G_callv0 {f : FuncId} {fs cs : Array Value} {as : Array Operand} {ts : Array TypeId} {vs ws : List Value} (h : CallT P f ws.toArray C fun _ C' => evG P ops Q es (C :: hist) a C') (hx : opd a x = .func (.func f) fs cs := by exact rfl) (hargs : forceL a as.toList = some vs := by exact rfl)
    (hws : copyL (fs.toList ++ vs ++ cs.toList) = some ws := by exact rfl) (hw : wantB ops ⟨none, .call { callee := .value x, args := as, argTypes := ts }, ty, pos, after, g⟩ a = true := by exact rfl) :
    evG P ops Q (ET.cons (c, gd, ⟨none, .call { callee := .value x, args := as, argTypes := ts }, ty, pos, after, g⟩) es) hist a C :=
  G_o0 (hw := hw) fun H hH => eo_callv hx hargs (by have e := copyL_eq hws; have e2 : (fs ++ vs.toArray ++ cs) = ws.toArray := by apply Array.ext'; simp [← e]
                                                    rw [e2]; exact h H hH)
end
end Go.Sl

namespace Go.Sl

theorem ev_append2 {P : Program} {H : Hp} {st xt ty e : TypeId} {inf : TypeInfo} {z x : Value} {A : Option Addr} {n m c : Nat} {xs news : List Value} {q : Value → Hp → Prop} (hst : P.underlying st = some (.slice e)) (hxt : notIntT P xt = true) (hi : P.info? e = some inf) (hz : inf.zero = some z)
    (hzs : z.cells.size = inf.size) (hlen : (Builtin.lenOf x).pr P = some m) (hnews : (Builtin.firstCells inf.size m x).rd P H = some news.toArray) (hnl : news.length = m * inf.size) (hone : (news.all Value.oneCell') = true) (hxl : xs.length = n * inf.size)
    (hrow : (A = none ∧ n = 0 ∧ c = 0) ∨ ∃ B pre post e' rw, A = some ⟨B, pre.length, none⟩ ∧ H B = some (.cells (pre ++ xs ++ post) e' rw) ∧ n ≤ c ∧ (c - n) * inf.size ≤ post.length ∧ (m = 0 ∨ rw = true ∨ c < n + m))
    (hbig : (2 * (n + m) + 512) * inf.bytes ≤ 281474976710656) (hby : inf.bytes ≠ 0)
    (h0 : m = 0 → q (.slice A n c) H)
    (h1 : ∀ B pre post e', A = some ⟨B, pre.length, none⟩ → H B = some (.cells (pre ++ xs ++ post) e' true) → n + m ≤ c → (c - n) * inf.size ≤ post.length → q (.slice A (n + m) c) (hupd H B (.cells (pre ++ (xs ++ news) ++ post.drop news.length) e' true)))
    (hk : ∀ r post N, H r = none → n + m ≤ N → post.length = (N - (n + m)) * inf.size → c < n + m → q (.slice (some ⟨r, 0, none⟩) (n + m) N) (hupd H r (.cells (xs ++ news ++ post) e true))) :
    (Builtin.append_ #[st, xt] ty #[.slice A n c, x]).ev P H q := by
  obtain ⟨D, hD, hDn⟩ := notIntT_spec hxt
  unfold Builtin.append_
  simp only [List.getElem?_toArray, List.getElem?_cons_zero, List.getElem?_cons_succ]
  rw [ev_bind', ev_pr_eq (pr_underlying hst)]
  simp only
  rw [ev_bind', ev_pr_eq (pr_sizeOf hi)]
  rw [ev_bind', ev_pr_eq (pr_underlying hD), pure_bind]
  simp only [Bool.false_eq_true, if_false, Bool.not_false, if_true, false_or]
  rw [ev_bind', ev_pr_eq hlen]
  by_cases hle : n + m ≤ c
  · rw [if_pos hle, ev_bind']
    refine ev_rd_eq hnews ?_
    rcases hrow with ⟨g1, g2, g3⟩ | ⟨B, pre, post, e', rw, g1, hb, hnc, hpl, hrw⟩
    · subst g1 g2 g3
      have hm0 : m = 0 := by omega
      subst hm0
      exact h0 rfl
    · subst g1
      simp only
      rw [ev_bind', add_off]
      by_cases hm0 : m = 0
      · subst hm0
        have : news = [] := by simpa using hnl
        subst this
        exact h0 rfl
      · have hrt : rw = true := by
          rcases hrw with h | h | h
          · exact absurd h hm0
          · exact h
          · omega
        subst hrt
        have hml : m * inf.size ≤ post.length := Nat.le_trans (Nat.mul_le_mul_right _ (by omega)) hpl
        refine ev_storeCells news 0 _ _ H _ hb (by simp [hxl, hnl]; omega) hone ?_
        have hset : setAt (pre ++ xs ++ post) (pre.length + n * inf.size + 0) news = pre ++ (xs ++ news) ++ post.drop news.length := by
          have := setAt_app news (pre ++ xs) post (by rw [hnl]; exact hml)
          rw [List.length_append, hxl] at this
          rw [Nat.add_zero, this]
          simp
        rw [hset]
        exact h1 B pre post e' rfl hb hle hpl
  · rw [if_neg hle]
    have hmax : IntKind.i64.max = 9223372036854775807 := by decide
    have hpos : 0 < inf.bytes := Nat.pos_of_ne_zero hby
    have hcap : c < n + m := by omega
    have hnc := nextcap_le hcap
    have hle2 : Builtin.nextslicecap (n + m) c * inf.bytes ≤ 281474976710656 := Nat.le_trans (Nat.mul_le_mul_right _ hnc) hbig
    rw [ev_bind', ev_pr_eq (pr_typeInfo hi), if_neg (by simp [hby])]
    rw [ev_bind', ev_pr_eq (pr_typeInfo hi)]
    rw [if_neg (by have : (2 : Nat) ^ 48 = 281474976710656 := by decide
                   omega)]
    simp only [ev_bind']
    simp only [choose, Sem.ev]
    rw [if_neg (by simp [Question.forced])]
    intro t
    simp only [Question.cut]
    generalize hN : n + m + t % (2 ^ 63 - (n + m)) = N
    have hNle : n + m ≤ N := by omega
    rw [ev_pr_eq (pr_typeInfo hi)]
    refine ev_askRoom ?_
    have hold : (Builtin.firstCells inf.size n (.slice A n c)).rd P H = some xs.toArray := by
      rcases hrow with ⟨g1, g2, g3⟩ | ⟨B, pre, post, e', rw, g1, hb, hnc, hpl, hrw⟩
      · subst g1 g2 g3
        have : xs = [] := by simpa using hxl
        subst this
        rfl
      · subst g1
        rw [rd_firstCells hb (by simp [hxl])]
        congr 1
        have : (pre ++ xs ++ post).drop pre.length = xs ++ post := by simp
        rw [this, ← hxl]
        simp
    refine ev_rd_eq hold ?_
    refine ev_rd_eq hnews ?_
    rw [ev_pr_eq (show (zeroValue e).pr P = some z from by simp only [zeroValue, pr_bind, pr_typeInfo hi, Option.bind_some, hz]; rfl)]
    simp only [newRow, ev_bind']
    intro r hr
    refine ⟨rfl, ?_⟩
    have hcells : (xs.toArray ++ news.toArray ++ Builtin.zeroCells z.cells (N - (n + m))).toList = xs ++ news ++ (Builtin.zeroCells z.cells (N - (n + m))).toList := by simp
    have := hk r (Builtin.zeroCells z.cells (N - (n + m))).toList N hr hNle (by simp [Builtin.zeroCells, hzs]) hcap
    rw [← hcells] at this
    exact this

theorem append_of {P : Program} {st xt e : TypeId} {sz b : Nat} (h : appT P st xt = some (e, sz, b)) : ∃ inf z, P.underlying st = some (.slice e) ∧ notIntT P xt = true ∧ P.info? e = some inf ∧ inf.zero = some z ∧ z.cells.size = inf.size ∧ inf.bytes ≠ 0 ∧ inf.size = sz ∧ inf.bytes = b := by
  have ht := appT_spec h
  unfold appT0 at ht
  split at ht
  · rename_i e' hst
    split at ht
    · rename_i inf hi
      split at ht
      · rename_i z hz
        split at ht
        · rename_i hc
          cases ht
          exact ⟨inf, z, hst, hc.2.2, hi, hz, hc.1, hc.2.1, rfl, rfl⟩
        · cases ht
      · cases ht
    · cases ht
  · cases ht

/-- how the elements of a row lie in cells -/
structure Cod (α : Type) where
  enc : α → List Value
  sz : Nat
  dec : List Value → Option α
  len : ∀ x, (enc x).length = sz
  one : ∀ x, ((enc x).all Value.oneCell') = true
  ok : ∀ cs y, dec cs = some y → enc y = cs

section
variable {α : Type}
theorem Cod.flat_len (E : Cod α) : ∀ l : List α, (l.flatMap E.enc).length = l.length * E.sz
  | [] => by simp
  | x :: l => by rw [List.flatMap_cons, List.length_append, E.len x, E.flat_len l, List.length_cons, Nat.add_mul, Nat.one_mul, Nat.add_comm]
theorem Cod.flat_one (E : Cod α) (l : List α) : ((l.flatMap E.enc).all Value.oneCell') = true := by
  rw [List.all_flatMap]
  exact List.all_eq_true.2 fun x _ => E.one x
/-- an owned row -/
def row (A : Option Addr) (c : Nat) (e : TypeId) (E : Cod α) (xs : List α) : HP := fun H =>
  (A = none ∧ xs = [] ∧ c = 0) ∨ ∃ B pre post, A = some ⟨B, pre.length, none⟩ ∧ H B = some (.cells (pre ++ xs.flatMap E.enc ++ post) e true) ∧ xs.length ≤ c ∧ (c - xs.length) * E.sz ≤ post.length
/-- a row that nobody writes -/
def rrow (A : Option Addr) (E : Cod α) (xs : List α) : HP := fun H =>
  xs = [] ∨ ∃ B pre post e rw, A = some ⟨B, pre.length, none⟩ ∧ H B = some (.cells (pre ++ xs.flatMap E.enc ++ post) e rw)
/-- what a slice reads as -/
def View (C : List HP) (A : Option Addr) (E : Cod α) (xs : List α) : Prop := ∀ H, Sats C H →
  xs = [] ∨ ∃ B pre post e rw, A = some ⟨B, pre.length, none⟩ ∧ H B = some (.cells (pre ++ xs.flatMap E.enc ++ post) e rw)

theorem le_rw (cs : List Value) (e : TypeId) (rw : Bool) : (Blk.cells cs e false).le (.cells cs e rw) := by
  cases rw
  · exact .inl rfl
  · exact .inr ⟨cs, e, rfl, rfl⟩
/-- more of the heap does not hurt -/
def MonoP (A : HP) : Prop := ∀ H H', A H → Hle H H' → A H'
theorem cells_up {H H' : Hp} {B : Nat} {cs : List Value} {e : TypeId} {rw : Bool} (h : H B = some (.cells cs e rw)) (hl : Hle H H') : ∃ rw', H' B = some (.cells cs e rw') := by
  obtain ⟨b, hb, l⟩ := hl B _ h
  rcases l with rfl | ⟨cs', e', g1, rfl⟩
  · exact ⟨rw, hb⟩
  · cases g1; exact ⟨true, hb⟩
theorem mono_rrow (A : Option Addr) (E : Cod α) (xs : List α) : MonoP (rrow A E xs) := fun H H' h hl => by
  rcases h with h | ⟨B, pre, post, e, rw, h1, h2⟩
  · exact .inl h
  · obtain ⟨rw', h3⟩ := cells_up h2 hl
    exact .inr ⟨B, pre, post, e, rw', h1, h3⟩
theorem pers_rrow (A : Option Addr) (E : Cod α) (xs : List α) : Pers (rrow A E xs) := fun H h2 => by
  rcases h2 with h3 | ⟨B, pre, post, e, rw, h2, h3⟩
  · exact ⟨fun _ => none, (fun _ _ h => by cases h), .inl h3, (fun _ _ h => by cases h)⟩
  · exact ⟨hone B (.cells (pre ++ xs.flatMap E.enc ++ post) e false), hone_le h3 (le_rw _ _ _), .inr ⟨B, pre, post, e, false, h2, hone_same _ _⟩, fun r b hb => by rw [(hone_eq hb).2]; rfl⟩
def andP (A B : HP) : HP := fun H => A H ∧ B H
/-- two read-only chunks as one -/
theorem sats_and {A B : HP} {C : List HP} {H : Hp} (pa : Pers A) (pb : Pers B) (ma : MonoP A) (mb : MonoP B) (h : Sats (A :: B :: C) H) : Sats (andP A B :: C) H := by
  obtain ⟨H1, H2, hc, h1, h2, ha, G1, G2, kc, k1, k2, kb, ks⟩ := h
  obtain ⟨X, x1, x2, x3⟩ := pa H1 ha
  obtain ⟨Y, y1, y2, y3⟩ := pb G1 kb
  have hxy : Comp X Y := fun r b c hb hc => ⟨x3 r b hb, y3 r c hc⟩
  have hx : Hle X H := x1.trans h1
  have hy : Hle Y H := y1.trans (k1.trans h2)
  refine ⟨hjoin X Y, G2, Comp.join (hc.le x1 |>.le2 k2) (kc.le y1), hjoin_le hx hy, k2.trans h2, ⟨ma _ _ x2 (hjoin_left _ _), mb _ _ y2 (hjoin_right hxy hx hy)⟩, ks⟩
variable {C R : List HP} {A : Option Addr} {c : Nat} {e : TypeId} {E : Cod α} {xs : List α}
theorem view_row : View (row A c e E xs :: C) A E xs := fun H ⟨H1, H2, _, k1, _, h2, _⟩ => by
  rcases h2 with ⟨h2, h3, _⟩ | ⟨B, pre, post, h2, h3, _⟩
  · exact .inl h3
  · obtain ⟨b, hb, l⟩ := k1 B _ h3
    have := Blk.le_own l rfl
    subst this
    exact .inr ⟨B, pre, post, e, true, h2, hb⟩
theorem view_rrow : View (rrow A E xs :: C) A E xs := fun H ⟨H1, H2, _, k1, _, h2, _⟩ => by
  rcases h2 with h3 | ⟨B, pre, post, e, rw, h2, h3⟩
  · exact .inl h3
  · obtain ⟨rw', hb⟩ := cells_up h3 k1
    exact .inr ⟨B, pre, post, e, rw', h2, hb⟩
theorem view_there {X : HP} (h : View C A E xs) : View (X :: C) A E xs := fun H hs => h H hs.tail
theorem view_nil : View C A E ([] : List α) := fun _ _ => .inl rfl
theorem view_ent {C' : List HP} (he : Ent C C') (h : View C' A E xs) : View C A E xs := fun H hs => h H (he H hs)
/-- a part of a slice -/
theorem view_sub {B off lo : Nat} {A' : Option Addr} (h : View C (some ⟨B, off, none⟩) E xs) (k : Nat) (hlo : lo ≤ xs.length) (hA : A' = some ⟨B, off + lo * E.sz, none⟩) : View C A' E ((xs.drop lo).take k) := fun H hs => by
  rcases h H hs with h2 | ⟨B', pre, post, e, rw, h2, h3⟩
  · subst h2; exact .inl (by simp)
  · cases h2
    refine .inr ⟨B, pre ++ (xs.take lo).flatMap E.enc, ((xs.drop lo).drop k).flatMap E.enc ++ post, e, rw, ?_, ?_⟩
    · rw [hA, List.length_append, E.flat_len, List.length_take, Nat.min_eq_left hlo]
    · rw [h3]
      have e1 : xs = xs.take lo ++ ((xs.drop lo).take k ++ (xs.drop lo).drop k) := by rw [List.take_append_drop, List.take_append_drop]
      have e2 : xs.flatMap E.enc = (xs.take lo).flatMap E.enc ++ (((xs.drop lo).take k).flatMap E.enc ++ ((xs.drop lo).drop k).flatMap E.enc) := by
        rw [← List.flatMap_append, ← List.flatMap_append, ← e1]
      rw [e2]
      simp only [List.append_assoc]
/-- elements out of cells -/
def decL (E : Cod α) : Nat → List Value → Option (List α)
  | _, [] => some []
  | 0, _ :: _ => none
  | n + 1, v :: cs => match E.dec ((v :: cs).take E.sz) with
    | some x => match decL E n ((v :: cs).drop E.sz) with
      | some xs => some (x :: xs)
      | none => none
    | none => none
theorem decL_flat (E : Cod α) : ∀ (n : Nat) (cs : List Value) (xs : List α), decL E n cs = some xs → xs.flatMap E.enc = cs
  | 0, [], xs, h => by cases h; rfl
  | n + 1, [], xs, h => by cases h; rfl
  | 0, _ :: _, xs, h => by cases h
  | n + 1, v :: cs, xs, h => by
    simp only [decL] at h
    split at h
    · rename_i x hx
      split at h
      · rename_i ys hy
        cases h
        have h1 := decL_flat E n _ _ hy
        have h3 := E.ok _ _ hx
        rw [List.flatMap_cons, h1, h3, List.take_append_drop]
      · cases h
    · cases h
theorem view_pt {B : Nat} {cs : List Value} (hd : decL E cs.length cs = some xs := by exact rfl) : View (pt B cs e :: C) (some ⟨B, 0, none⟩) E xs := fun H ⟨H1, H2, _, k1, _, h3, _⟩ => by
  obtain ⟨b, hb, l⟩ := k1 B _ h3
  have := Blk.le_own l rfl
  subst this
  exact .inr ⟨B, [], [], e, true, rfl, by rw [decL_flat E _ cs xs hd, List.nil_append, List.append_nil]; exact hb⟩
/-- the cells of one element -/
theorem view_elem {B off j : Nat} {x : α} {H : Hp} (h : View C (some ⟨B, off, none⟩) E xs) (hs : Sats C H) (hx : xs[j]? = some x) : ∃ cs e rw, H B = some (.cells cs e rw) ∧ off + j * E.sz + E.sz ≤ cs.length ∧ (cs.drop (off + j * E.sz)).take E.sz = E.enc x := by
  rcases h H hs with h2 | ⟨B', pre, post, e, rw, h2, h3⟩
  · subst h2; simp at hx
  · cases h2
    have hj : j < xs.length := by
      rcases Nat.lt_or_ge j xs.length with h | h
      · exact h
      · rw [List.getElem?_eq_none h] at hx; cases hx
    have hx' : xs[j] = x := by rw [List.getElem?_eq_getElem hj] at hx; exact Option.some.inj hx
    have e1 : xs = xs.take j ++ x :: xs.drop (j + 1) := by
      conv => lhs; rw [← List.take_append_drop j xs, List.drop_eq_getElem_cons hj, hx']
    have e2 : xs.flatMap E.enc = (xs.take j).flatMap E.enc ++ (E.enc x ++ (xs.drop (j + 1)).flatMap E.enc) := by
      conv => lhs; rw [e1]
      simp
    have l1 : ((xs.take j).flatMap E.enc).length = j * E.sz := by rw [E.flat_len, List.length_take, Nat.min_eq_left (by omega)]
    refine ⟨_, e, rw, h3, ?_, ?_⟩
    · simp only [List.length_append, E.flat_len]
      have := Nat.mul_le_mul_right E.sz hj
      rw [Nat.succ_mul] at this
      omega
    · rw [e2]
      have : pre ++ ((xs.take j).flatMap E.enc ++ (E.enc x ++ (xs.drop (j + 1)).flatMap E.enc)) ++ post = (pre ++ (xs.take j).flatMap E.enc) ++ (E.enc x ++ ((xs.drop (j + 1)).flatMap E.enc ++ post)) := by simp [List.append_assoc]
      rw [this, List.drop_left' (by rw [List.length_append, l1]), List.take_left' (E.len x)]
end

theorem ldC_in {P : Program} {t : TypeId} {cs ys : List Value} {o k : Nat} {v : Value} (hy : (cs.drop o).take ys.length = ys) (hl : o + ys.length ≤ cs.length) (h : ldC P t ys k = some v) : ldC P t cs (o + k) = some v := by
  unfold ldC at h ⊢
  split at h
  · split at h
    · rename_i i _
      split at h
      · rename_i hle
        rw [if_pos (by omega)]
        have : (cs.drop (o + k)).take i.size = (ys.drop k).take i.size := by
          rw [← hy, List.drop_take, List.drop_drop, List.take_take, Nat.min_eq_left (by omega)]
        rw [this]; exact h
      · cases h
    · cases h
  · have hk : k < ys.length := by
      rcases Nat.lt_or_ge k ys.length with h' | h'
      · exact h'
      · rw [List.getElem?_eq_none h'] at h; cases h
    have e1 : ys[k]? = cs[o + k]? := by
      conv => lhs; rw [← hy]
      rw [List.getElem?_take_of_lt hk, List.getElem?_drop]
    rw [← e1]; exact h
  · cases h

section
variable {P : Program} {ops : Array Oper} {Q : Fr → List HP → Prop} {a : Fr} {C : List HP} {c : Nat} {gd : Bool} {es : ET} {hist : List (List HP)} {d' : Tmp} {d : Option Tmp} {v : Value}
variable {ty : TypeId} {pos : String} {after : Array Edge} {g : Option (Nat × Bool)} {t yt : TypeId} {x y z : Operand} {op : Op} {α : Type} {E : Cod α} {xs : List α}

theorem evG_some {A : Option Addr} {j : Nat} (hv : View C A E xs) (hj : j < xs.length) (h : ∀ B off, A = some ⟨B, off, none⟩ → evG P ops Q es hist a C) : evG P ops Q es hist a C := fun Hs H h1 h2 => by
  rcases hv H h2 with h3 | ⟨B, pre, post, e, rw, h3, _⟩
  · subst h3; simp at hj
  · exact h B pre.length h3 Hs H h1 h2
/-- the address of an element of a slice of which not even is known whether it is nil -/
theorem G_indexV {A : Option Addr} {n cp sz : Nat} {k : IntKind} {j : Int} (h : ∀ B off, A = some ⟨B, off, none⟩ → spl gd (.pointer (some ⟨B, off + j.toNat * sz, none⟩)) fun v => evG P ops Q es hist (upd a d' v) C)
    (hx : opd a x = .slice A n cp := by exact rfl) (hy : opd a y = .int k j := by exact rfl) (ht : elemSz P t = some sz := by exact rfl) (hv : View C A E xs := by ((repeat (first | exact view_row | exact view_rrow | exact view_pt | assumption | apply view_there)) <;> exact view_row))
    (hn : xs.length = n := by first | exact rfl | assumption | omega) (h0 : 0 ≤ j := by first | omega | assumption) (h1 : j < n := by first | omega | assumption) (hw : wantB ops ⟨some d', .indexAddr t x y, ty, pos, after, g⟩ a = true := by exact rfl) :
    evG P ops Q (ET.cons (c, gd, ⟨some d', .indexAddr t x y, ty, pos, after, g⟩) es) hist a C :=
  evG_some (j := j.toNat) hv (by omega) fun B off hA => by
    subst hA
    exact evG_p rfl hw (pv_index ht hx hy h0 h1) (h B off rfl)

theorem rd_view {B off j k sz : Nat} {y : α} (hv : View C (some ⟨B, off, none⟩) E xs) (hsz : E.sz = sz) (hj : xs[j]? = some y) (hx : opd a x = .pointer (some ⟨B, off + j * sz + k, none⟩)) (hl : ldC P t (E.enc y) k = some v) : RdC P ⟨d, .load t x, ty, pos, after, g⟩ a C v := fun H hs => by
  obtain ⟨cs, e, rw, h1, h2, h3⟩ := view_elem hv hs hj
  subst hsz
  exact rv_load (by rw [hx]; exact ldC_ldV h1 (ldC_in (by rw [E.len]; exact h3) (by rw [E.len]; exact h2) hl))
def HasV (P : Program) (t : TypeId) (B off sz j k : Nat) (v : Value) (C : List HP) : Prop := ∃ (α : Type) (E : Cod α) (xs : List α) (y : α), View C (some ⟨B, off, none⟩) E xs ∧ E.sz = sz ∧ xs[j]? = some y ∧ ldC P t (E.enc y) k = some v
theorem hv_mk {B off sz j k : Nat} {y : α} (hv : View C (some ⟨B, off, none⟩) E xs := by ((repeat (first | exact view_row | exact view_rrow | exact view_pt | assumption | apply view_there)) <;> exact view_row)) (hs : E.sz = sz := by exact rfl) (hj : xs[j]? = some y := by first | assumption | exact rfl) (hl : ldC P t (E.enc y) k = some v := by exact rfl) : HasV P t B off sz j k v C := ⟨α, E, xs, y, hv, hs, hj, hl⟩
theorem G_loadV {B off sz j k : Nat} {u : α} (h : spl gd v fun v => evG P ops Q es hist (upd a d' v) C) (hx : opd a x = .pointer (some ⟨B, off + j * sz + k, none⟩) := by exact rfl)
    (hv : View C (some ⟨B, off, none⟩) E xs := by ((repeat (first | exact view_row | exact view_rrow | exact view_pt | assumption | apply view_there)) <;> exact view_row)) (hs : E.sz = sz := by exact rfl) (hj : xs[j]? = some u := by first | assumption | exact rfl) (hl : ldC P t (E.enc u) k = some v := by exact rfl)
    (hh : allRd (HasV P t B off sz j k v) (hist.take c) := by ((repeat (first | exact ar_nil | refine ar_cons hv_mk ?_)) <;> exact ar_nil))
    (hw : wantB ops ⟨some d', .load t x, ty, pos, after, g⟩ a = true := by exact rfl) : evG P ops Q (ET.cons (c, gd, ⟨some d', .load t x, ty, pos, after, g⟩) es) hist a C :=
  evG_r rfl hw (rd_view hv hs hj hx hl) (ar_imp (fun _ ⟨_, _, _, _, k1, k4, k2, k3⟩ => rd_view k1 k4 k2 hx k3) hh) h
theorem G_loadV2 {B off sz j k k' : Nat} {u : α} (h : spl gd v fun v => evG P ops Q es hist (upd a d' v) C) (hx : opd a x = .pointer (some ⟨B, off + j * sz + k + k', none⟩) := by exact rfl)
    (hv : View C (some ⟨B, off, none⟩) E xs := by ((repeat (first | exact view_row | exact view_rrow | exact view_pt | assumption | apply view_there)) <;> exact view_row)) (hs : E.sz = sz := by exact rfl) (hj : xs[j]? = some u := by first | assumption | exact rfl) (hl : ldC P t (E.enc u) (k + k') = some v := by exact rfl)
    (hh : allRd (HasV P t B off sz j (k + k') v) (hist.take c) := by ((repeat (first | exact ar_nil | refine ar_cons hv_mk ?_)) <;> exact ar_nil))
    (hw : wantB ops ⟨some d', .load t x, ty, pos, after, g⟩ a = true := by exact rfl) : evG P ops Q (ET.cons (c, gd, ⟨some d', .load t x, ty, pos, after, g⟩) es) hist a C :=
  evG_r rfl hw (rd_view (k := k + k') hv hs hj (by rw [hx, Nat.add_assoc (off + j * sz)]) hl) (ar_imp (fun _ ⟨_, _, _, _, k1, k4, k2, k3⟩ => rd_view (k := k + k') k1 k4 k2 (by rw [hx, Nat.add_assoc (off + j * sz)]) k3) hh) h
theorem G_loadV0 {B off sz j : Nat} {u : α} (h : spl gd v fun v => evG P ops Q es hist (upd a d' v) C) (hx : opd a x = .pointer (some ⟨B, off + j * sz, none⟩) := by exact rfl)
    (hv : View C (some ⟨B, off, none⟩) E xs := by ((repeat (first | exact view_row | exact view_rrow | exact view_pt | assumption | apply view_there)) <;> exact view_row)) (hs : E.sz = sz := by exact rfl) (hj : xs[j]? = some u := by first | assumption | exact rfl) (hl : ldC P t (E.enc u) 0 = some v := by exact rfl)
    (hh : allRd (HasV P t B off sz j 0 v) (hist.take c) := by ((repeat (first | exact ar_nil | refine ar_cons hv_mk ?_)) <;> exact ar_nil))
    (hw : wantB ops ⟨some d', .load t x, ty, pos, after, g⟩ a = true := by exact rfl) : evG P ops Q (ET.cons (c, gd, ⟨some d', .load t x, ty, pos, after, g⟩) es) hist a C :=
  evG_r rfl hw (rd_view (k := 0) hv hs hj (by rw [hx, Nat.add_zero]) hl) (ar_imp (fun _ ⟨_, _, _, _, k1, k4, k2, k3⟩ => rd_view (k := 0) k1 k4 k2 (by rw [hx, Nat.add_zero]) k3) hh) h

def byteI (n : Int) : UInt8 := UInt8.ofNat (n % 256).toNat
theorem byteV_of (n : Int) : byteV (byteI n) = .int .u8 (n % 256) := by
  unfold byteV byteI
  congr 1
  rw [UInt8.toNat_ofNat']
  omega
/-! append -/
/-- what is appended -/
def Src (P : Program) (C : List HP) (u : Value) (E : Cod α) (ys : List α) : Prop := (Builtin.lenOf u).pr P = some ys.length ∧ ∀ H, Sats C H → (Builtin.firstCells E.sz ys.length u).rd P H = some (ys.flatMap E.enc).toArray
theorem src_nilrd {A : Option Addr} {cp sz : Nat} {H : Hp} : (Builtin.firstCells sz ([] : List α).length (.slice A ([] : List α).length cp)).rd P H = some (([] : List α).flatMap E.enc).toArray := by
  cases A with
  | none => rfl
  | some ad =>
    simp only [Builtin.firstCells, List.length_nil, Nat.zero_mul, loadCells, loadCellsFrom]
    rfl
theorem src_view {A : Option Addr} {m cp : Nat} {ys : List α} (hv : View C A E ys := by first | assumption | (((repeat (first | exact view_row | exact view_rrow | exact view_pt | assumption | apply view_there)) <;> exact view_row))) (hm : ys.length = m := by first | exact rfl | assumption | omega) : Src P C (.slice A m cp) E ys := by
  subst hm
  refine ⟨rfl, fun H hs => ?_⟩
  rcases hv H hs with rfl | ⟨B, pre, post, e, rw, rfl, h3⟩
  · exact src_nilrd
  · rw [rd_firstCells h3 (by simp [E.flat_len])]
    congr 1
    have : (pre ++ ys.flatMap E.enc ++ post).drop pre.length = ys.flatMap E.enc ++ post := by simp
    rw [this, ← E.flat_len]
    simp
theorem src_one {B cp : Nat} {cs : List Value} {y : α} (hb : Has C B cs := by ((repeat (first | exact has_pt | exact has_ro | apply has_there)) <;> exact has_pt)) (hd : E.dec cs = some y := by exact rfl) : Src P C (.slice (some ⟨B, 0, none⟩) 1 cp) E [y] := by
  refine ⟨rfl, fun H hs => ?_⟩
  obtain ⟨e, rw, h⟩ := hb H hs
  have hc := E.ok _ _ hd
  have hl := E.len y
  rw [hc] at hl
  rw [rd_firstCells h (by simp [hl])]
  simp [hc, ← hl]
def byteC : Cod UInt8 := { enc := fun b => [byteV b], sz := 1, dec := fun _ => none, len := fun _ => rfl, one := fun _ => rfl, ok := fun _ _ h => by cases h }
theorem bytes_flat (l : List UInt8) : l.flatMap byteC.enc = l.map byteV := by
  induction l with
  | nil => rfl
  | cons b l ih => rw [List.flatMap_cons, ih]; rfl
theorem src_str {s : ByteArray} : Src P C (.string s) byteC s.data.toList := by
  refine ⟨by simp [Builtin.lenOf]; rfl, fun H hs => ?_⟩
  simp only [Builtin.firstCells]
  have : s.extract 0 s.data.toList.length = s := by
    apply ByteArray.ext
    simp
  rw [this]
  simp only [rd_pure]
  congr 1
  apply Array.ext'
  rw [bytes_flat]
  simp [byteV]

theorem src_byte {B cp : Nat} {n : Int} (hb : Has C B [.int .u8 (n % 256)] := by ((repeat (first | exact has_pt | exact has_ro | apply has_there)) <;> exact has_pt)) : Src P C (.slice (some ⟨B, 0, none⟩) 1 cp) byteC [byteI n] := by
  refine ⟨rfl, fun H hs => ?_⟩
  obtain ⟨e, rw, h⟩ := hb H hs
  rw [rd_firstCells h (by simp [byteC])]
  simp [byteC, byteV_of]

theorem sats_row {A : Option Addr} {c : Nat} {e : TypeId} {R : List HP} {H : Hp} (hs : Sats (row A c e E xs :: R) H) :
    (A = none ∧ xs = [] ∧ c = 0 ∧ Sats R H) ∨ ∃ B pre post, A = some ⟨B, pre.length, none⟩ ∧ Sats (pt B (pre ++ xs.flatMap E.enc ++ post) e :: R) H ∧ xs.length ≤ c ∧ (c - xs.length) * E.sz ≤ post.length := by
  obtain ⟨H1, H2, hc, k1, k2, h2, hs⟩ := hs
  rcases h2 with ⟨h2, h3, h4⟩ | ⟨B, pre, post, h2, h3, h4, h5⟩
  · exact .inl ⟨h2, h3, h4, hs.mono k2⟩
  · exact .inr ⟨B, pre, post, h2, ⟨H1, H2, hc, k1, k2, h3, hs⟩, h4, h5⟩
theorem row_sats {B c : Nat} {e : TypeId} {pre post : List Value} {R : List HP} {H : Hp} {A : Option Addr} (hA : A = some ⟨B, pre.length, none⟩) (hs : Sats (pt B (pre ++ xs.flatMap E.enc ++ post) e :: R) H) (h4 : xs.length ≤ c)
    (h5 : (c - xs.length) * E.sz ≤ post.length) : Sats (row A c e E xs :: R) H := by
  obtain ⟨H1, H2, hc, k1, k2, h3, hs⟩ := hs
  exact ⟨H1, H2, hc, k1, k2, .inr ⟨B, pre, post, hA, h3, h4, h5⟩, hs⟩
theorem row_nil_sats {e : TypeId} {R : List HP} {H : Hp} (hs : Sats R H) : Sats (row none 0 e E ([] : List α) :: R) H :=
  ⟨fun _ => none, H, (fun _ _ _ h => by cases h), (fun _ _ h => by cases h), Hle.refl H, .inl ⟨rfl, rfl, rfl⟩, hs⟩
theorem Ent.nilrow (e : TypeId) (E : Cod α) (C : List HP) : Ent C (row none 0 e E ([] : List α) :: C) := fun _ hs => row_nil_sats hs
theorem Ent.nilrow' {e : TypeId} {C C' : List HP} (h : Ent C C') : Ent C (row none 0 e E ([] : List α) :: C') := fun H hs => row_nil_sats (h H hs)
theorem row_freeze {A : Option Addr} {c : Nat} {e : TypeId} {R C C' : List HP} (hp : Pick (row A c e E xs) C R) (h : Ent (rrow A E xs :: R) C') : Ent C C' := fun H hs => by
  refine h H ?_
  obtain ⟨H1, H2, hc, h1, h2, ha, hs⟩ := hp.sats hs
  refine ⟨H1, H2, hc, h1, h2, ?_, hs⟩
  rcases ha with ⟨g1, g2, _⟩ | ⟨B, pre, post, g1, g2, _⟩
  · exact .inl g2
  · exact .inr ⟨B, pre, post, e, true, g1, g2⟩

theorem EvOp.ent {o : Oper} {C' : List HP} {k : Value → List HP → Prop} (he : Ent C C') (h : EvOp P o a C' k) : EvOp P o a C k := fun H hs => h H (he H hs)
/-- append to an owned row -/
theorem eo_append {st xt e : TypeId} {sz bytes cp c0 n : Nat} {A : Option Addr} {ys : List α} {u : Value} {R : List HP} {k : Value → List HP → Prop} (ht : appT P st xt = some (e, sz, bytes)) (hsz : E.sz = sz) (hx : opd a x = .slice A n cp) (hn : xs.length = n) (hy : opd a y = u) (hsrc : Src P C u E ys)
    (hp : Pick (row A c0 e E xs) C R) (hcc : cp = c0 ∨ (n ≤ cp ∧ cp ≤ c0)) (hbig : (2 * (n + ys.length) + 512) * bytes ≤ 281474976710656)
    (hk : ∀ A' c', k (.slice A' (xs ++ ys).length c') (row A' c' e E (xs ++ ys) :: R)) : EvOp P ⟨d, .call { callee := .builtin .append, args := #[x, y], argTypes := #[st, xt] }, ty, pos, after, g⟩ a C k := fun H hs => by
  obtain ⟨inf, zz, h1, h2, h3, h4, h5, h6, h7, rfl⟩ := append_of ht
  subst hsz
  have hrs := hp.sats hs
  have hr := sats_row hrs
  have hcl : n ≤ cp ∧ cp ≤ c0 := by
    rcases hcc with rfl | h
    · rcases hr with ⟨g1, g2, g3, g4⟩ | ⟨B, pre, post, g1, g2, g3, g4⟩
      · subst g2 g3; simp at hn; omega
      · omega
    · exact h
  obtain ⟨hcp, hc0⟩ := hcl
  have hmn : (xs ++ ys).length = n + ys.length := by rw [List.length_append, hn]
  refine evOp_of ?_
  simp only [execOp, resolve, List.map_toArray, List.map_cons, List.map_nil, hx, hy]
  rw [ev_bind', ev_pr_eq (show (pure _ : Sem Deferred).pr P = some _ from rfl)]
  simp only [invoke, builtin, ev_bind']
  obtain ⟨hlen, hcells⟩ := hsrc
  rw [hmn] at hk
  refine ev_append2 (xs := xs.flatMap E.enc) (news := ys.flatMap E.enc) h1 h2 h3 h4 h5 hlen (by rw [h7]; exact hcells H hs) (by rw [E.flat_len, h7]) (E.flat_one ys) (by rw [E.flat_len, hn, h7]) ?_ hbig h6 ?_ ?_ ?_
  · rcases hr with ⟨g1, g2, g3, g4⟩ | ⟨B, pre, post, g1, g2, g3, g4⟩
    · subst g2; simp at hn; exact .inl ⟨g1, by omega, by omega⟩
    · refine .inr ⟨B, pre, post, e, true, g1, (sats_pt g2).1, hcp, ?_, .inr (.inl rfl)⟩
      rw [h7]
      exact Nat.le_trans (Nat.mul_le_mul_right _ (by omega)) g4
  · intro hm0
    have hys : ys = [] := by simpa using hm0
    have hk' := hk A cp
    subst hys
    rw [List.append_nil, List.length_nil, Nat.add_zero] at hk'
    refine ⟨_, ?_, hk'⟩
    rcases hr with ⟨g1, g2, g3, g4⟩ | ⟨B, pre, post, g1, g2, g3, g4⟩
    · subst g1 g2 g3
      have : cp = 0 := by omega
      subst this
      exact row_nil_sats g4
    · exact row_sats g1 g2 (by omega) (Nat.le_trans (Nat.mul_le_mul_right _ (by omega)) g4)
  · intro B pre post e' hA hB hle hpl
    rcases hr with ⟨g1, _⟩ | ⟨B', pre', post', g1, g2, g3, g4⟩
    · rw [g1] at hA; cases hA
    · rw [g1] at hA
      have hBB : B' = B := congrArg Addr.block (Option.some.inj hA)
      subst hBB
      have hpre : pre'.length = pre.length := congrArg Addr.off (Option.some.inj hA)
      have hB' := (sats_pt g2).1
      rw [hB'] at hB
      injection hB with hB
      injection hB with hcs he _
      subst he
      rw [List.append_assoc, List.append_assoc] at hcs
      obtain ⟨q1, q2⟩ := List.append_inj hcs hpre
      obtain ⟨_, q3⟩ := List.append_inj q2 rfl
      subst q1 q3
      refine ⟨_, row_sats (pre := pre') (post := post'.drop (ys.flatMap E.enc).length) g1 ?_ (by rw [hmn]; exact hle) ?_, hk A cp⟩
      · rw [List.flatMap_append]
        exact sats_put g2
      · rw [hmn, List.length_drop, E.flat_len, ← Nat.sub_sub, Nat.sub_mul, ← h7]
        omega
  · intro r post N hr0 hN hpl _
    refine ⟨_, row_sats (pre := []) (post := post) rfl ?_ (by rw [hmn]; exact hN) (by rw [hmn, hpl, h7]; exact Nat.le_refl _), hk _ N⟩
    rw [List.flatMap_append, List.nil_append]
    exact sats_new hr0 hrs.tail
theorem G_append {st xt e : TypeId} {sz bytes cp c0 n : Nat} {A : Option Addr} {ys : List α} {u : Value} {R : List HP} (h : ∀ A' c', spl gd (.slice A' (xs ++ ys).length c') fun v => evG P ops Q es (C :: hist) (upd a d' v) (row A' c' e E (xs ++ ys) :: R))
    (hx : opd a x = .slice A n cp := by exact rfl) (hy : opd a y = u := by exact rfl) (ht : appT P st xt = some (e, sz, bytes) := by exact rfl) (hp : Pick (row A c0 e E xs) C R := by ((repeat (first | exact Pick.here | apply Pick.there)) <;> exact Pick.here)) (hsrc : Src P C u E ys := by first | exact src_byte | exact src_one | exact src_str | exact src_view) (hsz : E.sz = sz := by exact rfl) (hn : xs.length = n := by first | exact rfl | assumption | omega)
    (hcc : cp = c0 ∨ (n ≤ cp ∧ cp ≤ c0) := by first | exact .inl rfl | exact .inr ⟨by omega, by omega⟩) (hbig : (2 * (n + ys.length) + 512) * bytes ≤ 281474976710656 := by first | omega | assumption | (simp only [List.length_cons, List.length_nil]; omega))
    (hw : wantB ops ⟨some d', .call { callee := .builtin .append, args := #[x, y], argTypes := #[st, xt] }, ty, pos, after, g⟩ a = true := by exact rfl) : evG P ops Q (ET.cons (c, gd, ⟨some d', .call { callee := .builtin .append, args := #[x, y], argTypes := #[st, xt] }, ty, pos, after, g⟩) es) hist a C :=
  G_o (hw := hw) (eo_append ht hsz hx hn hy hsrc hp hcc hbig h)
/-- append to a slice that is nil -/
theorem G_appendN {st xt e : TypeId} {sz bytes : Nat} {ys : List α} {u : Value} (h : ∀ A' c', spl gd (.slice A' ys.length c') fun v => evG P ops Q es (C :: hist) (upd a d' v) (row A' c' e E ys :: C))
    (hx : opd a x = .slice none 0 0 := by exact rfl) (hy : opd a y = u := by exact rfl) (ht : appT P st xt = some (e, sz, bytes) := by exact rfl) (hsrc : Src P C u E ys := by first | exact src_byte | exact src_one | exact src_str | exact src_view) (hsz : E.sz = sz := by exact rfl)
    (hbig : (2 * (0 + ys.length) + 512) * bytes ≤ 281474976710656 := by first | omega | assumption | (simp only [List.length_cons, List.length_nil]; omega))
    (hw : wantB ops ⟨some d', .call { callee := .builtin .append, args := #[x, y], argTypes := #[st, xt] }, ty, pos, after, g⟩ a = true := by exact rfl) : evG P ops Q (ET.cons (c, gd, ⟨some d', .call { callee := .builtin .append, args := #[x, y], argTypes := #[st, xt] }, ty, pos, after, g⟩) es) hist a C :=
  G_o (hw := hw) (EvOp.ent (Ent.nilrow e E C) (eo_append (xs := []) ht hsz hx rfl hy ⟨hsrc.1, fun H hs => hsrc.2 H hs.tail⟩ Pick.here (.inl rfl) hbig h))
end
end Go.Sl

namespace Go.Sl
/-- where a part of a slice begins -/
def SubA (A A' : Option Addr) (l m sz : Nat) : Prop := A' = (if m = l then A else A.map (·.add (l * sz)))
section
variable {α : Type} {C : List HP} {A A' : Option Addr} {E : Cod α} {xs : List α} {l m k sz : Nat}
theorem view_subA (h : View C A E xs) (hs : SubA A A' l m E.sz) (hl : l ≤ xs.length) (hm : xs.length ≤ m ∨ l + k ≤ m) : View C A' E ((xs.drop l).take k) := by
  unfold SubA at hs
  cases A with
  | none =>
    have : A' = none := by rw [hs]; split <;> rfl
    subst this
    intro H hH
    rcases h H hH with h2 | ⟨B, pre, post, e, rw, h2, _⟩
    · subst h2; exact .inl (by simp)
    · cases h2
  | some ad =>
    obtain ⟨B, off, sp⟩ := ad
    intro H hH
    have hk := h H hH
    rcases hk with h1 | ⟨B', pre, post, e, rw, h1, h2⟩
    · subst h1; exact .inl (by simp)
    · have hsp : sp = none := by injection h1 with h1; injection h1
      subst hsp
      by_cases hml : m = l
      · rw [if_pos hml] at hs
        have hnil : (xs.drop l).take k = [] := by
          rcases hm with hm | hm
          · rw [List.drop_eq_nil_of_le (by omega)]; simp
          · have : k = 0 := by omega
            subst this; simp
        rw [hnil, hs]
        cases h1
        exact .inr ⟨_, pre, xs.flatMap E.enc ++ post, e, rw, rfl, by rw [h2]; simp⟩
      · rw [if_neg hml] at hs
        refine view_sub h k hl ?_ H hH
        rw [hs]
        simp only [Option.map_some, add_off]
theorem rrow_sub {H : Hp} (h : rrow A E xs H) (hs : SubA A A' l m E.sz) (hl : l ≤ xs.length) (hm : xs.length ≤ m ∨ l + k ≤ m) : rrow A' E ((xs.drop l).take k) H := by
  have hv : View [rrow A E xs] A E xs := view_rrow
  have hs1 : Sats [rrow A E xs] H := ⟨H, fun _ => none, (fun _ _ _ _ h => by cases h), Hle.refl _, (fun _ _ h => by cases h), h, trivial⟩
  exact view_subA hv hs hl hm H hs1
theorem row_sub {c c' : Nat} {e : TypeId} {H : Hp} (h : row A c e E xs H) (hs : SubA A A' l m E.sz) (hlk : l + k ≤ xs.length) (hlm : l + k ≤ m) (hm : m ≤ c) : row A' (m - l) e E ((xs.drop l).take k) H := by
  unfold SubA at hs
  rcases h with ⟨rfl, rfl, rfl⟩ | ⟨B, pre, post, rfl, h2, h3, h4⟩
  · have : A' = none := by rw [hs]; split <;> rfl
    exact .inl ⟨this, by simp, by omega⟩
  · have hlen : ((xs.drop l).take k).length = k := by simp; omega
    by_cases hml : m = l
    · rw [if_pos hml] at hs
      have hk0 : k = 0 := by omega
      subst hk0
      refine .inr ⟨B, pre, xs.flatMap E.enc ++ post, hs, by rw [h2]; simp, by simp, ?_⟩
      rw [hml]; simp
    · rw [if_neg hml] at hs
      simp only [Option.map_some, add_off] at hs
      refine .inr ⟨B, pre ++ (xs.take l).flatMap E.enc, ((xs.drop l).drop k).flatMap E.enc ++ post, ?_, ?_, ?_, ?_⟩
      · rw [hs, List.length_append, E.flat_len, List.length_take, Nat.min_eq_left (by omega)]
      · rw [h2]
        have e1 : xs = xs.take l ++ ((xs.drop l).take k ++ (xs.drop l).drop k) := by rw [List.take_append_drop, List.take_append_drop]
        have e2 : xs.flatMap E.enc = (xs.take l).flatMap E.enc ++ (((xs.drop l).take k).flatMap E.enc ++ ((xs.drop l).drop k).flatMap E.enc) := by
          rw [← List.flatMap_append, ← List.flatMap_append, ← e1]
        rw [e2]
        simp only [List.append_assoc]
      · rw [hlen]; omega
      · rw [hlen, List.length_append, E.flat_len]
        simp only [List.length_drop]
        have h5 : (m - l - k) * E.sz ≤ (xs.length - l - k) * E.sz + (c - xs.length) * E.sz := by
          rw [← Nat.add_mul]
          exact Nat.mul_le_mul_right _ (by omega)
        omega
end
section
variable {P : Program} {a : Fr} {d : Option Tmp} {ty : TypeId} {pos : String} {after : Array Edge} {g : Option (Nat × Bool)} {t yt : TypeId} {x y z : Operand}
/-- a bound of a part -/
def bndV (a : Fr) (dflt : Int) : Option Operand → Option Int
  | none => some dflt
  | some o => match opd a o with
    | .int _ n => some n
    | _ => none
theorem bnd_eq {a : Fr} {dflt n : Int} {o : Option Operand} (h : bndV a dflt o = some n) : (o = none ∧ n = dflt) ∨ ∃ o' k, o = some o' ∧ opd a o' = .int k n := by
  unfold bndV at h
  split at h
  · exact .inl ⟨rfl, (Option.some.inj h).symm⟩
  · rename_i o'
    split at h
    · rename_i k n' he; cases h; exact .inr ⟨o', k, rfl, he⟩
    · cases h
theorem pr_sliceBound {k : IntKind} {j : Int} {n : Nat} {code : BoundsCode} (h0 : 0 ≤ j) (h1 : j ≤ n) : (Instr.sliceBound (.int k j) n code).pr P = some j.toNat := by
  simp only [Instr.sliceBound, pr_bind]
  rw [show (asIntOf (.int k j)).pr P = some (k, j) from rfl, Option.bind_some]
  simp only
  rw [if_pos ⟨h0, h1⟩]
  rfl
theorem pr_pure' {β : Type} (z : β) : (Sem.pure z).pr P = some z := rfl
theorem pr_bounds {n cp : Nat} {lo hi mx : Option Operand} {l h m : Int} (hl : bndV a 0 lo = some l) (hh : bndV a n hi = some h) (hm : bndV a cp mx = some m)
    (hmx : mx.isSome = true → hi.isSome = true) (h0 : 0 ≤ l) (h1 : l ≤ h) (h2 : h ≤ m) (h3 : m ≤ cp) : (Instr.sliceBounds true n cp (lo.map (opd a)) (hi.map (opd a)) (mx.map (opd a))).pr P = some (l.toNat, h.toNat, m.toNat) := by
  have b : ∀ (k : IntKind) (j : Int) (n : Nat) (code : BoundsCode), 0 ≤ j → j ≤ n → (Instr.sliceBound (.int k j) n code).pr P = some j.toNat := fun _ _ _ _ h0 h1 => pr_sliceBound h0 h1
  rcases bnd_eq hm with ⟨rfl, rfl⟩ | ⟨om, km, rfl, em⟩ <;> rcases bnd_eq hh with ⟨rfl, rfl⟩ | ⟨oh, kh, rfl, eh⟩ <;> rcases bnd_eq hl with ⟨rfl, rfl⟩ | ⟨ol, kl, rfl, el⟩
  · rfl
  · simp only [Instr.sliceBounds, pr_bind, pr_pure', pure, Option.bind_some, Option.map_none, Option.map_some, el]
    rw [b _ _ _ _ (by omega) (by omega)]; rfl
  · simp only [Instr.sliceBounds, pr_bind, pr_pure', pure, Option.bind_some, Option.map_none, Option.map_some, eh]
    rw [b _ _ _ _ (by omega) (by omega)]; rfl
  · simp only [Instr.sliceBounds, pr_bind, pr_pure', pure, Option.bind_some, Option.map_none, Option.map_some, eh, el]
    rw [b _ _ _ _ (by omega) (by omega), Option.bind_some, b _ _ _ _ (by omega) (by omega)]; rfl
  · exact absurd (hmx rfl) (by simp)
  · exact absurd (hmx rfl) (by simp)
  · simp only [Instr.sliceBounds, pr_bind, pr_pure', pure, Option.bind_some, Option.map_none, Option.map_some, eh, em]
    rw [b _ _ _ _ (by omega) (by omega), Option.bind_some, b _ _ _ _ (by omega) (by omega)]; rfl
  · simp only [Instr.sliceBounds, pr_bind, pr_pure', pure, Option.bind_some, Option.map_none, Option.map_some, eh, em, el]
    rw [b _ _ _ _ (by omega) (by omega), Option.bind_some, b _ _ _ _ (by omega) (by omega), Option.bind_some, b _ _ _ _ (by omega) (by omega)]; rfl
theorem pv_slice {A : Option Addr} {n cp sz : Nat} {lo hi mx : Option Operand} {l h m : Int} (ht : elemSz P t = some sz) (hx : opd a x = .slice A n cp) (hl : bndV a 0 lo = some l) (hh : bndV a n hi = some h) (hm : bndV a cp mx = some m)
    (hmx : mx.isSome = true → hi.isSome = true) (h0 : 0 ≤ l) (h1 : l ≤ h) (h2 : h ≤ m) (h3 : m ≤ cp) : pureV P ⟨d, .slice t x lo hi mx, ty, pos, after, g⟩ a = some (.slice (if m.toNat = l.toNat then A else A.map (·.add (l.toNat * sz))) (h.toNat - l.toNat) (m.toNat - l.toNat)) := by
  obtain ⟨e, i, hu, hi', rfl⟩ := elemSz_spec ht
  refine pureV_pr ?_
  simp only [execOp, hx, Instr.sliceAt, pr_bind]
  rw [pr_underlying hu, Option.bind_some]
  simp only [Instr.slice, pr_bind]
  rw [pr_underlying hu, Option.bind_some]
  simp only [pr_bind]
  rw [pr_bounds hl hh hm hmx h0 h1 h2 h3, Option.bind_some]
  simp only [pr_bind]
  rw [pr_sizeOf hi', Option.bind_some]; rfl
end
section
variable {P : Program} {ops : Array Oper} {Q : Fr → List HP → Prop} {a : Fr} {C : List HP} {c : Nat} {gd : Bool} {es : ET} {hist : List (List HP)} {d' : Tmp} {d : Option Tmp} {v : Value}
variable {ty : TypeId} {pos : String} {after : Array Edge} {g : Option (Nat × Bool)} {t yt : TypeId} {x y z : Operand} {op : Op} {α : Type} {E : Cod α} {xs : List α}
theorem evG_fact' {p : Prop} (hp : ∀ H, Sats C H → p) (h : p → evG P ops Q es hist a C) : evG P ops Q es hist a C := fun Hs H h1 h2 => h (hp H h2) Hs H h1 h2
/-- a part, and where it begins -/
theorem G_sliceV {A : Option Addr} {n cp sz : Nat} {lo hi mx : Option Operand} {l h m : Int} (hk : ∀ A', SubA A A' l.toNat m.toNat sz → spl gd (.slice A' (h.toNat - l.toNat) (m.toNat - l.toNat)) fun v => evG P ops Q es hist (upd a d' v) C)
    (hx : opd a x = .slice A n cp := by exact rfl) (ht : elemSz P t = some sz := by exact rfl) (hl : bndV a 0 lo = some l := by exact rfl) (hh : bndV a n hi = some h := by exact rfl) (hm : bndV a cp mx = some m := by exact rfl) (hmx : mx.isSome = true → hi.isSome = true := by first | exact fun h => h | exact fun _ => rfl)
    (h0 : 0 ≤ l := by first | omega | assumption) (h1 : l ≤ h := by first | omega | assumption) (h2 : h ≤ m := by first | omega | assumption) (h3 : m ≤ cp := by first | omega | assumption) (hw : wantB ops ⟨some d', .slice t x lo hi mx, ty, pos, after, g⟩ a = true := by exact rfl) :
    evG P ops Q (ET.cons (c, gd, ⟨some d', .slice t x lo hi mx, ty, pos, after, g⟩) es) hist a C :=
  evG_p rfl hw (pv_slice ht hx hl hh hm hmx h0 h1 h2 h3) (hk _ rfl)
/-- of a row that nobody writes -/
theorem G_sliceR {A : Option Addr} {n cp sz : Nat} {lo hi mx : Option Operand} {l h m : Int} (hk : ∀ A', spl gd (.slice A' (h.toNat - l.toNat) (m.toNat - l.toNat)) fun v => evG P ops Q es hist (upd a d' v) (rrow A' E ((xs.drop l.toNat).take (h.toNat - l.toNat)) :: C))
    (hx : opd a x = .slice A n cp := by exact rfl) {R : List HP} (hp : Pick (rrow A E xs) C R := by ((repeat (first | exact Pick.here | apply Pick.there)) <;> exact Pick.here)) (ht : elemSz P t = some sz := by exact rfl) (hsz : E.sz = sz := by exact rfl) (hn : xs.length = n := by first | exact rfl | assumption | omega) (hl : bndV a 0 lo = some l := by exact rfl) (hh : bndV a n hi = some h := by exact rfl) (hm : bndV a cp mx = some m := by exact rfl) (hmx : mx.isSome = true → hi.isSome = true := by first | exact fun h => h | exact fun _ => rfl)
    (h0 : 0 ≤ l := by first | omega | assumption) (h1 : l ≤ h := by first | omega | assumption) (h2 : h ≤ n := by first | omega | assumption) (h2 : h ≤ m := by first | omega | assumption) (h3 : m ≤ cp := by first | omega | assumption) (hw : wantB ops ⟨some d', .slice t x lo hi mx, ty, pos, after, g⟩ a = true := by exact rfl) :
    evG P ops Q (ET.cons (c, gd, ⟨some d', .slice t x lo hi mx, ty, pos, after, g⟩) es) hist a C := by
  refine evG_p rfl hw (pv_slice ht hx hl hh hm hmx h0 h1 h2 h3) ?_
  refine (spl_iff _ _ _).2 (evG_ent (fun H hs => ?_) ((spl_iff _ _ _).1 (hk _)))
  subst hsz
  have hd := ((hp.sats hs).dup (pers_rrow _ _ _))
  have h5 := (Ent.imp (fun H hr => rrow_sub (l := l.toNat) (m := m.toNat) (A' := if m.toNat = l.toNat then A else A.map (·.add (l.toNat * E.sz))) (k := h.toNat - l.toNat) hr rfl (by omega) (.inr (by omega))) (Ent.refl _)) H hd
  exact (Sats.perm (List.Perm.cons _ hp.perm.symm) h5)
/-- of an owned row, of which no more than that part is used any more -/
theorem G_sliceO {A : Option Addr} {n cp c0 sz : Nat} {e : TypeId} {lo hi mx : Option Operand} {l h m : Int} {R : List HP} (hk : ∀ A', spl gd (.slice A' (h.toNat - l.toNat) (m.toNat - l.toNat)) fun v => evG P ops Q es hist (upd a d' v) (row A' (m.toNat - l.toNat) e E ((xs.drop l.toNat).take (h.toNat - l.toNat)) :: R))
    (hx : opd a x = .slice A n cp := by exact rfl) (hp : Pick (row A c0 e E xs) C R := by ((repeat (first | exact Pick.here | apply Pick.there)) <;> exact Pick.here)) (ht : elemSz P t = some sz := by exact rfl) (hsz : E.sz = sz := by exact rfl) (hn : xs.length = n := by first | exact rfl | assumption | omega) (hl : bndV a 0 lo = some l := by exact rfl) (hh : bndV a n hi = some h := by exact rfl) (hm : bndV a cp mx = some m := by exact rfl) (hmx : mx.isSome = true → hi.isSome = true := by first | exact fun h => h | exact fun _ => rfl)
    (h0 : 0 ≤ l := by first | omega | assumption) (h1 : l ≤ h := by first | omega | assumption) (h4 : h ≤ n := by first | omega | assumption) (h2 : (m = cp ∧ cp = c0) ∨ (h ≤ m ∧ m ≤ cp ∧ cp ≤ c0) := by first | exact .inl ⟨rfl, rfl⟩ | exact .inr ⟨by omega, by omega, by omega⟩) (hw : wantB ops ⟨some d', .slice t x lo hi mx, ty, pos, after, g⟩ a = true := by exact rfl) :
    evG P ops Q (ET.cons (c, gd, ⟨some d', .slice t x lo hi mx, ty, pos, after, g⟩) es) hist a C := by
  refine evG_fact' (p := xs.length ≤ c0) (fun H hs => ?_) fun hfact => ?_
  · rcases sats_row (hp.sats hs) with ⟨_, g2, _⟩ | ⟨_, _, _, _, _, g, _⟩
    · subst g2; simp
    · exact g
  have h6 : h ≤ m ∧ m ≤ cp ∧ cp ≤ c0 := by
    rcases h2 with ⟨q1, q2⟩ | q
    · exact ⟨by omega, by omega, by omega⟩
    · exact q
  obtain ⟨h2, h3, h5⟩ := h6
  refine evG_p rfl hw (pv_slice ht hx hl hh hm hmx h0 h1 h2 h3) ?_
  refine (spl_iff _ _ _).2 (evG_ent (fun H hs => ?_) ((spl_iff _ _ _).1 (hk _)))
  subst hsz
  exact (Ent.imp (fun H hr => row_sub (c' := 0) (l := l.toNat) (m := m.toNat) (A' := if m.toNat = l.toNat then A else A.map (·.add (l.toNat * E.sz))) (k := h.toNat - l.toNat) hr rfl (by omega) (by omega) (by omega)) (Ent.refl _)) H (hp.sats hs)
/-- bytes to a string -/
theorem rd_bytesView {A : Option Addr} {n cp : Nat} {bs : List UInt8} {H : Hp} (hv : View C A byteC bs) (hn : bs.length = n) (hs : Sats C H) : (Conv.bytesToString (.slice A n cp)).rd P H = some (.string ⟨bs.toArray⟩) := by
  rcases hv H hs with h2 | ⟨B, pre, post, e, rw, h1, hb⟩
  · subst h2
    subst hn
    cases A <;> rfl
  · subst h1
    rw [bytes_flat] at hb
    simp only [Conv.bytesToString]
    rw [rd_bind]
    have hc : (loadCells ⟨B, pre.length, none⟩ n).rd P H = some (bs.map byteV).toArray := by
      unfold loadCells
      rw [rd_loadCells hb pre.length n 0 #[] (by simp; omega)]
      simp only [List.append_assoc, List.drop_left', Nat.add_zero]
      rw [List.take_append_of_le_length (by simp; omega), List.take_of_length_le (by simp; omega)]
      simp
    rw [hc, Option.bind_some, rd_bind]
    rw [← Array.forIn_toList]
    rw [show (bs.map byteV).toArray.toList = bs.map byteV from rfl, rd_forBytes]
    · simp
      rfl
    · intro b s
      simp [byteV]
      rfl
theorem G_bytesstr {t' e : TypeId} {A : Option Addr} {n cp : Nat} {bs : List UInt8} (h : spl gd (.string ⟨bs.toArray⟩) fun v => evG P ops Q es (C :: hist) (upd a d' v) C) (hx : opd a x = .slice A n cp := by exact rfl) (hs : bytesT P t = some e := by exact rfl) (ht : isStrT P t' = true := by exact rfl)
    (hv : View C A byteC bs := by first | assumption | (((repeat (first | exact view_row | exact view_rrow | exact view_pt | assumption | apply view_there)) <;> exact view_row))) (hn : bs.length = n := by first | assumption | exact rfl) (hk : kd P (.convert t t' x) = .other := by exact rfl) (hw : wantB ops ⟨some d', .convert t t' x, ty, pos, after, g⟩ a = true := by exact rfl) : evG P ops Q (ET.cons (c, gd, ⟨some d', .convert t t' x, ty, pos, after, g⟩) es) hist a C :=
  G_o (hk := hk) (hw := hw) fun H hH => by
    obtain ⟨h1, h2⟩ := bytesT_spec hs
    refine evOp_of ?_
    simp only [execOp, hx, convert, ev_bind']
    rw [ev_pr_eq (pr_underlying h1), ev_pr_eq (pr_underlying (isStrT_spec ht))]
    simp only [ev_bind']
    rw [ev_pr_eq (pr_underlying h2)]
    exact ev_rd_eq (rd_bytesView hv hn hH) ⟨C, hH, h⟩
end
end Go.Sl

namespace Go.Sl
theorem rc_tmpA {P : Program} {a : Fr} {C : List HP} {t : Tmp} {rs : List ResultVar} {v : Value} {vs : List Value} (hx : force (a t) = some v := by exact rfl) (h : resVC P a C rs vs) : resVC P a C (.tmp t :: rs) (v :: vs) := rc_tmp hx h
theorem rc_cellA {P : Program} {a : Fr} {C : List HP} {p : Tmp} {t : TypeId} {B off : Nat} {cs : List Value} {rs : List ResultVar} {v : Value} {vs : List Value} (hx : a p = .pointer (some ⟨B, off, none⟩) := by exact rfl) (hb : Has C B cs := by ((repeat (first | exact has_pt | exact has_ro | apply has_there)) <;> exact has_pt)) (hv : ldC P t cs off = some v := by exact rfl) (h : resVC P a C rs vs) : resVC P a C (.cell p t :: rs) (v :: vs) := rc_cell hx hb hv h
section
variable {P : Program} {fn : Func} {K : Value → List HP → Prop} {a : Fr} {C : List HP} {v : Value} {f : FuncId} {args : Array Value}
def RetG (C : List HP) (K : Value → List HP → Prop) (v : Value) : Prop := ∃ C', Ent C C' ∧ K v C'
def isRet : Exit → Bool
  | .ret => true
  | .normal => true
  | _ => false
theorem RETC {e : Exit} {rs : List ResultVar} {vs : List Value} (h : RetG C K v) (hE : isRet e = true := by exact rfl) (hl : copyL fn.results.toList = some rs := by exact rfl)
    (hv : resVC P a C rs vs := by first | exact rc_nil | exact rc_tmpA (h := by first | exact rc_nil | exact rc_tmpA (h := by first | exact rc_nil | exact rc_tmpA (h := by first | exact rc_nil | exact rc_tmpA (h := by first | exact rc_nil | exact rc_tmpA (h := by exact rc_nil) | exact rc_cellA (h := by exact rc_nil)) | exact rc_cellA (h := by first | exact rc_nil | exact rc_tmpA (h := by exact rc_nil) | exact rc_cellA (h := by exact rc_nil))) | exact rc_cellA (h := by first | exact rc_nil | exact rc_tmpA (h := by first | exact rc_nil | exact rc_tmpA (h := by exact rc_nil) | exact rc_cellA (h := by exact rc_nil)) | exact rc_cellA (h := by first | exact rc_nil | exact rc_tmpA (h := by exact rc_nil) | exact rc_cellA (h := by exact rc_nil)))) | exact rc_cellA (h := by first | exact rc_nil | exact rc_tmpA (h := by first | exact rc_nil | exact rc_tmpA (h := by first | exact rc_nil | exact rc_tmpA (h := by exact rc_nil) | exact rc_cellA (h := by exact rc_nil)) | exact rc_cellA (h := by first | exact rc_nil | exact rc_tmpA (h := by exact rc_nil) | exact rc_cellA (h := by exact rc_nil))) | exact rc_cellA (h := by first | exact rc_nil | exact rc_tmpA (h := by first | exact rc_nil | exact rc_tmpA (h := by exact rc_nil) | exact rc_cellA (h := by exact rc_nil)) | exact rc_cellA (h := by first | exact rc_nil | exact rc_tmpA (h := by exact rc_nil) | exact rc_cellA (h := by exact rc_nil))))) | exact rc_cellA (h := by first | exact rc_nil | exact rc_tmpA (h := by first | exact rc_nil | exact rc_tmpA (h := by first | exact rc_nil | exact rc_tmpA (h := by first | exact rc_nil | exact rc_tmpA (h := by exact rc_nil) | exact rc_cellA (h := by exact rc_nil)) | exact rc_cellA (h := by first | exact rc_nil | exact rc_tmpA (h := by exact rc_nil) | exact rc_cellA (h := by exact rc_nil))) | exact rc_cellA (h := by first | exact rc_nil | exact rc_tmpA (h := by first | exact rc_nil | exact rc_tmpA (h := by exact rc_nil) | exact rc_cellA (h := by exact rc_nil)) | exact rc_cellA (h := by first | exact rc_nil | exact rc_tmpA (h := by exact rc_nil) | exact rc_cellA (h := by exact rc_nil)))) | exact rc_cellA (h := by first | exact rc_nil | exact rc_tmpA (h := by first | exact rc_nil | exact rc_tmpA (h := by first | exact rc_nil | exact rc_tmpA (h := by exact rc_nil) | exact rc_cellA (h := by exact rc_nil)) | exact rc_cellA (h := by first | exact rc_nil | exact rc_tmpA (h := by exact rc_nil) | exact rc_cellA (h := by exact rc_nil))) | exact rc_cellA (h := by first | exact rc_nil | exact rc_tmpA (h := by first | exact rc_nil | exact rc_tmpA (h := by exact rc_nil) | exact rc_cellA (h := by exact rc_nil)) | exact rc_cellA (h := by first | exact rc_nil | exact rc_tmpA (h := by exact rc_nil) | exact rc_cellA (h := by exact rc_nil)))))) (ht : force (tupV vs) = some v := by exact rfl) :
    retC P fn K e a C := by
  obtain ⟨C', he, hk⟩ := h
  cases e <;> first | (cases hE; done) | exact retC_r hl hv ht he hk | exact retC_n hl hv ht he hk
theorem ret_of {C' : List HP} (he : Ent C C') (hk : K v C') : RetG C K v := ⟨C', he, hk⟩
theorem ret_done {C' : List HP} (hk : K v C') (he : Ent C C' := by ((iterate 30 (try (first | exact Ent.refl _ | exact Ent.nil | (apply Ent.pick; focus ((repeat (first | exact Pick.here | apply Pick.there)) <;> exact Pick.here)) | (apply Ent.pickP; focus ((repeat (first | exact pers_ro _ _ _ | exact pers_rrow _ _ _ | exact pers_pure _ | refine pers_sep ?_ ?_ | refine pers_ex fun _ => ?_)) <;> exact pers_pure _); focus ((repeat (first | exact Pick.here | apply Pick.there)) <;> exact Pick.here)) | (apply Ent.pure; focus (first | assumption | exact rfl | omega)) | apply Ent.nilrow' | apply Ent.ex | apply Ent.sep | apply Ent.drop))) <;> exact Ent.nil)) : RetG C K v := ⟨C', he, hk⟩
theorem CA {C' : List HP} (he : Ent C C' := by ((iterate 30 (try (first | exact Ent.refl _ | exact Ent.nil | (apply Ent.pick; focus ((repeat (first | exact Pick.here | apply Pick.there)) <;> exact Pick.here)) | (apply Ent.pickP; focus ((repeat (first | exact pers_ro _ _ _ | exact pers_rrow _ _ _ | exact pers_pure _ | refine pers_sep ?_ ?_ | refine pers_ex fun _ => ?_)) <;> exact pers_pure _); focus ((repeat (first | exact Pick.here | apply Pick.there)) <;> exact Pick.here)) | (apply Ent.pure; focus (first | assumption | exact rfl | omega)) | apply Ent.nilrow' | apply Ent.ex | apply Ent.sep | apply Ent.drop))) <;> exact Ent.nil)) (h : CallT P f args C' K) : CallT P f args C K := CallT.ent he h
theorem ki {k : IntKind} {x y : Int} (h : K (.int k x) C) (e : x = y) : K (.int k y) C := e ▸ h
theorem kb {b c : Bool} (h : K (.bool b) C) (e : (b = true) ↔ (c = true)) : K (.bool c) C := by
  have : b = c := by cases b <;> cases c <;> simp_all
  exact this ▸ h
end
/-- the end of a turn -/
def TurnG (n : Nat) (I : Nat → Fr → List HP → Prop) (a : Fr) (C : List HP) : Prop := ∃ m C'', m < n ∧ Ent C C'' ∧ I m a C''
section
variable {P : Program} {Q : Exit → Fr → List HP → Prop} {a : Fr} {C : List HP} {x : Code} {id : Nat}
theorem LOOP (I : Nat → Fr → List HP → Prop) (n : Nat) (h0 : TurnG (n + 1) I a C) (hr : ∀ n a C, I n a C → evC P x (thenC (TurnG n I) Q) a C) : evC P (.loop x) Q a C := by
  obtain ⟨m, C0, _, he, hI⟩ := h0
  exact c_loop I m C0 he hI hr
theorem turn {n : Nat} {I : Nat → Fr → List HP → Prop} (m : Nat) {C' : List HP} (hi : I m a C') (hm : m < n := by omega) (he : Ent C C' := by ((iterate 30 (try (first | exact Ent.refl _ | exact Ent.nil | (apply Ent.pick; focus ((repeat (first | exact Pick.here | apply Pick.there)) <;> exact Pick.here)) | (apply Ent.pickP; focus ((repeat (first | exact pers_ro _ _ _ | exact pers_rrow _ _ _ | exact pers_pure _ | refine pers_sep ?_ ?_ | refine pers_ex fun _ => ?_)) <;> exact pers_pure _); focus ((repeat (first | exact Pick.here | apply Pick.there)) <;> exact Pick.here)) | (apply Ent.pure; focus (first | assumption | exact rfl | omega)) | apply Ent.nilrow' | apply Ent.ex | apply Ent.sep | apply Ent.drop))) <;> exact Ent.nil)) : TurnG n I a C := ⟨m, C', hm, he, hi⟩
def CutG (I : Fr → List HP → Prop) (a : Fr) (C : List HP) : Prop := ∃ C'', Ent C C'' ∧ I a C''
end
end Go.Sl

