/- Chunks: a state is a list of assertions on parts of the heap that share nothing but what nobody writes: lemmas; each with the conditions that it states. -/
import Derived.Test.YtgdfmbnbknhhiaaSl13
namespace Go.Sl

abbrev HP := Hp → Prop

def Blk.le (b b' : Blk) : Prop := b' = b ∨ ∃ cs e, b = .cells cs e false ∧ b' = .cells cs e true
theorem Blk.le_refl (b : Blk) : b.le b := .inl rfl
theorem Blk.le_trans {a b c : Blk} (h : a.le b) (k : b.le c) : a.le c := by
  rcases h with rfl | ⟨cs, e, rfl, rfl⟩
  · exact k
  · rcases k with rfl | ⟨cs', e', h1, h2⟩
    · exact .inr ⟨cs, e, rfl, rfl⟩
    · cases h1
theorem Blk.le_own {b b' : Blk} (h : b.le b') (ho : b.own = true) : b' = b := by
  rcases h with rfl | ⟨cs, e, rfl, rfl⟩
  · rfl
  · cases ho
theorem Blk.le_two {a b c : Blk} (h : a.le c) (k : b.le c) (ha : a.own = false) (hb : b.own = false) : a = b := by
  rcases h with rfl | ⟨cs, e, rfl, rfl⟩
  · rcases k with rfl | ⟨cs, e, rfl, rfl⟩
    · rfl
    · cases ha
  · rcases k with rfl | ⟨cs', e', rfl, h2⟩
    · cases hb
    · cases h2; rfl
theorem BlkIs.le {w : World} {B : Nat} {b b' : Blk} (h : BlkIs w B b') (hl : b.le b') : BlkIs w B b := by
  rcases hl with rfl | ⟨cs, e, rfl, rfl⟩
  · exact h
  · obtain ⟨arr, fz, h1, h2, _⟩ := h
    exact ⟨arr, fz, h1, h2, fun h => by cases h⟩

def Hle (H1 H : Hp) : Prop := ∀ B b, H1 B = some b → ∃ b', H B = some b' ∧ b.le b'
theorem Hle.refl (H : Hp) : Hle H H := fun _ b h => ⟨b, h, b.le_refl⟩
theorem Hle.trans {A B C : Hp} (h : Hle A B) (k : Hle B C) : Hle A C := fun r b hb => by
  obtain ⟨b1, h1, l1⟩ := h r b hb
  obtain ⟨b2, h2, l2⟩ := k r b1 h1
  exact ⟨b2, h2, Blk.le_trans l1 l2⟩

def Comp (H1 H2 : Hp) : Prop := ∀ B b c, H1 B = some b → H2 B = some c → b.own = false ∧ c.own = false
theorem Comp.symm {H1 H2 : Hp} (h : Comp H1 H2) : Comp H2 H1 := fun B b c hb hc => (h B c b hc hb).symm
theorem own_le {b b' : Blk} (h : b.le b') (ho : b'.own = false) : b.own = false := by
  cases hb : b.own with
  | false => rfl
  | true => rw [Blk.le_own h hb, hb] at ho; cases ho
theorem Comp.le {A B A' : Hp} (h : Comp A' B) (hl : Hle A A') : Comp A B := fun r b c hb hc => by
  obtain ⟨b', h1, l1⟩ := hl r b hb
  obtain ⟨h2, h3⟩ := h r b' c h1 hc
  exact ⟨own_le l1 h2, h3⟩
theorem Comp.le2 {A B B' : Hp} (h : Comp A B') (hl : Hle B B') : Comp A B := (h.symm.le hl).symm

def hjoin (A B : Hp) : Hp := fun r => match A r with
  | some b => some b
  | none => B r
theorem hjoin_left (A B : Hp) : Hle A (hjoin A B) := fun r b h => ⟨b, by simp [hjoin, h], b.le_refl⟩
theorem hjoin_right {A B H : Hp} (hc : Comp A B) (h1 : Hle A H) (h2 : Hle B H) : Hle B (hjoin A B) := fun r b h => by
  cases ha : A r with
  | none => exact ⟨b, by simp [hjoin, ha, h], b.le_refl⟩
  | some a =>
    obtain ⟨o1, o2⟩ := hc r a b ha h
    obtain ⟨a', h3, l3⟩ := h1 r a ha
    obtain ⟨b', h4, l4⟩ := h2 r b h
    rw [h3] at h4; cases h4
    have := Blk.le_two l3 l4 o1 o2
    subst this
    exact ⟨a, by simp [hjoin, ha], a.le_refl⟩
theorem hjoin_le {A B H : Hp} (h1 : Hle A H) (h2 : Hle B H) : Hle (hjoin A B) H := fun r b h => by
  unfold hjoin at h
  split at h
  · rename_i a ha; cases h; exact h1 r b ha
  · exact h2 r b h
theorem Comp.join {A B C : Hp} (h1 : Comp A C) (h2 : Comp B C) : Comp (hjoin A B) C := fun r b c hb hc => by
  unfold hjoin at hb
  split at hb
  · rename_i a ha; cases hb; exact h1 r b c ha hc
  · exact h2 r b c hb hc

def Sats : List HP → Hp → Prop
  | [], _ => True
  | A :: l, H => ∃ H1 H2, Comp H1 H2 ∧ Hle H1 H ∧ Hle H2 H ∧ A H1 ∧ Sats l H2

theorem Sats.mono : ∀ {C : List HP} {H H' : Hp}, Sats C H → Hle H H' → Sats C H'
  | [], _, _, _, _ => trivial
  | _ :: _, _, _, ⟨H1, H2, hc, h1, h2, ha, hs⟩, hl => ⟨H1, H2, hc, h1.trans hl, h2.trans hl, ha, hs⟩

theorem Sats.tail {A : HP} {C : List HP} {H : Hp} (h : Sats (A :: C) H) : Sats C H := by
  obtain ⟨H1, H2, hc, h1, h2, ha, hs⟩ := h
  exact hs.mono h2

theorem Sats.swap {A B : HP} {C : List HP} {H : Hp} (h : Sats (A :: B :: C) H) : Sats (B :: A :: C) H := by
  obtain ⟨H1, H2, hc, h1, h2, ha, G1, G2, kc, k1, k2, kb, ks⟩ := h
  refine ⟨G1, hjoin H1 G2, ?_, k1.trans h2, hjoin_le h1 (k2.trans h2), kb, H1, G2, hc.le2 k2, hjoin_left _ _, hjoin_right (hc.le2 k2) h1 (k2.trans h2), ha, ks⟩
  exact (Comp.join (hc.le2 k1) kc.symm).symm

theorem Sats.perm {C C' : List HP} (hp : C.Perm C') : ∀ {H : Hp}, Sats C H → Sats C' H := by
  induction hp with
  | nil => exact fun h => h
  | cons x _ ih => exact fun ⟨H1, H2, hc, h1, h2, ha, hs⟩ => ⟨H1, H2, hc, h1, h2, ha, ih hs⟩
  | swap x y l => exact fun h => h.swap
  | trans _ _ ih1 ih2 => exact fun h => ih2 (ih1 h)

theorem Sats.append : ∀ {C R : List HP} {H : Hp}, Sats (C ++ R) H → ∃ H1 H2, Comp H1 H2 ∧ Hle H1 H ∧ Hle H2 H ∧ Sats C H1 ∧ Sats R H2
  | [], R, H, h => ⟨fun _ => none, H, (fun _ _ _ h => by cases h), (fun _ _ h => by cases h), Hle.refl H, trivial, h⟩
  | A :: C, R, H, ⟨H1, H2, hc, h1, h2, ha, hs⟩ => by
    obtain ⟨G1, G2, kc, k1, k2, ka, ks⟩ := Sats.append hs
    exact ⟨hjoin H1 G1, G2, Comp.join (hc.le2 k2) kc, hjoin_le h1 (k1.trans h2), k2.trans h2, ⟨H1, G1, hc.le2 k1, hjoin_left _ _, hjoin_right (hc.le2 k1) h1 (k1.trans h2), ha, ka⟩, ks⟩
theorem Sats.join : ∀ {C R : List HP} {H1 H2 H : Hp}, Comp H1 H2 → Hle H1 H → Hle H2 H → Sats C H1 → Sats R H2 → Sats (C ++ R) H
  | [], _, _, _, _, _, _, h2, _, hs => hs.mono h2
  | _ :: _, _, _, _, _, hc, h1, h2, ⟨G1, G2, kc, k1, k2, ka, ks⟩, hs =>
    ⟨G1, hjoin G2 _, (Comp.join kc.symm (hc.symm.le2 k1)).symm, k1.trans h1, hjoin_le (k2.trans h1) h2, ka,
      Sats.join (hc.le k2) (hjoin_left _ _) (hjoin_right (hc.le k2) (k2.trans h1) h2) ks hs⟩

/-- one chunk out of a list -/
inductive Pick (A : HP) : List HP → List HP → Prop where
  | here {l : List HP} : Pick A (A :: l) l
  | there {B : HP} {l r : List HP} : Pick A l r → Pick A (B :: l) (B :: r)
theorem Pick.perm {A : HP} {l r : List HP} (h : Pick A l r) : l.Perm (A :: r) := by
  induction h with
  | here => exact List.Perm.refl _
  | there _ ih => exact (List.Perm.cons _ ih).trans (List.Perm.swap _ _ _)
theorem Pick.sats {A : HP} {l r : List HP} (h : Pick A l r) {H : Hp} (hs : Sats l H) : Sats (A :: r) H := hs.perm h.perm

/-- what one list says another one says -/
def Ent (C C' : List HP) : Prop := ∀ H, Sats C H → Sats C' H
theorem Ent.refl (C : List HP) : Ent C C := fun _ h => h
theorem Ent.trans {A B C : List HP} (h : Ent A B) (k : Ent B C) : Ent A C := fun H x => k H (h H x)
theorem Ent.nil {C : List HP} : Ent C [] := fun _ _ => trivial
theorem Ent.cons {A : HP} {C C' : List HP} (h : Ent C C') : Ent (A :: C) (A :: C') := fun _ ⟨H1, H2, hc, h1, h2, ha, hs⟩ => ⟨H1, H2, hc, h1, h2, ha, h _ hs⟩
theorem Ent.pick {A : HP} {C R C' : List HP} (hp : Pick A C R) (h : Ent R C') : Ent C (A :: C') := fun _ hs => (Ent.cons h) _ (hp.sats hs)
theorem Ent.drop {A : HP} {C C' : List HP} (h : Ent C C') : Ent (A :: C) C' := fun H hs => h H hs.tail
theorem Ent.imp {A B : HP} {C C' : List HP} (hab : ∀ H, A H → B H) (h : Ent C C') : Ent (A :: C) (B :: C') := fun _ ⟨H1, H2, hc, h1, h2, ha, hs⟩ => ⟨H1, H2, hc, h1, h2, hab _ ha, h _ hs⟩

/-! ### Assertions -/
def exP {α : Type} (g : α → HP) : HP := fun H => ∃ x, g x H
def star (l : List HP) : HP := Sats l
def pureP (p : Prop) : HP := fun _ => p
def pt (r : Nat) (cs : List Value) (e : TypeId) : HP := fun H => H r = some (.cells cs e true)
def ro (r : Nat) (cs : List Value) (e : TypeId) : HP := fun H => H r = some (.cells cs e false)

theorem Sats.ex {α : Type} {g : α → HP} {C : List HP} {H : Hp} (h : Sats (exP g :: C) H) : ∃ x, Sats (g x :: C) H := by
  obtain ⟨H1, H2, hc, h1, h2, ⟨x, ha⟩, hs⟩ := h
  exact ⟨x, H1, H2, hc, h1, h2, ha, hs⟩
theorem Sats.star {l C : List HP} {H : Hp} (h : Sats (star l :: C) H) : Sats (l ++ C) H := by
  obtain ⟨H1, H2, hc, h1, h2, ha, hs⟩ := h
  exact Sats.join hc h1 h2 ha hs
theorem Sats.pure {p : Prop} {C : List HP} {H : Hp} (h : Sats (pureP p :: C) H) : p ∧ Sats C H := ⟨by obtain ⟨_, _, _, _, _, ha, _⟩ := h; exact ha, h.tail⟩
theorem Ent.ex {α : Type} {g : α → HP} {C C' : List HP} (x : α) (h : Ent C (g x :: C')) : Ent C (exP g :: C') := fun H hs => by
  obtain ⟨H1, H2, hc, h1, h2, ha, hs⟩ := h H hs
  exact ⟨H1, H2, hc, h1, h2, ⟨x, ha⟩, hs⟩
theorem Ent.star {l C C' : List HP} (h : Ent C (l ++ C')) : Ent C (star l :: C') := fun H hs => by
  obtain ⟨H1, H2, hc, h1, h2, ha, hs⟩ := (h H hs).append
  exact ⟨H1, H2, hc, h1, h2, ha, hs⟩
theorem Ent.pure {p : Prop} {C C' : List HP} (hp : p) (h : Ent C C') : Ent C (pureP p :: C') := fun H hs =>
  ⟨fun _ => none, H, (fun _ _ _ h => by cases h), (fun _ _ h => by cases h), Hle.refl H, hp, h H hs⟩

/-- an assertion on what nobody writes may be had twice -/
def Pers (A : HP) : Prop := ∀ H, A H → ∃ H', Hle H' H ∧ A H' ∧ ∀ B b, H' B = some b → b.own = false
def hone (r : Nat) (b : Blk) : Hp := fun i => if i = r then some b else none
theorem hone_le {r : Nat} {b b' : Blk} {H : Hp} (h : H r = some b') (hl : b.le b') : Hle (hone r b) H := fun i c hc => by
  unfold hone at hc; split at hc
  · rename_i e; subst e; cases hc; exact ⟨b', h, hl⟩
  · cases hc
theorem hone_eq {r i : Nat} {b c : Blk} (h : hone r b i = some c) : i = r ∧ c = b := by
  unfold hone at h; split at h
  · rename_i e; cases h; exact ⟨e, rfl⟩
  · cases h
theorem hone_same (r : Nat) (b : Blk) : hone r b r = some b := by simp [hone]
theorem pers_ro (r : Nat) (cs : List Value) (e : TypeId) : Pers (ro r cs e) := fun H h =>
  ⟨hone r (.cells cs e false), hone_le h (Blk.le_refl _), hone_same _ _, fun B b hb => by rw [(hone_eq hb).2]; rfl⟩
theorem pers_pure (p : Prop) : Pers (pureP p) := fun _ h => ⟨fun _ => none, (fun _ _ h => by cases h), h, (fun _ _ h => by cases h)⟩
theorem pers_ex {α : Type} {g : α → HP} (h : ∀ x, Pers (g x)) : Pers (exP g) := fun H ⟨x, hx⟩ => by
  obtain ⟨H', h1, h2, h3⟩ := h x H hx
  exact ⟨H', h1, ⟨x, h2⟩, h3⟩
theorem pers_star_nil : Pers (star []) := fun _ _ => ⟨fun _ => none, (fun _ _ h => by cases h), trivial, (fun _ _ h => by cases h)⟩
theorem pers_star_cons {A : HP} {l : List HP} (h1 : Pers A) (h2 : Pers (star l)) : Pers (star (A :: l)) := fun H ⟨H1, H2, hc, k1, k2, ka, ks⟩ => by
  obtain ⟨G1, a1, b1, c1⟩ := h1 _ ka
  obtain ⟨G2, a2, b2, c2⟩ := h2 _ ks
  refine ⟨hjoin G1 G2, hjoin_le (a1.trans k1) (a2.trans k2), ⟨G1, G2, fun B b c hb hc => ⟨c1 _ _ hb, c2 _ _ hc⟩, hjoin_left _ _, hjoin_right (fun B b c hb hc => ⟨c1 _ _ hb, c2 _ _ hc⟩) (a1.trans k1) (a2.trans k2), b1, b2⟩, ?_⟩
  intro B b hb
  unfold hjoin at hb
  split at hb
  · rename_i x hx; cases hb; exact c1 _ _ hx
  · exact c2 _ _ hb
theorem Sats.dup {A : HP} {C : List HP} {H : Hp} (hp : Pers A) (h : Sats (A :: C) H) : Sats (A :: A :: C) H := by
  obtain ⟨H1, H2, hc, h1, h2, ha, hs⟩ := h
  obtain ⟨G, g1, g2, g3⟩ := hp H1 ha
  refine ⟨G, hjoin G H2, ?_, g1.trans h1, hjoin_le (g1.trans h1) h2, g2, G, H2, hc.le g1, hjoin_left _ _, hjoin_right (hc.le g1) (g1.trans h1) h2, g2, hs⟩
  refine (Comp.join (fun B b c hb hc => ⟨g3 _ _ hb, g3 _ _ hc⟩) (hc.le g1).symm).symm
theorem Ent.pickP {A : HP} {C R C' : List HP} (hq : Pers A) (hp : Pick A C R) (h : Ent (A :: R) C') : Ent C (A :: C') := fun _ hs => (Ent.cons h) _ ((hp.sats hs).dup hq)
/-- nobody writes any more -/
theorem Ent.freeze {r : Nat} {cs : List Value} {e : TypeId} {C R C' : List HP} (hp : Pick (pt r cs e) C R) (h : Ent (ro r cs e :: R) C') : Ent C C' := fun H hs => by
  obtain ⟨H1, H2, hc, h1, h2, ha, hs⟩ := hp.sats hs
  refine h H ⟨hone r (.cells cs e false), H2, hc.le ?_, Hle.trans ?_ h1, h2, hone_same _ _, hs⟩
  · exact hone_le ha (.inr ⟨cs, e, rfl, rfl⟩)
  · exact hone_le ha (.inr ⟨cs, e, rfl, rfl⟩)

/-! ### Contracts and codes over chunks -/
def upC (Q : Fr → List HP → Prop) : Fr → Hp → Prop := fun a H => ∃ C, Sats C H ∧ Q a C
def upV (K : Value → List HP → Prop) : Value → Hp → Prop := fun v H => ∃ C, Sats C H ∧ K v C
def upE (Q : Exit → Fr → List HP → Prop) : Exit → Fr → Hp → Prop := fun e => upC (Q e)
def CallT (P : Program) (f : FuncId) (args : Array Value) (C : List HP) (K : Value → List HP → Prop) : Prop := ∀ H, Sats C H → CallS P f args H (upV K)
def evC (P : Program) (c : Code) (Q : Exit → Fr → List HP → Prop) (a : Fr) (C : List HP) : Prop := ∀ H, Sats C H → ev P c (upE Q) a H

theorem CallT.ent {P : Program} {f : FuncId} {args : Array Value} {C C' : List HP} {K : Value → List HP → Prop} (he : Ent C C') (h : CallT P f args C' K) : CallT P f args C K := fun H hs => h H (he H hs)
theorem CallT.ex {P : Program} {f : FuncId} {args : Array Value} {α : Type} {g : α → HP} {C : List HP} {K : Value → List HP → Prop} (h : ∀ x, CallT P f args (g x :: C) K) : CallT P f args (exP g :: C) K := fun H hs => by
  obtain ⟨x, hx⟩ := hs.ex
  exact h x H hx
theorem CallT.star {P : Program} {f : FuncId} {args : Array Value} {l C : List HP} {K : Value → List HP → Prop} (h : CallT P f args (l ++ C) K) : CallT P f args (star l :: C) K := fun H hs => h H hs.star
theorem CallT.pure {P : Program} {f : FuncId} {args : Array Value} {p : Prop} {C : List HP} {K : Value → List HP → Prop} (h : p → CallT P f args C K) : CallT P f args (pureP p :: C) K := fun H hs => h hs.pure.1 H hs.pure.2
theorem CallT.mono {P : Program} {f : FuncId} {args : Array Value} {C : List HP} {K K' : Value → List HP → Prop} (h : CallT P f args C K) (hk : ∀ v C, K v C → K' v C) : CallT P f args C K' := fun H hs => (h H hs).mono fun v _ ⟨C', h1, h2⟩ => ⟨C', h1, hk v C' h2⟩

/-! monotony -/
theorem evL_mono {P : Program} {ops : Array Oper} {Q Q' : Fr → Hp → Prop} (hq : ∀ a H, Q a H → Q' a H) : ∀ (l : List Oper) (i : Nat) (a : Fr) (H : Hp), evL P ops Q i l a H → evL P ops Q' i l a H
  | [], _, a, H, h => hq a H h
  | o :: l, i, a, H, h => by
    unfold evL at h ⊢
    split
    · rename_i hw
      rw [if_pos hw] at h
      refine evOp_mono (fun v H' hv => ?_) h
      rw [spl_iff] at hv ⊢
      exact evL_mono hq l _ _ _ hv
    · rename_i hw
      rw [if_neg hw] at h
      exact evL_mono hq l _ _ _ h
theorem evD_mono {P : Program} {ops : Array Oper} {Q Q' : Fr → Hp → Prop} (hq : ∀ a H, Q a H → Q' a H) : ∀ (l : List (Nat × Nat)) (hist : List Hp) (a : Fr) (H : Hp), evD P ops Q l hist a H → evD P ops Q' l hist a H
  | [], _, a, H, h => hq a H h
  | (i, c) :: l, hist, a, H, h => by
    simp only [evD] at h ⊢
    split at h
    · exact h.elim
    · split
      · rename_i hw
        rw [if_pos hw] at h
        split at h
        · obtain ⟨v, h1, h2⟩ := h
          rw [spl_iff] at h2
          exact ⟨v, h1, (spl_iff _ _ _).2 (evD_mono hq l _ _ _ h2)⟩
        · obtain ⟨v, h1, h3, h2⟩ := h
          rw [spl_iff] at h2
          exact ⟨v, h1, h3, (spl_iff _ _ _).2 (evD_mono hq l _ _ _ h2)⟩
        · refine evOp_mono (fun v H' hv => ?_) h
          rw [spl_iff] at hv ⊢
          exact evD_mono hq l _ _ _ hv
      · rename_i hw
        rw [if_neg hw] at h
        exact evD_mono hq l _ _ _ h
theorem evT_mono {P : Program} {ops : Array Oper} {Q Q' : Fr → Hp → Prop} (hq : ∀ a H, Q a H → Q' a H) : ∀ (t : Tr) (hist : List Hp) (a : Fr) (H : Hp), evT P ops Q t hist a H → evT P ops Q' t hist a H
  | .nil, _, a, H, h => hq a H h
  | .br t u, _, _, _, h => ⟨evT_mono hq t _ _ _ h.1, evT_mono hq u _ _ _ h.2⟩
  | .st i c l, hist, a, H, h => by
    simp only [evT] at h ⊢
    split at h
    · exact h.elim
    · split
      · rename_i hw
        rw [if_pos hw] at h
        split at h
        · obtain ⟨v, h1, h2⟩ := h
          rw [spl_iff] at h2
          exact ⟨v, h1, (spl_iff _ _ _).2 (evT_mono hq l _ _ _ h2)⟩
        · obtain ⟨v, h1, h3, h2⟩ := h
          rw [spl_iff] at h2
          exact ⟨v, h1, h3, (spl_iff _ _ _).2 (evT_mono hq l _ _ _ h2)⟩
        · refine evOp_mono (fun v H' hv => ?_) h
          rw [spl_iff] at hv ⊢
          exact evT_mono hq l _ _ _ hv
      · rename_i hw
        rw [if_neg hw] at h
        exact evT_mono hq l _ _ _ h
theorem ev_monoQ {P : Program} (c : Code) : ∀ {Q Q' : Exit → Fr → Hp → Prop} (_ : ∀ e a H, Q e a H → Q' e a H) (a : Fr) (H : Hp), ev P c Q a H → ev P c Q' a H := by
  induction c with
  | region id ops d =>
    intro Q Q' hq a H h
    cases d
    · exact evL_mono (hq .normal) _ _ _ _ h
    · exact h.imp (fun h => ⟨h.1, evD_mono (hq .normal) _ _ _ _ h.2⟩) fun ⟨t, h1, h2⟩ => ⟨t, h1, evT_mono (hq .normal) _ _ _ _ h2⟩
  | seq x y ihx ihy =>
    intro Q Q' hq a H h
    refine ihx (Q := thenE (ev P y Q) Q) (fun e a H h => ?_) a H h
    cases e <;> first | exact hq _ _ _ h | exact ihy hq a H h
  | cond c x y ihx ihy =>
    intro Q Q' hq a H h
    simp only [ev] at h ⊢
    split
    · rename_i b hb; rw [hb] at h; exact ⟨fun hb => ihx hq a H (h.yes hb), fun hb => ihy hq a H (h.no hb)⟩
    · rename_i hb
      split at h
      · rename_i b hb'; exact absurd hb' (hb b)
      · exact h
  | block id c ih =>
    intro Q Q' hq a H h
    refine ih (Q := inBlockE id Q) (fun e a H h => ?_) a H h
    cases e <;> first
      | exact hq _ _ _ h
      | (simp only [inBlockE] at h ⊢; split <;> rename_i hj <;> simp only [hj, if_true, if_false] at h <;> exact hq _ _ _ h)
  | loop c ih =>
    intro Q Q' hq a H h
    obtain ⟨I, n, h0, hr⟩ := h
    refine ⟨I, n, h0, fun n a H hI => ih (Q := thenE _ Q) (fun e a H h => ?_) a H (hr n a H hI)⟩
    cases e <;> first | exact h | exact hq _ _ _ h
  | scope c ih =>
    intro Q Q' hq a H h
    refine ih (Q := noGotoE Q) (fun e a H h => ?_) a H h
    cases e <;> first | exact hq _ _ _ h | exact h.elim
  | skip => exact fun hq a H h => hq _ _ _ h
  | exit id => exact fun hq a H h => hq _ _ _ h
  | label l => exact fun hq a H h => hq _ _ _ h
  | ret => exact fun hq a H h => hq _ _ _ h
  | _ => exact fun hq a H h => h.elim
end Go.Sl
