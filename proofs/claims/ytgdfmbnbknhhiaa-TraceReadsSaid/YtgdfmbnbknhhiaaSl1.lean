/- The ground of a small program logic over the kit's Code.wp: partial heaps, and what a Sem does to them: lemmas; each with the conditions that it states. -/
import Derived.Calls
import Derived.Laws.Sem
import Derived.Laws.World
import Derived.Orders
import Derived.Below
namespace Go.Sl

abbrev Fr := Nat → Value

inductive Blk where
  | cells (cs : List Value) (e : TypeId) (rw : Bool)
  | obj (o : Obj)

def Blk.own : Blk → Bool
  | .cells _ _ rw => rw
  | .obj _ => true

abbrev Hp := Nat → Option Blk

def hupd (H : Hp) (r : Nat) (b : Blk) : Hp := fun i => if i = r then some b else H i

theorem hupd_same (H : Hp) (r : Nat) (b : Blk) : hupd H r b r = some b := by simp [hupd]
theorem hupd_ne (H : Hp) {r i : Nat} (b : Blk) (h : i ≠ r) : hupd H r b i = H i := by simp [hupd, h]

def noCells : Obj → Bool
  | .cells .. => false
  | _ => true

def BlkIs (w : World) (B : Nat) : Blk → Prop
  | .cells cs e rw => ∃ arr fz, w.heap[B]? = some (.cells arr e fz) ∧ arr.toList = cs ∧ (rw = true → cs.length ≤ fz.1 ∨ fz.1 = fz.2)
  | .obj o => w.heap[B]? = some o ∧ noCells o = true

theorem BlkIs.lt {w : World} {B : Nat} {b : Blk} (h : BlkIs w B b) : B < w.heap.size := by
  have key : ∀ o, w.heap[B]? = some o → B < w.heap.size := fun o ho => by
    rcases Nat.lt_or_ge B w.heap.size with h' | h'
    · exact h'
    · rw [Array.getElem?_eq_none h'] at ho; cases ho
  cases b with
  | cells cs e rw => obtain ⟨arr, fz, h1, _⟩ := h; exact key _ h1
  | obj o => exact key _ h.1

theorem BlkIs.of_heap {w w' : World} {B : Nat} {b : Blk} (h : BlkIs w B b) (hh : w'.heap[B]? = w.heap[B]?) : BlkIs w' B b := by
  cases b with
  | cells cs e rw => obtain ⟨arr, fz, h1, h2⟩ := h; exact ⟨arr, fz, hh.trans h1, h2⟩
  | obj o => exact ⟨hh.trans h.1, h.2⟩

structure Sat (own : Nat → Prop) (H : Hp) (w : World) : Prop where
  is : ∀ B b, H B = some b → BlkIs w B b
  mine : ∀ B b, H B = some b → b.own = true → own B
  tail : ∀ i, w.heap.size ≤ i → own i

structure Chg (own : Nat → Prop) (w w' : World) : Prop where
  os : w'.os = w.os
  tape : w'.tape = w.tape
  output : w'.output = w.output
  size : w.heap.size ≤ w'.heap.size
  kept : ∀ i, i < w.heap.size → ¬ own i → w'.heap[i]? = w.heap[i]?

theorem Chg.refl (own : Nat → Prop) (w : World) : Chg own w w := ⟨rfl, rfl, rfl, Nat.le_refl _, fun _ _ _ => rfl⟩
theorem Chg.trans {own : Nat → Prop} {a b c : World} (h : Chg own a b) (k : Chg own b c) : Chg own a c :=
  ⟨k.os.trans h.os, k.tape.trans h.tape, k.output.trans h.output, Nat.le_trans h.size k.size,
    fun i hi ho => (k.kept i (Nat.lt_of_lt_of_le hi h.size) ho).trans (h.kept i hi ho)⟩

/-- From 'w' with 'H' to 'w'' with 'H''. -/
structure To (own : Nat → Prop) (w : World) (H : Hp) (w' : World) (H' : Hp) : Prop where
  sat : Sat own H' w'
  chg : Chg own w w'
  dom : ∀ B, B < w.heap.size → H B = none → H' B = none

theorem To.refl {own : Nat → Prop} {w : World} {H : Hp} (h : Sat own H w) : To own w H w H := ⟨h, .refl _ _, fun _ _ h => h⟩
theorem To.trans {own : Nat → Prop} {w w1 w2 : World} {H H1 H2 : Hp} (h : To own w H w1 H1) (k : To own w1 H1 w2 H2) : To own w H w2 H2 :=
  ⟨k.sat, h.chg.trans k.chg, fun B hB hn => k.dom B (Nat.lt_of_lt_of_le hB h.chg.size) (h.dom B hB hn)⟩

def Hsub (H' H : Hp) : Prop := ∀ B b, H' B = some b → H B = some b
theorem Hsub.refl (H : Hp) : Hsub H H := fun _ _ h => h
theorem Hsub.trans {A B C : Hp} (h : Hsub A B) (k : Hsub B C) : Hsub A C := fun _ _ x => k _ _ (h _ _ x)
theorem Hsub.hupd_fresh {H' H : Hp} {r : Nat} {b : Blk} (h : Hsub H' H) (hr : H r = none) : Hsub H' (hupd H r b) := fun B c hc => by
  have := h B c hc
  rw [hupd_ne _ _ (fun e => by subst e; rw [hr] at this; cases this)]
  exact this
theorem Hsub.hupd_both {H' H : Hp} {r : Nat} {b : Blk} (h : Hsub H' H) : Hsub (hupd H' r b) (hupd H r b) := fun B c hc => by
  unfold hupd at *
  split
  · rename_i e; simpa [e] using hc
  · rename_i e; simp [e] at hc; exact h _ _ hc
theorem Sat.sub {own : Nat → Prop} {H' H : Hp} {w : World} (h : Sat own H w) (hs : Hsub H' H) : Sat own H' w :=
  ⟨fun B b hb => h.is B b (hs B b hb), fun B b hb => h.mine B b (hs B b hb), h.tail⟩
theorem To.sub {own : Nat → Prop} {w w' : World} {H H1 H2 : Hp} (h : To own w H w' H1) (hs : Hsub H2 H1) : To own w H w' H2 :=
  ⟨h.sat.sub hs, h.chg, fun B hB hn => by
    have := h.dom B hB hn
    cases h2 : H2 B with
    | none => rfl
    | some b => have := hs B b h2; simp_all⟩

theorem Sat.lt {own : Nat → Prop} {H : Hp} {w : World} (h : Sat own H w) {B : Nat} {b : Blk} (hb : H B = some b) : B < w.heap.size := (h.is B b hb).lt
theorem Sat.fresh {own : Nat → Prop} {H : Hp} {w : World} (h : Sat own H w) {B : Nat} (hB : w.heap.size ≤ B) : H B = none := by
  cases hb : H B with
  | none => rfl
  | some b => have := h.lt hb; omega

end Go.Sl
namespace Go
open Go.Sl
/-- What a Sem does, over a partial heap. -/
def Sem.ev (P : Program) {α : Type} : Sem α → Hp → (α → Hp → Prop) → Prop
  | .pure a, H, k => k a H
  | .load _ a c, H, k => ∃ cs e rw v, H a.block = some (.cells cs e rw) ∧ a.spot = none ∧ cs[a.off]? = some v ∧ (c v).ev P H k
  | .store _ a v c, H, k => v.oneCell' = true ∧ ∃ cs e, H a.block = some (.cells cs e true) ∧ a.spot = none ∧ a.off < cs.length ∧
      c.ev P (hupd H a.block (.cells (cs.set a.off v) e true)) k
  | .new o c, H, k => ∀ r, H r = none → match o with
      | .cells arr e fz => fz = (0, 0) ∧ (c r).ev P (hupd H r (.cells arr.toList e true)) k
      | o => (c r).ev P (hupd H r (.obj o)) k
  | .shape r c, H, k => match H r with
      | some (.cells cs e _) => (c (some (e, cs.length))).ev P H k
      | some (.obj _) => (c none).ev P H k
      | none => False
  | .freeze a n c, H, k => if n = 0 then c.ev P H k else ∃ cs e, H a.block = some (.cells cs e true) ∧ cs.length ≤ a.off ∧ c.ev P H k
  | .frozen a c, H, k => match H a.block with
      | some (.cells cs _ true) => if a.off < cs.length then (c false).ev P H k else ∀ b, (c b).ev P H k
      | _ => ∀ b, (c b).ev P H k
  | .getObj r c, H, k => ∃ o, H r = some (.obj o) ∧ (c o).ev P H k
  | .setObj r o c, H, k => (∃ o', H r = some (.obj o')) ∧ noCells o = true ∧ c.ev P (hupd H r (.obj o)) k
  | .choose q c, H, k => if q.forced then (c 0).ev P H k else ∀ n, (c (q.cut n)).ev P H k
  | .sys _ _, _, _ => False
  | .program c, H, k => (c P).ev P H k
  | .mark _ c, H, k => c.ev P H k
  | .halt _, _, _ => False
end Go
namespace Go.Sl

theorem BlkIs.cell {w : World} {B : Nat} {cs : List Value} {e : TypeId} {rw : Bool} (h : BlkIs w B (.cells cs e rw)) (off : Nat) :
    w.cell? ⟨B, off, none⟩ = cs[off]? := by
  obtain ⟨arr, fz, h1, h2, _⟩ := h
  simp [World.cell?, h1, ← h2]

theorem BlkIs.free {w : World} {B : Nat} {cs : List Value} {e : TypeId} (h : BlkIs w B (.cells cs e true)) {off : Nat} (ho : off < cs.length) (sp : Option Nat) :
    w.frozen? ⟨B, off, sp⟩ = false := by
  obtain ⟨arr, fz, h1, h2, h3⟩ := h
  have := h3 rfl
  simp only [World.frozen?, h1, Bool.and_eq_false_iff, decide_eq_false_iff_not]
  omega

theorem Sat.setCell {own : Nat → Prop} {H : Hp} {w : World} (h : Sat own H w) {B off : Nat} {cs : List Value} {e : TypeId} (hb : H B = some (.cells cs e true)) (v : Value) :
    Sat own (hupd H B (.cells (cs.set off v) e true)) (w.setCell ⟨B, off, none⟩ v) := by
  refine ⟨fun C c hc => ?_, fun C c hc ho => ?_, fun i hi => h.tail i (by simpa using hi)⟩
  · by_cases hC : C = B
    · subst hC
      rw [hupd_same] at hc
      cases hc
      obtain ⟨arr, fz, h1, h2, h3⟩ := h.is _ _ hb
      refine ⟨arr.setIfInBounds off v, fz, ?_, by simp [← h2], ?_⟩
      · simp [World.setCell, Array.getElem?_modify, h1]
      · simpa using h3
    · rw [hupd_ne _ _ hC] at hc
      refine (h.is C c hc).of_heap ?_
      simp only [World.setCell, Array.getElem?_modify]
      simp [Ne.symm hC]
  · by_cases hC : C = B
    · subst hC; exact h.mine _ _ hb rfl
    · rw [hupd_ne _ _ hC] at hc; exact h.mine C c hc ho

theorem Chg.setCell {own : Nat → Prop} {w : World} {a : Addr} (h : own a.block) (v : Value) : Chg own w (w.setCell a v) := by
  refine ⟨rfl, rfl, rfl, by simp, fun i _ ho => ?_⟩
  have hne : a.block ≠ i := fun e => ho (e ▸ h)
  simp only [World.setCell, Array.getElem?_modify]
  simp [hne]

theorem Sat.alloc {own : Nat → Prop} {H : Hp} {w : World} (h : Sat own H w) {o : Obj} {b : Blk} (hb : ∀ w', w'.heap[w.heap.size]? = some o → BlkIs w' w.heap.size b) :
    Sat own (hupd H w.heap.size b) (w.alloc o) := by
  have hn : (w.alloc o).heap[w.heap.size]? = some o := by simp only [World.alloc, Array.getElem?_push]; simp
  refine ⟨fun C c hc => ?_, fun C c hc ho => ?_, fun i hi => h.tail i (by simp at hi; omega)⟩
  · by_cases hC : C = w.heap.size
    · subst hC; rw [hupd_same] at hc; cases hc; exact hb _ hn
    · rw [hupd_ne _ _ hC] at hc
      refine (h.is C c hc).of_heap ?_
      exact RowKit.Below.heap_alloc w o C (h.lt hc)
  · by_cases hC : C = w.heap.size
    · subst hC; exact h.tail _ (Nat.le_refl _)
    · rw [hupd_ne _ _ hC] at hc; exact h.mine C c hc ho

theorem Chg.alloc (own : Nat → Prop) (w : World) (o : Obj) : Chg own w (w.alloc o) :=
  ⟨rfl, rfl, rfl, by simp, fun i hi _ => RowKit.Below.heap_alloc w o i hi⟩

theorem Sat.setObj {own : Nat → Prop} {H : Hp} {w : World} (h : Sat own H w) {r : Nat} {o o' : Obj} (hr : H r = some (.obj o')) (hn : noCells o = true) :
    Sat own (hupd H r (.obj o)) { w with heap := w.heap.setIfInBounds r o } := by
  have hlt := h.lt hr
  refine ⟨fun C c hc => ?_, fun C c hc ho => ?_, fun i hi => h.tail i (by simpa using hi)⟩
  · by_cases hC : C = r
    · subst hC; rw [hupd_same] at hc; cases hc
      exact ⟨by simp [hlt], hn⟩
    · rw [hupd_ne _ _ hC] at hc
      exact (h.is C c hc).of_heap (by simp [Array.getElem?_setIfInBounds_ne (Ne.symm hC)])
  · by_cases hC : C = r
    · subst hC; exact h.mine _ _ hr rfl
    · rw [hupd_ne _ _ hC] at hc; exact h.mine C c hc ho

theorem Sat.freeze {own : Nat → Prop} {H : Hp} {w : World} (h : Sat own H w) {a : Addr} {n : Nat} {cs : List Value} {e : TypeId} (hb : H a.block = some (.cells cs e true)) (ho : cs.length ≤ a.off) :
    Sat own H (w.freeze a n) := by
  by_cases h0 : n = 0
  · simpa [World.freeze, h0] using h
  refine ⟨fun C c hc => ?_, h.mine, fun i hi => h.tail i (by simpa [World.freeze, h0] using hi)⟩
  by_cases hC : C = a.block
  · subst hC
    rw [hb] at hc; cases hc
    obtain ⟨arr, fz, h1, h2, h3⟩ := h.is _ _ hb
    obtain ⟨lo, hi⟩ := fz
    refine ⟨arr, (if lo == hi then (a.off, a.off + n) else (min lo a.off, max hi (a.off + n))), ?_, h2, fun _ => ?_⟩
    · simp [World.freeze, h0, Array.getElem?_modify, h1]
    · have h3' := h3 rfl
      by_cases hl : lo = hi
      · simp [hl]; omega
      · have hbe : (lo == hi) = false := by simp [hl]
        simp only [hbe, Bool.false_eq_true, if_false]
        simp only at h3' ⊢
        omega
  · refine (h.is C c hc).of_heap ?_
    simp [World.freeze, h0, Array.getElem?_modify, Ne.symm hC]

theorem Chg.freeze {own : Nat → Prop} {w : World} {a : Addr} (h : own a.block) (n : Nat) : Chg own w (w.freeze a n) := by
  by_cases h0 : n = 0
  · simpa [World.freeze, h0] using Chg.refl own w
  refine ⟨by simp [World.freeze, h0], by simp [World.freeze, h0], by simp [World.freeze, h0], by simp [World.freeze, h0], fun i _ ho => ?_⟩
  have hne : a.block ≠ i := fun e => ho (e ▸ h)
  simp [World.freeze, h0, Array.getElem?_modify, hne]

theorem Sat.drew {own : Nat → Prop} {H : Hp} {w : World} (h : Sat own H w) : Sat own H { w with drawn := w.drawn + 1 } :=
  ⟨fun B b hb => (h.is B b hb).of_heap rfl, h.mine, h.tail⟩
theorem Chg.drew (own : Nat → Prop) (w : World) : Chg own w { w with drawn := w.drawn + 1 } := ⟨rfl, rfl, rfl, Nat.le_refl _, fun _ _ _ => rfl⟩

theorem dom_hupd {H : Hp} {w : World} {r : Nat} {b : Blk} (hr : H r ≠ none ∨ w.heap.size ≤ r) : ∀ B, B < w.heap.size → H B = none → hupd H r b B = none := fun B hB hn => by
  rw [hupd_ne]
  · exact hn
  · rintro rfl
    rcases hr with hr | hr
    · exact hr hn
    · omega

theorem ev_sound (P : Program) {α : Type} (own : Nat → Prop) (s : Sem α) : ∀ (H : Hp) (w : World) (k : α → Hp → Prop), s.ev P H k → Sat own H w →
    ∃ x w' H', s.run P w = .ok x w' ∧ k x H' ∧ To own w H w' H' := by
  induction s with
  | pure a => exact fun H w k h hs => ⟨a, w, H, rfl, h, .refl hs⟩
  | load m a c ih =>
    intro H w k h hs
    obtain ⟨cs, e, rw, v, hb, hsp, hv, hk⟩ := h
    obtain ⟨x, w', H', hr, hk', ht⟩ := ih v H w k hk hs
    obtain ⟨B, off, sp⟩ := a
    simp only at hsp hb hv
    subst hsp
    have hc := (hs.is _ _ hb).cell off
    exact ⟨x, w', H', by simp only [Sem.run, hc, hv]; exact hr, hk', ht⟩
  | store m a v c ih =>
    intro H w k h hs
    obtain ⟨hone, cs, e, hb, hsp, hlt, hk⟩ := h
    obtain ⟨B, off, sp⟩ := a
    simp only at hsp hb hlt hk
    subst hsp
    have hc := (hs.is _ _ hb).cell off
    have hf := (hs.is _ _ hb).free hlt none
    obtain ⟨x, w', H', hr, hk', ht⟩ := ih _ (w.setCell ⟨B, off, none⟩ v) k hk (hs.setCell hb v)
    have hcv : w.cell? ⟨B, off, none⟩ = some cs[off] := by rw [hc, List.getElem?_eq_getElem hlt]
    refine ⟨x, w', H', ?_, hk', ⟨ht.sat, (Chg.setCell (hs.mine _ _ hb rfl) v).trans ht.chg, ?_⟩⟩
    · cases v <;> first | (simp [Value.oneCell'] at hone; done) | (simp only [Sem.run, hcv, hf]; simpa using hr)
    · intro C hC hn
      exact ht.dom C (by simpa using hC) (dom_hupd (.inl (by rw [hb]; simp)) C hC hn)
  | new o c ih =>
    intro H w k h hs
    have h0 := h w.heap.size (hs.fresh (Nat.le_refl _))
    have hfin : ∀ b, (∀ w', w'.heap[w.heap.size]? = some o → BlkIs w' w.heap.size b) → (c w.heap.size).ev P (hupd H w.heap.size b) k →
        ∃ x w' H', (Sem.new o c).run P w = .ok x w' ∧ k x H' ∧ To own w H w' H' := fun b hb hk => by
      obtain ⟨x, w', H', hr, hk', ht⟩ := ih _ _ (w.alloc o) k hk (hs.alloc hb)
      exact ⟨x, w', H', by simp only [Sem.run, World.alloc_eq]; exact hr, hk', ht.sat, (Chg.alloc own w o).trans ht.chg,
        fun C hC hn => ht.dom C (by simp; omega) (dom_hupd (.inr (Nat.le_refl _)) C hC hn)⟩
    cases o with
    | cells arr e fz =>
      obtain ⟨rfl, hk⟩ := h0
      exact hfin (.cells arr.toList e true) (fun w' hw' => ⟨arr, (0, 0), hw', rfl, fun _ => .inr rfl⟩) hk
    | _ => exact hfin (.obj _) (fun w' hw' => ⟨hw', rfl⟩) h0
  | shape r c ih =>
    intro H w k h hs
    simp only [Sem.ev] at h
    cases hb : H r with
    | none => rw [hb] at h; exact h.elim
    | some b =>
      rw [hb] at h
      cases b with
      | cells cs e rw =>
        obtain ⟨arr, fz, h1, h2, _⟩ := hs.is _ _ hb
        obtain ⟨x, w', H', hr, hk', ht⟩ := ih _ H w k h hs
        refine ⟨x, w', H', ?_, hk', ht⟩
        have : w.shape? r = some (e, cs.length) := by simp [World.shape?, h1, ← h2]
        simp only [Sem.run, this]; exact hr
      | obj o =>
        obtain ⟨h1, h2⟩ := hs.is _ _ hb
        obtain ⟨x, w', H', hr, hk', ht⟩ := ih _ H w k h hs
        refine ⟨x, w', H', ?_, hk', ht⟩
        have : w.shape? r = none := by
          simp only [World.shape?, h1]
          cases o <;> simp_all [noCells]
        simp only [Sem.run, this]; exact hr
  | freeze a n c ih =>
    intro H w k h hs
    simp only [Sem.ev] at h
    by_cases h0 : n = 0
    · simp only [h0, if_true] at h
      obtain ⟨x, w', H', hr, hk', ht⟩ := ih H w k h hs
      exact ⟨x, w', H', by simp only [Sem.run]; simpa [World.freeze, h0] using hr, hk', ht⟩
    · simp only [h0, if_false] at h
      obtain ⟨cs, e, hb, hle, hk⟩ := h
      obtain ⟨x, w', H', hr, hk', ht⟩ := ih H (w.freeze a n) k hk (hs.freeze hb hle)
      have hsz : (w.freeze a n).heap.size = w.heap.size := by simp [World.freeze, h0]
      exact ⟨x, w', H', by simp only [Sem.run]; exact hr, hk', ht.sat, (Chg.freeze (hs.mine _ _ hb rfl) n).trans ht.chg, fun C hC hn => ht.dom C (by omega) hn⟩
  | frozen a c ih =>
    intro H w k h hs
    have fin : ∀ b, w.frozen? a = b → (c b).ev P H k → ∃ x w' H', (Sem.frozen a c).run P w = .ok x w' ∧ k x H' ∧ To own w H w' H' := fun b hb hk => by
      obtain ⟨x, w', H', hr, hk', ht⟩ := ih b H w k hk hs
      exact ⟨x, w', H', by simp only [Sem.run, hb]; exact hr, hk', ht⟩
    simp only [Sem.ev] at h
    split at h
    · rename_i cs e hb
      split at h
      · rename_i hlt
        exact fin false ((hs.is _ _ hb).free hlt a.spot) h
      · exact fin _ rfl (h _)
    · exact fin _ rfl (h _)
  | getObj r c ih =>
    intro H w k h hs
    obtain ⟨o, hb, hk⟩ := h
    obtain ⟨h1, h2⟩ := hs.is _ _ hb
    obtain ⟨x, w', H', hr, hk', ht⟩ := ih o H w k hk hs
    refine ⟨x, w', H', ?_, hk', ht⟩
    simp only [Sem.run, h1]
    cases o <;> simp_all [noCells]
  | setObj r o c ih =>
    intro H w k h hs
    obtain ⟨⟨o', hb⟩, hn, hk⟩ := h
    obtain ⟨h1, h2⟩ := hs.is _ _ hb
    obtain ⟨x, w', H', hr, hk', ht⟩ := ih _ { w with heap := w.heap.setIfInBounds r o } k hk (hs.setObj hb hn)
    have hc : Chg own w { w with heap := w.heap.setIfInBounds r o } := ⟨rfl, rfl, rfl, by simp, fun i hi ho => by
      have : r ≠ i := fun e => ho (e ▸ hs.mine _ _ hb rfl)
      exact Array.getElem?_setIfInBounds_ne this⟩
    refine ⟨x, w', H', ?_, hk', ht.sat, hc.trans ht.chg, fun C hC hn' => ht.dom C (by simpa using hC) (dom_hupd (.inl (by rw [hb]; simp)) C hC hn')⟩
    simp only [Sem.run, h1]
    cases o' <;> simp_all [noCells]
  | choose q c ih =>
    intro H w k h hs
    simp only [Sem.ev] at h
    by_cases hq : q.forced = true
    · simp only [hq, if_true] at h
      obtain ⟨x, w', H', hr, hk', ht⟩ := ih 0 H w k h hs
      exact ⟨x, w', H', by simp only [Sem.run, hq, if_true]; exact hr, hk', ht⟩
    · simp only [hq] at h
      obtain ⟨x, w', H', hr, hk', ht⟩ := ih _ H { w with drawn := w.drawn + 1 } k (h (w.tape w.drawn q)) hs.drew
      exact ⟨x, w', H', by simp only [Sem.run, hq]; simpa using hr, hk', ht.sat, (Chg.drew own w).trans ht.chg, fun C hC hn => ht.dom C hC hn⟩
  | sys c k ih => exact fun H w k h hs => h.elim
  | program c ih =>
    intro H w k h hs
    obtain ⟨x, w', H', hr, hk', ht⟩ := ih P H w k h hs
    exact ⟨x, w', H', by simp only [Sem.run]; exact hr, hk', ht⟩
  | mark m c ih =>
    intro H w k h hs
    obtain ⟨x, w', H', hr, hk', ht⟩ := ih H w k h hs
    exact ⟨x, w', H', by simp only [Sem.run]; exact hr, hk', ht⟩
  | halt h => exact fun H w k h hs => h.elim

theorem ev_mono (P : Program) {α : Type} (s : Sem α) : ∀ (H : Hp) (k k' : α → Hp → Prop), (∀ x H, k x H → k' x H) → s.ev P H k → s.ev P H k' := by
  induction s with
  | pure a => exact fun H k k' hk h => hk _ _ h
  | load m a c ih => exact fun H k k' hk ⟨cs, e, rw, v, h1, h2, h3, h⟩ => ⟨cs, e, rw, v, h1, h2, h3, ih v H k k' hk h⟩
  | store m a v c ih => exact fun H k k' hk ⟨h0, cs, e, h1, h2, h3, h⟩ => ⟨h0, cs, e, h1, h2, h3, ih _ k k' hk h⟩
  | new o c ih =>
    intro H k k' hk h r hr
    have := h r hr
    cases o with
    | cells arr e fz => exact ⟨this.1, ih r _ k k' hk this.2⟩
    | _ => exact ih r _ k k' hk this
  | shape r c ih =>
    intro H k k' hk h
    simp only [Sem.ev] at h ⊢
    split at h
    · exact ih _ H k k' hk h
    · exact ih _ H k k' hk h
    · exact h
  | freeze a n c ih =>
    intro H k k' hk h
    simp only [Sem.ev] at h ⊢
    by_cases hn : n = 0
    · simp only [hn, if_true] at h ⊢; exact ih H k k' hk h
    · simp only [hn, if_false] at h ⊢; obtain ⟨cs, e, h1, h2, h⟩ := h; exact ⟨cs, e, h1, h2, ih H k k' hk h⟩
  | frozen a c ih =>
    intro H k k' hk h
    simp only [Sem.ev] at h ⊢
    split at h
    · rename_i cs e hb
      by_cases hl : a.off < cs.length
      · simp only [hl, if_true] at h ⊢; exact ih _ H k k' hk h
      · simp only [hl, if_false] at h ⊢; exact fun b => ih _ H k k' hk (h b)
    · exact fun b => ih _ H k k' hk (h b)
  | getObj r c ih => exact fun H k k' hk ⟨o, h1, h⟩ => ⟨o, h1, ih o H k k' hk h⟩
  | setObj r o c ih => exact fun H k k' hk ⟨h1, h2, h⟩ => ⟨h1, h2, ih _ k k' hk h⟩
  | choose q c ih =>
    intro H k k' hk h
    simp only [Sem.ev] at h ⊢
    by_cases hq : q.forced = true
    · simp only [hq, if_true] at h ⊢; exact ih 0 H k k' hk h
    · simp only [hq] at h ⊢; exact fun n => ih _ H k k' hk (h n)
  | sys c k ih => exact fun H k k' hk h => h
  | program c ih => exact fun H k k' hk h => ih P H k k' hk h
  | mark m c ih => exact fun H k k' hk h => ih H k k' hk h
  | halt h => exact fun H k k' hk h => h

theorem ev_bind (P : Program) {α β : Type} (s : Sem α) (f : α → Sem β) : ∀ (H : Hp) (k : β → Hp → Prop), (s.bind f).ev P H k = s.ev P H (fun x H' => (f x).ev P H' k) := by
  induction s with
  | pure a => exact fun H k => rfl
  | load m a c ih => intro H k; simp only [Sem.bind, Sem.ev, ih]
  | store m a v c ih => intro H k; simp only [Sem.bind, Sem.ev, ih]
  | new o c ih => intro H k; simp only [Sem.bind, Sem.ev]; cases o <;> simp only [ih]
  | shape r c ih => intro H k; simp only [Sem.bind, Sem.ev]; split <;> simp only [ih]
  | freeze a n c ih => intro H k; simp only [Sem.bind, Sem.ev, ih]
  | frozen a c ih => intro H k; simp only [Sem.bind, Sem.ev]; split <;> simp only [ih]
  | getObj r c ih => intro H k; simp only [Sem.bind, Sem.ev, ih]
  | setObj r o c ih => intro H k; simp only [Sem.bind, Sem.ev, ih]
  | choose q c ih => intro H k; simp only [Sem.bind, Sem.ev, ih]
  | sys c k ih => intro H k; rfl
  | program c ih => intro H k; simp only [Sem.bind, Sem.ev, ih]
  | mark m c ih => intro H k; simp only [Sem.bind, Sem.ev, ih]
  | halt h => intro H k; rfl

theorem ev_bind' (P : Program) {α β : Type} (s : Sem α) (f : α → Sem β) (H : Hp) (k : β → Hp → Prop) : (s >>= f).ev P H k = s.ev P H (fun x H' => (f x).ev P H' k) := ev_bind P s f H k

end Go.Sl
