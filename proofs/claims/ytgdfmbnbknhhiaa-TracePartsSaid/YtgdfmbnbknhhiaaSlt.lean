/- A part of the proof: lemmas; each with the conditions that it states. -/
import Derived.Test.YtgdfmbnbknhhiaaSl4
namespace Go.Sl
open Go
/-- The orders of a drawn region: a tree. -/
inductive Tr where
  | nil
  | st (i c : Nat) (t : Tr)
  | br (t u : Tr)
def evT (P : Program) (ops : Array Oper) (Q : Fr → Hp → Prop) : Tr → List Hp → Fr → Hp → Prop
  | .nil, _, a, H => Q a H
  | .br t u, hist, a, H => evT P ops Q t hist a H ∧ evT P ops Q u hist a H
  | .st i c rest, hist, a, H => match ops[i]? with
    | none => False
    | some o =>
      if wantB ops o a = true then
        match kd P o.op with
        | .pure => ∃ v, pureV P o a = some v ∧ spl (isG ops i) v fun v => evT P ops Q rest hist (putO a o.dst v) H
        | .load => ∃ v, rdV P o a H = some v ∧ (∀ h ∈ hist.take c, rdV P o a h = some v) ∧ spl (isG ops i) v fun v => evT P ops Q rest hist (putO a o.dst v) H
        | .other => evOp P o a H fun v H' => spl (isG ops i) v fun v => evT P ops Q rest (H :: hist) (putO a o.dst v) H'
      else evT P ops Q rest hist (putO a o.dst undef) H
theorem evT_quiet {P : Program} {ops : Array Oper} {Q : Fr → Hp → Prop} {i c : Nat} {o : Oper} (ho : ops[i]? = some o) (hq : isOther P o.op = false) {rest : Tr} {hist : List Hp} {a : Fr} {H : Hp} :
    evT P ops Q (.st i c rest) hist a H ↔ ∃ v, Yv P ops o a H v ∧ (∀ h ∈ hist.take c, Yv P ops o a h v) ∧ evT P ops Q rest hist (putO a o.dst v) H := by
  simp only [evT, ho]
  by_cases hw : wantB ops o a = true
  · simp only [hw, if_true]
    cases hk : kd P o.op with
    | pure =>
      have hqv : ∀ h, qV P o a h = pureV P o a := fun h => by simp [qV, hk]
      simp only [Yv, hw, if_true, hqv]
      constructor
      · rintro ⟨v, hv, h⟩; rw [spl_iff] at h; exact ⟨v, hv, fun _ _ => hv, h⟩
      · rintro ⟨v, hv, _, h⟩; exact ⟨v, hv, (spl_iff _ _ _).2 h⟩
    | load =>
      have hqv : ∀ h, qV P o a h = rdV P o a h := fun h => by simp [qV, hk]
      simp only [Yv, hw, if_true, hqv]
      constructor
      · rintro ⟨v, hv, hh, h⟩; rw [spl_iff] at h; exact ⟨v, hv, hh, h⟩
      · rintro ⟨v, hv, hh, h⟩; exact ⟨v, hv, hh, (spl_iff _ _ _).2 h⟩
    | other => simp [isOther, hk] at hq
  · simp only [hw, Yv]
    constructor
    · exact fun h => ⟨undef, by simp, fun _ _ => by simp, h⟩
    · rintro ⟨v, hv, _, h⟩; simp at hv; subst hv; exact h

theorem evT_other {P : Program} {ops : Array Oper} {Q : Fr → Hp → Prop} {i c : Nat} {o : Oper} (ho : ops[i]? = some o) (hq : isOther P o.op = true) {rest : Tr} {hist : List Hp} {a : Fr} {H : Hp} :
    evT P ops Q (.st i c rest) hist a H ↔ if wantB ops o a = true then evOp P o a H fun v H' => evT P ops Q rest (H :: hist) (putO a o.dst v) H' else evT P ops Q rest hist (putO a o.dst undef) H := by
  simp only [evT, ho]
  have hk : kd P o.op = .other := by
    unfold isOther at hq
    split at hq
    · assumption
    · cases hq
  by_cases hw : wantB ops o a = true
  · simp only [hw, if_true, hk]
    simp only [spl_iff]
  · rw [if_neg hw, if_neg hw]

def rm (i : Nat) : Tr → Tr
  | .nil => .nil
  | .st j c t => if j = i then t else .st j c (rm i t)
  | .br t u => .br (rm i t) (rm i u)
def fit (P : Program) (ops : Array Oper) (i : Nat) (o : Oper) : Tr → Nat → Prop
  | .nil, _ => False
  | .st j c t, d => if j = i then d ≤ c else (∀ oj, ops[j]? = some oj → (oj.apart ops o = true ∧ noSel oj) ∧ fit P ops i o t (d + if isOther P oj.op = true then 1 else 0))
  | .br t u, d => fit P ops i o t d ∧ fit P ops i o u d
theorem evT_front {P : Program} {ops : Array Oper} {Q : Fr → Hp → Prop} {i : Nat} {o : Oper} (ho : ops[i]? = some o) (hq : isOther P o.op = false) (hso : noSel o) :
    ∀ (t : Tr) (d : Nat) (hist : List Hp) (a : Fr) (H : Hp), Satis H → fit P ops i o t d → evT P ops Q t hist a H →
      ∃ v, Yv P ops o a H v ∧ (∀ h ∈ hist.take d, Yv P ops o a h v) ∧ evT P ops Q (rm i t) hist (putO a o.dst v) H := by
  intro t
  induction t with
  | nil => exact fun d hist a H _ hf _ => hf.elim
  | br t u ih1 ih2 =>
    intro d hist a H hs hf h
    obtain ⟨v, h1, h2, h3⟩ := ih1 d hist a H hs hf.1 h.1
    obtain ⟨v', g1, _, g3⟩ := ih2 d hist a H hs hf.2 h.2
    rw [Yv.eq h1 g1] at g3
    exact ⟨v, h1, h2, h3, g3⟩
  | st j c t ih =>
    intro d hist a H hs hf h
    unfold fit at hf
    by_cases hji : j = i
    · subst hji
      rw [if_pos rfl] at hf
      obtain ⟨v, h1, h2, h3⟩ := (evT_quiet ho hq).1 h
      refine ⟨v, h1, fun h hh => h2 h (List.take_subset_take_left _ hf hh), ?_⟩
      unfold rm; rw [if_pos rfl]; exact h3
    · rw [if_neg hji] at hf
      have hrm : rm i (.st j c t) = .st j c (rm i t) := by simp only [rm, if_neg hji]
      rw [hrm]
      cases hj : ops[j]? with
      | none => simp only [evT, hj] at h
      | some oj =>
        obtain ⟨⟨hapj, hsj⟩, hfit⟩ := hf oj hj
        obtain ⟨p1, p2, p3⟩ := Oper.apart_spec hapj
        have hcomm : ∀ (u v : Value), putO (putO a oj.dst u) o.dst v = putO (putO a o.dst v) oj.dst u := fun u v => putO_comm a u v p2
        by_cases hoj : isOther P oj.op = true
        · simp only [hoj, if_true] at hfit
          rw [evT_other hj hoj] at h
          by_cases hw : wantB ops oj a = true
          · rw [if_pos hw] at h
            have key : ∀ u H', Satis H' → evT P ops Q t (H :: hist) (putO a oj.dst u) H' →
                ∃ v, Yv P ops o a H v ∧ (∀ h ∈ hist.take d, Yv P ops o a h v) ∧ evT P ops Q (rm i t) (H :: hist) (putO (putO a oj.dst u) o.dst v) H' := by
              intro u H' hs' hk
              obtain ⟨v, _, h2, h3⟩ := ih (d + 1) (H :: hist) _ H' hs' hfit hk
              rw [List.take_succ_cons] at h2
              exact ⟨v, (Yv_putO o hso a oj.dst u p1 H v).1 (h2 H (by simp)), fun h hh => (Yv_putO o hso a oj.dst u p1 h v).1 (h2 h (by simp [hh])), h3⟩
            obtain ⟨u, H', hs', hk⟩ := evOp_some hs h
            obtain ⟨v, h1, h2, _⟩ := key u H' hs' hk
            refine ⟨v, h1, h2, ?_⟩
            rw [evT_other hj hoj, wantB_putO oj a o.dst v p3, if_pos hw]
            have hmono := evOp_mono_sat (k' := fun u H' => evT P ops Q (rm i t) (H :: hist) (putO (putO a o.dst v) oj.dst u) H') hs (fun u H' hs' hk => by
              obtain ⟨v', g1, _, g3⟩ := key u H' hs' hk
              rw [Yv.eq h1 g1, hcomm] at g3
              exact g3) h
            unfold evOp at hmono ⊢
            rw [execOp_putO oj hsj a o.dst v p3]
            exact hmono
          · rw [if_neg hw] at h
            obtain ⟨v, h1, h2, h3⟩ := ih (d + 1) hist _ H hs hfit h
            refine ⟨v, (Yv_putO o hso a oj.dst undef p1 H v).1 h1, fun h hh => (Yv_putO o hso a oj.dst undef p1 h v).1 (h2 h (List.take_subset_take_left _ (by omega) hh)), ?_⟩
            rw [evT_other hj hoj, wantB_putO oj a o.dst v p3, if_neg hw, ← hcomm]
            exact h3
        · have hoj' : isOther P oj.op = false := by simpa using hoj
          simp only [hoj', Bool.false_eq_true, if_false, Nat.add_zero] at hfit
          rw [evT_quiet hj hoj'] at h
          obtain ⟨u, g1, g2, g3⟩ := h
          obtain ⟨v, h1, h2, h3⟩ := ih d hist _ H hs hfit g3
          refine ⟨v, (Yv_putO o hso a oj.dst u p1 H v).1 h1, fun h hh => (Yv_putO o hso a oj.dst u p1 h v).1 (h2 h hh), ?_⟩
          rw [evT_quiet hj hoj']
          exact ⟨u, (Yv_putO oj hsj a o.dst v p3 H u).2 g1, fun h hh => (Yv_putO oj hsj a o.dst v p3 h u).2 (g2 h hh), by rw [← hcomm]; exact h3⟩
/-! ### Which trees hold all orders -/
/-- x stands before all of these: s tells whether an operation that needs x stood between -/
def chkT (P : Program) (ops : Array Oper) (bs : Array Nat) (x : Nat × Nat) : Bool → List (Nat × Nat) → Bool
  | _, [] => true
  | s, y :: ys => (!(bs.getD x.1 0).testBit y.1 && ((bs.getD y.1 0).testBit x.1 || match ops[x.1]?, ops[y.1]? with
    | some ox, some oy => (isOther P ox.op && isOther P oy.op) || (ox.apart ops oy && !isOther P oy.op) || (s && isOther P oy.op)
    | _, _ => false)) && chkT P ops bs x (s || ((bs.getD y.1 0).testBit x.1 && match ops[y.1]? with | some oy => isOther P oy.op | none => false)) ys

def pwT (P : Program) (ops : Array Oper) (bs : Array Nat) : List (Nat × Nat) → Bool
  | [] => true
  | x :: xs => chkT P ops bs x false xs && pwT P ops bs xs

theorem chkT_after {P : Program} {ops : Array Oper} {bs : Array Nat} {x : Nat × Nat} : ∀ {l : List (Nat × Nat)} {s : Bool}, chkT P ops bs x s l = true → ∀ y ∈ l, (bs.getD x.1 0).testBit y.1 = false
  | y :: ys, s, h, z, hz => by
    simp only [chkT, Bool.and_eq_true, Bool.not_eq_true'] at h
    rcases List.mem_cons.1 hz with rfl | hz
    · exact h.1.1
    · exact chkT_after h.2 z hz
/-- what is quiet may go -/
theorem chkT_rm {P : Program} {ops : Array Oper} {bs : Array Nat} {x : Nat × Nat} {i c : Nat} {o : Oper} (ho : ops[i]? = some o) (hq : isOther P o.op = false) : ∀ {l1 l2 : List (Nat × Nat)} {s : Bool}, chkT P ops bs x s (l1 ++ (i, c) :: l2) = true → chkT P ops bs x s (l1 ++ l2) = true
  | [], l2, s, h => by
    simp only [List.nil_append, chkT, Bool.and_eq_true, ho, hq, Bool.and_false, Bool.or_false] at h
    exact h.2
  | y :: l1, l2, s, h => by
    simp only [List.cons_append, chkT, Bool.and_eq_true] at h ⊢
    exact ⟨h.1, chkT_rm ho hq h.2⟩
theorem pwT_rm {P : Program} {ops : Array Oper} {bs : Array Nat} {i c : Nat} {o : Oper} (ho : ops[i]? = some o) (hq : isOther P o.op = false) : ∀ {l1 l2 : List (Nat × Nat)}, pwT P ops bs (l1 ++ (i, c) :: l2) = true → pwT P ops bs (l1 ++ l2) = true
  | [], l2, h => by
    simp only [List.nil_append, pwT, Bool.and_eq_true] at h
    exact h.2
  | y :: l1, l2, h => by
    simp only [List.cons_append, pwT, Bool.and_eq_true] at h ⊢
    exact ⟨chkT_rm ho hq h.1, pwT_rm ho hq h.2⟩
/-- a quiet operation that comes later -/
theorem pwT_quiet {P : Program} {ops : Array Oper} {bs : Array Nat} {i c : Nat} {o : Oper} (ho : ops[i]? = some o) (hq : isOther P o.op = false) : ∀ {l1 l2 : List (Nat × Nat)}, pwT P ops bs (l1 ++ (i, c) :: l2) = true → ∀ x ∈ l1, (bs.getD i 0).testBit x.1 = false →
    (bs.getD x.1 0).testBit i = false ∧ ∃ ox, ops[x.1]? = some ox ∧ ox.apart ops o = true
  | y :: l1, l2, h, x, hx, hb => by
    simp only [List.cons_append, pwT, Bool.and_eq_true] at h
    rcases List.mem_cons.1 hx with rfl | hx
    · have key : ∀ {l1 : List (Nat × Nat)} {s : Bool}, chkT P ops bs x s (l1 ++ (i, c) :: l2) = true → (bs.getD x.1 0).testBit i = false ∧ ∃ ox, ops[x.1]? = some ox ∧ ox.apart ops o = true := by
        intro l1
        induction l1 with
        | nil =>
          intro s h
          simp only [List.nil_append, chkT, Bool.and_eq_true, Bool.not_eq_true', hb, Bool.false_or, ho, hq] at h
          refine ⟨h.1.1, ?_⟩
          have h2 := h.1.2
          split at h2
          · rename_i ox oy h1 h3
            cases h3
            simp only [Bool.and_false, Bool.or_false, Bool.false_or, hq, Bool.not_false, Bool.and_true] at h2
            exact ⟨ox, h1, h2⟩
          · cases h2
        | cons z l1 ih =>
          intro s h
          simp only [List.cons_append, chkT, Bool.and_eq_true] at h
          exact ih h.2
      exact key h.1
    · exact pwT_quiet ho hq h.2 x hx hb

def canonOkT (P : Program) (ops : Array Oper) (bs : Array Nat) (L : List (Nat × Nat)) : Bool :=
  bsOk ops bs && ops.all noSelB && (L.map (·.1)).all (fun i => Nat.blt i ops.size) && nd (L.map (·.1)) && (L.length == ops.size) &&
  (List.range ops.size).all (fun i => (L.map (·.1)).contains i) && pwT P ops bs L && cntOk P ops bs L

structure CanonT (P : Program) (ops : Array Oper) (bs : Array Nat) (l : List (Nat × Nat)) : Prop where
  up : ∀ (i : Nat) (o : Oper), ops[i]? = some o → (∀ j, (bs.getD i 0).testBit j = true → ∃ e ∈ preds o, e = j ∨ (bs.getD e 0).testBit j = true) ∧ ∀ j ∈ preds o, j < ops.size ∧ (bs.getD i 0).testBit j = true
  self : ∀ i, i < ops.size → (bs.getD i 0).testBit i = false
  sel : ∀ (i : Nat) (o : Oper), ops[i]? = some o → noSel o
  lt : ∀ d ∈ l, d.1 < ops.size
  nodup : (l.map (·.1)).Nodup
  pair : pwT P ops bs l = true
  cnt : ∀ d ∈ l, nOther P ops (l.filter fun j => !(bs.getD d.1 0).testBit j.1 && !(bs.getD j.1 0).testBit d.1) ≤ d.2

theorem canonOkT_spec {P : Program} {ops : Array Oper} {bs : Array Nat} {L : List (Nat × Nat)} (h : canonOkT P ops bs L = true) :
    CanonT P ops bs L ∧ L.length = ops.size ∧ ∀ i, i < ops.size → i ∈ L.map (·.1) := by
  unfold canonOkT at h
  simp only [Bool.and_eq_true] at h
  obtain ⟨⟨⟨⟨⟨⟨⟨h1, h2⟩, h3⟩, h4⟩, h5⟩, h6⟩, h7⟩, h8⟩ := h
  refine ⟨⟨fun i o ho => ?_, fun i hi => ?_, fun i o ho => ?_, fun d hd => ?_, ?_, h7, fun d hd => ?_⟩, by simpa using h5, fun i hi => ?_⟩
  · have hi : i < ops.size := (Array.getElem?_eq_some_iff.1 ho).1
    have := List.all_eq_true.1 h1 i (List.mem_range.2 hi)
    rw [ho] at this
    simp only [Bool.and_eq_true, List.all_eq_true, beq_iff_eq] at this
    obtain ⟨⟨ha, _⟩, hb⟩ := this
    refine ⟨fun j hj => ?_, fun j hj => ⟨by simpa using ha j hj, ?_⟩⟩
    · rw [hb] at hj
      rcases foldl_or bs j _ 0 hj with h | h
      · simp at h
      · exact h
    · rw [hb]; exact foldl_or_mem bs j _ 0 hj
  · have := List.all_eq_true.1 h1 i (List.mem_range.2 hi)
    have ho : ops[i]? = some ops[i] := by simp [hi]
    rw [ho] at this
    simp only [Bool.and_eq_true, Bool.not_eq_true'] at this
    exact this.1.2
  · have hm : noSelB o = true := by
      have := Array.all_eq_true_iff_forall_mem.1 h2 o (Array.mem_of_getElem? ho)
      exact this
    intro cs b hop
    unfold noSelB at hm
    rw [hop] at hm
    cases hm
  · have := List.all_eq_true.1 h3 d.1 (List.mem_map.2 ⟨d, hd, rfl⟩)
    simpa using this
  · exact nd_spec h4
  · have := List.all_eq_true.1 h8 d hd
    simpa using this
  · have := List.all_eq_true.1 h6 i (List.mem_range.2 hi)
    simpa using this

theorem CanonT.subP {P : Program} {ops : Array Oper} {bs : Array Nat} {l l' : List (Nat × Nat)} (h : CanonT P ops bs l) (hs : l'.Sublist l) (hp : pwT P ops bs l' = true) : CanonT P ops bs l' :=
  ⟨h.up, h.self, h.sel, fun d hd => h.lt d (hs.subset hd), h.nodup.sublist (hs.map _), hp, fun d hd =>
    Nat.le_trans (by unfold nOther; exact ((hs.filter _).filter _).length_le) (h.cnt d (hs.subset hd))⟩
theorem CanonT.tail {P : Program} {ops : Array Oper} {bs : Array Nat} {d : Nat × Nat} {l : List (Nat × Nat)} (h : CanonT P ops bs (d :: l)) : CanonT P ops bs l :=
  h.subP (List.sublist_cons_self _ _) (by have := h.pair; simp only [pwT, Bool.and_eq_true] at this; exact this.2)

theorem Inv.predsT {P : Program} {ops : Array Oper} {bs : Array Nat} {l : List (Nat × Nat)} {listed : Array Bool} (hI : Inv ops bs l listed) (hC : CanonT P ops bs l) {i : Nat} (hr : i ∈ Region.ready .any ops listed) :
    i ∈ l.map (·.1) ∧ ∀ j, (bs.getD i 0).testBit j = true → j ∉ l.map (·.1) := by
  obtain ⟨h0, o, ho, hall⟩ := mem_ready.1 hr
  have hi : i < ops.size := (Array.getElem?_eq_some_iff.1 ho).1
  refine ⟨(hI.mem i hi).1 h0, fun j hj => ?_⟩
  obtain ⟨e, he, h⟩ := (hC.up i o ho).1 j hj
  obtain ⟨ed, hed, hb, rfl⟩ := mem_preds.1 he
  have hlt := ((hC.up i o ho).2 ed.on he).1
  have hl := hall ed hed hb
  have hnot : ed.on ∉ l.map (·.1) := fun hm => by
    have := (getD_false_true (by rw [hI.size]; exact hlt)).1 hl
    exact this ((hI.mem _ hlt).2 hm)
  rcases h with rfl | h
  · exact hnot
  · exact hI.closed ed.on hlt hnot j h

theorem Inv.stepT {P : Program} {ops : Array Oper} {bs : Array Nat} {l1 l2 : List (Nat × Nat)} {i c : Nat} {listed : Array Bool} (hI : Inv ops bs (l1 ++ (i, c) :: l2) listed) (hC : CanonT P ops bs (l1 ++ (i, c) :: l2))
    (hp : ∀ j, (bs.getD i 0).testBit j = true → j ∉ (l1 ++ (i, c) :: l2).map (·.1)) : Inv ops bs (l1 ++ l2) (listed.setIfInBounds i true) := by
  have hi : i < ops.size := hC.lt (i, c) (by simp)
  have hnd := hC.nodup
  have hni : i ∉ (l1 ++ l2).map (·.1) := by
    rw [List.map_append, List.map_cons] at hnd
    rw [List.map_append]
    have := List.nodup_append.1 hnd
    have h2 := List.nodup_cons.1 this.2.1
    intro hm
    rcases List.mem_append.1 hm with h | h
    · exact this.2.2 i h i (by simp) rfl
    · exact h2.1 h
  have hmem : ∀ k, k ∈ (l1 ++ (i, c) :: l2).map (·.1) ↔ k = i ∨ k ∈ (l1 ++ l2).map (·.1) := fun k => by
    simp only [List.map_append, List.map_cons, List.mem_append, List.mem_cons]
    constructor
    · rintro (h | h | h)
      · exact .inr (.inl h)
      · exact .inl h
      · exact .inr (.inr h)
    · rintro (h | h | h)
      · exact .inr (.inl h)
      · exact .inl h
      · exact .inr (.inr h)
  refine ⟨by simpa using hI.size, fun k hk => ?_, fun k hk hkn j hj => ?_⟩
  · by_cases hki : k = i
    · subst hki
      have : k < listed.size := by rw [hI.size]; exact hk
      have h1 : (listed.setIfInBounds k true).getD k true = true := by simp [Array.getD, this]
      rw [h1]
      exact ⟨fun h => (by cases h), fun h => absurd h hni⟩
    · have h1 := hI.mem k hk
      rw [hmem] at h1
      have : (listed.setIfInBounds i true).getD k true = listed.getD k true := by
        simp only [Array.getD_eq_getD_getElem?, Array.getElem?_setIfInBounds_ne (Ne.symm hki)]
      rw [this, h1]
      simp [hki]
  · by_cases hki : k = i
    · subst hki
      have := hp j hj
      rw [hmem] at this
      exact fun h => this (.inr h)
    · have := hI.closed k hk (by rw [hmem]; rintro (h | h); exact hki h; exact hkn h) j hj
      rw [hmem] at this
      exact fun h => this (.inr h)

theorem Inv.firstT {P : Program} {ops : Array Oper} {bs : Array Nat} {l : List (Nat × Nat)} {i c : Nat} {listed : Array Bool} (hI : Inv ops bs ((i, c) :: l) listed) (hC : CanonT P ops bs ((i, c) :: l)) : i ∈ Region.ready .any ops listed := by
  have hi : i < ops.size := hC.lt (i, c) (by simp)
  refine mem_ready.2 ⟨(hI.mem i hi).2 (by simp), ops[i], by simp [hi], fun e he hb => ?_⟩
  have ho : ops[i]? = some ops[i] := by simp [hi]
  obtain ⟨hlt, hbit⟩ := (hC.up i _ ho).2 e.on (mem_preds.2 ⟨e, he, hb, rfl⟩)
  rw [getD_false_true (by rw [hI.size]; exact hlt), hI.mem _ hlt]
  intro hm
  simp only [List.map_cons, List.mem_cons] at hm
  rcases hm with hm | hm
  · have := hC.self i hi
    rw [← hm] at this
    simp only [hm] at this hbit
    rw [this] at hbit
    cases hbit
  · obtain ⟨d, hd, hde⟩ := List.mem_map.1 hm
    have h0 := hC.pair
    simp only [pwT, Bool.and_eq_true] at h0
    have h1 := chkT_after h0.1 d hd
    rw [hde] at h1
    rw [h1] at hbit
    cases hbit


def paths : Tr → List (List (Nat × Nat))
  | .nil => [[]]
  | .st i c t => (paths t).map ((i, c) :: ·)
  | .br t u => paths t ++ paths u
theorem paths_ne : ∀ (t : Tr), ∃ l, l ∈ paths t
  | .nil => ⟨[], by simp [paths]⟩
  | .st i c t => by
    obtain ⟨l, hl⟩ := paths_ne t
    exact ⟨(i, c) :: l, List.mem_map.2 ⟨l, hl, rfl⟩⟩
  | .br t u => by
    obtain ⟨l, hl⟩ := paths_ne t
    exact ⟨l, List.mem_append.2 (.inl hl)⟩
theorem evT_end {P : Program} {ops : Array Oper} {Q : Fr → Hp → Prop} {hist : List Hp} {a : Fr} {H : Hp} : ∀ (t : Tr), (∀ l ∈ paths t, l = []) → evT P ops Q t hist a H → Q a H
  | .nil, _, h => h
  | .st i c t, hp, _ => by
    obtain ⟨l, hl⟩ := paths_ne (.st i c t)
    have e := hp l hl
    obtain ⟨l', _, e'⟩ := List.mem_map.1 hl
    rw [e] at e'; cases e'
  | .br t u, hp, h => evT_end t (fun l hl => hp l (List.mem_append.2 (.inl hl))) h.1
def frontP (P : Program) (ops : Array Oper) (i : Nat) : Tr → Option Tr
  | .nil => none
  | .st j c t => if j = i then some t else match ops[j]? with
    | some oj => if isOther P oj.op = true then none else (frontP P ops i t).map (.st j c ·)
    | none => none
  | .br t u => match frontP P ops i t with
    | some x => some x
    | none => frontP P ops i u
def covB (P : Program) (ops : Array Oper) (bs : Array Nat) : Nat → List Nat → Tr → Bool
  | 0, S, _ => S.isEmpty
  | n + 1, S, t => S.all fun i => S.any (fun j => (bs.getD i 0).testBit j) || match frontP P ops i t with
    | some t' => covB P ops bs n (S.filter fun j => !(j == i)) t'
    | none => false
theorem frontP_rm {P : Program} {ops : Array Oper} {i p : Nat} {op : Oper} (hp : ops[p]? = some op) (hq : isOther P op.op = false) (hne : p ≠ i) : ∀ (t : Tr), frontP P ops i (rm p t) = (frontP P ops i t).map (rm p)
  | .nil => rfl
  | .st j c t => by
    by_cases hjp : j = p
    · subst hjp
      have h1 : rm j (.st j c t) = t := by simp only [rm, if_true]
      rw [h1]
      simp only [frontP, if_neg hne, hp, hq, Bool.false_eq_true, if_false]
      cases frontP P ops i t with
      | none => rfl
      | some x => simp only [Option.map_some, rm, if_true]
    · have h1 : rm p (.st j c t) = .st j c (rm p t) := by simp only [rm, if_neg hjp]
      rw [h1]
      simp only [frontP]
      by_cases hji : j = i
      · rw [if_pos hji, if_pos hji]; rfl
      · rw [if_neg hji, if_neg hji]
        cases ops[j]? with
        | none => rfl
        | some oj =>
          by_cases ho : isOther P oj.op = true
          · simp only [ho, if_true]; rfl
          · simp only [if_neg ho, frontP_rm hp hq hne t]
            cases frontP P ops i t with
            | none => rfl
            | some x => simp only [Option.map_some, rm, if_neg hjp]
  | .br t u => by
    simp only [rm, frontP, frontP_rm hp hq hne t, frontP_rm hp hq hne u]
    cases frontP P ops i t <;> rfl
theorem covB_rm {P : Program} {ops : Array Oper} {bs : Array Nat} {p : Nat} {op : Oper} (hp : ops[p]? = some op) (hq : isOther P op.op = false) : ∀ (n : Nat) (S : List Nat) (t : Tr), p ∉ S → covB P ops bs n S t = true → covB P ops bs n S (rm p t) = true
  | 0, _, _, _, h => h
  | n + 1, S, t, hS, h => by
    simp only [covB, List.all_eq_true] at h ⊢
    intro i hi
    have hk := h i hi
    rw [Bool.or_eq_true] at hk ⊢
    refine hk.imp id fun hk => ?_
    rw [frontP_rm hp hq (fun e => hS (e ▸ hi))]
    cases hf : frontP P ops i t with
    | none => rw [hf] at hk; cases hk
    | some x =>
      rw [hf] at hk
      exact covB_rm hp hq n _ x (fun hm => hS (List.mem_filter.1 hm).1) hk
theorem frontP_mem {P : Program} {ops : Array Oper} {i : Nat} : ∀ {t t' : Tr}, frontP P ops i t = some t' → ∃ l ∈ paths t, ∃ l1 c l2, l = l1 ++ (i, c) :: l2 ∧ ∀ d ∈ l1, ∃ o, ops[d.1]? = some o ∧ isOther P o.op = false
  | .nil, _, h => by cases h
  | .st j c t, t', h => by
    by_cases hji : j = i
    · obtain ⟨l, hl⟩ := paths_ne t
      exact ⟨(j, c) :: l, List.mem_map.2 ⟨l, hl, rfl⟩, [], c, l, by simp [hji], fun d hd => by cases hd⟩
    · simp only [frontP, if_neg hji] at h
      split at h
      · rename_i oj hj
        split at h
        · cases h
        · rename_i hoj
          cases hf : frontP P ops i t with
          | none => rw [hf] at h; cases h
          | some x =>
            obtain ⟨l, hl, l1, c', l2, e, hm⟩ := frontP_mem hf
            refine ⟨(j, c) :: l, List.mem_map.2 ⟨l, hl, rfl⟩, (j, c) :: l1, c', l2, by rw [e]; rfl, fun d hd => ?_⟩
            rcases List.mem_cons.1 hd with rfl | hd
            · exact ⟨oj, hj, by simpa using hoj⟩
            · exact hm d hd
      · cases h
  | .br t u, t', h => by
    simp only [frontP] at h
    split at h
    · rename_i x hx
      obtain ⟨l, hl, hm⟩ := frontP_mem hx
      exact ⟨l, List.mem_append.2 (.inl hl), hm⟩
    · obtain ⟨l, hl, hm⟩ := frontP_mem h
      exact ⟨l, List.mem_append.2 (.inr hl), hm⟩
/-- between them nothing but what is quiet: then the later one needs the first -/
theorem chkT_front {P : Program} {ops : Array Oper} {bs : Array Nat} {j c i c' : Nat} {oj o : Oper} (hj : ops[j]? = some oj) (hqj : isOther P oj.op = false) (ho : ops[i]? = some o) (hq : isOther P o.op = true) : ∀ {l1 l2 : List (Nat × Nat)}, (∀ d ∈ l1, ∃ o, ops[d.1]? = some o ∧ isOther P o.op = false) →
    chkT P ops bs (j, c) false (l1 ++ (i, c') :: l2) = true → (bs.getD i 0).testBit j = true
  | [], l2, _, h => by
    simp only [List.nil_append, chkT, Bool.and_eq_true, hj, ho, hqj, hq, Bool.not_true, Bool.and_false, Bool.false_and, Bool.or_false] at h
    exact h.1.2
  | d :: l1, l2, hm, h => by
    obtain ⟨od, hd, hqd⟩ := hm d (by simp)
    simp only [List.cons_append, chkT, Bool.and_eq_true, hd, hqd, Bool.and_false, Bool.or_false] at h
    exact chkT_front hj hqj ho hq (fun d hd => hm d (by simp [hd])) h.2
theorem frontP_here {P : Program} {ops : Array Oper} {bs : Array Nat} {Q : Fr → Hp → Prop} {i : Nat} {o : Oper} (ho : ops[i]? = some o) (hq : isOther P o.op = true) : ∀ {t t' : Tr}, (∀ l ∈ paths t, pwT P ops bs l = true) →
    (∀ j, (bs.getD i 0).testBit j = true → ∀ l ∈ paths t, j ∉ l.map (·.1)) → frontP P ops i t = some t' →
    ∃ c, (∀ hist a H, evT P ops Q t hist a H → evT P ops Q (.st i c t') hist a H) ∧ ∀ l ∈ paths t', (i, c) :: l ∈ paths t
  | .nil, _, _, _, h => by cases h
  | .st j c t, t', hP, hp, h => by
    by_cases hji : j = i
    · subst hji
      simp only [frontP, if_true] at h
      cases h
      exact ⟨c, fun _ _ _ h => h, fun l hl => List.mem_map.2 ⟨l, hl, rfl⟩⟩
    · exfalso
      simp only [frontP, if_neg hji] at h
      split at h
      · rename_i oj hj
        split at h
        · cases h
        · rename_i hoj
          cases hf : frontP P ops i t with
          | none => rw [hf] at h; cases h
          | some x =>
            obtain ⟨l, hl, l1, c', l2, e, hm⟩ := frontP_mem hf
            have hl' : (j, c) :: l ∈ paths (.st j c t) := List.mem_map.2 ⟨l, hl, rfl⟩
            have hpr := hP _ hl'
            simp only [pwT, Bool.and_eq_true] at hpr
            have hb : (bs.getD i 0).testBit j = true := chkT_front hj (by simpa using hoj) ho hq hm (by rw [← e]; exact hpr.1)
            exact hp j hb _ hl' (by simp)
      · cases h
  | .br t u, t', hP, hp, h => by
    simp only [frontP] at h
    split at h
    · rename_i x hx
      cases h
      obtain ⟨c, h1, h2⟩ := frontP_here (P := P) (Q := Q) ho hq (fun l hl => hP l (List.mem_append.2 (.inl hl))) (fun j hj l hl => hp j hj l (List.mem_append.2 (.inl hl))) hx
      exact ⟨c, fun hist a H h => h1 _ _ _ h.1, fun l hl => List.mem_append.2 (.inl (h2 l hl))⟩
    · obtain ⟨c, h1, h2⟩ := frontP_here (P := P) (Q := Q) ho hq (fun l hl => hP l (List.mem_append.2 (.inr hl))) (fun j hj l hl => hp j hj l (List.mem_append.2 (.inr hl))) h
      exact ⟨c, fun hist a H h => h1 _ _ _ h.2, fun l hl => List.mem_append.2 (.inr (h2 l hl))⟩
theorem fit_of {P : Program} {ops : Array Oper} {i : Nat} {o : Oper} : ∀ (t : Tr) (d : Nat), (∀ l ∈ paths t, ∃ l1 c l2, l = l1 ++ (i, c) :: l2 ∧ (∀ x ∈ l1, x.1 ≠ i ∧ ∀ oj, ops[x.1]? = some oj → oj.apart ops o = true ∧ noSel oj) ∧ d + nOther P ops l1 ≤ c) → fit P ops i o t d
  | .nil, d, h => by
    obtain ⟨l1, c, l2, e, _⟩ := h [] (by simp [paths])
    simp at e
  | .st j c t, d, h => by
    unfold fit
    by_cases hji : j = i
    · rw [if_pos hji]
      obtain ⟨l, hl⟩ := paths_ne t
      obtain ⟨l1, c', l2, e, hx, hd⟩ := h _ (List.mem_map.2 ⟨l, hl, rfl⟩)
      cases l1 with
      | nil => simp at e; simp [nOther] at hd; omega
      | cons x l1 =>
        simp at e
        exact absurd (by rw [← e.1]; exact hji) (hx x (by simp)).1
    · rw [if_neg hji]
      intro oj hj
      have key : ∀ l ∈ paths t, ∃ l1 c' l2, l = l1 ++ (i, c') :: l2 ∧ (∀ x ∈ (j, c) :: l1, x.1 ≠ i ∧ ∀ oj, ops[x.1]? = some oj → oj.apart ops o = true ∧ noSel oj) ∧ d + nOther P ops ((j, c) :: l1) ≤ c' := by
        intro l hl
        obtain ⟨l1, c', l2, e, hx, hd⟩ := h _ (List.mem_map.2 ⟨l, hl, rfl⟩)
        cases l1 with
        | nil => simp at e; exact absurd e.1.1 hji
        | cons x l1 =>
          simp at e
          obtain ⟨e1, e2⟩ := e
          subst e1
          exact ⟨l1, c', l2, e2, hx, hd⟩
      refine ⟨?_, fit_of t _ fun l hl => ?_⟩
      · obtain ⟨l, hl⟩ := paths_ne t
        obtain ⟨l1, c', l2, e, hx, hd⟩ := key l hl
        exact (hx (j, c) (by simp)).2 oj hj
      · obtain ⟨l1, c', l2, e, hx, hd⟩ := key l hl
        rw [nOther_cons hj] at hd
        exact ⟨l1, c', l2, e, fun x hm => hx x (by simp [hm]), by omega⟩
  | .br t u, d, h => ⟨fit_of t d fun l hl => h l (List.mem_append.2 (.inl hl)), fit_of u d fun l hl => h l (List.mem_append.2 (.inr hl))⟩
theorem paths_rm {i : Nat} : ∀ (t : Tr), (∀ l ∈ paths t, i ∈ l.map (·.1)) → ∀ l ∈ paths (rm i t), ∃ l1 c l2, l = l1 ++ l2 ∧ l1 ++ (i, c) :: l2 ∈ paths t
  | .nil, h, l, _ => by have := h [] (by simp [paths]); simp at this
  | .st j c t, h, l, hl => by
    by_cases hji : j = i
    · subst hji
      simp only [rm, if_true] at hl
      exact ⟨[], c, l, rfl, List.mem_map.2 ⟨l, hl, rfl⟩⟩
    · simp only [rm, if_neg hji] at hl
      obtain ⟨l', hl', rfl⟩ := List.mem_map.1 hl
      obtain ⟨l1, c', l2, e, hm⟩ := paths_rm t (fun l hl => by
        have := h _ (List.mem_map.2 ⟨l, hl, rfl⟩)
        simp only [List.map_cons, List.mem_cons] at this
        exact this.resolve_left (Ne.symm hji)) l' hl'
      exact ⟨(j, c) :: l1, c', l2, by simp [e], List.mem_map.2 ⟨_, hm, rfl⟩⟩
  | .br t u, h, l, hl => by
    rcases List.mem_append.1 hl with hl | hl
    · obtain ⟨l1, c, l2, e, hm⟩ := paths_rm t (fun l hl => h l (List.mem_append.2 (.inl hl))) l hl
      exact ⟨l1, c, l2, e, List.mem_append.2 (.inl hm)⟩
    · obtain ⟨l1, c, l2, e, hm⟩ := paths_rm u (fun l hl => h l (List.mem_append.2 (.inr hl))) l hl
      exact ⟨l1, c, l2, e, List.mem_append.2 (.inr hm)⟩
theorem evT_any {P : Program} {ops : Array Oper} {bs : Array Nat} {n : Nat} {own : Nat → Prop} {w0 : World} {H0 : Hp} {Q : Exit → Fr → Hp → Prop} (hd : ∀ (i : Nat) (o : Oper), ops[i]? = some o → dstOk n o = true) :
    ∀ (k m : Nat) (S : List Nat) (t : Tr) (hist : List Hp) (a : Fr) (H : Hp) (A : Act) (w : World) (listed : Array Bool), (∀ l ∈ paths t, l.length = k ∧ CanonT P ops bs l ∧ Inv ops bs l listed) →
      covB P ops bs m S t = true → (∀ i ∈ S, ∃ o, ops[i]? = some o ∧ isOther P o.op = true) → (∀ i o, ops[i]? = some o → isOther P o.op = true → (i ∈ S ↔ listed.getD i true = false)) →
      evT P ops (Q .normal) t hist a H → FrOk n a A → To own w0 H0 w H → wpAny P .any ops (Fits own n w0 H0 Q) k listed A w := by
  intro k
  induction k with
  | zero =>
    intro m S t hist a H A w listed hp hc hS1 hS2 h hf ht
    refine ⟨?_, a, H, evT_end t (fun l hl => List.eq_nil_of_length_eq_zero (hp l hl).1) h, hf, ht⟩
    obtain ⟨l, hl⟩ := paths_ne t
    obtain ⟨h1, hC, hI⟩ := hp l hl
    have hl0 : l = [] := List.eq_nil_of_length_eq_zero h1
    subst hl0
    cases hr : Region.ready .any ops listed with
    | nil => rfl
    | cons i is =>
      have := (hI.predsT hC (i := i) (by rw [hr]; simp)).1
      simp at this
  | succ k ih =>
    intro m S t hist a H A w listed hp hc hS1 hS2 h hf ht
    obtain ⟨l0, hl0⟩ := paths_ne t
    constructor
    · intro hr
      obtain ⟨h1, hC, hI⟩ := hp l0 hl0
      cases l0 with
      | nil => simp at h1
      | cons x xs => exact absurd (hr ▸ hI.firstT (i := x.1) (c := x.2) hC) (by simp)
    · intro i hi
      have hpr := fun l hl => (hp l hl).2.2.predsT (hp l hl).2.1 hi
      obtain ⟨hl1, hC0, hI0⟩ := hp l0 hl0
      have hilt : i < ops.size := by
        obtain ⟨d, hd, hde⟩ := List.mem_map.1 (hpr l0 hl0).1
        have := hC0.lt d hd
        omega
      have ho : ops[i]? = some ops[i] := by simp [hilt]
      generalize ops[i] = o at ho
      have hdo := dstOk_spec (hd i o ho)
      have hset : ∀ j, (listed.setIfInBounds i true).getD j true = if j = i then true else listed.getD j true := fun j => by
        by_cases hj : j = i
        · subst hj
          have : j < listed.size := by rw [hI0.size]; exact hilt
          simp [Array.getD, this]
        · rw [if_neg hj]
          simp only [Array.getD_eq_getD_getElem?, Array.getElem?_setIfInBounds_ne (Ne.symm hj)]
      by_cases hq : isOther P o.op = true
      · have hiS : i ∈ S := (hS2 i o ho hq).2 (by obtain ⟨h0, _⟩ := mem_ready.1 hi; exact h0)
        cases m with
        | zero =>
          simp only [covB, List.isEmpty_iff] at hc
          rw [hc] at hiS; cases hiS
        | succ m =>
          simp only [covB, List.all_eq_true] at hc
          have hci := hc i hiS
          have hany : S.any (fun j => (bs.getD i 0).testBit j) = false := by
            rw [Bool.eq_false_iff]
            intro hany
            obtain ⟨j, hjS, hj⟩ := List.any_eq_true.1 hany
            obtain ⟨oj, hoj, hqj⟩ := hS1 j hjS
            have hlt : j < ops.size := (Array.getElem?_eq_some_iff.1 hoj).1
            exact (hpr l0 hl0).2 j hj ((hI0.mem j hlt).1 ((hS2 j oj hoj hqj).1 hjS))
          rw [hany, Bool.false_or] at hci
          cases hfr : frontP P ops i t with
          | none => rw [hfr] at hci; cases hci
          | some t' =>
            rw [hfr] at hci
            obtain ⟨c, hev, hpt⟩ := frontP_here (P := P) (Q := Q .normal) ho hq (fun l hl => (hp l hl).2.1.pair) (fun j hj l hl => (hpr l hl).2 j hj) hfr
            have h := hev _ _ _ h
            have hp' : ∀ l ∈ paths t', l.length = k ∧ CanonT P ops bs l ∧ Inv ops bs l (listed.setIfInBounds i true) := fun l hl => by
              obtain ⟨g1, g2, g3⟩ := hp _ (hpt l hl)
              exact ⟨by simpa using g1, g2.tail, Inv.stepT (l1 := []) g3 g2 (hpr _ (hpt l hl)).2⟩
            have hS1' : ∀ j ∈ S.filter (fun j => !(j == i)), ∃ o, ops[j]? = some o ∧ isOther P o.op = true := fun j hj => hS1 j (List.mem_filter.1 hj).1
            have hS2' : ∀ j o, ops[j]? = some o → isOther P o.op = true → (j ∈ S.filter (fun j => !(j == i)) ↔ (listed.setIfInBounds i true).getD j true = false) := fun j o hj hqj => by
              rw [hset, List.mem_filter, hS2 j o hj hqj]
              by_cases e : j = i <;> simp [e]
            rw [evT_other ho hq] at h
            unfold wpOp
            simp only [ho, hf.wanted]
            by_cases hw : wantB ops o a = true
            · rw [if_pos hw] at h
              rw [if_pos hw]
              refine .inl (evOp_sound h ht.sat hf fun v w' H' hk ht' => ?_)
              exact ih m _ t' (H :: hist) _ H' _ _ _ hp' hci hS1' hS2' hk (hf.put o.dst hdo v) (ht.trans ht')
            · rw [if_neg hw] at h
              rw [if_neg hw]
              exact ih m _ t' hist _ H _ _ _ hp' hci hS1' hS2' h (hf.put o.dst hdo undef) ht
      · have hq' : isOther P o.op = false := by simpa using hq
        have hsel : noSel o := hC0.sel i o ho
        have hfit : fit P ops i o t 0 := by
          refine fit_of t 0 fun l hl => ?_
          obtain ⟨hl1, hC, hI⟩ := hp l hl
          obtain ⟨hm, hpb⟩ := hpr l hl
          obtain ⟨d, hdl, hdi⟩ := List.mem_map.1 hm
          obtain ⟨l1, l2, hsplit⟩ := List.append_of_mem hdl
          obtain ⟨i', c⟩ := d
          simp only at hdi
          subst hdi
          subst hsplit
          have hfree : ∀ x ∈ l1, (bs.getD i' 0).testBit x.1 = false := fun x hx => by
            cases hb : (bs.getD i' 0).testBit x.1 with
            | false => rfl
            | true => exact absurd (List.mem_map.2 ⟨x, by simp [hx], rfl⟩) (hpb x.1 hb)
          have hpo : ∀ x ∈ l1, (bs.getD x.1 0).testBit i' = false ∧ ∃ ox, ops[x.1]? = some ox ∧ ox.apart ops o = true := fun x hx => pwT_quiet ho hq' hC.pair x hx (hfree x hx)
          refine ⟨l1, c, l2, rfl, fun x hx => ⟨fun e => ?_, fun oj hj => ?_⟩, ?_⟩
          · have hnd := hC.nodup
            rw [List.map_append, List.map_cons] at hnd
            exact (List.nodup_append.1 hnd).2.2 x.1 (List.mem_map.2 ⟨x, hx, rfl⟩) i' (by simp) e
          · obtain ⟨_, ox, hox, hap⟩ := hpo x hx
            rw [hj] at hox
            cases hox
            exact ⟨hap, hC.sel _ _ hj⟩
          · rw [Nat.zero_add]
            refine Nat.le_trans ?_ (hC.cnt (i', c) (by simp))
            have : l1 = l1.filter fun j => !(bs.getD i' 0).testBit j.1 && !(bs.getD j.1 0).testBit i' := by
              refine (List.filter_eq_self.2 fun x hx => ?_).symm
              rw [hfree x hx, (hpo x hx).1]; rfl
            unfold nOther
            refine List.Sublist.length_le (List.Sublist.filter _ ?_)
            conv => lhs; rw [this]
            exact List.Sublist.filter _ (List.sublist_append_left _ _)
        obtain ⟨v, h1, _, h3⟩ := evT_front ho hq' hsel t 0 hist a H ht.sat.satis hfit h
        have hp' : ∀ l ∈ paths (rm i t), l.length = k ∧ CanonT P ops bs l ∧ Inv ops bs l (listed.setIfInBounds i true) := fun l hl => by
          obtain ⟨l1, c, l2, e, hm⟩ := paths_rm t (fun l hl => (hpr l hl).1) l hl
          subst e
          obtain ⟨g1, g2, g3⟩ := hp _ hm
          exact ⟨by simp at g1 ⊢; omega, g2.subP (List.Sublist.append_left (List.sublist_cons_self _ _) _) (pwT_rm ho hq' g2.pair), g3.stepT g2 (hpr _ hm).2⟩
        have hiS : i ∉ S := fun hm => by
          obtain ⟨o', ho', hq''⟩ := hS1 i hm
          rw [ho] at ho'; cases ho'
          exact hq hq''
        have hS2' : ∀ j o, ops[j]? = some o → isOther P o.op = true → (j ∈ S ↔ (listed.setIfInBounds i true).getD j true = false) := fun j oj hj hqj => by
          rw [hset, hS2 j oj hj hqj]
          by_cases e : j = i
          · subst e; rw [ho] at hj; cases hj; exact absurd hqj hq
          · rw [if_neg e]
        have hnext := ih m S (rm i t) hist _ H _ w _ hp' (covB_rm ho hq' m S t hiS hc) hS1 hS2' h3 (hf.put o.dst hdo v) ht
        unfold wpOp
        simp only [ho, hf.wanted]
        unfold Yv at h1
        by_cases hw : wantB ops o a = true
        · rw [if_pos hw] at h1
          rw [if_pos hw]
          refine .inl ?_
          unfold Oper.wp
          rw [hf.eval, qV_run h1 ht.sat]
          exact hnext
        · rw [if_neg hw] at h1
          subst h1
          rw [if_neg hw]
          exact hnext
def treeOk (P : Program) (ops : Array Oper) (bs : Array Nat) (t : Tr) : Bool :=
  (paths t).all (canonOkT P ops bs) && covB P ops bs ops.size ((List.range ops.size).filter fun i => match ops[i]? with | some o => isOther P o.op | none => false) t
theorem evT_region {P : Program} {ops : Array Oper} {bs : Array Nat} {t : Tr} {n : Nat} {own : Nat → Prop} {w0 w : World} {H0 H : Hp} {Q : Exit → Fr → Hp → Prop} {a : Fr} {A : Act} {id : Nat}
    (hm : P.follows .mixedOrders = true) (hd : ∀ (i : Nat) (o : Oper), ops[i]? = some o → dstOk n o = true) (hc : treeOk P ops bs t = true) (h : evT P ops (Q .normal) t [] a H) (hf : FrOk n a A) (ht : To own w0 H0 w H) :
    (Code.region id ops true).wp P (Fits own n w0 H0 Q) A w := by
  simp only [treeOk, Bool.and_eq_true, List.all_eq_true] at hc
  refine wp_region_any hm ?_
  refine evT_any hd ops.size ops.size _ t [] a H A _ _ (fun l hl => ?_) hc.2 (fun i hi => ?_) (fun i o ho hq => ?_) h hf ht.drew
  · obtain ⟨hC, hlen, hmem⟩ := canonOkT_spec (hc.1 l hl)
    exact ⟨hlen, hC, Canon.inv hmem⟩
  · have := (List.mem_filter.1 hi).2
    split at this
    · rename_i o ho; exact ⟨o, ho, this⟩
    · cases this
  · have hi : i < ops.size := (Array.getElem?_eq_some_iff.1 ho).1
    rw [List.mem_filter, ho]
    simp [hi, hq, Array.getD]
end Go.Sl
