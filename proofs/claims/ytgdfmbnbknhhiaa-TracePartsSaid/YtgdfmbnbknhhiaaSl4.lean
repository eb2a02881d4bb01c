/- Regions that draw their order, second part: the order in which the walk takes them; then a function's whole code: lemmas; each with the conditions that it states. -/
import Derived.Test.YtgdfmbnbknhhiaaSl3
namespace Go.Sl

def preds (o : Oper) : List Nat := (o.after.toList.filter fun e => Region.binds .any e).map (·.on)

/-- A set of numbers for each operation: those that must come before it. -/
def bsOk (ops : Array Oper) (bs : Array Nat) : Bool :=
  (List.range ops.size).all fun i => match ops[i]? with
    | some o => (preds o).all (fun e => Nat.blt e ops.size) && !(bs.getD i 0).testBit i && (bs.getD i 0 == (preds o).foldl (fun s e => s ||| 2 ^ e ||| bs.getD e 0) 0)
    | none => false

def noSelB (o : Oper) : Bool := match o.op with
  | .select .. => false
  | _ => true

def pairOk (P : Program) (ops : Array Oper) (bs : Array Nat) (x y : Nat × Nat) : Bool :=
  !(bs.getD x.1 0).testBit y.1 && ((bs.getD y.1 0).testBit x.1 || match ops[x.1]?, ops[y.1]? with
    | some ox, some oy => ox.apart ops oy && !isOther P oy.op
    | _, _ => false)

def pw (P : Program) (ops : Array Oper) (bs : Array Nat) : List (Nat × Nat) → Bool
  | [] => true
  | x :: xs => xs.all (pairOk P ops bs x) && pw P ops bs xs

def cntOk (P : Program) (ops : Array Oper) (bs : Array Nat) (L : List (Nat × Nat)) : Bool :=
  L.all fun d => Nat.ble (nOther P ops (L.filter fun j => !(bs.getD d.1 0).testBit j.1 && !(bs.getD j.1 0).testBit d.1)) d.2

def nd : List Nat → Bool
  | [] => true
  | x :: xs => !xs.contains x && nd xs

def canonOk (P : Program) (ops : Array Oper) (bs : Array Nat) (L : List (Nat × Nat)) : Bool :=
  bsOk ops bs && ops.all noSelB && (L.map (·.1)).all (fun i => Nat.blt i ops.size) && nd (L.map (·.1)) && (L.length == ops.size) &&
  (List.range ops.size).all (fun i => (L.map (·.1)).contains i) && pw P ops bs L && cntOk P ops bs L

theorem foldl_or (bs : Array Nat) (j : Nat) : ∀ (l : List Nat) (s : Nat), (l.foldl (fun s e => s ||| 2 ^ e ||| bs.getD e 0) s).testBit j = true →
    s.testBit j = true ∨ ∃ e ∈ l, e = j ∨ (bs.getD e 0).testBit j = true := by
  intro l
  induction l with
  | nil => exact fun s h => .inl h
  | cons e l ih =>
    intro s h
    rcases ih _ h with h | ⟨e', he, h⟩
    · rw [Nat.testBit_or, Nat.testBit_or, Bool.or_eq_true, Bool.or_eq_true, Nat.testBit_two_pow] at h
      rcases h with (h | h) | h
      · exact .inl h
      · exact .inr ⟨e, by simp, .inl (by simpa using h)⟩
      · exact .inr ⟨e, by simp, .inr h⟩
    · exact .inr ⟨e', by simp [he], h⟩

theorem foldl_or_mono (bs : Array Nat) (j : Nat) : ∀ (l : List Nat) (s : Nat), s.testBit j = true → (l.foldl (fun s e => s ||| 2 ^ e ||| bs.getD e 0) s).testBit j = true := by
  intro l
  induction l with
  | nil => exact fun s h => h
  | cons e l ih => exact fun s h => ih _ (by rw [Nat.testBit_or, Nat.testBit_or, h]; simp)

theorem foldl_or_mem (bs : Array Nat) (j : Nat) : ∀ (l : List Nat) (s : Nat), j ∈ l → (l.foldl (fun s e => s ||| 2 ^ e ||| bs.getD e 0) s).testBit j = true := by
  intro l
  induction l with
  | nil => exact fun s h => by cases h
  | cons e l ih =>
    intro s h
    rcases List.mem_cons.1 h with rfl | h
    · exact foldl_or_mono bs j l _ (by rw [Nat.testBit_or, Nat.testBit_or, Nat.testBit_two_pow]; simp)
    · exact ih _ h

theorem mem_preds {o : Oper} {j : Nat} : j ∈ preds o ↔ ∃ e ∈ o.after, Region.binds .any e = true ∧ e.on = j := by
  simp only [preds, List.mem_map, List.mem_filter, Array.mem_toList_iff]
  exact ⟨fun ⟨e, ⟨h1, h2⟩, h3⟩ => ⟨e, h1, h2, h3⟩, fun ⟨e, h1, h2, h3⟩ => ⟨e, ⟨h1, h2⟩, h3⟩⟩

structure Canon (P : Program) (ops : Array Oper) (bs : Array Nat) (l : List (Nat × Nat)) : Prop where
  up : ∀ (i : Nat) (o : Oper), ops[i]? = some o → (∀ j, (bs.getD i 0).testBit j = true → ∃ e ∈ preds o, e = j ∨ (bs.getD e 0).testBit j = true) ∧ ∀ j ∈ preds o, j < ops.size ∧ (bs.getD i 0).testBit j = true
  self : ∀ i, i < ops.size → (bs.getD i 0).testBit i = false
  sel : ∀ (i : Nat) (o : Oper), ops[i]? = some o → noSel o
  lt : ∀ d ∈ l, d.1 < ops.size
  nodup : (l.map (·.1)).Nodup
  pair : l.Pairwise fun x y => pairOk P ops bs x y = true
  cnt : ∀ d ∈ l, nOther P ops (l.filter fun j => !(bs.getD d.1 0).testBit j.1 && !(bs.getD j.1 0).testBit d.1) ≤ d.2

theorem pw_spec {P : Program} {ops : Array Oper} {bs : Array Nat} : ∀ {L : List (Nat × Nat)}, pw P ops bs L = true → L.Pairwise fun x y => pairOk P ops bs x y = true := by
  intro L
  induction L with
  | nil => exact fun _ => .nil
  | cons x xs ih =>
    intro h
    simp only [pw, Bool.and_eq_true, List.all_eq_true] at h
    exact .cons (fun y hy => h.1 y hy) (ih h.2)

theorem nd_spec {l : List Nat} (h : nd l = true) : l.Nodup := by
  induction l with
  | nil => exact .nil
  | cons x xs ih =>
    simp only [nd, Bool.and_eq_true, Bool.not_eq_true'] at h
    exact List.nodup_cons.2 ⟨fun hx => by simp [hx] at h, ih h.2⟩

theorem canonOk_spec {P : Program} {ops : Array Oper} {bs : Array Nat} {L : List (Nat × Nat)} (h : canonOk P ops bs L = true) :
    Canon P ops bs L ∧ L.length = ops.size ∧ ∀ i, i < ops.size → i ∈ L.map (·.1) := by
  unfold canonOk at h
  simp only [Bool.and_eq_true] at h
  obtain ⟨⟨⟨⟨⟨⟨⟨h1, h2⟩, h3⟩, h4⟩, h5⟩, h6⟩, h7⟩, h8⟩ := h
  refine ⟨⟨fun i o ho => ?_, fun i hi => ?_, fun i o ho => ?_, fun d hd => ?_, ?_, pw_spec h7, fun d hd => ?_⟩, by simpa using h5, fun i hi => ?_⟩
  · have hi : i < ops.size := (Array.getElem?_eq_some_iff.1 ho).1
    have := List.all_eq_true.1 h1 i (List.mem_range.2 hi)
    rw [ho] at this
    simp only [Bool.and_eq_true, List.all_eq_true, beq_iff_eq] at this
    obtain ⟨⟨ha, _⟩, hb⟩ := this
    refine ⟨fun j hj => ?_, fun j hj => ⟨by simpa using ha j hj, ?_⟩⟩
    · rw [hb] at hj
      rcases foldl_or bs j _ 0 hj with h | h
      · simp at h
      · exact h
    · rw [hb]; exact foldl_or_mem bs j _ 0 hj
  · have := List.all_eq_true.1 h1 i (List.mem_range.2 hi)
    have ho : ops[i]? = some ops[i] := by simp [hi]
    rw [ho] at this
    simp only [Bool.and_eq_true, Bool.not_eq_true'] at this
    exact this.1.2
  · have hm : noSelB o = true := by
      have := Array.all_eq_true_iff_forall_mem.1 h2 o (Array.mem_of_getElem? ho)
      exact this
    intro cs b hop
    unfold noSelB at hm
    rw [hop] at hm
    cases hm
  · have := List.all_eq_true.1 h3 d.1 (List.mem_map.2 ⟨d, hd, rfl⟩)
    simpa using this
  · exact nd_spec h4
  · have := List.all_eq_true.1 h8 d hd
    simpa using this
  · have := List.all_eq_true.1 h6 i (List.mem_range.2 hi)
    simpa using this

theorem Canon.sub {P : Program} {ops : Array Oper} {bs : Array Nat} {l l' : List (Nat × Nat)} (h : Canon P ops bs l) (hs : l'.Sublist l) : Canon P ops bs l' :=
  ⟨h.up, h.self, h.sel, fun d hd => h.lt d (hs.subset hd), h.nodup.sublist (hs.map _), h.pair.sublist hs, fun d hd =>
    Nat.le_trans (by unfold nOther; exact ((hs.filter _).filter _).length_le) (h.cnt d (hs.subset hd))⟩

structure Inv (ops : Array Oper) (bs : Array Nat) (l : List (Nat × Nat)) (listed : Array Bool) : Prop where
  size : listed.size = ops.size
  mem : ∀ i, i < ops.size → (listed.getD i true = false ↔ i ∈ l.map (·.1))
  closed : ∀ i, i < ops.size → i ∉ l.map (·.1) → ∀ j, (bs.getD i 0).testBit j = true → j ∉ l.map (·.1)

theorem getD_false_true {listed : Array Bool} {i : Nat} (hi : i < listed.size) : listed.getD i false = true ↔ ¬ listed.getD i true = false := by
  simp [Array.getD, hi]

theorem Inv.preds {P : Program} {ops : Array Oper} {bs : Array Nat} {l : List (Nat × Nat)} {listed : Array Bool} (hI : Inv ops bs l listed) (hC : Canon P ops bs l) {i : Nat} (hr : i ∈ Region.ready .any ops listed) :
    i ∈ l.map (·.1) ∧ ∀ j, (bs.getD i 0).testBit j = true → j ∉ l.map (·.1) := by
  obtain ⟨h0, o, ho, hall⟩ := mem_ready.1 hr
  have hi : i < ops.size := (Array.getElem?_eq_some_iff.1 ho).1
  refine ⟨(hI.mem i hi).1 h0, fun j hj => ?_⟩
  obtain ⟨e, he, h⟩ := (hC.up i o ho).1 j hj
  obtain ⟨ed, hed, hb, rfl⟩ := mem_preds.1 he
  have hlt := ((hC.up i o ho).2 ed.on he).1
  have hl := hall ed hed hb
  have hnot : ed.on ∉ l.map (·.1) := fun hm => by
    have := (getD_false_true (by rw [hI.size]; exact hlt)).1 hl
    exact this ((hI.mem _ hlt).2 hm)
  rcases h with rfl | h
  · exact hnot
  · exact hI.closed ed.on hlt hnot j h

theorem Inv.step {P : Program} {ops : Array Oper} {bs : Array Nat} {l1 l2 : List (Nat × Nat)} {i c : Nat} {listed : Array Bool} (hI : Inv ops bs (l1 ++ (i, c) :: l2) listed) (hC : Canon P ops bs (l1 ++ (i, c) :: l2))
    (hp : ∀ j, (bs.getD i 0).testBit j = true → j ∉ (l1 ++ (i, c) :: l2).map (·.1)) : Inv ops bs (l1 ++ l2) (listed.setIfInBounds i true) := by
  have hi : i < ops.size := hC.lt (i, c) (by simp)
  have hnd := hC.nodup
  have hni : i ∉ (l1 ++ l2).map (·.1) := by
    rw [List.map_append, List.map_cons] at hnd
    rw [List.map_append]
    have := List.nodup_append.1 hnd
    have h2 := List.nodup_cons.1 this.2.1
    intro hm
    rcases List.mem_append.1 hm with h | h
    · exact this.2.2 i h i (by simp) rfl
    · exact h2.1 h
  have hmem : ∀ k, k ∈ (l1 ++ (i, c) :: l2).map (·.1) ↔ k = i ∨ k ∈ (l1 ++ l2).map (·.1) := fun k => by
    simp only [List.map_append, List.map_cons, List.mem_append, List.mem_cons]
    constructor
    · rintro (h | h | h)
      · exact .inr (.inl h)
      · exact .inl h
      · exact .inr (.inr h)
    · rintro (h | h | h)
      · exact .inr (.inl h)
      · exact .inl h
      · exact .inr (.inr h)
  refine ⟨by simpa using hI.size, fun k hk => ?_, fun k hk hkn j hj => ?_⟩
  · by_cases hki : k = i
    · subst hki
      have : k < listed.size := by rw [hI.size]; exact hk
      have h1 : (listed.setIfInBounds k true).getD k true = true := by simp [Array.getD, this]
      rw [h1]
      exact ⟨fun h => (by cases h), fun h => absurd h hni⟩
    · have h1 := hI.mem k hk
      rw [hmem] at h1
      have : (listed.setIfInBounds i true).getD k true = listed.getD k true := by
        simp only [Array.getD_eq_getD_getElem?, Array.getElem?_setIfInBounds_ne (Ne.symm hki)]
      rw [this, h1]
      simp [hki]
  · by_cases hki : k = i
    · subst hki
      have := hp j hj
      rw [hmem] at this
      exact fun h => this (.inr h)
    · have := hI.closed k hk (by rw [hmem]; rintro (h | h); exact hki h; exact hkn h) j hj
      rw [hmem] at this
      exact fun h => this (.inr h)

theorem Inv.first {P : Program} {ops : Array Oper} {bs : Array Nat} {l : List (Nat × Nat)} {i c : Nat} {listed : Array Bool} (hI : Inv ops bs ((i, c) :: l) listed) (hC : Canon P ops bs ((i, c) :: l)) : i ∈ Region.ready .any ops listed := by
  have hi : i < ops.size := hC.lt (i, c) (by simp)
  refine mem_ready.2 ⟨(hI.mem i hi).2 (by simp), ops[i], by simp [hi], fun e he hb => ?_⟩
  have ho : ops[i]? = some ops[i] := by simp [hi]
  obtain ⟨hlt, hbit⟩ := (hC.up i _ ho).2 e.on (mem_preds.2 ⟨e, he, hb, rfl⟩)
  rw [getD_false_true (by rw [hI.size]; exact hlt), hI.mem _ hlt]
  intro hm
  simp only [List.map_cons, List.mem_cons] at hm
  rcases hm with hm | hm
  · have := hC.self i hi
    rw [← hm] at this
    simp only [hm] at this hbit
    rw [this] at hbit
    cases hbit
  · obtain ⟨d, hd, hde⟩ := List.mem_map.1 hm
    have := (List.pairwise_cons.1 hC.pair).1 d hd
    simp only [pairOk, Bool.and_eq_true, Bool.not_eq_true'] at this
    have h1 := this.1
    rw [hde] at h1
    rw [h1] at hbit
    cases hbit

theorem qV_run {P : Program} {o : Oper} {a : Fr} {H : Hp} {v : Value} {own : Nat → Prop} {w : World} (h : qV P o a H = some v) (hs : Sat own H w) : (execOp (opd a) o).run P w = .ok (.value v) w :=
  rd_run P hs _ _ (qV_rd h)

theorem evD_any {P : Program} {ops : Array Oper} {bs : Array Nat} {n : Nat} {own : Nat → Prop} {w0 : World} {H0 : Hp} {Q : Exit → Fr → Hp → Prop} (hd : ∀ (i : Nat) (o : Oper), ops[i]? = some o → dstOk n o = true) :
    ∀ (k : Nat) (l : List (Nat × Nat)) (hist : List Hp) (a : Fr) (H : Hp) (A : Act) (w : World) (listed : Array Bool), l.length = k → Canon P ops bs l → Inv ops bs l listed →
      evD P ops (Q .normal) l hist a H → FrOk n a A → To own w0 H0 w H → wpAny P .any ops (Fits own n w0 H0 Q) k listed A w := by
  intro k
  induction k with
  | zero =>
    intro l hist a H A w listed hl hC hI h hf ht
    have hl0 : l = [] := List.eq_nil_of_length_eq_zero hl
    subst hl0
    refine ⟨?_, a, H, h, hf, ht⟩
    cases hr : Region.ready .any ops listed with
    | nil => rfl
    | cons i is =>
      have := (hI.preds hC (i := i) (by rw [hr]; simp)).1
      simp at this
  | succ k ih =>
    intro l hist a H A w listed hl hC hI h hf ht
    constructor
    · intro hr
      cases l with
      | nil => simp at hl
      | cons x xs => exact absurd (hr ▸ hI.first (i := x.1) (c := x.2) hC) (by simp)
    · intro i hi
      obtain ⟨hm, hp⟩ := hI.preds hC hi
      obtain ⟨d, hdl, hdi⟩ := List.mem_map.1 hm
      obtain ⟨l1, l2, hsplit⟩ := List.append_of_mem hdl
      obtain ⟨i', c⟩ := d
      simp only at hdi
      subst hdi
      subst hsplit
      have hilt : i' < ops.size := hC.lt (i', c) (by simp)
      have ho : ops[i']? = some ops[i'] := by simp [hilt]
      generalize ops[i'] = o at ho
      have hlen : (l1 ++ l2).length = k := by simp at hl ⊢; omega
      have hC' : Canon P ops bs (l1 ++ l2) := hC.sub (List.Sublist.append_left (List.sublist_cons_self _ _) _)
      have hI' := hI.step hC hp
      have hpair := List.pairwise_append.1 hC.pair
      have hfree : ∀ x ∈ l1, (bs.getD i' 0).testBit x.1 = false := fun x hx => by
        cases hb : (bs.getD i' 0).testBit x.1 with
        | false => rfl
        | true => exact absurd (List.mem_map.2 ⟨x, by simp [hx], rfl⟩) (hp x.1 hb)
      have hpo : ∀ x ∈ l1, (bs.getD x.1 0).testBit i' = false ∧ ∃ ox, ops[x.1]? = some ox ∧ ox.apart ops o = true ∧ isOther P o.op = false := fun x hx => by
        have := hpair.2.2 x hx (i', c) (by simp)
        simp only [pairOk, Bool.and_eq_true, Bool.not_eq_true', Bool.or_eq_true, hfree x hx, Bool.false_eq_true, false_or] at this
        obtain ⟨hb, hz⟩ := this
        refine ⟨hb, ?_⟩
        split at hz
        · rename_i ox oy h1 h2
          rw [ho] at h2
          cases h2
          simp only [Bool.and_eq_true, Bool.not_eq_true'] at hz
          exact ⟨ox, h1, hz.1, hz.2⟩
        · cases hz
      have hdo := dstOk_spec (hd i' o ho)
      by_cases hq : isOther P o.op = true
      · have hl1 : l1 = [] := by
          cases l1 with
          | nil => rfl
          | cons x xs => obtain ⟨_, _, _, _, h⟩ := hpo x (by simp); rw [hq] at h; cases h
        subst hl1
        rw [List.nil_append, evD_other ho hq] at h
        unfold wpOp
        simp only [ho, hf.wanted]
        by_cases hw : wantB ops o a = true
        · rw [if_pos hw] at h
          rw [if_pos hw]
          refine .inl (evOp_sound h ht.sat hf fun v w' H' hk ht' => ?_)
          exact ih l2 (H :: hist) _ H' _ _ _ hlen hC' hI' hk (hf.put o.dst hdo v) (ht.trans ht')
        · rw [if_neg hw] at h
          rw [if_neg hw]
          exact ih l2 hist _ H _ _ _ hlen hC' hI' h (hf.put o.dst hdo undef) ht
      · have hq' : isOther P o.op = false := by simpa using hq
        have hcnt : nOther P ops l1 ≤ c := by
          refine Nat.le_trans ?_ (hC.cnt (i', c) (by simp))
          have : l1 = l1.filter fun j => !(bs.getD i' 0).testBit j.1 && !(bs.getD j.1 0).testBit i' := by
            refine (List.filter_eq_self.2 fun x hx => ?_).symm
            rw [hfree x hx, (hpo x hx).1]; rfl
          unfold nOther
          refine List.Sublist.length_le (List.Sublist.filter _ ?_)
          conv => lhs; rw [this]
          exact List.Sublist.filter _ (List.sublist_append_left _ _)
        obtain ⟨v, h1, _, h3⟩ := evD_front ho hq' (hC.sel i' o ho) l2 l1 hist a H ht.sat.satis (fun x hx oj hoj => by
          obtain ⟨_, ox, hox, hap, _⟩ := hpo x hx
          rw [hoj] at hox
          cases hox
          exact ⟨hap, hC.sel _ _ hoj⟩) hcnt h
        have hnext := ih (l1 ++ l2) hist _ H _ w _ hlen hC' hI' h3 (hf.put o.dst hdo v) ht
        unfold wpOp
        simp only [ho, hf.wanted]
        unfold Yv at h1
        by_cases hw : wantB ops o a = true
        · rw [if_pos hw] at h1
          rw [if_pos hw]
          refine .inl ?_
          unfold Oper.wp
          rw [hf.eval, qV_run h1 ht.sat]
          exact hnext
        · rw [if_neg hw] at h1
          subst h1
          rw [if_neg hw]
          exact hnext

theorem Canon.inv {ops : Array Oper} {bs : Array Nat} {L : List (Nat × Nat)} (hm : ∀ i, i < ops.size → i ∈ L.map (·.1)) : Inv ops bs L (Array.replicate ops.size false) :=
  ⟨by simp, fun i hi => ⟨fun _ => hm i hi, fun _ => by simp [Array.getD, hi]⟩, fun i hi hn => absurd (hm i hi) hn⟩

theorem To.drew {own : Nat → Prop} {w0 w : World} {H0 H : Hp} (h : To own w0 H0 w H) : To own w0 H0 { w with drawn := w.drawn + 1 } H :=
  ⟨h.sat.drew, h.chg.trans (Chg.drew own w), h.dom⟩

theorem evD_region {P : Program} {ops : Array Oper} {bs : Array Nat} {L : List (Nat × Nat)} {n : Nat} {own : Nat → Prop} {w0 w : World} {H0 H : Hp} {Q : Exit → Fr → Hp → Prop} {a : Fr} {A : Act} {id : Nat}
    (hm : P.follows .mixedOrders = true) (hd : ∀ (i : Nat) (o : Oper), ops[i]? = some o → dstOk n o = true) (hc : canonOk P ops bs L = true) (h : evD P ops (Q .normal) L [] a H) (hf : FrOk n a A) (ht : To own w0 H0 w H) :
    (Code.region id ops true).wp P (Fits own n w0 H0 Q) A w := by
  obtain ⟨hC, hlen, hmem⟩ := canonOk_spec hc
  refine wp_region_any hm ?_
  exact evD_any hd ops.size L [] a H A _ _ hlen hC (Canon.inv hmem) h hf ht.drew

end Go.Sl
