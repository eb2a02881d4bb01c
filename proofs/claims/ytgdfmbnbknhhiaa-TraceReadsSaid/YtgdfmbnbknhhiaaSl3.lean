/- A region that draws its order: what only computes or loads may come whenever its edges let it; what changes memory comes in one order: lemmas; each with the conditions that it states. -/
import Derived.Test.YtgdfmbnbknhhiaaSl2
namespace Go.Sl

end Go.Sl
namespace Go
open Go.Sl
/-- A Sem that asks nothing of memory. -/
def Sem.pr (P : Program) {α : Type} : Sem α → Option α
  | .pure a => some a
  | .program k => (k P).pr P
  | .mark _ k => k.pr P
  | _ => none
end Go
namespace Go.Sl
end Go.Sl
namespace Go
open Go.Sl
/-- A Sem that only reads. -/
def Sem.rd (P : Program) {α : Type} : Sem α → Hp → Option α
  | .pure a, _ => some a
  | .load _ a c, H => match H a.block with
      | some (.cells cs _ _) => if a.spot.isNone then match cs[a.off]? with
          | some v => (c v).rd P H
          | none => none
        else none
      | _ => none
  | .program k, H => (k P).rd P H
  | .mark _ k, H => k.rd P H
  | _, _ => none
end Go
namespace Go.Sl

theorem pr_rd (P : Program) {α : Type} (s : Sem α) : ∀ (H : Hp) (x : α), s.pr P = some x → s.rd P H = some x := by
  induction s with
  | pure a => exact fun H x h => h
  | program k ih => exact fun H x h => ih P H x h
  | mark m k ih => exact fun H x h => ih H x h
  | _ => exact fun H x h => by cases h

theorem rd_run (P : Program) {α : Type} {own : Nat → Prop} {H : Hp} {w : World} (hs : Sat own H w) (s : Sem α) : ∀ (x : α), s.rd P H = some x → s.run P w = .ok x w := by
  induction s with
  | pure a => exact fun x h => by simp [Sem.rd] at h; subst h; rfl
  | program k ih => exact fun x h => ih P x h
  | mark m k ih => exact fun x h => ih x h
  | load m a c ih =>
    intro x h
    obtain ⟨B, off, sp⟩ := a
    simp only [Sem.rd] at h
    split at h
    · rename_i cs e rw hb
      split at h
      · rename_i hsp
        cases sp with
        | some _ => simp at hsp
        | none =>
          split at h
          · rename_i v hv
            have := (hs.is _ _ hb).cell off
            simp only [Sem.run, this, hv]
            exact ih v x h
          · cases h
      · cases h
    · cases h
  | _ => exact fun x h => by cases h

theorem rd_ev (P : Program) {α : Type} {H : Hp} (s : Sem α) : ∀ (x : α) (k : α → Hp → Prop), s.rd P H = some x → k x H → s.ev P H k := by
  induction s with
  | pure a => exact fun x k h hk => by simp [Sem.rd] at h; subst h; exact hk
  | program k ih => exact fun x k h hk => ih P x k h hk
  | mark m k ih => exact fun x k h hk => ih x k h hk
  | load m a c ih =>
    intro x k h hk
    obtain ⟨B, off, sp⟩ := a
    simp only [Sem.rd] at h
    split at h
    · rename_i cs e rw hb
      split at h
      · rename_i hsp
        cases sp with
        | some _ => simp at hsp
        | none =>
          split at h
          · rename_i v hv
            exact ⟨cs, e, rw, v, hb, rfl, hv, ih v x k h hk⟩
          · cases h
      · cases h
    · cases h
  | _ => exact fun x k h hk => by cases h

def valOf : Option Next → Option Value
  | some (.value v) => some v
  | _ => none
def pureV (P : Program) (o : Oper) (a : Fr) : Option Value := valOf ((execOp (opd a) o).pr P)
def rdV (P : Program) (o : Oper) (a : Fr) (H : Hp) : Option Value := valOf ((execOp (opd a) o).rd P H)

inductive Kd where | pure | load | other
/-- between numbers -/
def convNum (P : Program) (t t' : TypeId) : Bool := match P.underlying t, P.underlying t' with
  | some (.int _), some (.int _) => true
  | _, _ => false
def kd (P : Program) : Op → Kd
  | .move _ | .assign _ | .pick .. | .build .. | .nilCheck _ | .binOp .. | .unOp .. | .fieldAddr .. | .field .. | .indexAddr .. | .index .. | .slice .. | .extract .. | .makeFunc .. | .makeInterface .. => .pure
  | .call { callee := .builtin .len, .. } | .call { callee := .builtin .cap, .. } | .call { callee := .builtin .min, .. } | .call { callee := .builtin .max, .. } => .pure
  | .load .. => .load
  | .convert t t' _ => match convNum P t t' with
    | true => .pure
    | false => .other
  | _ => .other

def isOther (P : Program) (o : Op) : Bool := match kd P o with
  | .other => true
  | _ => false

/-- What a quiet operation yields. -/
def qV (P : Program) (o : Oper) (a : Fr) (H : Hp) : Option Value := match kd P o.op with
  | .pure => pureV P o a
  | _ => rdV P o a H

theorem qV_rd {P : Program} {o : Oper} {a : Fr} {H : Hp} {v : Value} (h : qV P o a H = some v) : (execOp (opd a) o).rd P H = some (.value v) := by
  have key : ∀ {x : Option Next}, valOf x = some v → x = some (.value v) := fun {x} hx => by
    cases x with
    | none => cases hx
    | some n => cases n <;> first | (simp [valOf] at hx; subst hx; rfl) | cases hx
  unfold qV at h
  split at h
  · exact pr_rd P _ H _ (key h)
  · exact key h

def evD (P : Program) (ops : Array Oper) (Q : Fr → Hp → Prop) : List (Nat × Nat) → List Hp → Fr → Hp → Prop
  | [], _, a, H => Q a H
  | (i, c) :: rest, hist, a, H => match ops[i]? with
    | none => False
    | some o =>
      if wantB ops o a = true then
        match kd P o.op with
        | .pure => ∃ v, pureV P o a = some v ∧ spl (isG ops i) v fun v => evD P ops Q rest hist (putO a o.dst v) H
        | .load => ∃ v, rdV P o a H = some v ∧ (∀ h ∈ hist.take c, rdV P o a h = some v) ∧ spl (isG ops i) v fun v => evD P ops Q rest hist (putO a o.dst v) H
        | .other => evOp P o a H fun v H' => spl (isG ops i) v fun v => evD P ops Q rest (H :: hist) (putO a o.dst v) H'
      else evD P ops Q rest hist (putO a o.dst undef) H

def Yv (P : Program) (ops : Array Oper) (o : Oper) (a : Fr) (H : Hp) (v : Value) : Prop :=
  if wantB ops o a = true then qV P o a H = some v else v = undef

theorem Yv.eq {P : Program} {ops : Array Oper} {o : Oper} {a : Fr} {H : Hp} {v u : Value} (h : Yv P ops o a H v) (k : Yv P ops o a H u) : u = v := by
  unfold Yv at h k
  split at h
  · rw [if_pos ‹_›] at k; rw [h] at k; exact (Option.some.inj k).symm
  · rw [if_neg ‹_›] at k; rw [h, k]

/-- A world that has what H says. -/
def Satis (H : Hp) : Prop := ∃ w, Sat (fun _ => True) H w
theorem Sat.satis {own : Nat → Prop} {H : Hp} {w : World} (h : Sat own H w) : Satis H := ⟨w, h.is, fun _ _ _ _ => trivial, fun _ _ => trivial⟩

theorem Satis.hupd {H : Hp} (h : Satis H) (r : Nat) (b : Blk) (o : Obj) (hb : ∀ w', w'.heap[r]? = some o → BlkIs w' r b) : Satis (hupd H r b) := by
  obtain ⟨w, hs⟩ := h
  refine ⟨{ w with heap := (w.heap ++ Array.replicate (r + 1) o).setIfInBounds r o }, fun C c hc => ?_, fun _ _ _ _ => trivial, fun _ _ => trivial⟩
  by_cases hC : C = r
  · subst hC
    rw [hupd_same] at hc; cases hc
    refine hb _ ?_
    have : C < (w.heap ++ Array.replicate (C + 1) o).size := by simp; omega
    exact Array.getElem?_setIfInBounds_self_of_lt this
  · rw [hupd_ne _ _ hC] at hc
    refine (hs.is C c hc).of_heap ?_
    have hlt := hs.lt hc
    simp only
    rw [Array.getElem?_setIfInBounds_ne (Ne.symm hC), Array.getElem?_append_left hlt]

theorem Satis.cells {H : Hp} (h : Satis H) (r : Nat) (arr : Array Value) (e : TypeId) (rw : Bool) : Satis (Sl.hupd H r (.cells arr.toList e rw)) :=
  h.hupd r _ (.cells arr e (0, 0)) fun _ hw => ⟨arr, (0, 0), hw, rfl, fun _ => .inr rfl⟩
theorem Satis.obj {H : Hp} (h : Satis H) (r : Nat) (o : Obj) (hn : noCells o = true) : Satis (Sl.hupd H r (.obj o)) :=
  h.hupd r _ o fun _ hw => ⟨hw, hn⟩

theorem ev_mono_sat (P : Program) {α : Type} (s : Sem α) : ∀ (H : Hp) (k k' : α → Hp → Prop), (∀ x H, Satis H → k x H → k' x H) → Satis H → s.ev P H k → s.ev P H k' := by
  induction s with
  | pure a => exact fun H k k' hk hs h => hk _ _ hs h
  | load m a c ih => exact fun H k k' hk hs ⟨cs, e, rw, v, h1, h2, h3, h⟩ => ⟨cs, e, rw, v, h1, h2, h3, ih v H k k' hk hs h⟩
  | store m a v c ih => exact fun H k k' hk hs ⟨h0, cs, e, h1, h2, h3, h⟩ => ⟨h0, cs, e, h1, h2, h3, ih _ k k' hk (by simpa using hs.cells a.block (cs.set a.off v).toArray e true) h⟩
  | new o c ih =>
    intro H k k' hk hs h r hr
    have := h r hr
    cases o with
    | cells arr e fz => exact ⟨this.1, ih r _ k k' hk (hs.cells r arr e true) this.2⟩
    | _ => exact ih r _ k k' hk (hs.obj r _ rfl) this
  | shape r c ih =>
    intro H k k' hk hs h
    simp only [Sem.ev] at h ⊢
    split at h
    · exact ih _ H k k' hk hs h
    · exact ih _ H k k' hk hs h
    · exact h
  | freeze a n c ih =>
    intro H k k' hk hs h
    simp only [Sem.ev] at h ⊢
    by_cases hn : n = 0
    · simp only [hn, if_true] at h ⊢; exact ih H k k' hk hs h
    · simp only [hn, if_false] at h ⊢; obtain ⟨cs, e, h1, h2, h⟩ := h; exact ⟨cs, e, h1, h2, ih H k k' hk hs h⟩
  | frozen a c ih =>
    intro H k k' hk hs h
    simp only [Sem.ev] at h ⊢
    split at h
    · rename_i cs e hb
      by_cases hl : a.off < cs.length
      · simp only [hl, if_true] at h ⊢; exact ih _ H k k' hk hs h
      · simp only [hl, if_false] at h ⊢; exact fun b => ih _ H k k' hk hs (h b)
    · exact fun b => ih _ H k k' hk hs (h b)
  | getObj r c ih => exact fun H k k' hk hs ⟨o, h1, h⟩ => ⟨o, h1, ih o H k k' hk hs h⟩
  | setObj r o c ih => exact fun H k k' hk hs ⟨h1, h2, h⟩ => ⟨h1, h2, ih _ k k' hk (hs.obj r o h2) h⟩
  | choose q c ih =>
    intro H k k' hk hs h
    simp only [Sem.ev] at h ⊢
    by_cases hq : q.forced = true
    · simp only [hq, if_true] at h ⊢; exact ih 0 H k k' hk hs h
    · simp only [hq] at h ⊢; exact fun n => ih _ H k k' hk hs (h n)
  | sys c k ih => exact fun H k k' hk hs h => h
  | program c ih => exact fun H k k' hk hs h => ih P H k k' hk hs h
  | mark m c ih => exact fun H k k' hk hs h => ih H k k' hk hs h
  | halt h => exact fun H k k' hk hs h => h

theorem CallS.mono_sat {P : Program} {f : FuncId} {args : Array Value} {H : Hp} {K K' : Value → Hp → Prop} (h : CallS P f args H K) (hk : ∀ v H', Satis H' → K v H' → K' v H') : CallS P f args H K' :=
  ⟨h.has, fun own w hs => (h.run own w hs).mono fun _ _ ⟨v, H', he, hv, ht⟩ => ⟨v, H', he, hk _ _ ht.sat.satis hv, ht⟩⟩

theorem Satis.sub {H' H : Hp} (h : Satis H) (hs : Hsub H' H) : Satis H' := by
  obtain ⟨w, hw⟩ := h
  exact ⟨w, hw.sub hs⟩

theorem evOp_mono_sat {P : Program} {o : Oper} {a : Fr} {H : Hp} {k k' : Value → Hp → Prop} (hs : Satis H) (h : ∀ v H, Satis H → k v H → k' v H) (hh : evOp P o a H k) : evOp P o a H k' := by
  have hw : ∀ v H, Satis H → wk k v H → wk k' v H := fun v H hs ⟨H', hsub, hk⟩ => ⟨H', hsub, h v H' (hs.sub hsub) hk⟩
  exact ev_mono_sat P _ H _ _ (fun x H' hs' hx => by cases x <;> first | exact hx | exact hw _ _ hs' hx | exact CallS.mono_sat hx hw) hs hh

theorem evOp_some {P : Program} {o : Oper} {a : Fr} {H : Hp} {k : Value → Hp → Prop} (hs : Satis H) (hh : evOp P o a H k) : ∃ v H', Satis H' ∧ k v H' := by
  obtain ⟨w, hw⟩ := hs
  obtain ⟨x, w', H', hr, hk, ht⟩ := ev_sound P _ _ H w _ hh hw
  cases x with
  | value v => obtain ⟨H'', hsub, hk⟩ := hk; exact ⟨v, H'', ht.sat.satis.sub hsub, hk⟩
  | skip => obtain ⟨H'', hsub, hk⟩ := hk; exact ⟨undef, H'', ht.sat.satis.sub hsub, hk⟩
  | enter f args =>
    obtain ⟨e, w'', fr, ⟨v, H'', _, ⟨H3, hsub, hv⟩, ht'⟩, _⟩ := CallS.run hk _ w' ht.sat []
    exact ⟨v, H3, ht'.sat.satis.sub hsub, hv⟩
  | _ => exact hk.elim

/-! ### Operations that are apart -/
theorem opd_put {a : Fr} {d : Option Tmp} {v : Value} {x : Operand} (h : ∀ t, d = some t → x ≠ .tmp t) : opd (putO a d v) x = opd a x := by
  cases d with
  | none => rfl
  | some t =>
    cases x with
    | tmp u => exact upd_ne a v (fun e => h t rfl (by rw [e]))
    | _ => rfl

theorem execOp_putO {ops : Array Oper} (o : Oper) (hs : ∀ cs b, o.op ≠ .select cs b) (a : Fr) (d : Option Tmp) (v : Value) (h : ∀ t, d = some t → t ∉ o.looksAt ops) :
    execOp (opd (putO a d v)) o = execOp (opd a) o :=
  execOp_congr o hs fun x hx => opd_put fun t ht hxt => h t ht (by
    subst hxt
    exact List.mem_append_left _ (List.mem_filterMap.2 ⟨.tmp t, by simpa using hx, rfl⟩))

theorem wantB_putO {ops : Array Oper} (o : Oper) (a : Fr) (d : Option Tmp) (v : Value) (h : ∀ t, d = some t → t ∉ o.looksAt ops) : wantB ops o (putO a d v) = wantB ops o a := by
  cases d with
  | none => rfl
  | some t =>
    unfold wantB Region.wanted
    cases hg : o.guard with
    | none => rfl
    | some gw =>
      obtain ⟨g, want⟩ := gw
      have hy : yieldB ops (putO a (some t) v) g = yieldB ops a g := by
        unfold yieldB
        cases hd : (ops[g]?).bind (·.dst) with
        | none => rfl
        | some u =>
          have hne : u ≠ t := fun e => h t rfl (by subst e; simp [Oper.looksAt, hg, hd])
          simp [putO, upd_ne a v hne]
      simp only [hy]

theorem putO_comm (a : Fr) {x y : Option Tmp} (v u : Value) (h : ∀ d, x = some d → y ≠ some d) : putO (putO a x v) y u = putO (putO a y u) x v := by
  cases x with
  | none => rfl
  | some d =>
    cases y with
    | none => rfl
    | some e => exact upd_comm a v u (fun he => h d rfl (by rw [he]))

theorem qV_putO {P : Program} {ops : Array Oper} (o : Oper) (hs : ∀ cs b, o.op ≠ .select cs b) (a : Fr) (d : Option Tmp) (v : Value) (h : ∀ t, d = some t → t ∉ o.looksAt ops) (H : Hp) :
    qV P o (putO a d v) H = qV P o a H := by
  unfold qV pureV rdV
  rw [execOp_putO o hs a d v h]

theorem Yv_putO {P : Program} {ops : Array Oper} (o : Oper) (hs : ∀ cs b, o.op ≠ .select cs b) (a : Fr) (d : Option Tmp) (v : Value) (h : ∀ t, d = some t → t ∉ o.looksAt ops) (H : Hp) (u : Value) :
    Yv P ops o (putO a d v) H u ↔ Yv P ops o a H u := by
  unfold Yv
  rw [wantB_putO o a d v h, qV_putO o hs a d v h]

def noSel (o : Oper) : Prop := ∀ cs b, o.op ≠ .select cs b

def nOther (P : Program) (ops : Array Oper) (l : List (Nat × Nat)) : Nat := (l.filter fun x => match ops[x.1]? with
  | some o => isOther P o.op
  | none => false).length

/-- The value of evD's step at a quiet operation. -/
theorem evD_quiet {P : Program} {ops : Array Oper} {Q : Fr → Hp → Prop} {i c : Nat} {o : Oper} (ho : ops[i]? = some o) (hq : isOther P o.op = false) {rest : List (Nat × Nat)} {hist : List Hp} {a : Fr} {H : Hp} :
    evD P ops Q ((i, c) :: rest) hist a H ↔ ∃ v, Yv P ops o a H v ∧ (∀ h ∈ hist.take c, Yv P ops o a h v) ∧ evD P ops Q rest hist (putO a o.dst v) H := by
  simp only [evD, ho]
  by_cases hw : wantB ops o a = true
  · simp only [hw, if_true]
    cases hk : kd P o.op with
    | pure =>
      have hqv : ∀ h, qV P o a h = pureV P o a := fun h => by simp [qV, hk]
      simp only [Yv, hw, if_true, hqv]
      constructor
      · rintro ⟨v, hv, h⟩; rw [spl_iff] at h; exact ⟨v, hv, fun _ _ => hv, h⟩
      · rintro ⟨v, hv, _, h⟩; exact ⟨v, hv, (spl_iff _ _ _).2 h⟩
    | load =>
      have hqv : ∀ h, qV P o a h = rdV P o a h := fun h => by simp [qV, hk]
      simp only [Yv, hw, if_true, hqv]
      constructor
      · rintro ⟨v, hv, hh, h⟩; rw [spl_iff] at h; exact ⟨v, hv, hh, h⟩
      · rintro ⟨v, hv, hh, h⟩; exact ⟨v, hv, hh, (spl_iff _ _ _).2 h⟩
    | other => simp [isOther, hk] at hq
  · simp only [hw, Yv]
    constructor
    · exact fun h => ⟨undef, by simp, fun _ _ => by simp, h⟩
    · rintro ⟨v, hv, _, h⟩; simp at hv; subst hv; exact h

theorem evD_other {P : Program} {ops : Array Oper} {Q : Fr → Hp → Prop} {i c : Nat} {o : Oper} (ho : ops[i]? = some o) (hq : isOther P o.op = true) {rest : List (Nat × Nat)} {hist : List Hp} {a : Fr} {H : Hp} :
    evD P ops Q ((i, c) :: rest) hist a H ↔ if wantB ops o a = true then evOp P o a H fun v H' => evD P ops Q rest (H :: hist) (putO a o.dst v) H' else evD P ops Q rest hist (putO a o.dst undef) H := by
  simp only [evD, ho]
  have hk : kd P o.op = .other := by
    unfold isOther at hq
    split at hq
    · assumption
    · cases hq
  by_cases hw : wantB ops o a = true
  · simp only [hw, if_true, hk]
    simp only [spl_iff]
  · rw [if_neg hw, if_neg hw]

theorem nOther_cons {P : Program} {ops : Array Oper} {i c : Nat} {o : Oper} (ho : ops[i]? = some o) (l : List (Nat × Nat)) : nOther P ops ((i, c) :: l) = (if isOther P o.op = true then 1 else 0) + nOther P ops l := by
  unfold nOther
  rw [List.filter_cons]
  simp only [ho]
  split <;> simp <;> omega

/-- A quiet operation that waits for nobody ahead of it may be taken to the front. -/
theorem evD_front {P : Program} {ops : Array Oper} {Q : Fr → Hp → Prop} {i c : Nat} {o : Oper} (ho : ops[i]? = some o) (hq : isOther P o.op = false) (hso : noSel o) (l2 : List (Nat × Nat)) :
    ∀ (l1 : List (Nat × Nat)) (hist : List Hp) (a : Fr) (H : Hp), Satis H → (∀ x ∈ l1, ∀ oj, ops[x.1]? = some oj → oj.apart ops o = true ∧ noSel oj) → nOther P ops l1 ≤ c →
      evD P ops Q (l1 ++ (i, c) :: l2) hist a H →
      ∃ v, Yv P ops o a H v ∧ (∀ h ∈ hist.take (c - nOther P ops l1), Yv P ops o a h v) ∧ evD P ops Q (l1 ++ l2) hist (putO a o.dst v) H := by
  intro l1
  induction l1 with
  | nil =>
    intro hist a H hs _ _ h
    obtain ⟨v, h1, h2, h3⟩ := (evD_quiet ho hq).1 h
    exact ⟨v, h1, by simpa [nOther] using h2, h3⟩
  | cons x l1 ih =>
    obtain ⟨j, cj⟩ := x
    intro hist a H hs hap hc h
    cases hj : ops[j]? with
    | none => simp only [List.cons_append, evD, hj] at h
    | some oj =>
      obtain ⟨hapj, hsj⟩ := hap (j, cj) (by simp) oj hj
      obtain ⟨p1, p2, p3⟩ := Oper.apart_spec hapj
      have hap' : ∀ x ∈ l1, ∀ oj, ops[x.1]? = some oj → oj.apart ops o = true ∧ noSel oj := fun x hx => hap x (by simp [hx])
      rw [nOther_cons hj] at hc
      have hcomm : ∀ (u v : Value), putO (putO a oj.dst u) o.dst v = putO (putO a o.dst v) oj.dst u := fun u v => putO_comm a u v p2
      by_cases hoj : isOther P oj.op = true
      · simp only [hoj, if_true] at hc
        rw [List.cons_append, evD_other hj hoj] at h
        by_cases hw : wantB ops oj a = true
        · rw [if_pos hw] at h
          have key : ∀ u H', Satis H' → evD P ops Q (l1 ++ (i, c) :: l2) (H :: hist) (putO a oj.dst u) H' →
              ∃ v, Yv P ops o a H v ∧ (∀ h ∈ hist.take (c - (1 + nOther P ops l1)), Yv P ops o a h v) ∧ evD P ops Q (l1 ++ l2) (H :: hist) (putO (putO a oj.dst u) o.dst v) H' := by
            intro u H' hs' hk
            obtain ⟨v, _, h2, h3⟩ := ih (H :: hist) _ H' hs' hap' (by omega) hk
            have hsucc : c - nOther P ops l1 = (c - (1 + nOther P ops l1)) + 1 := by omega
            rw [hsucc, List.take_succ_cons] at h2
            refine ⟨v, (Yv_putO o hso a oj.dst u p1 H v).1 (h2 H (by simp)), fun h hh => (Yv_putO o hso a oj.dst u p1 h v).1 (h2 h (by simp [hh])), h3⟩
          obtain ⟨u, H', hs', hk⟩ := evOp_some hs h
          obtain ⟨v, h1, h2, _⟩ := key u H' hs' hk
          refine ⟨v, h1, by rw [nOther_cons hj]; simpa [hoj] using h2, ?_⟩
          rw [List.cons_append, evD_other hj hoj, wantB_putO oj a o.dst v p3, if_pos hw]
          have hmono := evOp_mono_sat (k' := fun u H' => evD P ops Q (l1 ++ l2) (H :: hist) (putO (putO a o.dst v) oj.dst u) H') hs (fun u H' hs' hk => by
            obtain ⟨v', g1, _, g3⟩ := key u H' hs' hk
            rw [Yv.eq h1 g1, hcomm] at g3
            exact g3) h
          unfold evOp at hmono ⊢
          rw [execOp_putO oj hsj a o.dst v p3]
          exact hmono
        · rw [if_neg hw] at h
          obtain ⟨v, h1, h2, h3⟩ := ih hist _ H hs hap' (by omega) h
          refine ⟨v, (Yv_putO o hso a oj.dst undef p1 H v).1 h1, fun h hh => (Yv_putO o hso a oj.dst undef p1 h v).1 (h2 h ?_), ?_⟩
          · rw [nOther_cons hj] at hh
            simp only [hoj, if_true] at hh
            exact List.take_subset_take_left _ (by omega) hh
          · rw [List.cons_append, evD_other hj hoj, wantB_putO oj a o.dst v p3, if_neg hw, ← hcomm]
            exact h3
      · have hoj' : isOther P oj.op = false := by simpa using hoj
        simp only [hoj', Bool.false_eq_true, if_false, Nat.zero_add] at hc
        rw [List.cons_append, evD_quiet hj hoj'] at h
        obtain ⟨u, g1, g2, g3⟩ := h
        obtain ⟨v, h1, h2, h3⟩ := ih hist _ H hs hap' hc g3
        refine ⟨v, (Yv_putO o hso a oj.dst u p1 H v).1 h1, fun h hh => (Yv_putO o hso a oj.dst u p1 h v).1 (h2 h ?_), ?_⟩
        · rw [nOther_cons hj] at hh
          simpa [hoj'] using hh
        · rw [List.cons_append, evD_quiet hj hoj']
          exact ⟨u, (Yv_putO oj hsj a o.dst v p3 H u).2 g1, fun h hh => (Yv_putO oj hsj a o.dst v p3 h u).2 (g2 h hh), by rw [← hcomm]; exact h3⟩

end Go.Sl
