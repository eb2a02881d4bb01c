/- What changes memory: stores, new variables, calls: lemmas; each with the conditions that it states. -/
import Derived.Test.YtgdfmbnbknhhiaaSl6
namespace Go.Sl

def setAt : List Value → Nat → List Value → List Value
  | cs, _, [] => cs
  | cs, off, v :: vs => setAt (cs.set off v) (off + 1) vs

/-- the same, in one go through the list -/
def ovL : List Value → List Value → List Value
  | [], cs => cs
  | _ :: _, [] => []
  | v :: vs, _ :: cs => v :: ovL vs cs
def setF : List Value → Nat → List Value → List Value
  | cs, 0, vs => ovL vs cs
  | [], _ + 1, _ => []
  | c :: cs, n + 1, vs => c :: setF cs n vs
theorem setAt_nil : ∀ (vs : List Value) (off : Nat), setAt [] off vs = [] := by
  intro vs
  induction vs with
  | nil => intro off; rfl
  | cons v vs ih => intro off; simp only [setAt, List.set_nil, ih]
theorem setAt_succ : ∀ (vs : List Value) (c : Value) (cs : List Value) (off : Nat), setAt (c :: cs) (off + 1) vs = c :: setAt cs off vs := by
  intro vs
  induction vs with
  | nil => intro c cs off; rfl
  | cons v vs ih => intro c cs off; simp only [setAt, List.set_cons_succ, ih]
theorem setAt_zero : ∀ (vs cs : List Value), setAt cs 0 vs = ovL vs cs := by
  intro vs
  induction vs with
  | nil => intro cs; rfl
  | cons v vs ih =>
    intro cs
    cases cs with
    | nil => simp only [setAt_nil, ovL]
    | cons c cs => simp only [setAt, List.set_cons_zero, setAt_succ, ovL, ih]
theorem setF_eq : ∀ (cs : List Value) (off : Nat) (vs : List Value), setF cs off vs = setAt cs off vs := by
  intro cs
  induction cs with
  | nil =>
    intro off vs
    cases off with
    | zero => simp only [setF, setAt_zero]
    | succ n => simp only [setF, setAt_nil]
  | cons c cs ih =>
    intro off vs
    cases off with
    | zero => simp only [setF, setAt_zero]
    | succ n => simp only [setF, setAt_succ, ih]

theorem hupd_hupd (H : Hp) (r : Nat) (b c : Blk) : hupd (hupd H r b) r c = hupd H r c := by
  funext i; unfold hupd; split <;> rfl
theorem hupd_self {H : Hp} {r : Nat} {b : Blk} (h : H r = some b) : hupd H r b = H := by
  funext i; unfold hupd; split
  · rename_i e; rw [e, h]
  · rfl
theorem hupd_comm (H : Hp) {r s : Nat} (b c : Blk) (h : r ≠ s) : hupd (hupd H r b) s c = hupd (hupd H s c) r b := by
  funext i; unfold hupd
  by_cases h1 : i = s <;> by_cases h2 : i = r <;> simp_all

/-- the values of operands, written out -/
def forceL (a : Fr) : List Operand → Option (List Value)
  | [] => some []
  | x :: xs => match force (opd a x), forceL a xs with
    | some v, some vs => some (v :: vs)
    | _, _ => none
theorem forceL_eq {a : Fr} : ∀ {xs : List Operand} {vs : List Value}, forceL a xs = some vs → xs.map (opd a) = vs := by
  intro xs
  induction xs with
  | nil => intro vs h; cases h; rfl
  | cons x xs ih =>
    intro vs h
    simp only [forceL] at h
    split at h
    · rename_i v vs' h1 h2
      cases h
      rw [List.map_cons, ih h2, force_eq h1]
    · cases h

section
variable {P : Program} {a : Fr} {H : Hp} {k : Value → Hp → Prop} {d : Option Tmp} {ty : TypeId} {pos : String} {after : Array Edge} {g : Option (Nat × Bool)} {t : TypeId} {x y : Operand}

theorem ev_pr {α : Type} {s : Sem α} {v : α} {q : α → Hp → Prop} (h : s.pr P = some v) (hq : q v H) : s.ev P H q := rd_ev P s v q (pr_rd P s H v h) hq

theorem ev_pr_eq {α : Type} {s : Sem α} {v : α} (h : s.pr P = some v) (H : Hp) (q : α → Hp → Prop) : s.ev P H q = q v H := by
  induction s with
  | pure a => simp [Sem.pr] at h; subst h; rfl
  | program k ih => exact ih P h
  | mark m k ih => exact ih h
  | _ => cases h

theorem ev_storeCells {B : Nat} {e : TypeId} : ∀ (vs : List Value) (i off : Nat) (cs : List Value) (H : Hp) (q : Unit → Hp → Prop), H B = some (.cells cs e true) → off + i + vs.length ≤ cs.length → (vs.all Value.oneCell') = true →
    q () (hupd H B (.cells (setAt cs (off + i) vs) e true)) → (storeCells ⟨B, off, none⟩ vs i).ev P H q := by
  intro vs
  induction vs with
  | nil =>
    intro i off cs H q hb _ _ hq
    simp only [setAt, hupd_self hb] at hq
    unfold storeCells
    exact hq
  | cons v vs ih =>
    intro i off cs H q hb hle hone hq
    simp only [List.all_cons, Bool.and_eq_true] at hone
    unfold storeCells
    rw [ev_bind', add_off]
    simp only [List.length_cons] at hle
    refine ⟨hone.1, cs, e, hb, rfl, by simp only; omega, ?_⟩
    refine ih (i + 1) off (cs.set (off + i) v) _ q (hupd_same _ _ _) (by simp; omega) hone.2 ?_
    rw [hupd_hupd]
    exact hq

def infoSz (P : Program) (t : TypeId) : Option Nat := match P.info? t with
  | some i => some i.size
  | none => none
theorem infoSz_spec {n : Nat} (h : infoSz P t = some n) : ∃ i, P.info? t = some i ∧ i.size = n := by
  unfold infoSz at h
  split at h
  · exact ⟨_, ‹_›, by simpa using h⟩
  · cases h

theorem eo_store {B off n : Nat} {cs vs : List Value} {e : TypeId} {u : Value} (hx : opd a x = .pointer (some ⟨B, off, none⟩)) (hy : opd a y = u) (hvs : u.cells.toList = vs) (ht : infoSz P t = some n) (hn : vs.length = n)
    (hone : (vs.all Value.oneCell') = true) (hb : H B = some (.cells cs e true)) (hle : off + n ≤ cs.length) (hk : k undef (hupd H B (.cells (setAt cs off vs) e true))) :
    evOp P ⟨d, .store t x y, ty, pos, after, g⟩ a H k := by
  obtain ⟨i, hi, rfl⟩ := infoSz_spec ht
  refine evOp_of ?_
  simp only [execOp, hx, hy, Instr.storeAt, ev_bind']
  rw [ev_pr_eq (show (Instr.sureAddr (.pointer (some ⟨B, off, none⟩))).pr P = some ⟨B, off, none⟩ from rfl)]
  have hsz : u.cells.size = i.size := by rw [← hn, ← hvs]; simp
  simp only [storeVar, ev_bind']
  rw [ev_pr_eq (pr_sizeOf hi), if_neg (by rw [hsz]; simp)]
  refine ev_storeCells _ 0 off cs H _ hb (by rw [hvs, hn]; omega) (by rw [hvs]; exact hone) ?_
  rw [hvs]
  exact hk

def zeroL (P : Program) (t : TypeId) : Option (List Value) := match P.info? t with
  | some i => match i.zero with
    | some z => some z.cells.toList
    | none => none
  | none => none

theorem ev_newVar {v : Value} {q : Addr → Hp → Prop} (hk : ∀ r, H r = none → q ⟨r, 0, none⟩ (hupd H r (.cells v.cells.toList t true))) : (newVar t v).ev P H q := by
  unfold newVar newRow
  rw [ev_bind']
  intro r hr
  exact ⟨rfl, hk r hr⟩

theorem eo_alloc {zs : List Value} (hz : zeroL P t = some zs) (hk : ∀ r, H r = none → k (.pointer (some ⟨r, 0, none⟩)) (hupd H r (.cells zs t true))) : evOp P ⟨d, .alloc t, ty, pos, after, g⟩ a H k := by
  unfold zeroL at hz
  split at hz
  · rename_i i hi
    split at hz
    · rename_i z hz'
      cases hz
      have hzv : (zeroValue t).pr P = some z := by simp only [zeroValue, pr_bind, pr_typeInfo hi, Option.bind_some, hz']; rfl
      refine evOp_of ?_
      simp only [execOp, Instr.alloc, ev_bind']
      rw [ev_pr_eq hzv]
      exact ev_newVar hk
    · cases hz
  · cases hz

theorem eo_box {v : Value} {vs : List Value} (hx : opd a x = v) (hvs : v.cells.toList = vs) (hk : ∀ r, H r = none → k (.pointer (some ⟨r, 0, none⟩)) (hupd H r (.cells vs t true))) : evOp P ⟨d, .box t x, ty, pos, after, g⟩ a H k := by
  subst hx hvs
  refine evOp_of ?_
  simp only [execOp, Instr.box, ev_bind']
  exact ev_newVar hk

theorem ev_callFunc {f : FuncId} {args : Array Value} (h : CallS P f args H k) : (callFunc f args).ev P H (nxt P k) := by
  obtain ⟨fn, h1, h2, h3⟩ := h.has
  unfold callFunc
  rw [ev_bind', ev_pr_eq (show program.pr P = some P from rfl)]
  simp only [h1, h2, h3, Bool.false_eq_true, if_false]
  exact h

theorem eo_callv {f : FuncId} {fs cs : Array Value} {as : Array Operand} {ts : Array TypeId} {vs : List Value} (hx : opd a x = .func (.func f) fs cs) (hargs : forceL a as.toList = some vs) (h : CallS P f (fs ++ vs.toArray ++ cs) H k) :
    evOp P ⟨d, .call { callee := .value x, args := as, argTypes := ts }, ty, pos, after, g⟩ a H k := by
  have e1 : as.map (opd a) = vs.toArray := by apply Array.ext'; simpa using forceL_eq hargs
  refine evOp_of ?_
  simp only [execOp, resolve, hx, e1, Deferred.ofValue]
  rw [ev_bind', ev_pr_eq (show (pure _ : Sem Deferred).pr P = some _ from rfl)]
  simp only [invoke]
  exact ev_callFunc h
theorem eo_call {f : FuncId} {as : Array Operand} {ts : Array TypeId} {vs : List Value} (hargs : forceL a as.toList = some vs) (h : CallS P f vs.toArray H k) :
    evOp P ⟨d, .call { callee := .value (.func f), args := as, argTypes := ts }, ty, pos, after, g⟩ a H k :=
  eo_callv (f := f) (fs := #[]) (cs := #[]) rfl hargs (by simpa using h)
/-- where an argument is no constructor: its value named -/
theorem eo_call' {f : FuncId} {as : Array Operand} {ts : Array TypeId} {vs : List Value} (hargs : as.toList.map (opd a) = vs) (h : CallS P f vs.toArray H k) :
    evOp P ⟨d, .call { callee := .value (.func f), args := as, argTypes := ts }, ty, pos, after, g⟩ a H k := by
  have e1 : as.map (opd a) = vs.toArray := by apply Array.ext'; simpa using hargs
  refine evOp_of ?_
  simp only [execOp, resolve, opd, Deferred.ofValue]
  rw [ev_bind', ev_pr_eq (show (pure _ : Sem Deferred).pr P = some _ from rfl)]
  have e1' : Array.map (opd a) as = vs.toArray := e1
  simp only [invoke]
  refine ev_callFunc ?_
  have e2 : (#[] ++ Array.map (fun x => opd a x) as) ++ #[] = vs.toArray := by simpa using e1
  exact e2 ▸ h
end

end Go.Sl
