/- The program logic over a function's code: frames, operations, regions, loops, calls: lemmas; each with the conditions that it states. -/
import Derived.Test.YtgdfmbnbknhhiaaSl1
import Derived.Tactics
import Derived.Scope
namespace Go.Sl

def upd (a : Fr) (i : Nat) (v : Value) : Fr := fun j => if j = i then v else a j
theorem upd_same (a : Fr) (i : Nat) (v : Value) : upd a i v i = v := by simp [upd]
theorem upd_ne (a : Fr) {i j : Nat} (v : Value) (h : j ≠ i) : upd a i v j = a j := by simp [upd, h]
theorem upd_comm (a : Fr) {i j : Nat} (v u : Value) (h : i ≠ j) : upd (upd a i v) j u = upd (upd a j u) i v := by
  funext k; unfold upd
  by_cases h1 : k = j <;> by_cases h2 : k = i <;> simp_all

def putO (a : Fr) (d : Option Tmp) (v : Value) : Fr := match d with
  | some d => upd a d v
  | none => a

def opd (a : Fr) : Operand → Value
  | .tmp t => a t
  | .const v => v
  | .global g => .pointer (some ⟨g, 0, none⟩)
  | .func f => .func (.func f) #[] #[]

structure FrOk (n : Nat) (a : Fr) (A : Act) : Prop where
  size : A.tmps.size = n
  get : ∀ t, A.tmps.getD t undef = a t
  defers : A.defers = []

theorem FrOk.eval {n : Nat} {a : Fr} {A : Act} (h : FrOk n a A) : A.eval = opd a := by
  funext x
  cases x with
  | tmp t => exact h.get t
  | _ => rfl

theorem FrOk.put {n : Nat} {a : Fr} {A : Act} (h : FrOk n a A) (d : Option Tmp) (hd : ∀ t, d = some t → t < n) (v : Value) : FrOk n (putO a d v) (A.put d v) := by
  cases d with
  | none => exact h
  | some d =>
    refine ⟨by simpa [Act.put] using h.size, fun t => ?_, h.defers⟩
    have hlt : d < A.tmps.size := by rw [h.size]; exact hd d rfl
    have hg := h.get t
    simp only [Act.put, putO, upd, Array.getD_eq_getD_getElem?] at hg ⊢
    by_cases ht : t = d
    · subst ht; simp [hlt]
    · rw [Array.getElem?_setIfInBounds_ne (Ne.symm ht)]; simp [ht, hg]

/-- What a guard's operation yielded. -/
def yieldB (ops : Array Oper) (a : Fr) (j : Nat) : Option Bool :=
  match ((ops[j]?).bind (·.dst)).map a with
  | some (.bool b) => some b
  | _ => none

theorem undef_not_bool (b : Bool) : undef ≠ .bool b := by unfold undef; simp

theorem FrOk.yielded {n : Nat} {a : Fr} {A : Act} (h : FrOk n a A) (ops : Array Oper) (j : Nat) : Go.yielded ops A.tmps j = yieldB ops a j := by
  unfold Go.yielded yieldB
  cases hd : (ops[j]?).bind (·.dst) with
  | none => rfl
  | some t =>
    have hg := h.get t
    simp only [Option.bind_some, Option.map_some]
    rw [Array.getD_eq_getD_getElem?] at hg
    cases ht : A.tmps[t]? with
    | some v => rw [ht] at hg; simp at hg; subst hg; rfl
    | none =>
      rw [ht] at hg; simp at hg
      rw [← hg]
      simp only
      split
      · rename_i b hb; exact absurd (Option.some.inj hb) (undef_not_bool b)
      · rfl

def wantB (ops : Array Oper) (o : Oper) (a : Fr) : Bool := Region.wanted o (yieldB ops a)

theorem FrOk.wanted {n : Nat} {a : Fr} {A : Act} (h : FrOk n a A) (ops : Array Oper) (o : Oper) : Region.wanted o (Go.yielded ops A.tmps) = wantB ops o a := by
  unfold wantB Region.wanted
  split
  · rfl
  · rw [h.yielded]

/-- A contract: called in whatever world has what H says, f returns a value and a heap that meet K; nothing else is touched. -/
structure CallS (P : Program) (f : FuncId) (args : Array Value) (H : Hp) (K : Value → Hp → Prop) : Prop where
  has : ∃ fn, P.funcs[f]? = some fn ∧ fn.body.isNone = false ∧ (fn.name == "runtime.NumGoroutine") = false
  run : ∀ own w, Sat own H w → Calls P f args w fun e w' => ∃ v H', e = .returned v ∧ K v H' ∧ To own w H w' H'

theorem CallS.mono {P : Program} {f : FuncId} {args : Array Value} {H : Hp} {K K' : Value → Hp → Prop} (h : CallS P f args H K) (hk : ∀ v H', K v H' → K' v H') : CallS P f args H K' :=
  ⟨h.has, fun own w hs => (h.run own w hs).mono fun _ _ ⟨v, H', he, hv, ht⟩ => ⟨v, H', he, hk _ _ hv, ht⟩⟩

/-- What is known of the heap may be forgotten. -/
theorem CallS.weaken {P : Program} {f : FuncId} {args : Array Value} {H : Hp} {K : Value → Hp → Prop} (h : CallS P f args H fun v H' => ∃ H'', Hsub H'' H' ∧ K v H'') : CallS P f args H K :=
  ⟨h.has, fun own w hs => (h.run own w hs).mono fun _ _ ⟨v, H', he, ⟨H'', hsub, hv⟩, ht⟩ => ⟨v, H'', he, hv, ht.sub hsub⟩⟩

def nxt (P : Program) (k : Value → Hp → Prop) : Next → Hp → Prop
  | .value v, H => k v H
  | .skip, H => k undef H
  | .enter f args, H => CallS P f args H k
  | _, _ => False

theorem nxt_mono {P : Program} {k k' : Value → Hp → Prop} (h : ∀ v H, k v H → k' v H) : ∀ x H, nxt P k x H → nxt P k' x H := fun x H hx => by
  cases x <;> first | exact hx | exact h _ _ hx | exact CallS.mono hx h

/-- What is known may be forgotten behind an operation. -/
def wk (k : Value → Hp → Prop) : Value → Hp → Prop := fun v H => ∃ H', Hsub H' H ∧ k v H'
theorem wk_mono {k k' : Value → Hp → Prop} (h : ∀ v H, k v H → k' v H) : ∀ v H, wk k v H → wk k' v H := fun _ _ ⟨H', hs, hk⟩ => ⟨H', hs, h _ _ hk⟩

/-- One operation. -/
def evOp (P : Program) (o : Oper) (a : Fr) (H : Hp) (k : Value → Hp → Prop) : Prop := (execOp (opd a) o).ev P H (nxt P (wk k))

theorem evOp_of {P : Program} {o : Oper} {a : Fr} {H : Hp} {k : Value → Hp → Prop} (h : (execOp (opd a) o).ev P H (nxt P k)) : evOp P o a H k :=
  ev_mono P _ H _ _ (nxt_mono fun _ H hk => ⟨H, Hsub.refl _, hk⟩) h

theorem evOp_mono {P : Program} {o : Oper} {a : Fr} {H : Hp} {k k' : Value → Hp → Prop} (h : ∀ v H, k v H → k' v H) (hh : evOp P o a H k) : evOp P o a H k' :=
  ev_mono P _ H _ _ (nxt_mono (wk_mono h)) hh

/-- The kit's 'wp' of one operation. -/
theorem evOp_sound {P : Program} {o : Oper} {a : Fr} {A : Act} {H : Hp} {n : Nat} {own : Nat → Prop} {w : World} {k : Value → Hp → Prop} (h : evOp P o a H k) (hs : Sat own H w) (hf : FrOk n a A)
    {K : Act → World → Prop} {Q : Exit → Act → World → Prop} (hK : ∀ v w' H', k v H' → To own w H w' H' → K (A.put o.dst v) w') : o.wp P A w K Q := by
  obtain ⟨x, w', H', hr, hk, ht⟩ := ev_sound P own _ H w _ h hs
  unfold Oper.wp
  rw [hf.eval, hr]
  cases x with
  | value v => obtain ⟨H'', hsub, hk⟩ := hk; exact hK v w' H'' hk (ht.sub hsub)
  | skip => obtain ⟨H'', hsub, hk⟩ := hk; exact hK undef w' H'' hk (ht.sub hsub)
  | enter f args =>
    refine (CallS.run hk own w' ht.sat).mono ?_
    rintro e w'' ⟨v, H'', rfl, ⟨H3, hsub, hv⟩, ht'⟩
    exact hK v w'' H3 hv (ht.trans (ht'.sub hsub))
  | _ => exact hk.elim

/-- Two ways; a plain node, so that the walk stands still before it. -/
structure Br (b : Bool) (t e : Prop) : Prop where
  yes : b = true → t
  no : b = false → e

theorem Br.iff {b : Bool} {t e : Prop} : Br b t e ↔ (if b = true then t else e) := by
  cases b
  · exact ⟨fun h => h.no rfl, fun h => ⟨fun h' => (by cases h'), fun _ => h⟩⟩
  · exact ⟨fun h => h.yes rfl, fun h => ⟨fun _ => h, fun h' => (by cases h')⟩⟩

/-- A value on which others hang is parted at once. -/
def spl (g : Bool) (v : Value) (k : Value → Prop) : Prop :=
  match g, v with
  | true, .bool b => Br b (k (.bool true)) (k (.bool false))
  | _, v => k v

theorem spl_iff (g : Bool) (v : Value) (k : Value → Prop) : spl g v k ↔ k v := by
  unfold spl
  split
  · rename_i b
    cases b
    · exact ⟨fun h => h.no rfl, fun h => ⟨fun h' => (by cases h'), fun _ => h⟩⟩
    · exact ⟨fun h => h.yes rfl, fun h => ⟨fun _ => h, fun h' => (by cases h')⟩⟩
  · exact Iff.rfl

def isG (ops : Array Oper) (i : Nat) : Bool := ops.toList.any fun o => match o.guard with
  | some (j, _) => Nat.beq j i
  | none => false

/-- The operations of a region, in the order of the text. -/
def evL (P : Program) (ops : Array Oper) (Q : Fr → Hp → Prop) : Nat → List Oper → Fr → Hp → Prop
  | _, [], a, H => Q a H
  | i, o :: rest, a, H =>
    if wantB ops o a = true then evOp P o a H fun v H' => spl (isG ops i) v fun v => evL P ops Q (i + 1) rest (putO a o.dst v) H'
    else evL P ops Q (i + 1) rest (putO a o.dst undef) H

def dstOk (n : Nat) (o : Oper) : Bool := match o.dst with
  | some d => Nat.blt d n
  | none => true
theorem dstOk_spec {n : Nat} {o : Oper} (h : dstOk n o = true) : ∀ t, o.dst = some t → t < n := fun t ht => by
  unfold dstOk at h; rw [ht] at h; simpa using h

/-- What an exit's world and frame must be. -/
def Fits (own : Nat → Prop) (n : Nat) (w0 : World) (H0 : Hp) (Q : Exit → Fr → Hp → Prop) : Exit → Act → World → Prop :=
  fun e A w => ∃ a H, Q e a H ∧ FrOk n a A ∧ To own w0 H0 w H

theorem evL_sound {P : Program} {ops : Array Oper} {n : Nat} {own : Nat → Prop} {w0 : World} {H0 : Hp} {Q : Exit → Fr → Hp → Prop} (l : List Oper) :
    ∀ (i : Nat) (a : Fr) (H : Hp) (A : Act) (w : World), (∀ o ∈ l, dstOk n o = true) → evL P ops (Q .normal) i l a H → FrOk n a A → To own w0 H0 w H →
      wpList P ops (Fits own n w0 H0 Q) l A w := by
  induction l with
  | nil => exact fun i a H A w _ h hf ht => ⟨a, H, h, hf, ht⟩
  | cons o rest ih =>
    intro i a H A w hd h hf ht
    have hdo := dstOk_spec (hd o (by simp))
    have hdr : ∀ o ∈ rest, dstOk n o = true := fun x hx => hd x (by simp [hx])
    refine wpList_step fun K hK => ?_
    rw [hf.wanted]
    unfold evL at h
    split at h
    · rename_i hw
      rw [if_pos hw]
      refine evOp_sound h ht.sat hf fun v w' H' hk ht' => hK _ _ ?_
      rw [spl_iff] at hk
      exact ih (i + 1) _ _ _ _ hdr hk (hf.put o.dst hdo v) (ht.trans ht')
    · rename_i hw
      rw [if_neg hw]
      exact hK _ _ (ih (i + 1) _ _ _ _ hdr h (hf.put o.dst hdo undef) ht)

def thenE (K : Fr → Hp → Prop) (Q : Exit → Fr → Hp → Prop) : Exit → Fr → Hp → Prop
  | Exit.normal => K
  | e => Q e
def inBlockE (id : Nat) (Q : Exit → Fr → Hp → Prop) : Exit → Fr → Hp → Prop
  | Exit.exit j => if j = id then Q .normal else Q (.exit j)
  | e => Q e
def noGotoE (Q : Exit → Fr → Hp → Prop) : Exit → Fr → Hp → Prop
  | Exit.goto _ => fun _ _ => False
  | e => Q e

end Go.Sl
