/- A run in parts, reckoned by the kernel: calls whose answers are known; what nobody reaches any more falls away: lemmas; each with the conditions that it states. -/
import Derived.Test.YtiofdmjecjcdbaaGreatDoorGd
set_option linter.unusedVariables false
set_option linter.unusedSimpArgs false
namespace Go.Ex
open Go Go.Sl
set_option maxHeartbeats 2000000
noncomputable section
/-- a call: of which function, with what; what it answers -/
structure Mem where
  f : Nat
  args : List CV
  hp : T CB
  nx : Nat
  v : CV
  hp' : T CB
  nx' : Nat
def an (a : Bool) (b : Bool) : Bool := @Bool.rec (fun _ => Bool) false b a
def hitM (m : Mem) (f : Nat) (args : List CV) (hp : T CB) (nx : Nat) : Bool := an (Nat.beq f m.f) (an (Nat.beq nx m.nx) (an (eqLD (eqD 9) args m.args) (eqT eqB hp m.hp)))
def memR (miss : Cl) (ms : List Mem) (f : Nat) (args : List CV) (hp : T CB) (nx : Nat) : R := @List.rec Mem (fun _ => R) (miss f args hp nx) (fun m _ ih => B (hitM m f args hp nx) (.ret m.v m.hp' m.nx') ih) ms
def isIn (tr : List Nat) (f : Nat) : Bool := @List.rec Nat (fun _ => Bool) false (fun g _ ih => @Bool.rec (fun _ => Bool) ih true (Nat.beq f g)) tr
def runM (P : Program) (od : Nat → Od) (tr : List Nat) (miss : Cl) (ms : List Mem) (n : Nat) : Cl := @Nat.rec (fun _ => Cl) (fun _ _ _ _ => .er [1]) (fun _ ih f args hp nx => B (isIn tr f) (memR miss ms f args hp nx) (funX P od ih f args hp nx)) n
def noCl : Cl := fun _ _ _ _ => .er [150]
/-! what is left of a heap -/
def clD (d : Nat → Bool) : Nat → CV → Bool
  | 0, _ => false
  | n + 1, v => match v with
    | .ptr i _ => d i
    | .sl i _ _ _ => d i
    | .slx i _ _ _ => d i
    | .mp i => d i
    | .fn _ fs cs => an (fs.all (clD d n)) (cs.all (clD d n))
    | .agg l => l.all (clD d n)
    | .tup l => l.all (clD d n)
    | _ => true
def clB (d : Nat → Bool) : CB → Bool
  | .cells cs _ _ => cs.all (clD d 9)
  | .mp es _ => es.all fun e => clD d 9 e.2.1
  | .it m _ _ _ => d m
  | .dead => true
def allT (p : CB → Bool) : T CB → Bool
  | .leaf => true
  | .node l v r => an (match v with | none => true | some x => p x) (an (allT p l) (allT p r))
def subO : Option CB → Option CB → Bool
  | none, _ => true
  | some .dead, some _ => true
  | some x, some y => eqB x y
  | some _, none => false
def subT : T CB → T CB → Bool
  | .leaf, _ => true
  | .node l v r, .node l' v' r' => an (subO v v') (an (subT l l') (subT r r'))
  | .node _ _ _, .leaf => false
def domT : T CB → T CB → Bool
  | .leaf, _ => true
  | .node l v r, .node l' v' r' => an (@Bool.rec (fun _ => Bool) true v'.isSome v.isSome) (an (domT l l') (domT r r'))
  | .node _ _ _, .leaf => false
def hasN (hp : T CB) (i : Nat) : Bool := (getN hp i).isSome
def chkR (m : Mem) (v : CV) (hp : T CB) : Bool := an (eqD 9 v m.v) (an (subT m.hp' hp) (an (domT m.hp m.hp') (an (clD (hasN m.hp') 9 m.v) (allT (clB (hasN m.hp')) m.hp'))))
def chkM (r : R) (m : Mem) : Bool := @R.rec (fun _ => Bool) (fun _ _ _ _ => false) (fun v hp _ => chkR m v hp) (fun _ => false) r
end
section
variable {P : Program}
theorem an_t {a b : Bool} (h : an a b = true) : a = true ∧ b = true := by
  cases a with
  | false => cases h
  | true => exact ⟨rfl, h⟩
theorem getN_node {α : Type} (l : T α) (v : Option α) (r : T α) (i : Nat) : getN (.node l v r) i = if i = 0 then v else if i % 2 = 1 then getN l (i / 2) else getN r (i / 2) := by
  show @Bool.rec (fun _ => Option α) (@Bool.rec (fun _ => Option α) (getN r (Nat.div i 2)) (getN l (Nat.div i 2)) (Nat.beq (Nat.mod i 2) 1)) v (Nat.beq i 0) = _
  cases hb : Nat.beq i 0 with
  | true => rw [if_pos (Nat.eq_of_beq_eq_true hb)]
  | false =>
    rw [if_neg (Nat.ne_of_beq_eq_false hb)]
    cases hm : Nat.beq (Nat.mod i 2) 1 with
    | true =>
      have e1 : i % 2 = 1 := Nat.eq_of_beq_eq_true hm
      rw [if_pos e1]; rfl
    | false =>
      have e1 : i % 2 ≠ 1 := Nat.ne_of_beq_eq_false hm
      rw [if_neg e1]; rfl
theorem getN_leaf {α : Type} (i : Nat) : getN (.leaf : T α) i = none := rfl
theorem allT_spec {p : CB → Bool} : ∀ {t : T CB}, allT p t = true → ∀ i x, getN t i = some x → p x = true
  | .leaf, _, i, x, h => by cases h
  | .node l v r, h, i, x, hx => by
    simp only [allT] at h
    obtain ⟨h1, h2⟩ := an_t h
    obtain ⟨h2, h3⟩ := an_t h2
    rw [getN_node] at hx
    split at hx
    · subst hx; exact h1
    · split at hx
      · exact allT_spec h2 _ _ hx
      · exact allT_spec h3 _ _ hx
theorem subT_spec : ∀ {t u : T CB}, subT t u = true → ∀ i x, getN t i = some x → ∃ y, getN u i = some y ∧ (x = .dead ∨ x = y)
  | .leaf, _, _, i, x, h => by cases h
  | .node l v r, .leaf, h, i, x, hx => by cases h
  | .node l v r, .node l' v' r', h, i, x, hx => by
    simp only [subT] at h
    obtain ⟨h1, h2⟩ := an_t h
    obtain ⟨h2, h3⟩ := an_t h2
    rw [getN_node] at hx ⊢
    split at hx
    · rename_i h0
      rw [if_pos h0]
      subst hx
      cases v' with
      | none => cases x <;> cases h1
      | some y =>
        refine ⟨y, rfl, ?_⟩
        cases x with
        | dead => exact .inl rfl
        | cells _ _ _ => exact .inr (eqB_eq h1)
        | mp _ _ => exact .inr (eqB_eq h1)
        | it _ _ _ _ => exact .inr (eqB_eq h1)
    · rename_i h0
      rw [if_neg h0]
      split at hx
      · rename_i h5; rw [if_pos h5]; exact subT_spec h2 _ _ hx
      · rename_i h5; rw [if_neg h5]; exact subT_spec h3 _ _ hx
theorem domT_spec : ∀ {t u : T CB}, domT t u = true → ∀ i, (getN t i).isSome = true → (getN u i).isSome = true
  | .leaf, _, _, i, h => by cases h
  | .node l v r, .leaf, h, i, hx => by cases h
  | .node l v r, .node l' v' r', h, i, hx => by
    simp only [domT] at h
    obtain ⟨h1, h2⟩ := an_t h
    obtain ⟨h2, h3⟩ := an_t h2
    rw [getN_node] at hx ⊢
    split at hx
    · rename_i h0
      rw [if_pos h0]
      rw [hx] at h1
      exact h1
    · rename_i h0
      rw [if_neg h0]
      split at hx
      · rename_i h5; rw [if_pos h5]; exact domT_spec h2 _ hx
      · rename_i h5; rw [if_neg h5]; exact domT_spec h3 _ hx
def rst (ρ : Rho) (d : Nat → Bool) : Rho := fun i => if d i = true then ρ i else none
theorem rst_t {ρ : Rho} {d : Nat → Bool} {i : Nat} (h : d i = true) : rst ρ d i = ρ i := if_pos h
theorem rst_some {ρ : Rho} {d : Nat → Bool} {i : Nat} {x : Nat × Nat × Nat} (h : rst ρ d i = some x) : d i = true ∧ ρ i = some x := by
  unfold rst at h
  split at h
  · rename_i hd; exact ⟨hd, h⟩
  · cases h
noncomputable def clS (d : Nat → Bool) (n : Nat) : CV ⊕ List CV → Bool
  | .inl c => clD d n c
  | .inr l => l.all (clD d n)
theorem Dn.rst {ρ : Rho} {d : Nat → Bool} {x : CV ⊕ List CV} {y : Value ⊕ List Value} (h : Dn ρ x y) : ∀ n, clS d n x = true → Dn (rst ρ d) x y := by
  induction h with
  | int k z => intro n _; exact .int k z
  | bool b => intro n _; exact .bool b
  | str l => intro n _; exact .str l
  | nilp => intro n _; exact .nilp
  | ptr h => intro n hn; cases n with | zero => cases hn | succ n => exact .ptr (by rw [rst_t hn]; exact h)
  | nils => intro n _; exact .nils
  | sl h h1 h2 => intro n hn; cases n with | zero => cases hn | succ n => exact .sl (by rw [rst_t hn]; exact h) h1 h2
  | slx h h1 => intro n hn; cases n with | zero => cases hn | succ n => exact .slx (by rw [rst_t hn]; exact h) h1
  | nilm => intro n _; exact .nilm
  | mp h => intro n hn; cases n with | zero => cases hn | succ n => exact .mp (by rw [rst_t hn]; exact h)
  | fn _ _ h1 h2 =>
    intro n hn
    cases n with
    | zero => cases hn
    | succ n =>
      obtain ⟨k1, k2⟩ := an_t hn
      exact .fn (h1 n k1) (h2 n k2)
  | nilf => intro n _; exact .nilf
  | agg _ h => intro n hn; cases n with | zero => cases hn | succ n => exact .agg (h n hn)
  | tup _ h => intro n hn; cases n with | zero => cases hn | succ n => exact .tup (h n hn)
  | und => intro n _; exact .und
  | nil => intro n _; exact .nil
  | cons _ _ h1 h2 =>
    intro n hn
    have hn' := hn
    simp only [clS, List.all_cons, Bool.and_eq_true] at hn'
    exact .cons (h1 n hn'.1) (h2 n hn'.2)
theorem DM.rst {ρ : Rho} {d : Nat → Bool} {es : List (Int × CV × Nat)} {ms : List MEnt} (h : DM ρ es ms) : (es.all fun e => clD d 9 e.2.1) = true → DM (rst ρ d) es ms := by
  induction h with
  | nil => intro _; exact .nil
  | cons h _ ih =>
    intro hn
    simp only [List.all_cons, Bool.and_eq_true] at hn
    exact .cons (Dn.rst h 9 hn.1) (ih hn.2)
theorem DB.rst {ρ : Rho} {d : Nat → Bool} {cb : CB} {H : Hp} {r b N : Nat} (h : DB ρ cb H r b N) (hc : clB d cb = true) : DB (rst ρ d) cb H r b N := by
  cases cb with
  | cells cs e sz => obtain ⟨pre, vs, post, h1, h2, h3, h4⟩ := h; exact ⟨pre, vs, post, h1, Dn.rst h2 9 hc, h3, h4⟩
  | mp es ck => obtain ⟨h0, ms, h1, h2⟩ := h; exact ⟨h0, ms, h1.rst hc, h2⟩
  | it m s seen last => obtain ⟨h0, rm, bm, Nm, h1, h2⟩ := h; exact ⟨h0, rm, bm, Nm, by rw [rst_t hc]; exact h1, h2⟩
  | dead => trivial
/-- a call's answer holds -/
def MemOk (P : Program) (m : Mem) : Prop := ∀ {ρ : Rho} {H0 H : Hp} {Args : List Value}, RepH ρ m.hp H0 H → DL ρ m.args Args → CallS P m.f Args.toArray H (Post ρ H0 m.v m.hp')
theorem mem_ok {cl : Cl} (hcl : ClOk P cl) (m : Mem) (h : chkM (cl m.f m.args m.hp m.nx) m = true) : MemOk P m := by
  intro ρ H0 H Args hr ha
  cases hx : cl m.f m.args m.hp m.nx with
  | ok _ _ _ _ => rw [hx] at h; cases h
  | er _ => rw [hx] at h; cases h
  | ret v hp nx =>
    rw [hx] at h
    replace h : chkR m v hp = true := h
    unfold chkR at h
    obtain ⟨h1, h⟩ := an_t h
    obtain ⟨h2, h⟩ := an_t h
    obtain ⟨h3, h⟩ := an_t h
    obtain ⟨h4, h5⟩ := an_t h
    have hv := eqD_eq 9 h1
    subst hv
    refine (hcl hx hr ha).mono fun V H' ⟨ρ', k1, k2, k3⟩ => ?_
    refine ⟨rst ρ' (hasN m.hp'), fun i x hi => ?_, Dn.rst k2 9 h4, k3.frame, fun i cb hi => ?_, fun i r b N hi => ?_, fun i x hi => ?_, fun i j cb db r b N b' N' hi hj hd1 hd2 hρ1 hρ2 => ?_⟩
    · rw [rst_t (domT_spec h3 i (hr.dom i x hi))]
      exact k1 i x hi
    · obtain ⟨y, e1, e2⟩ := subT_spec h2 i cb hi
      obtain ⟨r, b, N, e3, e4⟩ := k3.rep i y e1
      refine ⟨r, b, N, by rw [rst_t (by unfold hasN; rw [hi]; rfl)]; exact e3, ?_⟩
      rcases e2 with rfl | rfl
      · trivial
      · exact e4.rst (allT_spec h5 i cb hi)
    · exact k3.own i r b N (rst_some hi).2
    · exact (rst_some hi).1
    · obtain ⟨y, e1, e2⟩ := subT_spec h2 i cb hi
      obtain ⟨z, e3, e4⟩ := subT_spec h2 j db hj
      rcases e2 with e | rfl
      · exact absurd e hd1
      rcases e4 with e | rfl
      · exact absurd e hd2
      exact k3.inj i j cb db r b N b' N' e1 e3 hd1 hd2 (rst_some hρ1).2 (rst_some hρ2).2
theorem funX_ok {od : Nat → Od} (hm : P.follows .mixedOrders = true) (hck : ∀ f, chkF P od f = true) (hfn : ∀ f, fnF P f = true) {cl : Cl} (ih : ClOk P cl) : ClOk P (funX P od cl) := by
  intro f args hp nx v hp' nx' h ρ H0 H Args hh hargs
  have hF : Fin (funX P od cl f args hp nx) := by rw [h]; trivial
  unfold funX at h hF
  obtain ⟨fn, h1, h2⟩ := optR_some hF
  rw [h2, lenK0] at h hF
  obtain ⟨h3, h4⟩ := B_t hF (fun h => h)
  rw [h4] at h hF
  obtain ⟨c, h5, h6⟩ := optR_some hF
  rw [h6] at h hF
  have hck := hck f
  have hfn := hfn f
  unfold chkF at hck
  unfold fnF at hfn
  simp only [h1, h5, Bool.and_eq_true, Bool.not_eq_true'] at hck hfn
  obtain ⟨hf1, hf2, hf3⟩ := hfn
  have hle := Nat.le_of_ble_eq_true h3
  have hlen := hargs.length
  obtain ⟨fr, g1, g2⟩ := argsX_spec (V := frameOf Args) (k := fun fr => onOk (codeX P cl (od f) c fr hp nx) fun e fr1 hp1 nx1 => B (Nat.ble e 1) (resX P fn.results.toList fr1 hp1 fun vs => tupK vs fun v => .ret v hp1 nx1) (.er [133])) args 0 Args hargs
    (fr := .mk (od f).1 .nil .leaf) (fun t v hv => by
      simp only [lookF] at hv
      split at hv
      · cases hv
      · cases hv) (fun i hi => by simp [frameOf, hi])
  rw [g1] at h hF
  obtain ⟨en, fr1, hp1, nx1, k1, k2⟩ := onOk_spec hF
  rw [k2] at h hF
  obtain ⟨k3, k4⟩ := B_t hF (fun h => h)
  rw [k4] at h hF
  have hen := Nat.le_of_ble_eq_true k3
  have hev := codeX_spec ih c hck hf2 g2 hh (by rw [k1]; trivial)
  refine callS_intro hm h1 h5 hf3 hf1 (by simpa [← hlen] using hle) ?_
  have hA : frameOf Args.toArray.toList = frameOf Args := by simp
  rw [hA]
  refine ev_monoQ c (fun e' A' H' hq => ?_) _ H hev
  obtain ⟨en', fr2, hp2, nx2, ρ2, q1, q2, q3, q4, q5⟩ := hq
  rw [k1] at q1
  cases q1
  subst q2
  obtain ⟨cs, vs, r1, r2, r3⟩ := resX_spec q4 q5.rep hF
  rw [r1] at h
  obtain ⟨w, r4, r5⟩ := tupK_spec r2 (fun v => .ret v hp1 nx1)
  rw [r4] at h
  injection h with e1 e2 e3
  subst e1 e2
  have hP : resP P fn (Post ρ H0 w hp1) A' H' := ⟨vs, r3, H', Hsub.refl H', ρ2, q3, r5, q5⟩
  match en, hen with
  | 0, _ => exact hP
  | 1, _ => exact hP
theorem hitM_spec {m : Mem} {f : Nat} {args : List CV} {hp : T CB} {nx : Nat} (h : hitM m f args hp nx = true) : f = m.f ∧ nx = m.nx ∧ args = m.args ∧ hp = m.hp := by
  unfold hitM at h
  obtain ⟨h1, h⟩ := an_t h
  obtain ⟨h2, h⟩ := an_t h
  obtain ⟨h3, h4⟩ := an_t h
  exact ⟨Nat.eq_of_beq_eq_true h1, Nat.eq_of_beq_eq_true h2, eqLD_eq (fun x y => eqD_eq 9) h3, eqT_eq (fun x y => eqB_eq) h4⟩
theorem memR_ok {ms : List Mem} (hms : ∀ m ∈ ms, MemOk P m) : ClOk P (memR noCl ms) := by
  induction ms with
  | nil => intro f args hp nx v hp' nx' h; cases h
  | cons m ms ih =>
    intro f args hp nx v hp' nx' h ρ H0 H Args hr ha
    have e : memR noCl (m :: ms) f args hp nx = B (hitM m f args hp nx) (.ret m.v m.hp' m.nx') (memR noCl ms f args hp nx) := rfl
    rw [e] at h
    cases hh : hitM m f args hp nx with
    | true =>
      rw [hh] at h
      obtain ⟨rfl, rfl, rfl, rfl⟩ := hitM_spec hh
      injection h with e1 e2 e3
      subst e1 e2
      exact hms m (List.mem_cons_self ..) hr ha
    | false =>
      rw [hh] at h
      have ih' : ClOk P (memR noCl ms) := ih fun m hm => hms m (List.mem_cons_of_mem _ hm)
      exact ih' h hr ha
theorem runM_ok {od : Nat → Od} (hm : P.follows .mixedOrders = true) (hck : ∀ f, chkF P od f = true) (hfn : ∀ f, fnF P f = true) (tr : List Nat) {ms : List Mem} (hms : ∀ m ∈ ms, MemOk P m) (n : Nat) : ClOk P (runM P od tr noCl ms n) := by
  induction n with
  | zero => intro f args hp nx v hp' nx' h; cases h
  | succ n ih =>
    intro f args hp nx v hp' nx' h ρ H0 H Args hr ha
    have e : runM P od tr noCl ms (n + 1) f args hp nx = B (isIn tr f) (memR noCl ms f args hp nx) (funX P od (runM P od tr noCl ms n) f args hp nx) := rfl
    rw [e] at h
    cases hi : isIn tr f with
    | true =>
      rw [hi] at h
      have h1 : ClOk P (memR noCl ms) := memR_ok hms
      exact h1 h hr ha
    | false =>
      rw [hi] at h
      have ih1 : ClOk P (runM P od tr noCl ms n) := ih
      have h1 : ClOk P (funX P od (runM P od tr noCl ms n)) := funX_ok hm hck hfn ih1
      exact h1 h hr ha
theorem part_ok {od : Nat → Od} (hm : P.follows .mixedOrders = true) (hck : ∀ f, chkF P od f = true) (hfn : ∀ f, fnF P f = true) (tr : List Nat) {ms : List Mem} (hms : ∀ m ∈ ms, MemOk P m) (n : Nat) (m : Mem) (h : chkM (funX P od (runM P od tr noCl ms n) m.f m.args m.hp m.nx) m = true) : MemOk P m := by
  have h0 : ClOk P (runM P od tr noCl ms n) := runM_ok hm hck hfn tr hms n
  have h1 : ClOk P (funX P od (runM P od tr noCl ms n)) := funX_ok hm hck hfn h0
  intro ρ H0 H Args hr ha
  exact mem_ok (cl := funX P od (runM P od tr noCl ms n)) h1 m h hr ha
noncomputable def yesR (r : R) : Bool := @R.rec (fun _ => Bool) (fun _ _ _ _ => false) (fun v _ _ => @CV.rec (fun _ => Bool) (fun _ => PUnit) (fun _ _ => false) (fun b => b) (fun _ => false) false (fun _ _ => false) false (fun _ _ _ _ => false) (fun _ _ _ _ => false) false (fun _ => false) (fun _ _ _ _ _ => false) false (fun _ _ => false) (fun _ _ => false) false PUnit.unit (fun _ _ _ _ => PUnit.unit) v) (fun _ => false) r
/-- a call without arguments that is reckoned, in parts, to be true is true -/
theorem yesM_ok {od : Nat → Od} {n f : Nat} {R : List HP} {K : Value → List HP → Prop} (hm : P.follows .mixedOrders = true) (hck : ∀ f, chkF P od f = true) (hfn : ∀ f, fnF P f = true) (tr : List Nat) {ms : List Mem} (hms : ∀ m ∈ ms, MemOk P m) (hy : yesR (funX P od (runM P od tr noCl ms n) f [] .leaf 1) = true) (hK : K (.bool true) R) : CallT P f #[] R K := fun H hs => by
  have hrun : ∃ hp nx, funX P od (runM P od tr noCl ms n) f [] .leaf 1 = .ret (.bool true) hp nx := by
    cases hx : funX P od (runM P od tr noCl ms n) f [] .leaf 1 with
    | ok _ _ _ _ => rw [hx] at hy; cases hy
    | er _ => rw [hx] at hy; cases hy
    | ret v hp nx =>
      rw [hx] at hy
      cases v <;> first | (cases hy; done) | skip
      rename_i b
      have : b = true := hy
      subst this
      exact ⟨hp, nx, rfl⟩
  obtain ⟨hp, nx, hrun⟩ := hrun
  have h0 : ClOk P (runM P od tr noCl ms n) := runM_ok hm hck hfn tr hms n
  have h1 : ClOk P (funX P od (runM P od tr noCl ms n)) := funX_ok hm hck hfn h0
  have := h1 hrun (rep_nil H) .nil
  refine this.mono fun V H' hV => ?_
  obtain ⟨ρ', e1, e2, e3⟩ := hV
  cases e2
  exact ⟨R, hs.mono fun B b hb => ⟨b, e3.frame B b hb, b.le_refl⟩, hK⟩
end
end Go.Ex
