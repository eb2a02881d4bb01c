/- A run in parts, reckoned by the kernel: calls whose answers are known; what nobody reaches any more falls away: lemmas; each with the conditions that it states. -/
import Derived.Test.YtiofdmjecjcdbaaGreatDoorGd
set_option linter.unusedVariables false
set_option linter.unusedSimpArgs false
namespace Go.Ex
open Go Go.Sl
set_option maxHeartbeats 2000000
noncomputable section
def an (a : Bool) (b : Bool) : Bool := @Bool.rec (fun _ => Bool) false b a
/-! what is left of a heap -/
def clD (d : Nat → Bool) : Nat → CV → Bool
  | 0, _ => false
  | n + 1, v => match v with
    | .ptr i _ => d i
    | .sl i _ _ _ => d i
    | .slx i _ _ _ => d i
    | .mp i => d i
    | .fn _ fs cs => an (fs.all (clD d n)) (cs.all (clD d n))
    | .agg l => l.all (clD d n)
    | .tup l => l.all (clD d n)
    | _ => true
def clB (d : Nat → Bool) : CB → Bool
  | .cells cs _ _ => cs.all (clD d 9)
  | .mp es _ => es.all fun e => clD d 9 e.2.1
  | .it m _ _ _ => d m
  | .dead => true
def allT (p : CB → Bool) : T CB → Bool
  | .leaf => true
  | .node l v r => an (match v with | none => true | some x => p x) (an (allT p l) (allT p r))
def subO : Option CB → Option CB → Bool
  | none, _ => true
  | some .dead, some _ => true
  | some x, some y => eqB x y
  | some _, none => false
def subT : T CB → T CB → Bool
  | .leaf, _ => true
  | .node l v r, .node l' v' r' => an (subO v v') (an (subT l l') (subT r r'))
  | .node _ _ _, .leaf => false
def hasN (hp : T CB) (i : Nat) : Bool := (getN hp i).isSome
end
section
variable {P : Program}
theorem an_t {a b : Bool} (h : an a b = true) : a = true ∧ b = true := by
  cases a with
  | false => cases h
  | true => exact ⟨rfl, h⟩
theorem getN_node {α : Type} (l : T α) (v : Option α) (r : T α) (i : Nat) : getN (.node l v r) i = if i = 0 then v else if i % 2 = 1 then getN l (i / 2) else getN r (i / 2) := by
  show @Bool.rec (fun _ => Option α) (@Bool.rec (fun _ => Option α) (getN r (Nat.div i 2)) (getN l (Nat.div i 2)) (Nat.beq (Nat.mod i 2) 1)) v (Nat.beq i 0) = _
  cases hb : Nat.beq i 0 with
  | true => rw [if_pos (Nat.eq_of_beq_eq_true hb)]
  | false =>
    rw [if_neg (Nat.ne_of_beq_eq_false hb)]
    cases hm : Nat.beq (Nat.mod i 2) 1 with
    | true =>
      have e1 : i % 2 = 1 := Nat.eq_of_beq_eq_true hm
      rw [if_pos e1]; rfl
    | false =>
      have e1 : i % 2 ≠ 1 := Nat.ne_of_beq_eq_false hm
      rw [if_neg e1]; rfl
theorem allT_spec {p : CB → Bool} : ∀ {t : T CB}, allT p t = true → ∀ i x, getN t i = some x → p x = true
  | .leaf, _, i, x, h => by cases h
  | .node l v r, h, i, x, hx => by
    simp only [allT] at h
    obtain ⟨h1, h2⟩ := an_t h
    obtain ⟨h2, h3⟩ := an_t h2
    rw [getN_node] at hx
    split at hx
    · subst hx; exact h1
    · split at hx
      · exact allT_spec h2 _ _ hx
      · exact allT_spec h3 _ _ hx
theorem subT_spec : ∀ {t u : T CB}, subT t u = true → ∀ i x, getN t i = some x → ∃ y, getN u i = some y ∧ (x = .dead ∨ x = y)
  | .leaf, _, _, i, x, h => by cases h
  | .node l v r, .leaf, h, i, x, hx => by cases h
  | .node l v r, .node l' v' r', h, i, x, hx => by
    simp only [subT] at h
    obtain ⟨h1, h2⟩ := an_t h
    obtain ⟨h2, h3⟩ := an_t h2
    rw [getN_node] at hx ⊢
    split at hx
    · rename_i h0
      rw [if_pos h0]
      subst hx
      cases v' with
      | none => cases x <;> cases h1
      | some y =>
        refine ⟨y, rfl, ?_⟩
        cases x with
        | dead => exact .inl rfl
        | cells _ _ _ => exact .inr (eqB_eq h1)
        | mp _ _ => exact .inr (eqB_eq h1)
        | it _ _ _ _ => exact .inr (eqB_eq h1)
    · rename_i h0
      rw [if_neg h0]
      split at hx
      · rename_i h5; rw [if_pos h5]; exact subT_spec h2 _ _ hx
      · rename_i h5; rw [if_neg h5]; exact subT_spec h3 _ _ hx
def rst (ρ : Rho) (d : Nat → Bool) : Rho := fun i => if d i = true then ρ i else none
theorem rst_t {ρ : Rho} {d : Nat → Bool} {i : Nat} (h : d i = true) : rst ρ d i = ρ i := if_pos h
theorem rst_some {ρ : Rho} {d : Nat → Bool} {i : Nat} {x : Nat × Nat × Nat} (h : rst ρ d i = some x) : d i = true ∧ ρ i = some x := by
  unfold rst at h
  split at h
  · rename_i hd; exact ⟨hd, h⟩
  · cases h
noncomputable def clS (d : Nat → Bool) (n : Nat) : CV ⊕ List CV → Bool
  | .inl c => clD d n c
  | .inr l => l.all (clD d n)
theorem Dn.rst {ρ : Rho} {d : Nat → Bool} {x : CV ⊕ List CV} {y : Value ⊕ List Value} (h : Dn ρ x y) : ∀ n, clS d n x = true → Dn (rst ρ d) x y := by
  induction h with
  | int k z => intro n _; exact .int k z
  | bool b => intro n _; exact .bool b
  | str l => intro n _; exact .str l
  | nilp => intro n _; exact .nilp
  | ptr h => intro n hn; cases n with | zero => cases hn | succ n => exact .ptr (by rw [rst_t hn]; exact h)
  | nils => intro n _; exact .nils
  | sl h h1 h2 => intro n hn; cases n with | zero => cases hn | succ n => exact .sl (by rw [rst_t hn]; exact h) h1 h2
  | slx h h1 => intro n hn; cases n with | zero => cases hn | succ n => exact .slx (by rw [rst_t hn]; exact h) h1
  | nilm => intro n _; exact .nilm
  | mp h => intro n hn; cases n with | zero => cases hn | succ n => exact .mp (by rw [rst_t hn]; exact h)
  | fn _ _ h1 h2 =>
    intro n hn
    cases n with
    | zero => cases hn
    | succ n =>
      obtain ⟨k1, k2⟩ := an_t hn
      exact .fn (h1 n k1) (h2 n k2)
  | nilf => intro n _; exact .nilf
  | agg _ h => intro n hn; cases n with | zero => cases hn | succ n => exact .agg (h n hn)
  | tup _ h => intro n hn; cases n with | zero => cases hn | succ n => exact .tup (h n hn)
  | und => intro n _; exact .und
  | nil => intro n _; exact .nil
  | cons _ _ h1 h2 =>
    intro n hn
    have hn' := hn
    simp only [clS, List.all_cons, Bool.and_eq_true] at hn'
    exact .cons (h1 n hn'.1) (h2 n hn'.2)
theorem DM.rst {ρ : Rho} {d : Nat → Bool} {es : List (Int × CV × Nat)} {ms : List MEnt} (h : DM ρ es ms) : (es.all fun e => clD d 9 e.2.1) = true → DM (rst ρ d) es ms := by
  induction h with
  | nil => intro _; exact .nil
  | cons h _ ih =>
    intro hn
    simp only [List.all_cons, Bool.and_eq_true] at hn
    exact .cons (Dn.rst h 9 hn.1) (ih hn.2)
theorem DB.rst {ρ : Rho} {d : Nat → Bool} {cb : CB} {H : Hp} {r b N : Nat} (h : DB ρ cb H r b N) (hc : clB d cb = true) : DB (rst ρ d) cb H r b N := by
  cases cb with
  | cells cs e sz => obtain ⟨pre, vs, post, h1, h2, h3, h4⟩ := h; exact ⟨pre, vs, post, h1, Dn.rst h2 9 hc, h3, h4⟩
  | mp es ck => obtain ⟨h0, ms, h1, h2⟩ := h; exact ⟨h0, ms, h1.rst hc, h2⟩
  | it m s seen last => obtain ⟨h0, rm, bm, Nm, h1, h2⟩ := h; exact ⟨h0, rm, bm, Nm, by rw [rst_t hc]; exact h1, h2⟩
  | dead => trivial
end
end Go.Ex

