/- A run without arguments, reckoned by the kernel: values, heaps, results. Blocks have numbers of their own. A run without arguments, reckoned by the kernel: what each operation does. A run without arguments, reckoned by the kernel: all operations, regions, codes, calls: lemmas; each with the conditions that it states. -/
import Derived.Test.YtiofdmjecjcdbaaGreatDoorFh
set_option linter.unusedVariables false
set_option linter.unusedSimpArgs false
namespace Go.Ex
open Go Go.Sl
inductive T (α : Type) where
  | leaf
  | node (l : T α) (v : Option α) (r : T α)
inductive CV where
  | int (k : IntKind) (z : Int)
  | bool (b : Bool)
  | str (l : List Nat)
  | nilp
  | ptr (i o : Nat)
  | nils
  | sl (i o n k : Nat)
  | slx (i o n c : Nat)
  | nilm
  | mp (i : Nat)
  | fn (f : Nat) (fs cs : List CV)
  | nilf
  | agg (l : List CV)
  | tup (l : List CV)
  | und
inductive CB where
  | cells (cs : List CV) (e sz : Nat)
  | mp (es : List (Int × CV × Nat)) (ck : Nat)
  | it (m since : Nat) (seen : List Nat) (last : Nat)
  | dead
/-- what lives within a region alone -/
inductive Lc where
  | nil
  | cons (t : Nat) (v : CV) (l : Lc)
/-- a frame: which temporaries live on (bits), what lives within the region, what lives on -/
inductive FM where
  | mk (m : Nat) (l : Lc) (t : T CV)
inductive R where
  | ok (e : Nat) (fr : FM) (hp : T CB) (nx : Nat)
  | ret (v : CV) (hp : T CB) (nx : Nat)
  | er (l : List Nat)
noncomputable section
def B (b : Bool) (x y : R) : R := @Bool.rec (fun _ => R) y x b
def getN {α : Type} (t : T α) : Nat → Option α := @T.rec α (fun _ => Nat → Option α) (fun _ => none)
  (fun _ v _ gl gr i => @Bool.rec (fun _ => Option α) (@Bool.rec (fun _ => Option α) (gr (Nat.div i 2)) (gl (Nat.div i 2)) (Nat.beq (Nat.mod i 2) 1)) v (Nat.beq i 0)) t
def sing {α : Type} (n : Nat) : Nat → α → (T α → R) → R := @Nat.rec (fun _ => Nat → α → (T α → R) → R) (fun _ _ k => k .leaf)
  (fun _ ih i v k => @Bool.rec (fun _ => R) (@Bool.rec (fun _ => R) (ih (Nat.div i 2) v fun r => k (.node .leaf none r)) (ih (Nat.div i 2) v fun l => k (.node l none .leaf)) (Nat.beq (Nat.mod i 2) 1)) (k (.node .leaf (some v) .leaf)) (Nat.beq i 0)) n
def setK {α : Type} (t : T α) : Nat → α → (T α → R) → R := @T.rec α (fun _ => Nat → α → (T α → R) → R) (fun i => sing (Nat.succ i) i)
  (fun l o r sl sr i v k => @Bool.rec (fun _ => R) (@Bool.rec (fun _ => R) (sr (Nat.div i 2) v fun r' => k (.node l o r')) (sl (Nat.div i 2) v fun l' => k (.node l' o r)) (Nat.beq (Nat.mod i 2) 1)) (k (.node l (some v) r)) (Nat.beq i 0)) t
/-- what was set is had -/
theorem sing_spec {α : Type} (v : α) : ∀ (n i : Nat) (k : T α → R), i < n → ∃ t, sing n i v k = k t ∧ ∀ j, getN t j = if i = j then some v else none := by
  intro n
  induction n with
  | zero => intro i k h; omega
  | succ n ih =>
    intro i k h
    by_cases h0 : i = 0
    · subst h0
      refine ⟨.node .leaf (some v) .leaf, rfl, fun j => ?_⟩
      cases j with
      | zero => rfl
      | succ j =>
        have h1 : Nat.beq (j + 1) 0 = false := rfl
        simp only [getN]
        rw [if_neg (by omega)]
        cases Nat.beq ((j + 1).mod 2) 1 <;> rfl
    · have hb : Nat.beq i 0 = false := by cases i; exact absurd rfl h0; rfl
      have hd : i.div 2 = i / 2 := rfl
      cases hm : Nat.beq (i.mod 2) 1 with
      | true =>
        obtain ⟨t, h1, h2⟩ := ih (i.div 2) (fun l => k (.node l none .leaf)) (by omega)
        refine ⟨.node t none .leaf, by simp only [sing, hb, hm]; exact h1, fun j => ?_⟩
        have e1 : i % 2 = 1 := Nat.eq_of_beq_eq_true hm
        by_cases hj : Nat.beq j 0 = true
        · have := Nat.eq_of_beq_eq_true hj
          subst this
          rw [if_neg h0]; rfl
        · simp only [Bool.not_eq_true] at hj
          simp only [getN, hj]
          cases hm' : Nat.beq (j.mod 2) 1 with
          | true =>
            have e2 : j % 2 = 1 := Nat.eq_of_beq_eq_true hm'
            have := h2 (j.div 2)
            simp only [getN] at this
            simp only [this]
            have hd' : j.div 2 = j / 2 := rfl
            by_cases hij : i = j
            · subst hij; simp
            · rw [if_neg hij, if_neg (by omega)]
          | false =>
            have e2 : j % 2 ≠ 1 := Nat.ne_of_beq_eq_false hm'
            rw [if_neg (by omega)]
      | false =>
        obtain ⟨t, h1, h2⟩ := ih (i.div 2) (fun r => k (.node .leaf none r)) (by omega)
        refine ⟨.node .leaf none t, by simp only [sing, hb, hm]; exact h1, fun j => ?_⟩
        have e1 : i % 2 ≠ 1 := Nat.ne_of_beq_eq_false hm
        by_cases hj : Nat.beq j 0 = true
        · have := Nat.eq_of_beq_eq_true hj
          subst this
          rw [if_neg h0]; rfl
        · simp only [Bool.not_eq_true] at hj
          simp only [getN, hj]
          cases hm' : Nat.beq (j.mod 2) 1 with
          | false =>
            have e2 : j % 2 ≠ 1 := Nat.ne_of_beq_eq_false hm'
            have := h2 (j.div 2)
            simp only [getN] at this
            simp only [this]
            have hd' : j.div 2 = j / 2 := rfl
            by_cases hij : i = j
            · subst hij; simp
            · rw [if_neg hij, if_neg (by omega)]
          | true =>
            have e2 : j % 2 = 1 := Nat.eq_of_beq_eq_true hm'
            rw [if_neg (by omega)]
theorem setK_spec {α : Type} (v : α) (t : T α) : ∀ (i : Nat) (k : T α → R), ∃ t', setK t i v k = k t' ∧ ∀ j, getN t' j = if i = j then some v else getN t j := by
  induction t with
  | leaf =>
    intro i k
    obtain ⟨t, h1, h2⟩ := sing_spec v (i + 1) i k (by omega)
    exact ⟨t, h1, h2⟩
  | node l o r ihl ihr =>
    intro i k
    have hd : i.div 2 = i / 2 := rfl
    cases hb : Nat.beq i 0 with
    | true =>
      have := Nat.eq_of_beq_eq_true hb
      subst this
      refine ⟨.node l (some v) r, rfl, fun j => ?_⟩
      cases j with
      | zero => rfl
      | succ j => rw [if_neg (by omega)]; rfl
    | false =>
      have h0 : i ≠ 0 := Nat.ne_of_beq_eq_false hb
      cases hm : Nat.beq (i.mod 2) 1 with
      | true =>
        obtain ⟨t', h1, h2⟩ := ihl (i.div 2) (fun l' => k (.node l' o r))
        refine ⟨.node t' o r, by simp only [setK, hb, hm]; exact h1, fun j => ?_⟩
        have e1 : i % 2 = 1 := Nat.eq_of_beq_eq_true hm
        by_cases hj : Nat.beq j 0 = true
        · have := Nat.eq_of_beq_eq_true hj
          subst this
          rw [if_neg h0]; rfl
        · simp only [Bool.not_eq_true] at hj
          have hd' : j.div 2 = j / 2 := rfl
          cases hm' : Nat.beq (j.mod 2) 1 with
          | true =>
            have e2 : j % 2 = 1 := Nat.eq_of_beq_eq_true hm'
            have h3 := h2 (j.div 2)
            simp only [getN, hj, hm'] at h3 ⊢
            rw [h3]
            by_cases hij : i = j
            · subst hij; simp
            · rw [if_neg hij, if_neg (by omega)]
          | false =>
            have e2 : j % 2 ≠ 1 := Nat.ne_of_beq_eq_false hm'
            rw [if_neg (by omega)]
            simp only [getN, hj, hm']
      | false =>
        obtain ⟨t', h1, h2⟩ := ihr (i.div 2) (fun r' => k (.node l o r'))
        refine ⟨.node l o t', by simp only [setK, hb, hm]; exact h1, fun j => ?_⟩
        have e1 : i % 2 ≠ 1 := Nat.ne_of_beq_eq_false hm
        by_cases hj : Nat.beq j 0 = true
        · have := Nat.eq_of_beq_eq_true hj
          subst this
          rw [if_neg h0]; rfl
        · simp only [Bool.not_eq_true] at hj
          have hd' : j.div 2 = j / 2 := rfl
          cases hm' : Nat.beq (j.mod 2) 1 with
          | false =>
            have e2 : j % 2 ≠ 1 := Nat.ne_of_beq_eq_false hm'
            have h3 := h2 (j.div 2)
            simp only [getN, hj, hm'] at h3 ⊢
            rw [h3]
            by_cases hij : i = j
            · subst hij; simp
            · rw [if_neg hij, if_neg (by omega)]
          | true =>
            have e2 : j % 2 = 1 := Nat.eq_of_beq_eq_true hm'
            rw [if_neg (by omega)]
            simp only [getN, hj, hm']
def forceN (n : Nat) (k : Nat → R) : R := @Nat.rec (fun _ => R) (k 0) (fun m _ => k (Nat.succ m)) n
theorem forceN_eq (n : Nat) (k : Nat → R) : forceN n k = k n := by cases n <;> rfl
def forceI (z : Int) (k : Int → R) : R := @Int.rec (fun _ => R) (fun n => forceN n fun n => k (.ofNat n)) (fun n => forceN n fun n => k (.negSucc n)) z
theorem forceI_eq (z : Int) (k : Int → R) : forceI z k = k z := by
  cases z with
  | ofNat n => exact forceN_eq n fun n => k (.ofNat n)
  | negSucc n => exact forceN_eq n fun n => k (.negSucc n)
/-- lists, rebuilt -/
def takeK {α : Type} (l : List α) : Nat → (List α → R) → R := @List.rec α (fun _ => Nat → (List α → R) → R) (fun _ k => k [])
  (fun x _ ih n k => @Nat.rec (fun _ => R) (k []) (fun m _ => ih m fun r => k (x :: r)) n) l
theorem takeK_eq {α : Type} (l : List α) : ∀ (n : Nat) (k : List α → R), takeK l n k = k (l.take n) := by
  induction l with
  | nil => intro n k; simp [takeK]
  | cons x l ih =>
    intro n k
    cases n with
    | zero => rfl
    | succ n => exact ih n _
def dropK {α : Type} (l : List α) : Nat → (List α → R) → R := @List.rec α (fun _ => Nat → (List α → R) → R) (fun _ k => k [])
  (fun x xs ih n k => @Nat.rec (fun _ => R) (k (x :: xs)) (fun m _ => ih m k) n) l
theorem dropK_eq {α : Type} (l : List α) : ∀ (n : Nat) (k : List α → R), dropK l n k = k (l.drop n) := by
  induction l with
  | nil => intro n k; simp [dropK]
  | cons x l ih =>
    intro n k
    cases n with
    | zero => rfl
    | succ n => exact ih n _
def appK {α : Type} (l : List α) : List α → (List α → R) → R := @List.rec α (fun _ => List α → (List α → R) → R) (fun m k => k m)
  (fun x _ ih m k => ih m fun r => k (x :: r)) l
theorem appK_eq {α : Type} (l : List α) : ∀ (m : List α) (k : List α → R), appK l m k = k (l ++ m) := by
  induction l with
  | nil => intro m k; rfl
  | cons x l ih => intro m k; exact ih m _
/-- l from o on overwritten by m -/
def ovK {α : Type} (l : List α) : List α → (List α → R) → R := @List.rec α (fun _ => List α → (List α → R) → R) (fun _ k => k [])
  (fun x xs ih m k => @List.rec α (fun _ => R) (k (x :: xs)) (fun y ys _ => ih ys fun r => k (y :: r)) m) l
def putK {α : Type} (l : List α) : Nat → List α → (List α → R) → R := @List.rec α (fun _ => Nat → List α → (List α → R) → R) (fun _ _ k => k [])
  (fun x xs ih n m k => @Nat.rec (fun _ => R) (ovK (x :: xs) m k) (fun n' _ => ih n' m fun r => k (x :: r)) n) l
def ovC {α : Type} : List α → List α → List α
  | [], _ => []
  | x :: xs, [] => x :: xs
  | _ :: xs, y :: ys => y :: ovC xs ys
def putC {α : Type} : List α → Nat → List α → List α
  | [], _, _ => []
  | x :: xs, 0, m => ovC (x :: xs) m
  | x :: xs, n + 1, m => x :: putC xs n m
theorem ovK_eq {α : Type} (l : List α) : ∀ (m : List α) (k : List α → R), ovK l m k = k (ovC l m) := by
  induction l with
  | nil => intro m k; rfl
  | cons x l ih =>
    intro m k
    cases m with
    | nil => rfl
    | cons y m => exact ih m _
theorem putK_eq {α : Type} (l : List α) : ∀ (n : Nat) (m : List α) (k : List α → R), putK l n m k = k (putC l n m) := by
  induction l with
  | nil => intro n m k; rfl
  | cons x l ih =>
    intro n m k
    cases n with
    | zero => exact ovK_eq (x :: l) m k
    | succ n => exact ih n m _
def lenK {α : Type} (l : List α) : Nat → (Nat → R) → R := @List.rec α (fun _ => Nat → (Nat → R) → R) (fun n k => k n)
  (fun _ _ ih n k => forceN (Nat.succ n) fun n' => ih n' k) l
theorem lenK_eq {α : Type} (l : List α) : ∀ (n : Nat) (k : Nat → R), lenK l n k = k (n + l.length) := by
  induction l with
  | nil => intro n k; rfl
  | cons x l ih =>
    intro n k
    have h1 : lenK (x :: l) n k = forceN (Nat.succ n) fun n' => lenK l n' k := rfl
    rw [h1, forceN_eq, ih]
    simp only [List.length_cons]
    congr 1
    omega
end
end Go.Ex

namespace Go.Ex
open Go Go.Sl
noncomputable section
def forceB (b : Bool) (k : Bool → R) : R := @Bool.rec (fun _ => R) (k false) (k true) b
/-! values of one kind -/
def onInt (v : CV) : (IntKind → Int → R) → R := @CV.rec (fun _ => (IntKind → Int → R) → R) (fun _ => PUnit) (fun k z c => c k z) (fun _ _ => .er [10]) (fun _ _ => .er [10]) (fun _ => .er [10]) (fun _ _ _ => .er [10]) (fun _ => .er [10]) (fun _ _ _ _ _ => .er [10]) (fun _ _ _ _ _ => .er [10]) (fun _ => .er [10]) (fun _ _ => .er [10]) (fun _ _ _ _ _ _ => .er [10]) (fun _ => .er [10]) (fun _ _ _ => .er [10]) (fun _ _ _ => .er [10]) (fun _ => .er [10]) PUnit.unit (fun _ _ _ _ => PUnit.unit) v
def onBool (v : CV) : (Bool → R) → R := @CV.rec (fun _ => (Bool → R) → R) (fun _ => PUnit) (fun _ _ _ => .er [11]) (fun b c => c b) (fun _ _ => .er [11]) (fun _ => .er [11]) (fun _ _ _ => .er [11]) (fun _ => .er [11]) (fun _ _ _ _ _ => .er [11]) (fun _ _ _ _ _ => .er [11]) (fun _ => .er [11]) (fun _ _ => .er [11]) (fun _ _ _ _ _ _ => .er [11]) (fun _ => .er [11]) (fun _ _ _ => .er [11]) (fun _ _ _ => .er [11]) (fun _ => .er [11]) PUnit.unit (fun _ _ _ _ => PUnit.unit) v
def onStr (v : CV) : (List Nat → R) → R := @CV.rec (fun _ => (List Nat → R) → R) (fun _ => PUnit) (fun _ _ _ => .er [12]) (fun _ _ => .er [12]) (fun l c => c l) (fun _ => .er [12]) (fun _ _ _ => .er [12]) (fun _ => .er [12]) (fun _ _ _ _ _ => .er [12]) (fun _ _ _ _ _ => .er [12]) (fun _ => .er [12]) (fun _ _ => .er [12]) (fun _ _ _ _ _ _ => .er [12]) (fun _ => .er [12]) (fun _ _ _ => .er [12]) (fun _ _ _ => .er [12]) (fun _ => .er [12]) PUnit.unit (fun _ _ _ _ => PUnit.unit) v
def onPtr (v : CV) : (Nat → Nat → R) → R := @CV.rec (fun _ => (Nat → Nat → R) → R) (fun _ => PUnit) (fun _ _ _ => .er [13]) (fun _ _ => .er [13]) (fun _ _ => .er [13]) (fun _ => .er [13]) (fun i o c => c i o) (fun _ => .er [13]) (fun _ _ _ _ _ => .er [13]) (fun _ _ _ _ _ => .er [13]) (fun _ => .er [13]) (fun _ _ => .er [13]) (fun _ _ _ _ _ _ => .er [13]) (fun _ => .er [13]) (fun _ _ _ => .er [13]) (fun _ _ _ => .er [13]) (fun _ => .er [13]) PUnit.unit (fun _ _ _ _ => PUnit.unit) v
def onMap (v : CV) : (Nat → R) → R := @CV.rec (fun _ => (Nat → R) → R) (fun _ => PUnit) (fun _ _ _ => .er [14]) (fun _ _ => .er [14]) (fun _ _ => .er [14]) (fun _ => .er [14]) (fun _ _ _ => .er [14]) (fun _ => .er [14]) (fun _ _ _ _ _ => .er [14]) (fun _ _ _ _ _ => .er [14]) (fun _ => .er [14]) (fun i c => c i) (fun _ _ _ _ _ _ => .er [14]) (fun _ => .er [14]) (fun _ _ _ => .er [14]) (fun _ _ _ => .er [14]) (fun _ => .er [14]) PUnit.unit (fun _ _ _ _ => PUnit.unit) v
def onFn (v : CV) : (Nat → List CV → List CV → R) → R := @CV.rec (fun _ => (Nat → List CV → List CV → R) → R) (fun _ => PUnit) (fun _ _ _ => .er [15]) (fun _ _ => .er [15]) (fun _ _ => .er [15]) (fun _ => .er [15]) (fun _ _ _ => .er [15]) (fun _ => .er [15]) (fun _ _ _ _ _ => .er [15]) (fun _ _ _ _ _ => .er [15]) (fun _ => .er [15]) (fun _ _ => .er [15]) (fun f x y _ _ c => c f x y) (fun _ => .er [15]) (fun _ _ _ => .er [15]) (fun _ _ _ => .er [15]) (fun _ => .er [15]) PUnit.unit (fun _ _ _ _ => PUnit.unit) v
def onAgg (v : CV) : (List CV → R) → R := @CV.rec (fun _ => (List CV → R) → R) (fun _ => PUnit) (fun _ _ _ => .er [16]) (fun _ _ => .er [16]) (fun _ _ => .er [16]) (fun _ => .er [16]) (fun _ _ _ => .er [16]) (fun _ => .er [16]) (fun _ _ _ _ _ => .er [16]) (fun _ _ _ _ _ => .er [16]) (fun _ => .er [16]) (fun _ _ => .er [16]) (fun _ _ _ _ _ _ => .er [16]) (fun _ => .er [16]) (fun l _ c => c l) (fun _ _ _ => .er [16]) (fun _ => .er [16]) PUnit.unit (fun _ _ _ _ => PUnit.unit) v
def onTup (v : CV) : (List CV → R) → R := @CV.rec (fun _ => (List CV → R) → R) (fun _ => PUnit) (fun _ _ _ => .er [17]) (fun _ _ => .er [17]) (fun _ _ => .er [17]) (fun _ => .er [17]) (fun _ _ _ => .er [17]) (fun _ => .er [17]) (fun _ _ _ _ _ => .er [17]) (fun _ _ _ _ _ => .er [17]) (fun _ => .er [17]) (fun _ _ => .er [17]) (fun _ _ _ _ _ _ => .er [17]) (fun _ => .er [17]) (fun _ _ _ => .er [17]) (fun l _ c => c l) (fun _ => .er [17]) PUnit.unit (fun _ _ _ _ => PUnit.unit) v
def onCells (b : CB) : (List CV → Nat → Nat → R) → R := @CB.rec (fun _ => (List CV → Nat → Nat → R) → R) (fun cs e sz c => c cs e sz) (fun _ _ _ => .er [18]) (fun _ _ _ _ _ => .er [18]) (fun _ => .er [18]) b
def onMp (b : CB) : (List (Int × CV × Nat) → Nat → R) → R := @CB.rec (fun _ => (List (Int × CV × Nat) → Nat → R) → R) (fun _ _ _ _ => .er [19]) (fun es ck c => c es ck) (fun _ _ _ _ _ => .er [19]) (fun _ => .er [19]) b
def onIt (b : CB) : (Nat → Nat → List Nat → Nat → R) → R := @CB.rec (fun _ => (Nat → Nat → List Nat → Nat → R) → R) (fun _ _ _ _ => .er [20]) (fun _ _ _ => .er [20]) (fun m s l la c => c m s l la) (fun _ => .er [20]) b
/-- one cell's value? -/
def one (v : CV) : Bool := @CV.rec (fun _ => Bool) (fun _ => PUnit) (fun _ _ => true) (fun _ => true) (fun _ => true) true (fun _ _ => true) true (fun _ _ _ _ => true) (fun _ _ _ _ => true) true (fun _ => true) (fun _ _ _ _ _ => true) true (fun _ _ => false) (fun _ _ => false) false PUnit.unit (fun _ _ _ _ => PUnit.unit) v
def cellsOf (v : CV) : List CV := @CV.rec (fun _ => List CV) (fun _ => PUnit) (fun k z => [.int k z]) (fun b => [.bool b]) (fun l => [.str l]) [.nilp] (fun i o => [.ptr i o]) [.nils] (fun i o n k => [.sl i o n k]) (fun i o n c => [.slx i o n c]) [.nilm] (fun i => [.mp i]) (fun f x y _ _ => [.fn f x y]) [.nilf] (fun l _ => l) (fun l _ => [.tup l]) [.und] PUnit.unit (fun _ _ _ _ => PUnit.unit) v
/-! operands -/
def cvS : Value → Option CV
  | .bool b => some (.bool b)
  | .int k n => some (.int k n)
  | .string s => some (.str (s.data.toList.map UInt8.toNat))
  | .pointer none => some .nilp
  | .slice none 0 0 => some .nils
  | .map none => some .nilm
  | .nilFunc => some .nilf
  | _ => none
def cvL : List Value → Option (List CV)
  | [] => some []
  | v :: vs => match cvS v, cvL vs with
    | some c, some cs => some (c :: cs)
    | _, _ => none
def cvV : Value → Option CV
  | .agg cs => match cvL cs.toList with
    | some l => some (.agg l)
    | none => none
  | .tuple cs => match cvL cs.toList with
    | some l => some (.tup l)
    | none => none
  | v => cvS v
def optR {α : Type} (o : Option α) (n : Nat) (k : α → R) : R := @Option.rec α (fun _ => R) (.er [n]) k o
def bitN (m t : Nat) : Bool := Nat.beq (Nat.land (Nat.shiftRight m t) 1) 1
def findL (l : Lc) : Nat → (CV → R) → R := @Lc.rec (fun _ => Nat → (CV → R) → R) (fun _ _ => .er [29]) (fun q v _ ih t k => @Bool.rec (fun _ => R) (ih t k) (k v) (Nat.beq q t)) l
def getV (fr : FM) : Nat → (CV → R) → R := @FM.rec (fun _ => Nat → (CV → R) → R) (fun m l tr t k => @Bool.rec (fun _ => R) (findL l t k) (optR (getN tr t) 28 k) (bitN m t)) fr
def setV (fr : FM) : Nat → CV → (FM → R) → R := @FM.rec (fun _ => Nat → CV → (FM → R) → R) (fun m l tr t v k => @Bool.rec (fun _ => R) (k (.mk m (.cons t v l) tr)) (setK tr t v fun tr' => k (.mk m l tr')) (bitN m t)) fr
/-- a region begins -/
def clrV (fr : FM) : (FM → R) → R := @FM.rec (fun _ => (FM → R) → R) (fun m _ tr k => k (.mk m .nil tr)) fr
def srcX (x : Operand) : FM → (CV → R) → R := @Operand.rec (fun _ => FM → (CV → R) → R) (fun t fr k => getV fr t k) (fun v _ k => optR (cvV v) 30 k) (fun _ _ _ => .er [31]) (fun f _ k => k (.fn f [] [])) x
def srcsX (l : List Operand) : FM → (List CV → R) → R := @List.rec Operand (fun _ => FM → (List CV → R) → R) (fun _ k => k []) (fun x _ ih fr k => srcX x fr fun v => ih fr fun vs => k (v :: vs)) l
def dstX (d : Option Nat) : FM → CV → (FM → R) → R := @Option.rec Nat (fun _ => FM → CV → (FM → R) → R) (fun fr _ k => k fr) (fun t fr v k => setV fr t v k) d
/-! whole numbers -/
def fits63 (z : Int) : Bool := @Int.rec (fun _ => Bool) (fun n => Nat.blt n 9223372036854775808) (fun n => Nat.blt n 9223372036854775808) z
def wrapK (k : IntKind) (z : Int) (c : Int → R) : R := @IntKind.rec (fun _ => R) (forceI (IntKind.wrap .i8 z) c) (forceI (IntKind.wrap .i16 z) c) (forceI (IntKind.wrap .i32 z) c) (B (fits63 z) (forceI z c) (forceI (IntKind.wrap .i64 z) c)) (forceI (IntKind.wrap .u8 z) c) (forceI (IntKind.wrap .u16 z) c) (forceI (IntKind.wrap .u32 z) c) (forceI (IntKind.wrap .u64 z) c) k
def eqK (j k : IntKind) : Bool := match j, k with
  | .i8, .i8 | .i16, .i16 | .i32, .i32 | .i64, .i64 | .u8, .u8 | .u16, .u16 | .u32, .u32 | .u64, .u64 => true
  | _, _ => false
def ltI (x y : Int) : Bool := @Int.rec (fun _ => Bool) (fun a => @Int.rec (fun _ => Bool) (fun b => Nat.blt a b) (fun _ => false) y) (fun a => @Int.rec (fun _ => Bool) (fun _ => true) (fun b => Nat.blt b a) y) x
def eqI (x y : Int) : Bool := @Int.rec (fun _ => Bool) (fun a => @Int.rec (fun _ => Bool) (fun b => Nat.beq a b) (fun _ => false) y) (fun a => @Int.rec (fun _ => Bool) (fun _ => false) (fun b => Nat.beq b a) y) x
def natI (z : Int) (k : Nat → R) : R := @Int.rec (fun _ => R) (fun n => forceN n k) (fun _ => .er [40]) z
def eqL (l : List Nat) : List Nat → Bool := @List.rec Nat (fun _ => List Nat → Bool) (fun m => @List.rec Nat (fun _ => Bool) true (fun _ _ _ => false) m) (fun x _ ih m => @List.rec Nat (fun _ => Bool) false (fun y ys _ => @Bool.rec (fun _ => Bool) false (ih ys) (Nat.beq (Nat.mod x 256) (Nat.mod y 256))) m) l
def ltL (l : List Nat) : List Nat → Bool := @List.rec Nat (fun _ => List Nat → Bool) (fun m => @List.rec Nat (fun _ => Bool) false (fun _ _ _ => true) m) (fun x _ ih m => @List.rec Nat (fun _ => Bool) false (fun y ys _ => @Bool.rec (fun _ => Bool) (Nat.blt (Nat.mod x 256) (Nat.mod y 256)) (ih ys) (Nat.beq (Nat.mod x 256) (Nat.mod y 256))) m) l
def int2 (f : IntKind → Int → Int → (CV → R) → R) (x y : CV) (k : CV → R) : R := onInt x fun i a => onInt y fun j b => B (eqK i j) (f i a b k) (.er [41])
def isStr (v : CV) : Bool := @CV.rec (fun _ => Bool) (fun _ => PUnit) (fun _ _ => false) (fun _ => false) (fun _ => true) false (fun _ _ => false) false (fun _ _ _ _ => false) (fun _ _ _ _ => false) false (fun _ => false) (fun _ _ _ _ _ => false) false (fun _ _ => false) (fun _ _ => false) false PUnit.unit (fun _ _ _ _ => PUnit.unit) v
abbrev Bin := Program → TypeId → CV → CV → (CV → R) → R
def addX : Bin := fun _ _ x y k => B (isStr x) (onStr x fun l => onStr y fun m => lenK l 0 fun n => lenK m n fun t => B (Nat.ble t 9223372036854775807) (appK l m fun r => k (.str r)) (.er [42]))
  (int2 (fun i a b k => wrapK i (a + b) fun z => k (.int i z)) x y k)
def subX : Bin := fun _ _ x y k => int2 (fun i a b k => wrapK i (a - b) fun z => k (.int i z)) x y k
def mulX : Bin := fun _ _ x y k => int2 (fun i a b k => wrapK i (a * b) fun z => k (.int i z)) x y k
def quoX : Bin := fun _ _ x y k => onInt x fun i a => onInt y fun j b => B (eqK i j) (B (eqI b 0) (.er [43]) (wrapK i (a.tdiv b) fun z => k (.int i z))) (.er [41])
def remX : Bin := fun _ _ x y k => onInt x fun i a => onInt y fun j b => B (eqK i j) (B (eqI b 0) (.er [43]) (forceI (a.tmod b) fun z => k (.int i z))) (.er [41])
def andX : Bin := fun _ _ x y k => int2 (fun i a b k => forceI (i.wrap (BitVec.ofInt i.bits a &&& BitVec.ofInt i.bits b).toNat) fun z => k (.int i z)) x y k
def orX : Bin := fun _ _ x y k => int2 (fun i a b k => forceI (i.wrap (BitVec.ofInt i.bits a ||| BitVec.ofInt i.bits b).toNat) fun z => k (.int i z)) x y k
def xorX : Bin := fun _ _ x y k => int2 (fun i a b k => forceI (i.wrap (BitVec.ofInt i.bits a ^^^ BitVec.ofInt i.bits b).toNat) fun z => k (.int i z)) x y k
def notX : Bin := fun _ _ x y k => int2 (fun i a b k => forceI (i.wrap (BitVec.ofInt i.bits a &&& ~~~BitVec.ofInt i.bits b).toNat) fun z => k (.int i z)) x y k
def shlX : Bin := fun _ _ x y k => onInt x fun i a => onInt y fun _ b => natI b fun n => wrapK i (a * 2 ^ (min n i.bits)) fun z => k (.int i z)
def shrX : Bin := fun _ _ x y k => onInt x fun i a => onInt y fun _ b => natI b fun n => forceI (a.fdiv (2 ^ (min n i.bits))) fun z => k (.int i z)
def lssX : Bin := fun _ _ x y k => B (isStr x) (onStr x fun l => onStr y fun m => forceB (ltL l m) fun b => k (.bool b)) (int2 (fun _ a b k => forceB (ltI a b) fun b => k (.bool b)) x y k)
def leqX : Bin := fun _ _ x y k => B (isStr x) (onStr x fun l => onStr y fun m => forceB (ltL l m || eqL l m) fun b => k (.bool b)) (int2 (fun _ a b k => forceB (!ltI b a) fun b => k (.bool b)) x y k)
def gtrX : Bin := fun _ _ x y k => B (isStr x) (onStr x fun l => onStr y fun m => forceB (!(ltL l m || eqL l m)) fun b => k (.bool b)) (int2 (fun _ a b k => forceB (ltI b a) fun b => k (.bool b)) x y k)
def geqX : Bin := fun _ _ x y k => B (isStr x) (onStr x fun l => onStr y fun m => forceB (!ltL l m) fun b => k (.bool b)) (int2 (fun _ a b k => forceB (!ltI a b) fun b => k (.bool b)) x y k)
/-! equality -/
def partC (P : Program) (t : TypeId) (cs : List CV) (off : Nat) : Option CV := match isAggT P t with
  | some true => match infoSz P t with
    | some n => some (.agg ((cs.drop off).take n))
    | none => none
  | some false => cs[off]?
  | none => none
def eqFC (eq : TypeId → CV → CV → Option Bool) (P : Program) (xs ys : List CV) : List Field → Option Bool
  | [] => some true
  | [f] => match partC P f.type xs f.offset, partC P f.type ys f.offset with
    | some u, some w => eq f.type u w
    | _, _ => none
  | f :: fs => match partC P f.type xs f.offset, partC P f.type ys f.offset with
    | some u, some w => andB (eq f.type u w) (eqFC eq P xs ys fs)
    | _, _ => none
def eqC (P : Program) : Nat → TypeId → CV → CV → Option Bool
  | 0, _, _, _ => none
  | n + 1, t, u, w => match P.underlying t with
    | some .bool => match u, w with
      | .bool b, .bool b' => some (b == b')
      | _, _ => none
    | some (.int _) => match u, w with
      | .int k m, .int k' m' => if k = k' then some (eqI m m') else none
      | _, _ => none
    | some .string => match u, w with
      | .str b, .str b' => some (eqL b b')
      | _, _ => none
    | some (.struct fs) => match u, w with
      | .agg xs, .agg ys => eqFC (eqC P n) P xs ys fs.toList
      | _, _ => none
    | _ => none
/-- equality of what is no number and no string -/
def eqO (P : Program) (t : TypeId) (x y : CV) : Option Bool := match x, y with
  | .bool a, .bool b => if isBoolT P t = true then some (a == b) else none
  | .nilp, .nilp => if isPtrT P t = true then some true else none
  | .ptr _ _, .nilp => if isPtrT P t = true then some false else none
  | .nils, .nils => if isSliceT P t = true then some true else none
  | .sl .., .nils => if isSliceT P t = true then some false else none
  | .slx .., .nils => if isSliceT P t = true then some false else none
  | .agg xs, .agg ys => if (!P.eqGuardType P.depth t && eqFree P 20 t) = true then eqC P 20 t (.agg xs) (.agg ys) else none
  | _, _ => none
def isInt (v : CV) : Bool := @CV.rec (fun _ => Bool) (fun _ => PUnit) (fun _ _ => true) (fun _ => false) (fun _ => false) false (fun _ _ => false) false (fun _ _ _ _ => false) (fun _ _ _ _ => false) false (fun _ => false) (fun _ _ _ _ _ => false) false (fun _ _ => false) (fun _ _ => false) false PUnit.unit (fun _ _ _ _ => PUnit.unit) v
def eqlX : Bin := fun P t x y k => B (isInt x) (int2 (fun _ a b k => forceB (eqI a b) fun b => k (.bool b)) x y k) (B (isStr x) (onStr x fun l => onStr y fun m => forceB (eqL l m) fun b => k (.bool b)) (optR (eqO P t x y) 44 fun b => forceB b fun b => k (.bool b)))
def neqX : Bin := fun P t x y k => B (isInt x) (int2 (fun _ a b k => forceB (!eqI a b) fun b => k (.bool b)) x y k) (B (isStr x) (onStr x fun l => onStr y fun m => forceB (!eqL l m) fun b => k (.bool b)) (optR (eqO P t x y) 44 fun b => forceB (!b) fun b => k (.bool b)))
def binX (op : BinOp) : Bin := @BinOp.rec (fun _ => Bin) addX subX mulX quoX remX andX orX xorX shlX shrX notX eqlX neqX lssX leqX gtrX geqX op
end
end Go.Ex

namespace Go.Ex
open Go Go.Sl
noncomputable section
abbrev Pu := Program → FM → (CV → R) → R
abbrev Cl := Nat → List CV → T CB → Nat → R
abbrev Oth := Program → Cl → FM → T CB → Nat → (CV → T CB → Nat → R) → R
def badP : Pu := fun _ _ _ => .er [60]
def badO : Oth := fun _ _ _ _ _ _ => .er [61]
def mvP (x : Operand) : Pu := fun _ fr k => srcX x fr k
def pickP (c x y : Operand) : Pu := fun _ fr k => srcX c fr fun b => onBool b fun b => B b (srcX x fr k) (srcX y fr k)
def isPF (v : CV) : Bool := @CV.rec (fun _ => Bool) (fun _ => PUnit) (fun _ _ => false) (fun _ => false) (fun _ => false) false (fun _ _ => true) false (fun _ _ _ _ => false) (fun _ _ _ _ => false) false (fun _ => false) (fun _ _ _ _ _ => true) false (fun _ _ => false) (fun _ _ => false) false PUnit.unit (fun _ _ _ _ => PUnit.unit) v
def nilcP (x : Operand) : Pu := fun _ fr k => srcX x fr fun v => B (isPF v) (k v) (.er [62])
def binP (op : BinOp) (t : TypeId) (x y : Operand) (_ : TypeId) : Pu := fun P fr k => srcX x fr fun a => srcX y fr fun b => binX op P t a b k
def unP (op : UnOp) (_ : TypeId) (x : Operand) : Pu := @UnOp.rec (fun _ => Pu) (fun _ fr k => srcX x fr fun v => onInt v fun i a => wrapK i (0 - a) fun z => k (.int i z)) badP (fun _ fr k => srcX x fr fun v => onBool v fun b => forceB (!b) fun b => k (.bool b)) badP op
def convP (s d : TypeId) (x : Operand) : Pu := fun P fr k => B (P.underlying s).isSome (optR (intT P d) 63 fun kd => srcX x fr fun v => onInt v fun _ n => wrapK kd n fun z => k (.int kd z)) (.er [63])
def mkfP (fn : Fn) (fs cs : Array Operand) : Pu := @Fn.rec (fun _ => Pu) (fun f _ fr k => srcsX fs.toList fr fun l => srcsX cs.toList fr fun m => k (.fn f l m)) (fun _ => badP) (fun _ _ => badP) (fun _ _ _ _ => badP) (fun _ => badP) fn
def zC (P : Program) (t : TypeId) : Option (List CV) := match zeroL P t with
  | some zs => cvL zs
  | none => none
def lenEq {α : Type} (l : List α) (n : Nat) (k : R) : R := lenK l 0 fun m => B (Nat.beq m n) k (.er [64])
def fillX (pl : Nat → Option (Nat × Nat)) (ps : List (Nat × Operand)) : List CV → FM → (List CV → R) → R := @List.rec (Nat × Operand) (fun _ => List CV → FM → (List CV → R) → R) (fun cs _ k => k cs)
  (fun p _ ih cs fr k => optR (pl p.1) 65 fun q => srcX p.2 fr fun v => lenEq (cellsOf v) q.2 (lenK cs 0 fun n => B (Nat.ble (q.1 + q.2) n) (putK cs q.1 (cellsOf v) fun cs' => ih cs' fr k) (.er [66]))) ps
def buildP (t : TypeId) (ps : Array (Nat × Operand)) : Pu := fun P fr k => B (fieldsOk P t) (optR (zC P t) 67 fun zs => fillX (placeF P t) ps.toList zs fr fun cs => k (.agg cs)) (.er [67])
/-- an index or bound below n + 1 -/
def leN (z : Int) (n : Nat) (k : Nat → R) : R := natI z fun m => B (Nat.ble m n) (k m) (.er [68])
def ltN (z : Int) (n : Nat) (k : Nat → R) : R := natI z fun m => B (Nat.blt m n) (k m) (.er [69])
def bndX (x : Option Operand) : FM → Nat → Nat → (Nat → R) → R := @Option.rec Operand (fun _ => FM → Nat → Nat → (Nat → R) → R) (fun _ df _ k => k df) (fun x fr _ n k => srcX x fr fun v => onInt v fun _ z => leN z n k) x
def slcS (x : CV) (lo hi : Option Operand) (fr : FM) (k : CV → R) : R := onStr x fun s => lenK s 0 fun n => bndX hi fr n n fun h => bndX lo fr 0 h fun l => forceN (h - l) fun m => dropK s l fun s1 => takeK s1 m fun s2 => k (.str s2)
/-- a part of a slice; cap is known only where c is given -/
def slcK (sz : Nat) (o c : Nat) (i n : Nat) (lo hi mx : Option Operand) (fr : FM) (k : CV → R) : R :=
  bndX mx fr c c fun m => bndX hi fr n m fun h => bndX lo fr 0 h fun l => forceN (o + l * sz) fun o1 => forceN (h - l) fun n1 => forceN (m - l) fun c1 => k (.slx i (@Bool.rec (fun _ => Nat) o1 o (Nat.beq m l)) n1 c1)
def slcU (sz : Nat) (o kk : Nat) (i n : Nat) (lo hi : Option Operand) (fr : FM) (k : CV → R) : R :=
  bndX hi fr n n fun h => bndX lo fr 0 h fun l => forceN (o + l * sz) fun o1 => forceN (h - l) fun n1 => forceN (kk + l) fun k1 => k (.sl i o1 n1 k1)
def onSl (v : CV) : (R) → (Nat → Nat → Nat → Nat → R) → (Nat → Nat → Nat → Nat → R) → R := @CV.rec (fun _ => (R) → (Nat → Nat → Nat → Nat → R) → (Nat → Nat → Nat → Nat → R) → R) (fun _ => PUnit) (fun _ _ _ _ _ => .er [70]) (fun _ _ _ _ => .er [70]) (fun _ _ _ _ => .er [70]) (fun _ _ _ => .er [70]) (fun _ _ _ _ _ => .er [70]) (fun a _ _ => a) (fun i o n k _ b _ => b i o n k) (fun i o n c _ _ d => d i o n c) (fun _ _ _ => .er [70]) (fun _ _ _ _ => .er [70]) (fun _ _ _ _ _ _ _ _ => .er [70]) (fun _ _ _ => .er [70]) (fun _ _ _ _ _ => .er [70]) (fun _ _ _ _ _ => .er [70]) (fun _ _ _ => .er [70]) PUnit.unit (fun _ _ _ _ => PUnit.unit) v
def slcV (sz : Nat) (v : CV) (lo hi mx : Option Operand) (fr : FM) (k : CV → R) : R := onSl v (bndX mx fr 0 0 fun _ => bndX hi fr 0 0 fun _ => bndX lo fr 0 0 fun _ => k .nils)
  (fun i o n kk => @Option.rec Operand (fun _ => R) (slcU sz o kk i n lo hi fr k) (fun _ => .er [71]) mx) (fun i o n c => slcK sz o c i n lo hi mx fr k)
def sliceP (t : TypeId) (x : Operand) (lo hi mx : Option Operand) : Pu := fun P fr k => srcX x fr fun v => B (isStrT P t) (@Option.rec Operand (fun _ => R) (slcS v lo hi fr k) (fun _ => .er [71]) mx)
  (@Option.rec Nat (fun _ => R) (optR (arrT P t) 72 fun q => onPtr v fun i o => slcK q.2 o q.1 i q.1 lo hi mx fr k) (fun sz => slcV sz v lo hi mx fr k) (elemSz P t))
def faP (t : TypeId) (x : Operand) (f : Nat) : Pu := fun P fr k => optR (fieldOff P t f) 73 fun n => srcX x fr fun v => onPtr v fun i o => forceN (o + n) fun o1 => k (.ptr i o1)
def partK (P : Program) (t : TypeId) (cs : List CV) (off : Nat) (k : CV → R) : R := optR (isAggT P t) 74 fun b => dropK cs off fun c1 => B b (optR (infoSz P t) 74 fun n => takeK c1 n fun c2 => k (.agg c2)) (@List.rec CV (fun _ => R) (.er [75]) (fun v _ _ => k v) c1)
def fldP (t : TypeId) (x : Operand) (f : Nat) : Pu := fun P fr k => optR (fieldOf P t f) 76 fun q => srcX x fr fun v => onAgg v fun cs => partK P q.1 cs q.2 k
def iaP (t : TypeId) (x y : Operand) : Pu := fun P fr k => srcX x fr fun v => srcX y fr fun w => onInt w fun _ z => @Option.rec Nat (fun _ => R) (optR (arrT P t) 77 fun q => onPtr v fun i o => ltN z q.1 fun m => forceN (o + m * q.2) fun o1 => k (.ptr i o1))
  (fun sz => onSl v (.er [78]) (fun i o n _ => ltN z n fun m => forceN (o + m * sz) fun o1 => k (.ptr i o1)) (fun i o n _ => ltN z n fun m => forceN (o + m * sz) fun o1 => k (.ptr i o1))) (elemSz P t)
def nthK (l : List Nat) (n : Nat) (k : Nat → R) : R := dropK l n fun m => @List.rec Nat (fun _ => R) (.er [79]) (fun v _ _ => k v) m
def ixP (t : TypeId) (x y : Operand) : Pu := fun P fr k => srcX x fr fun v => srcX y fr fun w => onInt w fun _ z => B (isStrT P t) (onStr v fun s => natI z fun m => nthK s m fun b => forceN (Nat.mod b 256) fun b => k (.int .u8 (.ofNat b)))
  (optR (arrE P t) 80 fun q => optR (infoSz P q.2) 80 fun sz => onAgg v fun cs => ltN z q.1 fun m => forceN (m * sz) fun o => partK P q.2 cs o k)
def extP (x : Operand) (n : Nat) : Pu := fun _ fr k => srcX x fr fun v => onTup v fun l => dropK l n fun m => @List.rec CV (fun _ => R) (.er [81]) (fun v _ _ => k v) m
def lenV (P : Program) (t : TypeId) (v : CV) (k : CV → R) : R := B (isStrT P t) (onStr v fun s => lenK s 0 fun n => k (.int .i64 (.ofNat n))) (B (isSliceT P t) (onSl v (k (.int .i64 (.ofNat 0))) (fun _ _ n _ => k (.int .i64 (.ofNat n))) (fun _ _ n _ => k (.int .i64 (.ofNat n)))) (.er [82]))
def lenP (as : Array Operand) (ts : Array TypeId) : Pu := fun P fr k => @List.casesOn Operand (fun _ => R) as.toList (.er [83]) (fun x l => @List.casesOn Operand (fun _ => R) l (optR ts[0]? 83 fun t => srcX x fr fun v => lenV P t v k) (fun _ _ => .er [83]))
def mnI (x y : Int) : Int := @Bool.rec (fun _ => Int) x y (ltI y x)
def mxI (x y : Int) : Int := @Bool.rec (fun _ => Int) x y (ltI x y)
def int2P (f : Int → Int → Int) (as : Array Operand) : Pu := fun _ fr k => @List.casesOn Operand (fun _ => R) as.toList (.er [84]) (fun x l => @List.casesOn Operand (fun _ => R) l (.er [84]) (fun y l => @List.casesOn Operand (fun _ => R) l
  (srcX x fr fun v => srcX y fr fun w => onInt v fun i a => onInt w fun _ b => forceI (f a b) fun z => k (.int i z)) (fun _ _ => .er [84])))
def blP (b : Builtin) (as : Array Operand) (ts : Array TypeId) : Pu := @Builtin.rec (fun _ => Pu) badP badP badP badP badP badP badP badP (lenP as ts) badP (int2P mxI as) (int2P mnI as) badP badP badP badP badP badP badP badP badP badP badP badP badP badP b
def callP (c : Call) : Pu := @Callee.rec (fun _ => Pu) (fun _ => badP) (fun _ _ => badP) (fun b => blP b c.args c.argTypes) c.callee
def pureX (o : Op) : Pu := @Op.rec (fun _ => Pu) mvP mvP pickP (fun _ => badP) (fun _ _ => badP) buildP (fun _ _ _ => badP) (fun _ _ _ _ => badP) (fun _ _ => badP) (fun _ _ _ => badP) (fun _ => badP) (fun _ => badP) nilcP binP unP convP (fun _ _ => badP) (fun _ _ => badP) mkfP (fun _ _ => badP) (fun _ _ => badP) (fun _ _ _ => badP) sliceP faP fldP iaP ixP (fun _ _ _ _ => badP) (fun _ _ _ _ => badP) (fun _ _ _ => badP) (fun _ _ _ _ => badP) (fun _ _ => badP) (fun _ _ => badP) (fun _ => badP) (fun _ _ _ _ => badP) extP callP (fun _ => badP) (fun _ => badP) (fun _ => badP) (fun _ _ => badP) (fun _ _ _ => badP) (fun _ _ => badP) o
/-! memory -/
def getB (hp : T CB) (i : Nat) (k : CB → R) : R := optR (getN hp i) 90 k
/-- n cells from o on -/
def rdK (hp : T CB) (i o n : Nat) (k : List CV → R) : R := getB hp i fun b => onCells b fun cs _ _ => dropK cs o fun c1 => takeK c1 n fun c2 => lenEq c2 n (k c2)
def ldK (P : Program) (t : TypeId) (i o : Nat) (hp : T CB) (k : CV → R) : R := optR (isAggT P t) 91 fun b => B b (optR (infoSz P t) 91 fun n => B (Nat.beq n 0) (.er [91]) (rdK hp i o n fun cs => k (.agg cs))) (getB hp i fun b => onCells b fun cs _ _ => dropK cs o fun c1 => @List.rec CV (fun _ => R) (.er [92]) (fun v _ _ => k v) c1)
def wrK (hp : T CB) (i o : Nat) (vs : List CV) (k : T CB → R) : R := getB hp i fun b => onCells b fun cs e sz => lenK cs 0 fun n => lenK vs o fun m => B (Nat.ble m n) (putK cs o vs fun cs' => setK hp i (.cells cs' e sz) k) (.er [93])
/-- a new block, under a number that nobody has -/
def newK (hp : T CB) (i : Nat) (b : CB) (k : T CB → R) : R := @Option.rec CB (fun _ => R) (setK hp i b k) (fun _ => .er [89]) (getN hp i)
def oneL (l : List CV) : Bool := @List.rec CV (fun _ => Bool) true (fun v _ ih => @Bool.rec (fun _ => Bool) false ih (one v)) l
def allocO (e : TypeId) : Oth := fun P _ _ hp nx k => optR (zC P e) 94 fun zs => lenK zs 0 fun n => newK hp nx (.cells zs e n) fun hp' => forceN (nx + 1) fun nx' => k (.ptr nx 0) hp' nx'
def boxO (e : TypeId) (x : Operand) : Oth := fun _ _ fr hp nx k => srcX x fr fun v => lenK (cellsOf v) 0 fun n => newK hp nx (.cells (cellsOf v) e n) fun hp' => forceN (nx + 1) fun nx' => k (.ptr nx 0) hp' nx'
def repK (n : Nat) (zs : List CV) : (List CV → R) → R := @Nat.rec (fun _ => (List CV → R) → R) (fun k => k []) (fun _ ih k => ih fun r => appK zs r k) n
def bslO (t : TypeId) (n : Nat) (ps : Array (Nat × Operand)) : Oth := fun P _ fr hp nx k => optR (elemOfS P t) 95 fun e => optR (infoSz P e) 95 fun sz =>
  B (Nat.beq n 0) (@List.casesOn (Nat × Operand) (fun _ => R) ps.toList (newK hp nx (.cells [] e sz) fun hp' => forceN (nx + 1) fun nx' => k (.slx nx 0 0 0) hp' nx') (fun _ _ => .er [96]))
    (optR (zC P e) 95 fun zs => lenEq zs sz (B (Nat.beq sz 0) (.er [96]) (B (Nat.ble (n * sz) 16777216) (repK n zs fun z0 => fillX (fun i => some (i * sz, sz)) ps.toList z0 fr fun cs => newK hp nx (.cells cs e sz) fun hp' => forceN (nx + 1) fun nx' => k (.slx nx 0 n n) hp' nx') (.er [96]))))
def storeO (t : TypeId) (x y : Operand) : Oth := fun P _ fr hp nx k => srcX x fr fun v => srcX y fr fun w => onPtr v fun i o => optR (infoSz P t) 97 fun n => lenEq (cellsOf w) n (B (oneL (cellsOf w)) (wrK hp i o (cellsOf w) fun hp' => k .und hp' nx) (.er [97]))
def bytesK (l : List CV) : (List Nat → R) → R := @List.rec CV (fun _ => (List Nat → R) → R) (fun k => k []) (fun v _ ih k => onInt v fun i z => B (eqK i .u8) (natI z fun n => ih fun r => k (n :: r)) (.er [98])) l
def valsK (l : List Nat) : (List CV → R) → R := @List.rec Nat (fun _ => (List CV → R) → R) (fun k => k []) (fun b _ ih k => forceN (Nat.mod b 256) fun b' => ih fun r => k (.int .u8 (.ofNat b') :: r)) l
/-- the cells of a slice or a string, sz each -/
def elsK (sz : Nat) (v : CV) (hp : T CB) (k : Nat → List CV → R) : R := B (isStr v) (B (Nat.beq sz 1) (onStr v fun s => valsK s fun l => lenK l 0 fun n => k n l) (.er [99])) (onSl v (k 0 []) (fun i o n _ => rdK hp i o (n * sz) fun l => k n l) (fun i o n _ => rdK hp i o (n * sz) fun l => k n l))
def s2bO (e : TypeId) (v : CV) (hp : T CB) (nx : Nat) (k : CV → T CB → Nat → R) : R := onStr v fun s => valsK s fun l => lenK l 0 fun n => newK hp nx (.cells l e 1) fun hp' => forceN (nx + 1) fun nx' => k (.sl nx 0 n 0) hp' nx'
def b2sO (v : CV) (hp : T CB) (nx : Nat) (k : CV → T CB → Nat → R) : R := elsK 1 v hp fun _ l => bytesK l fun s => k (.str s) hp nx
def convO (s d : TypeId) (x : Operand) : Oth := fun P _ fr hp nx k => srcX x fr fun v => B (isStrT P s) (optR (bytesT P d) 100 fun e => s2bO e v hp nx k) (B (isStrT P d) (optR (bytesT P s) 100 fun _ => B (isStr v) (.er [100]) (b2sO v hp nx k)) (.er [100]))
def newMapO (_ : TypeId) (r : Option Operand) : Oth := @Option.rec Operand (fun _ => Oth) (fun _ _ _ hp nx k => newK hp nx (.mp [] 0) fun hp' => forceN (nx + 1) fun nx' => k (.mp nx) hp' nx') (fun _ => badO) r
def mslT (P : Program) (t : TypeId) : Option (TypeId × Nat × Nat) := match elemOfS P t with
  | some e => match P.info? e with
    | some i => some (e, i.size, i.bytes)
    | none => none
  | none => none
def mslO (t : TypeId) (x y : Operand) : Oth := fun P _ fr hp nx k => optR (mslT P t) 101 fun q => optR (zC P q.1) 101 fun zs => lenEq zs q.2.1 (srcX x fr fun v => srcX y fr fun w => onInt v fun _ a => onInt w fun _ b => natI a fun n => natI b fun c =>
  B (Nat.ble n c) (B (Nat.ble (q.2.2 * c) 1000000) (B (Nat.ble c 1000000) (B (Nat.beq (c * q.2.1) 0) (.er [102]) (repK c zs fun z0 => newK hp nx (.cells z0 q.1 q.2.1) fun hp' => forceN (nx + 1) fun nx' => k (.slx nx 0 n c) hp' nx')) (.er [102])) (.er [102])) (.er [102]))
/-! maps -/
def mfK (n : Int) (es : List (Int × CV × Nat)) : R → (CV → R) → R := @List.rec (Int × CV × Nat) (fun _ => R → (CV → R) → R) (fun d _ => d) (fun e _ ih d k => B (eqI n e.1) (k e.2.1) (ih d k)) es
def mputK (n : Int) (v : CV) (es : List (Int × CV × Nat)) : (List (Int × CV × Nat) → R) → R := @List.rec (Int × CV × Nat) (fun _ => (List (Int × CV × Nat) → R) → R) (fun k => k []) (fun e l ih k => B (eqI n e.1) (k ((e.1, v, e.2.2) :: l)) (ih fun r => k (e :: r))) es
def mdelK (n : Int) (es : List (Int × CV × Nat)) : (List (Int × CV × Nat) → R) → R := @List.rec (Int × CV × Nat) (fun _ => (List (Int × CV × Nat) → R) → R) (fun k => k []) (fun e l ih k => B (eqI n e.1) (k l) (ih fun r => k (e :: r))) es
def on64 (v : CV) (k : Int → R) : R := onInt v fun i z => B (eqK i .i64) (k z) (.er [103])
def zC1 (P : Program) (t : TypeId) : Option CV := match zeroT P t with
  | some z => cvV z
  | none => none
def okC (ok : Bool) (v : CV) (b : Bool) : CV := @Bool.rec (fun _ => CV) v (.tup [v, .bool b]) ok
def lkO (t : TypeId) (x y : Operand) (ok : Bool) : Oth := fun P _ fr hp nx k => optR (mapT P t) 104 fun et => optR (zC1 P et) 104 fun z => srcX x fr fun v => srcX y fr fun w => on64 w fun n => onMap v fun i => getB hp i fun b => onMp b fun es _ =>
  mfK n es (k (okC ok z false) hp nx) fun u => k (okC ok u true) hp nx
def muO (t : TypeId) (x y z : Operand) : Oth := fun P _ fr hp nx k => optR (mapT P t) 105 fun _ => srcX x fr fun v => srcX y fr fun w => srcX z fr fun u => on64 w fun n => onMap v fun i => getB hp i fun b => onMp b fun es ck =>
  mfK n es (appK es [(n, u, ck)] fun es' => forceN (ck + 1) fun ck' => setK hp i (.mp es' ck') fun hp' => k .und hp' nx) fun _ => mputK n u es fun es' => setK hp i (.mp es' ck) fun hp' => k .und hp' nx
def meK (n : Int) (es : List (Int × CV × Nat)) : R → (CV → Nat → R) → R := @List.rec (Int × CV × Nat) (fun _ => R → (CV → Nat → R) → R) (fun d _ => d) (fun e _ ih d k => B (eqI n e.1) (k e.2.1 e.2.2) (ih d k)) es
def meO (t : TypeId) (x y : Operand) : Oth := fun P _ fr hp nx k => optR (mapT P t) 141 fun et => optR (zC1 P et) 141 fun z => srcX x fr fun v => srcX y fr fun w => on64 w fun n => onMap v fun i => getB hp i fun b => onMp b fun es ck =>
  meK n es (appK es [(n, z, ck)] fun es' => forceN (ck + 1) fun ck' => setK hp i (.mp es' ck') fun hp' => k (.tup [z, .int .i64 (.ofNat ck)]) hp' nx) fun u b => k (.tup [u, .int .i64 (.ofNat b)]) hp nx
def stK (n : Int) (v : CV) (es : List (Int × CV × Nat)) : (List (Int × CV × Nat) → R) → R := @List.rec (Int × CV × Nat) (fun _ => (List (Int × CV × Nat) → R) → R) (fun _ => .er [142]) (fun e l ih k => B (eqI (.ofNat e.2.2) n) (k ((e.1, v, e.2.2) :: l)) (ih fun r => k (e :: r))) es
def esO (x s z : Operand) : Oth := fun _ _ fr hp nx k => srcX x fr fun v => srcX s fr fun w => srcX z fr fun u => on64 w fun n => onMap v fun i => getB hp i fun b => onMp b fun es ck =>
  stK n u es fun es' => setK hp i (.mp es' ck) fun hp' => k .und hp' nx
def rngO (t : TypeId) (x : Operand) : Oth := fun P _ fr hp nx k => optR (mapT P t) 106 fun _ => srcX x fr fun v => onMap v fun i => getB hp i fun b => onMp b fun _ ck => newK hp nx (.it i ck [] ck) fun hp' => forceN (nx + 1) fun nx' => k (.ptr nx 0) hp' nx'
def memN (n : Nat) (l : List Nat) : Bool := @List.rec Nat (fun _ => Bool) false (fun x _ ih => @Bool.rec (fun _ => Bool) ih true (Nat.beq n x)) l
def unseen (seen : List Nat) (es : List (Int × CV × Nat)) : List (Int × CV × Nat) := es.filter fun e => !memN e.2.2 seen
def nxtO (x : Operand) (s : Bool) : Oth := fun _ _ fr hp nx k => B s (.er [107]) (srcX x fr fun v => onPtr v fun i o => B (Nat.beq o 0) (getB hp i fun b => onIt b fun m since seen last => getB hp m fun b => onMp b fun es ck =>
  B (es.all fun e => Nat.blt e.2.2 since) (B (seen.isEmpty || es.isEmpty || es.any fun e => Nat.blt e.2.2 last)
    (@List.casesOn (Int × CV × Nat) (fun _ => R) (unseen seen es) (k (.tup [.bool false]) hp nx) (fun e l => @List.casesOn (Int × CV × Nat) (fun _ => R) l (appK seen [e.2.2] fun seen' => setK hp i (.it m since seen' ck) fun hp' => k (.tup [.bool true, .int .i64 e.1, e.2.1]) hp' nx) (fun _ _ => .er [108])))
    (.er [109])) (.er [109])) (.er [109]))
def lastK (l : List Nat) (k : Nat → R) : R := optR l.getLast? 110 k
def entO (x : Operand) : Oth := fun _ _ fr hp nx k => srcX x fr fun v => onPtr v fun i o => B (Nat.beq o 0) (getB hp i fun b => onIt b fun m _ seen last => lastK seen fun b => getB hp m fun c => onMp c fun es ck => B (Nat.beq ck last) (optR (es.find? fun e => Nat.beq e.2.2 b) 111 fun e => k (.tup [.int .i64 e.1, e.2.1]) hp nx) (.er [111])) (.er [111])
/-! append and the like -/
def newRow (e : TypeId) (sz n : Nat) (cs : List CV) (hp : T CB) (nx : Nat) (k : CV → T CB → Nat → R) : R := newK hp nx (.cells cs e sz) fun hp' => forceN (nx + 1) fun nx' => k (.sl nx 0 n 0) hp' nx'
def app2 (e : TypeId) (sz bytes : Nat) (x : CV) (m : Nat) (news : List CV) (hp : T CB) (nx : Nat) (k : CV → T CB → Nat → R) : R :=
  onSl x (B (Nat.beq m 0) (k .nils hp nx) (B (Nat.ble ((2 * m + 512) * bytes) 281474976710656) (newRow e sz m news hp nx k) (.er [112])))
    (fun i o n kk => B (Nat.ble ((2 * (n + m) + 512) * bytes) 281474976710656) (B (Nat.beq o (kk * sz)) (getB hp i fun b => onCells b fun cs e' sz' => B (Nat.beq sz sz') (B (Nat.beq e e') (lenK cs 0 fun lc => B (Nat.ble (o + (n + m) * sz) lc)
        (putK cs (o + n * sz) news fun cs' => setK hp i (.cells cs' e sz) fun hp' => forceN (n + m) fun n1 => k (.sl i o n1 kk) hp' nx)
        (B (Nat.beq (o + n * sz) lc) (dropK cs o fun c1 => appK c1 news fun c2 => setK hp i .dead fun hp1 => forceN (n + m) fun n1 => newRow e sz n1 c2 hp1 nx k) (.er [113]))) (.er [113])) (.er [113])) (.er [113])) (.er [113]))
    (fun i o n c => B (Nat.ble ((2 * (n + m) + 512) * bytes) 281474976710656) (B (Nat.ble (n + m) c) (forceN (n + m) fun n1 => wrK hp i (o + n * sz) news fun hp' => k (.slx i o n1 c) hp' nx)
        (rdK hp i o (n * sz) fun c1 => appK c1 news fun c2 => forceN (n + m) fun n1 => newRow e sz n1 c2 hp nx k)) (.er [114]))
def appO (x y : Operand) (st xt : TypeId) : Oth := fun P _ fr hp nx k => optR (appT0 P st xt) 115 fun q => B (Nat.beq q.2.1 0) (.er [115]) (srcX x fr fun v => srcX y fr fun w => elsK q.2.1 w hp fun m news => B (oneL news) (app2 q.1 q.2.1 q.2.2 v m news hp nx k) (.er [115]))
def mnN (x y : Nat) : Nat := @Bool.rec (fun _ => Nat) x y (Nat.blt y x)
def slLen (v : CV) (k : Nat → R) : R := onSl v (k 0) (fun _ _ n _ => k n) (fun _ _ n _ => k n)
def cpyO (x y : Operand) (st _xt : TypeId) : Oth := fun P _ fr hp nx k => optR (elemSz P st) 116 fun sz => srcX x fr fun v => srcX y fr fun w => slLen v fun n => elsK sz w hp fun m news => forceN (mnN m n) fun j => takeK news (j * sz) fun n2 => B (oneL n2)
  (onSl v (k (.int .i64 (.ofNat j)) hp nx) (fun i o _ _ => wrK hp i o n2 fun hp' => k (.int .i64 (.ofNat j)) hp' nx) (fun i o _ _ => wrK hp i o n2 fun hp' => k (.int .i64 (.ofNat j)) hp' nx)) (.er [116])
def delO (x y : Operand) (st _xt : TypeId) : Oth := fun P _ fr hp nx k => optR (mapT P st) 117 fun _ => srcX x fr fun v => srcX y fr fun w => on64 w fun n => onMap v fun i => getB hp i fun b => onMp b fun es ck => mdelK n es fun es' => setK hp i (.mp es' ck) fun hp' => k (.tup []) hp' nx
def clrO (x : Operand) (st : TypeId) : Oth := fun P _ fr hp nx k => optR (elemOfS P st) 118 fun e => optR (zC P e) 118 fun zs => srcX x fr fun v => onSl v (k (.tup []) hp nx) (fun i o n _ => B (Nat.beq n 0) (k (.tup []) hp nx) (repK n zs fun z0 => B (oneL z0) (wrK hp i o z0 fun hp' => k (.tup []) hp' nx) (.er [118]))) (fun i o n _ => B (Nat.beq n 0) (k (.tup []) hp nx) (repK n zs fun z0 => B (oneL z0) (wrK hp i o z0 fun hp' => k (.tup []) hp' nx) (.er [118])))
def two (f : Operand → Operand → TypeId → TypeId → Oth) (as : Array Operand) (ts : Array TypeId) : Oth := @List.casesOn Operand (fun _ => Oth) as.toList badO (fun x l => @List.casesOn Operand (fun _ => Oth) l badO (fun y l => @List.casesOn Operand (fun _ => Oth) l
  (@List.casesOn TypeId (fun _ => Oth) ts.toList badO (fun s l => @List.casesOn TypeId (fun _ => Oth) l badO (fun u l => @List.casesOn TypeId (fun _ => Oth) l (f x y s u) (fun _ _ => badO)))) (fun _ _ => badO)))
def one1 (f : Operand → TypeId → Oth) (as : Array Operand) (ts : Array TypeId) : Oth := @List.casesOn Operand (fun _ => Oth) as.toList badO (fun x l => @List.casesOn Operand (fun _ => Oth) l (@List.casesOn TypeId (fun _ => Oth) ts.toList badO (fun s l => @List.casesOn TypeId (fun _ => Oth) l (f x s) (fun _ _ => badO))) (fun _ _ => badO))
def blO (b : Builtin) (as : Array Operand) (ts : Array TypeId) : Oth := @Builtin.rec (fun _ => Oth) (two appO as ts) badO (one1 clrO as ts) badO badO (two cpyO as ts) (two delO as ts) badO badO badO badO badO badO badO badO badO badO badO badO badO badO badO badO badO badO badO b
/-! calls -/
def onRet (f : Nat) (r : R) (k : CV → T CB → Nat → R) : R := @R.rec (fun _ => R) (fun _ _ _ _ => .er [120]) k (fun l => .er (f :: l)) r
def callO (fo : Operand) (as : Array Operand) : Oth := fun _ cl fr hp nx k => srcX fo fr fun v => onFn v fun f fs cs => srcsX as.toList fr fun vs => appK vs cs fun l1 => appK fs l1 fun l2 => onRet f (cl f l2 hp nx) k
def othCall (c : Call) : Oth := @Callee.rec (fun _ => Oth) (fun f => callO f c.args) (fun _ _ => badO) (fun b => blO b c.args c.argTypes) c.callee
def othX (o : Op) : Oth := @Op.rec (fun _ => Oth) (fun _ => badO) (fun _ => badO) (fun _ _ _ => badO) allocO boxO (fun _ _ => badO) bslO (fun _ _ _ _ => badO) (fun _ _ => badO) storeO (fun _ => badO) (fun _ => badO) (fun _ => badO) (fun _ _ _ _ _ => badO) (fun _ _ _ => badO) convO (fun _ _ => badO) (fun _ _ => badO) (fun _ _ _ => badO) newMapO (fun _ _ => badO) mslO (fun _ _ _ _ _ => badO) (fun _ _ _ => badO) (fun _ _ _ => badO) (fun _ _ _ => badO) (fun _ _ _ => badO) lkO muO meO (fun _ => esO) rngO nxtO entO (fun _ _ _ _ => badO) (fun _ _ => badO) othCall (fun _ => badO) (fun _ => badO) (fun _ => badO) (fun _ _ => badO) (fun _ _ _ => badO) (fun _ _ => badO) o
/-- a map's length -/
def lenM (c : Call) : Program → FM → T CB → (CV → R) → R := fun P fr hp k => B (mapLen P c.argTypes) (@Callee.rec (fun _ => R) (fun _ => .er [140]) (fun _ _ => .er [140]) (fun b => @Bool.rec (fun _ => R) (.er [140]) (@List.casesOn Operand (fun _ => R) c.args.toList (.er [140]) (fun x l => @List.casesOn Operand (fun _ => R) l
  (srcX x fr fun v => onMap v fun i => getB hp i fun b => onMp b fun es _ => lenK es 0 fun n => k (.int .i64 (.ofNat n))) (fun _ _ => .er [140]))) (match b with | .len => true | _ => false)) c.callee) (.er [140])
def loadX (o : Op) : Program → FM → T CB → (CV → R) → R := @Op.rec (fun _ => Program → FM → T CB → (CV → R) → R) (fun _ _ _ _ _ => .er [121]) (fun _ _ _ _ _ => .er [121]) (fun _ _ _ _ _ _ _ => .er [121]) (fun _ _ _ _ _ => .er [121]) (fun _ _ _ _ _ _ => .er [121]) (fun _ _ _ _ _ _ => .er [121]) (fun _ _ _ _ _ _ _ => .er [121]) (fun _ _ _ _ _ _ _ _ => .er [121]) (fun t x P fr hp k => srcX x fr fun v => onPtr v fun i o => ldK P t i o hp k) (fun _ _ _ _ _ _ _ => .er [121]) (fun _ _ _ _ _ => .er [121]) (fun _ _ _ _ _ => .er [121]) (fun _ _ _ _ _ => .er [121]) (fun _ _ _ _ _ _ _ _ _ => .er [121]) (fun _ _ _ _ _ _ _ => .er [121]) (fun _ _ _ _ _ _ _ => .er [121]) (fun _ _ _ _ _ _ => .er [121]) (fun _ _ _ _ _ _ => .er [121]) (fun _ _ _ _ _ _ _ => .er [121]) (fun _ _ _ _ _ _ => .er [121]) (fun _ _ _ _ _ _ => .er [121]) (fun _ _ _ _ _ _ _ => .er [121]) (fun _ _ _ _ _ _ _ _ _ => .er [121]) (fun _ _ _ _ _ _ _ => .er [121]) (fun _ _ _ _ _ _ _ => .er [121]) (fun _ _ _ _ _ _ _ => .er [121]) (fun _ _ _ _ _ _ _ => .er [121]) (fun _ _ _ _ _ _ _ _ => .er [121]) (fun _ _ _ _ _ _ _ _ => .er [121]) (fun _ _ _ _ _ _ _ => .er [121]) (fun _ _ _ _ _ _ _ _ => .er [121]) (fun _ _ _ _ _ _ => .er [121]) (fun _ _ _ _ _ _ => .er [121]) (fun _ _ _ _ _ => .er [121]) (fun _ _ _ _ _ _ _ _ => .er [121]) (fun _ _ _ _ _ _ => .er [121]) lenM (fun _ _ _ _ _ => .er [121]) (fun _ _ _ _ _ => .er [121]) (fun _ _ _ _ _ => .er [121]) (fun _ _ _ _ _ _ => .er [121]) (fun _ _ _ _ _ _ _ => .er [121]) (fun _ _ _ _ _ _ => .er [121]) o
/-- the same value, one cell -/
def eqS (x y : CV) : Bool := match x, y with
  | .int i a, .int j b => eqK i j && eqI a b
  | .bool a, .bool b => a == b
  | .str l, .str m => l == m
  | .nilp, .nilp => true
  | .ptr i o, .ptr j p => Nat.beq i j && Nat.beq o p
  | .nils, .nils => true
  | .sl i o n k, .sl j p m l => Nat.beq i j && Nat.beq o p && Nat.beq n m && Nat.beq k l
  | .slx i o n k, .slx j p m l => Nat.beq i j && Nat.beq o p && Nat.beq n m && Nat.beq k l
  | .nilm, .nilm => true
  | .mp i, .mp j => Nat.beq i j
  | .nilf, .nilf => true
  | _, _ => false
/-- an empty slice's place may be one of two -/
def sure : CV → Bool
  | .sl _ _ n _ => Nat.blt 0 n
  | _ => true
def eqSL : List CV → List CV → Bool
  | [], [] => true
  | x :: l, y :: m => (eqS x y && sure x) && eqSL l m
  | _, _ => false
def eqV1 (x y : CV) : Bool := match x, y with
  | .agg l, .agg m => eqSL l m
  | x, y => eqS x y && sure x
/-- what is loaded in all of the last c heaps is v -/
def chkX (o : Op) (P : Program) (fr : FM) (v : CV) (hist : List (T CB)) : Nat → R → R := @List.rec (T CB) (fun _ => Nat → R → R) (fun _ r => r) (fun h _ ih c r => @Nat.rec (fun _ => R) r (fun c' _ => loadX o P fr h fun v' => B (eqV1 v v') (ih c' r) (.er [122])) c) hist
def guardX (ops : Array Oper) (g : Option (Nat × Bool)) (fr : FM) (y n : R) : R := @Option.rec (Nat × Bool) (fun _ => R) y (fun q => @Option.rec Nat (fun _ => R) n (fun d => getV fr d fun v => @CV.rec (fun _ => R) (fun _ => PUnit) (fun _ _ => n) (fun b => B (b == q.2) y n) (fun _ => n) n (fun _ _ => n) n (fun _ _ _ _ => n) (fun _ _ _ _ => n) n (fun _ => n) (fun _ _ _ _ _ => n) n (fun _ _ => n) (fun _ _ => n) n PUnit.unit (fun _ _ _ _ => PUnit.unit) v) ((ops[q.1]?).bind (·.dst))) g
/-- one operation -/
def operX (P : Program) (cl : Cl) (ops : Array Oper) (o : Oper) (c : Nat) (hist : List (T CB)) (fr : FM) (hp : T CB) (nx : Nat) (k : List (T CB) → FM → T CB → Nat → R) : R :=
  guardX ops o.guard fr (@Kd.rec (fun _ => R) (pureX o.op P fr fun v => dstX o.dst fr v fun fr' => k hist fr' hp nx) (loadX o.op P fr hp fun v => chkX o.op P fr v hist c (dstX o.dst fr v fun fr' => k hist fr' hp nx)) (othX o.op P cl fr hp nx fun v hp' nx' => dstX o.dst fr v fun fr' => k (hp :: hist) fr' hp' nx') (kd P o.op)) (dstX o.dst fr .und fun fr' => k hist fr' hp nx)
def regL (P : Program) (cl : Cl) (ops : Array Oper) (l : List Oper) : FM → T CB → Nat → R := @List.rec Oper (fun _ => FM → T CB → Nat → R) (fun fr hp nx => clrV fr fun fr => .ok 0 fr hp nx) (fun o _ ih fr hp nx => operX P cl ops o 0 [] fr hp nx fun _ fr' hp' nx' => ih fr' hp' nx') l
def regD (P : Program) (cl : Cl) (ops : Array Oper) (l : List (Nat × Nat)) : List (T CB) → FM → T CB → Nat → R := @List.rec (Nat × Nat) (fun _ => List (T CB) → FM → T CB → Nat → R) (fun _ fr hp nx => clrV fr fun fr => .ok 0 fr hp nx) (fun q _ ih hist fr hp nx => optR ops[q.1]? 123 fun o => operX P cl ops o q.2 hist fr hp nx ih) l
def eqN (l : List Nat) : List Nat → Bool := @List.rec Nat (fun _ => List Nat → Bool) (fun m => @List.rec Nat (fun _ => Bool) true (fun _ _ _ => false) m) (fun x _ ih m => @List.rec Nat (fun _ => Bool) false (fun y ys _ => @Bool.rec (fun _ => Bool) false (ih ys) (Nat.beq x y)) m) l
def eqP : List (Nat × Nat) → List (Nat × Nat) → Bool
  | [], [] => true
  | (a, b) :: l, (c, d) :: m => Nat.beq a c && Nat.beq b d && eqP l m
  | _, _ => false
def okN (o : Option (List Nat)) (l : List Nat) : Bool := @Option.rec (List Nat) (fun _ => Bool) false (fun m => eqN m l) o
def okP (o : Option (List (Nat × Nat))) (l : List (Nat × Nat)) : Bool := @Option.rec (List (Nat × Nat)) (fun _ => Bool) false (fun m => eqP m l) o
def drawOk (P : Program) (ops : Array Oper) (bl : List Nat) (l : List (Nat × Nat)) : Bool := okN (befF ops.toList [] 0) bl.reverse && okP (pairsF (canon P ops bl.toArray)) l && canonOk P ops bl.toArray l
/-- of a function: which temporaries live on; the orders of its drawn regions -/
abbrev Od := Nat × (Nat → Option (List Nat × (List (Nat × Nat) ⊕ Tr)))
/-! orders that part: both ways must end alike -/
def isCall (o : Op) : Bool := match o with
  | .call { callee := .value _, .. } => true
  | _ => false
def eqLD (f : CV → CV → Bool) : List CV → List CV → Bool
  | [], [] => true
  | x :: l, y :: m => @Bool.rec (fun _ => Bool) false (eqLD f l m) (f x y)
  | _, _ => false
def eqD : Nat → CV → CV → Bool
  | 0, _, _ => false
  | n + 1, x, y => match x, y with
    | .agg l, .agg m => eqLD (eqD n) l m
    | .tup l, .tup m => eqLD (eqD n) l m
    | .fn f l1 l2, .fn g m1 m2 => Nat.beq f g && eqLD (eqD n) l1 m1 && eqLD (eqD n) l2 m2
    | .und, .und => true
    | x, y => eqS x y
def eqM : List (Int × CV × Nat) → List (Int × CV × Nat) → Bool
  | [], [] => true
  | (a, v, b) :: l, (c, w, d) :: m => eqI a c && eqD 5 v w && Nat.beq b d && eqM l m
  | _, _ => false
def eqB (x y : CB) : Bool := match x, y with
  | .cells l e s, .cells m f t => Nat.beq e f && Nat.beq s t && eqLD (eqD 5) l m
  | .mp es c, .mp fs d => Nat.beq c d && eqM es fs
  | .it m s l a, .it n t k b => Nat.beq m n && Nat.beq s t && eqN l k && Nat.beq a b
  | .dead, .dead => true
  | _, _ => false
def eqO1 {α : Type} (f : α → α → Bool) : Option α → Option α → Bool
  | none, none => true
  | some x, some y => f x y
  | _, _ => false
def eqT {α : Type} (f : α → α → Bool) : T α → T α → Bool
  | .leaf, .leaf => true
  | .node l v r, .node m w s => @Bool.rec (fun _ => Bool) false (@Bool.rec (fun _ => Bool) false (eqT f r s) (eqT f l m)) (eqO1 f v w)
  | _, _ => false
def eqLc : Lc → Lc → Bool
  | .nil, .nil => true
  | .cons t v l, .cons u w m => Nat.beq t u && eqD 5 v w && eqLc l m
  | _, _ => false
def eqF : FM → FM → Bool
  | .mk m l t, .mk n k u => Nat.beq m n && eqLc l k && eqT (eqD 5) t u
def eqR : R → R → Bool
  | .ok e fr hp nx, .ok f gr gp ny => Nat.beq e f && Nat.beq nx ny && eqF fr gr && eqT eqB hp gp
  | _, _ => false
def regT (P : Program) (cl : Cl) (ops : Array Oper) (base : Nat) (t : Tr) : List (T CB) → FM → T CB → Nat → R := @Tr.rec (fun _ => List (T CB) → FM → T CB → Nat → R) (fun _ fr hp nx => clrV fr fun fr => .ok 0 fr hp nx)
  (fun i c _ ih hist fr hp nx => optR ops[i]? 123 fun o => B (isCall o.op) (operX P cl ops o c hist fr hp nx ih) (forceN (base + i) fun b => operX P cl ops o c hist fr hp b fun hist' fr' hp' _ => ih hist' fr' hp' nx))
  (fun _ _ x y hist fr hp nx => B (eqR (x hist fr hp nx) (y hist fr hp nx)) (x hist fr hp nx) (.er [135])) t
def treeX (P : Program) (ops : Array Oper) (bl : List Nat) (t : Tr) : Bool := okN (befF ops.toList [] 0) bl.reverse && treeOk P ops bl.toArray t
def onOk (r : R) (k : Nat → FM → T CB → Nat → R) : R := @R.rec (fun _ => R) k (fun _ _ _ => .er [124]) (fun l => .er l) r
def then0 (e : Nat) (fr : FM) (hp : T CB) (nx : Nat) (k : R) : R := @Nat.rec (fun _ => R) k (fun n _ => .ok (Nat.succ n) fr hp nx) e
def rounds (body : FM → T CB → Nat → R) (n : Nat) : FM → T CB → Nat → R := @Nat.rec (fun _ => FM → T CB → Nat → R) body (fun _ ih fr hp nx => onOk (ih fr hp nx) fun e fr1 hp1 nx1 => then0 e fr1 hp1 nx1 (ih fr1 hp1 nx1)) n
abbrev St := FM → T CB → Nat → R
/-- 0: normal; 1: ret; n + 2: exit n -/
def codeX (P : Program) (cl : Cl) (od : Od) (c : Code) : St := @Code.rec (fun _ => St) (fun fr hp nx => .ok 0 fr hp nx)
  (fun id ops d fr hp nx => @Bool.rec (fun _ => R) (regL P cl ops ops.toList fr hp nx) (optR (od.2 id) 125 fun q => @Sum.rec (List (Nat × Nat)) Tr (fun _ => R) (fun l => regD P cl ops l [] fr hp nx) (fun t => forceN (nx + ops.size) fun n1 => regT P cl ops nx t [] fr hp n1) q.2) d)
  (fun _ _ x y fr hp nx => onOk (x fr hp nx) fun e fr1 hp1 nx1 => then0 e fr1 hp1 nx1 (y fr1 hp1 nx1))
  (fun c _ _ x y fr hp nx => srcX c fr fun v => onBool v fun b => B b (x fr hp nx) (y fr hp nx))
  (fun id _ x fr hp nx => onOk (x fr hp nx) fun e fr1 hp1 nx1 => B (Nat.beq e (id + 2)) (.ok 0 fr1 hp1 nx1) (.ok e fr1 hp1 nx1))
  (fun _ x fr hp nx => onOk (rounds x 14 fr hp nx) fun e fr1 hp1 nx1 => then0 e fr1 hp1 nx1 (.er [127]))
  (fun _ _ _ _ _ _ _ _ _ => .er [128]) (fun id fr hp nx => .ok (id + 2) fr hp nx) (fun _ x => x) (fun _ fr hp nx => .ok 0 fr hp nx) (fun _ _ _ _ => .er [129]) (fun fr hp nx => .ok 1 fr hp nx) (fun _ _ _ _ => .er [130]) c
/-- the orders of a code's drawn regions hold -/
def ordOk (P : Program) (ops : Array Oper) (q : List Nat × (List (Nat × Nat) ⊕ Tr)) : Bool := @Sum.rec (List (Nat × Nat)) Tr (fun _ => Bool) (fun l => drawOk P ops q.1 l) (fun t => treeX P ops q.1 t) q.2
def chkC (P : Program) (od : Od) (c : Code) : Bool := @Code.rec (fun _ => Bool) true (fun id ops d => @Bool.rec (fun _ => Bool) true (@Option.rec _ (fun _ => Bool) true (ordOk P ops) (od.2 id)) d) (fun _ _ x y => x && y) (fun _ _ _ x y => x && y) (fun _ _ x => x) (fun _ x => x) (fun _ _ _ _ _ _ => true) (fun _ => true) (fun _ x => x) (fun _ => true) (fun _ => true) true (fun _ => true) c
def chkF (P : Program) (od : Nat → Od) (f : Nat) : Bool := match P.funcs[f]? with
  | some fn => match fn.body with
    | some c => chkC P (od f) c
    | none => true
  | none => true
def argsX (l : List CV) : Nat → FM → (FM → R) → R := @List.rec CV (fun _ => Nat → FM → (FM → R) → R) (fun _ fr k => k fr) (fun v _ ih n fr k => setV fr n v fun fr' => forceN (n + 1) fun n' => ih n' fr' k) l
def resX (P : Program) (l : List ResultVar) : FM → T CB → (List CV → R) → R := @List.rec ResultVar (fun _ => FM → T CB → (List CV → R) → R) (fun _ _ k => k [])
  (fun r _ ih fr hp k => @ResultVar.casesOn (fun _ => (CV → R) → R) r (fun t c => getV fr t c) (fun p t c => getV fr p fun v => onPtr v fun i o => ldK P t i o hp c) fun v => ih fr hp fun vs => k (v :: vs)) l
def tupK (l : List CV) (k : CV → R) : R := @List.casesOn CV (fun _ => R) l (k (.tup [])) (fun v m => @List.casesOn CV (fun _ => R) m (k v) (fun w m' => k (.tup (v :: w :: m'))))
def funX (P : Program) (od : Nat → Od) (cl : Cl) : Cl := fun f args hp nx => optR P.funcs[f]? 131 fun fn => lenK args 0 fun n => B (Nat.ble n fn.ntmps) (optR fn.body 132 fun c => argsX args 0 (.mk (od f).1 .nil .leaf) fun fr => onOk (codeX P cl (od f) c fr hp nx) fun e fr1 hp1 nx1 => B (Nat.ble e 1) (resX P fn.results.toList fr1 hp1 fun vs => tupK vs fun v => .ret v hp1 nx1) (.er [133])) (.er [134])
def runX (P : Program) (od : Nat → Od) (n : Nat) : Cl := @Nat.rec (fun _ => Cl) (fun _ _ _ _ => .er [1]) (fun _ ih => funX P od ih) n
/-- does it return true? -/
def yes (P : Program) (od : Nat → Od) (n f : Nat) : Bool := @R.rec (fun _ => Bool) (fun _ _ _ _ => false) (fun v _ _ => @CV.rec (fun _ => Bool) (fun _ => PUnit) (fun _ _ => false) (fun b => b) (fun _ => false) false (fun _ _ => false) false (fun _ _ _ _ => false) (fun _ _ _ _ => false) false (fun _ => false) (fun _ _ _ _ _ => false) false (fun _ _ => false) (fun _ _ => false) false PUnit.unit (fun _ _ _ _ => PUnit.unit) v) (fun _ => false) (runX P od n f [] .leaf 1)
end
end Go.Ex

