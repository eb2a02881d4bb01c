/- Script: digits and texts, plain: lemmas; each with the conditions that it states. -/
import Derived.Test.YtiofdmjecjcdbaaGreatDoorB0
import Derived.Test.YtiofdmjecjcdbaaGreatDoorFg

namespace Go.Proofs.YtiofdmjecjcdbaaGreatDoor
open Go Go.Proofs Go.Sl
set_option linter.unusedSimpArgs false
set_option linter.unusedVariables false
/-- a text of bytes -/
def bq (l : List UInt8) : ByteArray := ⟨l.toArray⟩
theorem bq_size (l : List UInt8) : (bq l).size = l.length := by simp [bq, ByteArray.size]
theorem bq_app (a b : List UInt8) : bq a ++ bq b = bq (a ++ b) := by
  apply ByteArray.ext
  simp [bq, ByteArray.data_append]
theorem bq_data (s : ByteArray) : bq s.data.toList = s := by
  apply ByteArray.ext
  simp [bq]
theorem data_bq (l : List UInt8) : (bq l).data.toList = l := by simp [bq]
theorem bq_inj {a b : List UInt8} (h : bq a = bq b) : a = b := by
  have := congrArg (fun s : ByteArray => s.data.toList) h
  simpa [bq] using this
/-! ### digits -/
def upF : Nat → Nat → List UInt8
  | 0, _ => []
  | k + 1, n => if n < 10 then [UInt8.ofNat (48 + n)] else upF k (n / 10) ++ [UInt8.ofNat (48 + n % 10)]
theorem upF_eq : ∀ (k k' n : Nat), n < k → n < k' → upF k n = upF k' n
  | 0, _, _, h, _ => absurd h (Nat.not_lt_zero _)
  | _ + 1, 0, _, _, h => absurd h (Nat.not_lt_zero _)
  | k + 1, k' + 1, n, h, h' => by
    unfold upF
    split
    · rfl
    · rw [upF_eq k k' (n / 10) (by omega) (by omega)]
def upL (n : Nat) : List UInt8 := upF (n + 1) n
theorem upL_lt {n : Nat} (h : n < 10) : upL n = [UInt8.ofNat (48 + n)] := by
  unfold upL upF
  rw [if_pos h]
theorem upL_ge {n : Nat} (h : 10 ≤ n) : upL n = upL (n / 10) ++ [UInt8.ofNat (48 + n % 10)] := by
  have e : upL n = upF n (n / 10) ++ [UInt8.ofNat (48 + n % 10)] := by
    show upF (n + 1) n = _
    rw [upF, if_neg (by omega)]
  rw [e]
  unfold upL
  rw [upF_eq n (n / 10 + 1) (n / 10) (by omega) (by omega)]
def isD (b : UInt8) : Prop := 48 ≤ b.toNat ∧ b.toNat ≤ 57
theorem dig_nat {n : Nat} (h : n < 10) : (UInt8.ofNat (48 + n)).toNat = 48 + n := by
  rw [UInt8.toNat_ofNat']
  omega
theorem upL_ind {p : Nat → Prop} (h0 : ∀ n, n < 10 → p n) (h1 : ∀ n, 10 ≤ n → p (n / 10) → p n) : ∀ n, p n := fun n => by
  induction n using Nat.strongRecOn with
  | _ n ih =>
    by_cases h : n < 10
    · exact h0 n h
    · exact h1 n (by omega) (ih _ (by omega))
theorem upL_dig : ∀ n, ∀ b ∈ upL n, isD b := upL_ind (fun n h b hb => by
  rw [upL_lt h, List.mem_singleton] at hb
  subst hb
  unfold isD
  rw [dig_nat h]
  omega) fun n h ih b hb => by
  rw [upL_ge h] at hb
  rcases List.mem_append.1 hb with hb | hb
  · exact ih b hb
  · rw [List.mem_singleton] at hb
    subst hb
    unfold isD
    rw [dig_nat (Nat.mod_lt _ (by decide))]
    omega
def valL (l : List UInt8) : Nat := l.foldl (fun u b => u * 10 + (b.toNat - 48)) 0
theorem valL_snoc (l : List UInt8) (b : UInt8) : valL (l ++ [b]) = valL l * 10 + (b.toNat - 48) := by simp [valL]
theorem valL_take {l : List UInt8} {j : Nat} {b : UInt8} (hb : l[j]? = some b) : valL (l.take (j + 1)) = valL (l.take j) * 10 + (b.toNat - 48) := by rw [List.take_add_one, hb]; exact valL_snoc _ _
theorem upL_val : ∀ n, valL (upL n) = n := upL_ind (fun n h => by
  rw [upL_lt h]
  show 0 * 10 + ((UInt8.ofNat (48 + n)).toNat - 48) = n
  rw [dig_nat h]
  omega) fun n h ih => by
  rw [upL_ge h, valL_snoc, ih, dig_nat (Nat.mod_lt _ (by decide))]
  omega
theorem upL_ne : ∀ n, upL n ≠ [] := fun n => by
  by_cases h : n < 10
  · rw [upL_lt h]; simp
  · rw [upL_ge (by omega)]; simp
theorem upL_len : ∀ (k n : Nat), n < 10 ^ (k + 1) → (upL n).length ≤ k + 1
  | 0, n, h => by rw [upL_lt (by simpa using h)]; simp
  | k + 1, n, h => by
    by_cases h9 : n < 10
    · rw [upL_lt h9]; simp
    · rw [upL_ge (by omega)]
      have := upL_len k (n / 10) (by rw [Nat.pow_succ] at h; omega)
      simp
      omega
theorem foldl_mono : ∀ (l : List UInt8) (a b : Nat), a ≤ b → a ≤ l.foldl (fun u b => u * 10 + (b.toNat - 48)) b
  | [], a, b, h => h
  | x :: r, a, b, h => foldl_mono r a _ (Nat.le_trans h (by show b ≤ b * 10 + (x.toNat - 48); omega))
/-- the value of a part that stands first is no greater -/
theorem valL_le (l : List UInt8) (j : Nat) : valL (l.take j) ≤ valL l := by
  have e : valL l = (l.drop j).foldl (fun u b => u * 10 + (b.toNat - 48)) (valL (l.take j)) := by
    unfold valL
    rw [← List.foldl_append, List.take_append_drop]
  rw [e]
  exact foldl_mono _ _ _ (Nat.le_refl _)
/-- a number's digits -/
def dgL (n : Int) : List UInt8 := if n < 0 then 45 :: upL (-n).toNat else upL n.toNat
theorem dgL_neg {n : Int} (h : n < 0) : dgL n = 45 :: upL (-n).toNat := if_pos h
theorem dgL_pos {n : Int} (h : 0 ≤ n) : dgL n = upL n.toNat := if_neg (by omega)
theorem upL_no45 (n : Nat) (r : List UInt8) : upL n ≠ 45 :: r := fun h => by
  have := upL_dig n 45 (by rw [h]; exact List.mem_cons_self ..)
  unfold isD at this
  exact absurd this.1 (by decide)
theorem upL_inj {m n : Nat} (h : upL m = upL n) : m = n := by rw [← upL_val m, ← upL_val n, h]
theorem dgL_inj {m n : Int} (h : dgL m = dgL n) : m = n := by
  by_cases hm : m < 0
  · by_cases hn : n < 0
    · rw [dgL_neg hm, dgL_neg hn] at h
      have := upL_inj (List.cons.inj h).2
      omega
    · rw [dgL_neg hm, dgL_pos (by omega)] at h
      exact absurd h.symm (upL_no45 _ _)
  · by_cases hn : n < 0
    · rw [dgL_pos (by omega), dgL_neg hn] at h
      exact absurd h (upL_no45 _ _)
    · rw [dgL_pos (by omega), dgL_pos (by omega)] at h
      have := upL_inj h
      omega
/-- an int -/
def inR (n : Int) : Prop := -9223372036854775808 ≤ n ∧ n ≤ 9223372036854775807
/-- which number digits are -/
noncomputable def rdI (l : List UInt8) : Option Int := open Classical in if h : ∃ n, inR n ∧ dgL n = l then some h.choose else none
theorem rdI_some {l : List UInt8} {n : Int} : rdI l = some n ↔ inR n ∧ dgL n = l := by
  unfold rdI
  constructor
  · intro h
    split at h
    · rename_i hx
      cases h
      exact hx.choose_spec
    · cases h
  · intro h
    rw [dif_pos ⟨n, h⟩]
    have := (show ∃ n, inR n ∧ dgL n = l from ⟨n, h⟩).choose_spec
    exact congrArg some (dgL_inj (this.2.trans h.2.symm))
theorem rdI_dg {n : Int} (h : inR n) : rdI (dgL n) = some n := rdI_some.2 ⟨h, rfl⟩
theorem rdI_none {l : List UInt8} (h : rdI l = none) : ∀ n, inR n → dgL n ≠ l := fun n hn he => by rw [rdI_some.2 ⟨hn, he⟩] at h; cases h
/-! ### texts -/
def hexD (n : Nat) : UInt8 := if n < 10 then UInt8.ofNat (48 + n) else UInt8.ofNat (55 + n)
def plB (c : UInt8) : Bool := (decide (97 ≤ c.toNat) && decide (c.toNat ≤ 122)) || (decide (65 ≤ c.toNat) && decide (c.toNat ≤ 90)) || (decide (48 ≤ c.toNat) && decide (c.toNat ≤ 57)) || decide (c.toNat = 45) || decide (c.toNat = 95)
def escL (c : UInt8) : List UInt8 := if plB c = true then [c] else [37, hexD (c.toNat / 16), hexD (c.toNat % 16)]
def txtL (l : List UInt8) : List UInt8 := if l = [] then [46] else l.flatMap escL
def unhex (c : UInt8) : Int := if 48 ≤ c.toNat ∧ c.toNat ≤ 57 then (c.toNat : Int) - 48 else if 65 ≤ c.toNat ∧ c.toNat ≤ 70 then (c.toNat : Int) - 55 else -1
theorem hexD_nat {n : Nat} (h : n < 16) : (hexD n).toNat = if n < 10 then 48 + n else 55 + n := by
  unfold hexD
  split <;> (rw [UInt8.toNat_ofNat']; omega)
theorem unhex_hexD {n : Nat} (h : n < 16) : unhex (hexD n) = n := by
  unfold unhex
  rw [hexD_nat h]
  split <;> (repeat' split) <;> omega
theorem hexD_unhex {c : UInt8} (h : 0 ≤ unhex c) : unhex c < 16 ∧ hexD (unhex c).toNat = c := by
  have hh : unhex c < 16 := by unfold unhex at h ⊢; split <;> (try split) <;> omega
  refine ⟨hh, UInt8.toNat_inj.1 ?_⟩
  rw [hexD_nat (by omega)]
  unfold unhex at h ⊢
  split at h
  · rename_i hc
    rw [if_pos hc]
    split <;> omega
  · split at h
    · rename_i h1 hc
      rw [if_neg h1, if_pos hc]
      split <;> omega
    · omega
theorem hexD_plain {n : Nat} (h : n < 16) : plB (hexD n) = true := by
  unfold plB
  rw [hexD_nat h]
  simp
  split <;> omega
theorem escL_len (c : UInt8) : 1 ≤ (escL c).length ∧ (escL c).length ≤ 3 := by unfold escL; split <;> simp
theorem escL_head {c : UInt8} : ∃ r, (escL c = c :: r ∧ plB c = true ∧ r = []) ∨ (escL c = 37 :: r ∧ plB c = false) := by
  unfold escL
  cases h : plB c
  · exact ⟨_, .inr ⟨rfl, rfl⟩⟩
  · exact ⟨_, .inl ⟨rfl, rfl, rfl⟩⟩
theorem pl37 : plB 37 = false := by decide
theorem pl46 : plB 46 = false := by decide
theorem esc_inj : ∀ {a b : List UInt8}, a.flatMap escL = b.flatMap escL → a = b
  | [], [], _ => rfl
  | [], y :: b, h => by
    have := (escL_len y).1
    have h2 := congrArg List.length h
    rw [List.flatMap_cons, List.length_append] at h2
    simp only [List.flatMap_nil, List.length_nil] at h2
    omega
  | x :: a, [], h => by
    have := (escL_len x).1
    have h2 := congrArg List.length h
    rw [List.flatMap_cons, List.length_append] at h2
    simp only [List.flatMap_nil, List.length_nil] at h2
    omega
  | x :: a, y :: b, h => by
    rw [List.flatMap_cons, List.flatMap_cons] at h
    unfold escL at h
    cases hx : plB x <;> cases hy : plB y <;> simp only [hx, hy, if_true, if_false, Bool.false_eq_true, List.cons_append, List.nil_append] at h
    · have h3 := (List.cons.inj (List.cons.inj (List.cons.inj h).2).2)
      have e1 := congrArg UInt8.toNat (List.cons.inj (List.cons.inj h).2).1
      have e2 := congrArg UInt8.toNat h3.1
      have q1 := x.toNat_lt
      have q2 := y.toNat_lt
      rw [hexD_nat (by omega), hexD_nat (by omega)] at e1
      rw [hexD_nat (by omega), hexD_nat (by omega)] at e2
      have e : x = y := UInt8.toNat_inj.1 (by split at e1 <;> split at e1 <;> split at e2 <;> split at e2 <;> omega)
      rw [e, esc_inj h3.2]
    · have h3 := (List.cons.inj h).1
      rw [← h3, pl37] at hy
      cases hy
    · have h3 := (List.cons.inj h).1
      rw [h3, pl37] at hx
      cases hx
    · have h3 := List.cons.inj h
      rw [h3.1, esc_inj h3.2]
theorem esc_no46 (l : List UInt8) : l.flatMap escL ≠ [46] := fun h => by
  cases l with
  | nil => cases h
  | cons x r =>
    rw [List.flatMap_cons] at h
    obtain ⟨q, ⟨h1, h2, _⟩ | ⟨h1, _⟩⟩ := escL_head (c := x)
    · rw [h1] at h
      have := (List.cons.inj h).1
      rw [this, pl46] at h2
      cases h2
    · rw [h1] at h
      exact absurd (List.cons.inj h).1 (by decide)
theorem txtL_inj {a b : List UInt8} (h : txtL a = txtL b) : a = b := by
  unfold txtL at h
  split at h
  · split at h
    · rename_i h1 h2; rw [h1, h2]
    · exact absurd h.symm (esc_no46 _)
  · split at h
    · exact absurd h (esc_no46 _)
    · exact esc_inj h
noncomputable def rdT (l : List UInt8) : Option (List UInt8) := open Classical in if h : ∃ t : List UInt8, t.length ≤ 600 ∧ txtL t = l then some h.choose else none
theorem rdT_some {l t : List UInt8} : rdT l = some t ↔ t.length ≤ 600 ∧ txtL t = l := by
  unfold rdT
  constructor
  · intro h
    split at h
    · rename_i hx
      cases h
      exact hx.choose_spec
    · cases h
  · intro h
    rw [dif_pos ⟨t, h⟩]
    have := (show ∃ t : List UInt8, t.length ≤ 600 ∧ txtL t = l from ⟨t, h⟩).choose_spec
    exact congrArg some (txtL_inj (this.2.trans h.2.symm))
theorem rdT_none {l : List UInt8} (h : rdT l = none) : ∀ t : List UInt8, t.length ≤ 600 → txtL t ≠ l := fun t ht he => by rw [rdT_some.2 ⟨ht, he⟩] at h; cases h
/-! ### parts -/
/-- a text's parts between a byte -/
def spl1 (c : UInt8) : List UInt8 → List (List UInt8)
  | [] => [[]]
  | x :: r => if x = c then [] :: spl1 c r else match spl1 c r with
    | p :: q => (x :: p) :: q
    | [] => [[x]]
theorem spl1_ne (c : UInt8) : ∀ l, spl1 c l ≠ []
  | [] => by simp [spl1]
  | x :: r => by
    unfold spl1
    split
    · simp
    · split <;> simp
/-- parts, one behind the other -/
def joi (c : UInt8) : List (List UInt8) → List UInt8
  | [] => []
  | [p] => p
  | p :: q :: r => p ++ c :: joi c (q :: r)
theorem joi_cons {c : UInt8} {p : List UInt8} {q : List (List UInt8)} (h : q ≠ []) : joi c (p :: q) = p ++ c :: joi c q := by
  cases q with
  | nil => exact absurd rfl h
  | cons a b => rfl
theorem joi_spl (c : UInt8) : ∀ l, joi c (spl1 c l) = l
  | [] => rfl
  | x :: r => by
    have ih := joi_spl c r
    have hn := spl1_ne c r
    unfold spl1
    split
    · rename_i h
      rw [joi_cons hn, ih, h]
      rfl
    · split
      · rename_i p q he
        rw [he] at ih
        cases q with
        | nil => rw [← ih]; rfl
        | cons a b => rw [← ih]; rfl
      · rename_i he; exact absurd he hn
/-- a part without the byte, and what is behind -/
theorem spl1_app {c : UInt8} : ∀ {p : List UInt8} (r : List UInt8), (∀ b ∈ p, b ≠ c) → spl1 c (p ++ c :: r) = p :: spl1 c r
  | [], r, _ => by simp [spl1]
  | x :: p, r, h => by
    have ih := spl1_app (p := p) r fun b hb => h b (List.mem_cons_of_mem _ hb)
    have hx := h x (List.mem_cons_self ..)
    show (if x = c then [] :: spl1 c (p ++ c :: r) else match spl1 c (p ++ c :: r) with | p :: q => (x :: p) :: q | [] => [[x]]) = _
    rw [if_neg hx, ih]
theorem spl1_one {c : UInt8} : ∀ {p : List UInt8}, (∀ b ∈ p, b ≠ c) → spl1 c p = [p]
  | [], _ => rfl
  | x :: p, h => by
    have ih := spl1_one (p := p) fun b hb => h b (List.mem_cons_of_mem _ hb)
    have hx := h x (List.mem_cons_self ..)
    unfold spl1
    rw [if_neg hx, ih]
theorem spl1_joi {c : UInt8} : ∀ {ps : List (List UInt8)}, ps ≠ [] → (∀ p ∈ ps, ∀ b ∈ p, b ≠ c) → spl1 c (joi c ps) = ps
  | [], h, _ => absurd rfl h
  | [p], _, h => spl1_one (h p (by simp))
  | p :: q :: r, _, h => by
    show spl1 c (p ++ c :: joi c (q :: r)) = _
    rw [spl1_app _ (h p (by simp)), spl1_joi (by simp) fun z hz => h z (List.mem_cons_of_mem _ hz)]
theorem spl1_no {c : UInt8} : ∀ {l : List UInt8}, ∀ p ∈ spl1 c l, ∀ b ∈ p, b ≠ c
  | [], p, hp, b, hb => by
    rw [show spl1 c [] = [[]] from rfl, List.mem_singleton] at hp
    subst hp
    cases hb
  | x :: r, p, hp, b, hb => by
    have ih := spl1_no (c := c) (l := r)
    unfold spl1 at hp
    split at hp
    · rcases List.mem_cons.1 hp with rfl | hp
      · cases hb
      · exact ih p hp b hb
    · rename_i hx
      split at hp
      · rename_i u v he
        rcases List.mem_cons.1 hp with rfl | hp
        · rcases List.mem_cons.1 hb with rfl | hb
          · exact hx
          · exact ih u (by rw [he]; exact List.mem_cons_self ..) b hb
        · exact ih p (by rw [he]; exact List.mem_cons_of_mem _ hp) b hb
      · rw [List.mem_singleton] at hp
        subst hp
        rw [List.mem_singleton] at hb
        subst hb
        exact hx
end Go.Proofs.YtiofdmjecjcdbaaGreatDoor

