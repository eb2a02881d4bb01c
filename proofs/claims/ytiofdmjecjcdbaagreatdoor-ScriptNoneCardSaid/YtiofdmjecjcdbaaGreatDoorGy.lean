/- Script: digits and texts, plain. Script: acts and their lines, plain. Script: whole scripts, plain: lemmas; each with the conditions that it states. -/
import Derived.Test.YtiofdmjecjcdbaaGreatDoorB0
import Derived.Test.YtiofdmjecjcdbaaGreatDoorFg

namespace Go.Proofs.YtiofdmjecjcdbaaGreatDoor
open Go Go.Proofs Go.Sl
set_option linter.unusedSimpArgs false
set_option linter.unusedVariables false
/-- a text of bytes -/
def bq (l : List UInt8) : ByteArray := ⟨l.toArray⟩
theorem bq_size (l : List UInt8) : (bq l).size = l.length := by simp [bq, ByteArray.size]
theorem bq_app (a b : List UInt8) : bq a ++ bq b = bq (a ++ b) := by
  apply ByteArray.ext
  simp [bq, ByteArray.data_append]
theorem bq_data (s : ByteArray) : bq s.data.toList = s := by
  apply ByteArray.ext
  simp [bq]
theorem data_bq (l : List UInt8) : (bq l).data.toList = l := by simp [bq]
theorem bq_inj {a b : List UInt8} (h : bq a = bq b) : a = b := by
  have := congrArg (fun s : ByteArray => s.data.toList) h
  simpa [bq] using this
/-! ### digits -/
def upF : Nat → Nat → List UInt8
  | 0, _ => []
  | k + 1, n => if n < 10 then [UInt8.ofNat (48 + n)] else upF k (n / 10) ++ [UInt8.ofNat (48 + n % 10)]
theorem upF_eq : ∀ (k k' n : Nat), n < k → n < k' → upF k n = upF k' n
  | 0, _, _, h, _ => absurd h (Nat.not_lt_zero _)
  | _ + 1, 0, _, _, h => absurd h (Nat.not_lt_zero _)
  | k + 1, k' + 1, n, h, h' => by
    unfold upF
    split
    · rfl
    · rw [upF_eq k k' (n / 10) (by omega) (by omega)]
def upL (n : Nat) : List UInt8 := upF (n + 1) n
theorem upL_lt {n : Nat} (h : n < 10) : upL n = [UInt8.ofNat (48 + n)] := by
  unfold upL upF
  rw [if_pos h]
theorem upL_ge {n : Nat} (h : 10 ≤ n) : upL n = upL (n / 10) ++ [UInt8.ofNat (48 + n % 10)] := by
  have e : upL n = upF n (n / 10) ++ [UInt8.ofNat (48 + n % 10)] := by
    show upF (n + 1) n = _
    rw [upF, if_neg (by omega)]
  rw [e]
  unfold upL
  rw [upF_eq n (n / 10 + 1) (n / 10) (by omega) (by omega)]
def isD (b : UInt8) : Prop := 48 ≤ b.toNat ∧ b.toNat ≤ 57
theorem dig_nat {n : Nat} (h : n < 10) : (UInt8.ofNat (48 + n)).toNat = 48 + n := by
  rw [UInt8.toNat_ofNat']
  omega
theorem upL_ind {p : Nat → Prop} (h0 : ∀ n, n < 10 → p n) (h1 : ∀ n, 10 ≤ n → p (n / 10) → p n) : ∀ n, p n := fun n => by
  induction n using Nat.strongRecOn with
  | _ n ih =>
    by_cases h : n < 10
    · exact h0 n h
    · exact h1 n (by omega) (ih _ (by omega))
theorem upL_dig : ∀ n, ∀ b ∈ upL n, isD b := upL_ind (fun n h b hb => by
  rw [upL_lt h, List.mem_singleton] at hb
  subst hb
  unfold isD
  rw [dig_nat h]
  omega) fun n h ih b hb => by
  rw [upL_ge h] at hb
  rcases List.mem_append.1 hb with hb | hb
  · exact ih b hb
  · rw [List.mem_singleton] at hb
    subst hb
    unfold isD
    rw [dig_nat (Nat.mod_lt _ (by decide))]
    omega
def valL (l : List UInt8) : Nat := l.foldl (fun u b => u * 10 + (b.toNat - 48)) 0
theorem valL_snoc (l : List UInt8) (b : UInt8) : valL (l ++ [b]) = valL l * 10 + (b.toNat - 48) := by simp [valL]
theorem valL_take {l : List UInt8} {j : Nat} {b : UInt8} (hb : l[j]? = some b) : valL (l.take (j + 1)) = valL (l.take j) * 10 + (b.toNat - 48) := by rw [List.take_add_one, hb]; exact valL_snoc _ _
theorem upL_val : ∀ n, valL (upL n) = n := upL_ind (fun n h => by
  rw [upL_lt h]
  show 0 * 10 + ((UInt8.ofNat (48 + n)).toNat - 48) = n
  rw [dig_nat h]
  omega) fun n h ih => by
  rw [upL_ge h, valL_snoc, ih, dig_nat (Nat.mod_lt _ (by decide))]
  omega
theorem upL_len : ∀ (k n : Nat), n < 10 ^ (k + 1) → (upL n).length ≤ k + 1
  | 0, n, h => by rw [upL_lt (by simpa using h)]; simp
  | k + 1, n, h => by
    by_cases h9 : n < 10
    · rw [upL_lt h9]; simp
    · rw [upL_ge (by omega)]
      have := upL_len k (n / 10) (by rw [Nat.pow_succ] at h; omega)
      simp
      omega
theorem foldl_mono : ∀ (l : List UInt8) (a b : Nat), a ≤ b → a ≤ l.foldl (fun u b => u * 10 + (b.toNat - 48)) b
  | [], a, b, h => h
  | x :: r, a, b, h => foldl_mono r a _ (Nat.le_trans h (by show b ≤ b * 10 + (x.toNat - 48); omega))
/-- the value of a part that stands first is no greater -/
theorem valL_le (l : List UInt8) (j : Nat) : valL (l.take j) ≤ valL l := by
  have e : valL l = (l.drop j).foldl (fun u b => u * 10 + (b.toNat - 48)) (valL (l.take j)) := by
    unfold valL
    rw [← List.foldl_append, List.take_append_drop]
  rw [e]
  exact foldl_mono _ _ _ (Nat.le_refl _)
/-- a number's digits -/
def dgL (n : Int) : List UInt8 := if n < 0 then 45 :: upL (-n).toNat else upL n.toNat
theorem dgL_neg {n : Int} (h : n < 0) : dgL n = 45 :: upL (-n).toNat := if_pos h
theorem dgL_pos {n : Int} (h : 0 ≤ n) : dgL n = upL n.toNat := if_neg (by omega)
theorem upL_no45 (n : Nat) (r : List UInt8) : upL n ≠ 45 :: r := fun h => by
  have := upL_dig n 45 (by rw [h]; exact List.mem_cons_self ..)
  unfold isD at this
  exact absurd this.1 (by decide)
theorem upL_inj {m n : Nat} (h : upL m = upL n) : m = n := by rw [← upL_val m, ← upL_val n, h]
theorem dgL_inj {m n : Int} (h : dgL m = dgL n) : m = n := by
  by_cases hm : m < 0
  · by_cases hn : n < 0
    · rw [dgL_neg hm, dgL_neg hn] at h
      have := upL_inj (List.cons.inj h).2
      omega
    · rw [dgL_neg hm, dgL_pos (by omega)] at h
      exact absurd h.symm (upL_no45 _ _)
  · by_cases hn : n < 0
    · rw [dgL_pos (by omega), dgL_neg hn] at h
      exact absurd h (upL_no45 _ _)
    · rw [dgL_pos (by omega), dgL_pos (by omega)] at h
      have := upL_inj h
      omega
/-- an int -/
def inR (n : Int) : Prop := -9223372036854775808 ≤ n ∧ n ≤ 9223372036854775807
/-- which number digits are -/
noncomputable def rdI (l : List UInt8) : Option Int := open Classical in if h : ∃ n, inR n ∧ dgL n = l then some h.choose else none
theorem rdI_some {l : List UInt8} {n : Int} : rdI l = some n ↔ inR n ∧ dgL n = l := by
  unfold rdI
  constructor
  · intro h
    split at h
    · rename_i hx
      cases h
      exact hx.choose_spec
    · cases h
  · intro h
    rw [dif_pos ⟨n, h⟩]
    have := (show ∃ n, inR n ∧ dgL n = l from ⟨n, h⟩).choose_spec
    exact congrArg some (dgL_inj (this.2.trans h.2.symm))
theorem rdI_dg {n : Int} (h : inR n) : rdI (dgL n) = some n := rdI_some.2 ⟨h, rfl⟩
theorem rdI_none {l : List UInt8} (h : rdI l = none) : ∀ n, inR n → dgL n ≠ l := fun n hn he => by rw [rdI_some.2 ⟨hn, he⟩] at h; cases h
/-! ### texts -/
def hexD (n : Nat) : UInt8 := if n < 10 then UInt8.ofNat (48 + n) else UInt8.ofNat (55 + n)
def plB (c : UInt8) : Bool := (decide (97 ≤ c.toNat) && decide (c.toNat ≤ 122)) || (decide (65 ≤ c.toNat) && decide (c.toNat ≤ 90)) || (decide (48 ≤ c.toNat) && decide (c.toNat ≤ 57)) || decide (c.toNat = 45) || decide (c.toNat = 95)
def escL (c : UInt8) : List UInt8 := if plB c = true then [c] else [37, hexD (c.toNat / 16), hexD (c.toNat % 16)]
def txtL (l : List UInt8) : List UInt8 := if l = [] then [46] else l.flatMap escL
def unhex (c : UInt8) : Int := if 48 ≤ c.toNat ∧ c.toNat ≤ 57 then (c.toNat : Int) - 48 else if 65 ≤ c.toNat ∧ c.toNat ≤ 70 then (c.toNat : Int) - 55 else -1
theorem hexD_nat {n : Nat} (h : n < 16) : (hexD n).toNat = if n < 10 then 48 + n else 55 + n := by
  unfold hexD
  split <;> (rw [UInt8.toNat_ofNat']; omega)
theorem unhex_hexD {n : Nat} (h : n < 16) : unhex (hexD n) = n := by
  unfold unhex
  rw [hexD_nat h]
  split <;> (repeat' split) <;> omega
theorem hexD_plain {n : Nat} (h : n < 16) : plB (hexD n) = true := by
  unfold plB
  rw [hexD_nat h]
  simp
  split <;> omega
theorem escL_len (c : UInt8) : 1 ≤ (escL c).length ∧ (escL c).length ≤ 3 := by unfold escL; split <;> simp
theorem escL_head {c : UInt8} : ∃ r, (escL c = c :: r ∧ plB c = true ∧ r = []) ∨ (escL c = 37 :: r ∧ plB c = false) := by
  unfold escL
  cases h : plB c
  · exact ⟨_, .inr ⟨rfl, rfl⟩⟩
  · exact ⟨_, .inl ⟨rfl, rfl, rfl⟩⟩
theorem pl37 : plB 37 = false := by decide
theorem pl46 : plB 46 = false := by decide
theorem esc_inj : ∀ {a b : List UInt8}, a.flatMap escL = b.flatMap escL → a = b
  | [], [], _ => rfl
  | [], y :: b, h => by
    have := (escL_len y).1
    have h2 := congrArg List.length h
    rw [List.flatMap_cons, List.length_append] at h2
    simp only [List.flatMap_nil, List.length_nil] at h2
    omega
  | x :: a, [], h => by
    have := (escL_len x).1
    have h2 := congrArg List.length h
    rw [List.flatMap_cons, List.length_append] at h2
    simp only [List.flatMap_nil, List.length_nil] at h2
    omega
  | x :: a, y :: b, h => by
    rw [List.flatMap_cons, List.flatMap_cons] at h
    unfold escL at h
    cases hx : plB x <;> cases hy : plB y <;> simp only [hx, hy, if_true, if_false, Bool.false_eq_true, List.cons_append, List.nil_append] at h
    · have h3 := (List.cons.inj (List.cons.inj (List.cons.inj h).2).2)
      have e1 := congrArg UInt8.toNat (List.cons.inj (List.cons.inj h).2).1
      have e2 := congrArg UInt8.toNat h3.1
      have q1 := x.toNat_lt
      have q2 := y.toNat_lt
      rw [hexD_nat (by omega), hexD_nat (by omega)] at e1
      rw [hexD_nat (by omega), hexD_nat (by omega)] at e2
      have e : x = y := UInt8.toNat_inj.1 (by split at e1 <;> split at e1 <;> split at e2 <;> split at e2 <;> omega)
      rw [e, esc_inj h3.2]
    · have h3 := (List.cons.inj h).1
      rw [← h3, pl37] at hy
      cases hy
    · have h3 := (List.cons.inj h).1
      rw [h3, pl37] at hx
      cases hx
    · have h3 := List.cons.inj h
      rw [h3.1, esc_inj h3.2]
theorem esc_no46 (l : List UInt8) : l.flatMap escL ≠ [46] := fun h => by
  cases l with
  | nil => cases h
  | cons x r =>
    rw [List.flatMap_cons] at h
    obtain ⟨q, ⟨h1, h2, _⟩ | ⟨h1, _⟩⟩ := escL_head (c := x)
    · rw [h1] at h
      have := (List.cons.inj h).1
      rw [this, pl46] at h2
      cases h2
    · rw [h1] at h
      exact absurd (List.cons.inj h).1 (by decide)
theorem txtL_inj {a b : List UInt8} (h : txtL a = txtL b) : a = b := by
  unfold txtL at h
  split at h
  · split at h
    · rename_i h1 h2; rw [h1, h2]
    · exact absurd h.symm (esc_no46 _)
  · split at h
    · exact absurd h (esc_no46 _)
    · exact esc_inj h
noncomputable def rdT (l : List UInt8) : Option (List UInt8) := open Classical in if h : ∃ t : List UInt8, t.length ≤ 600 ∧ txtL t = l then some h.choose else none
theorem rdT_some {l t : List UInt8} : rdT l = some t ↔ t.length ≤ 600 ∧ txtL t = l := by
  unfold rdT
  constructor
  · intro h
    split at h
    · rename_i hx
      cases h
      exact hx.choose_spec
    · cases h
  · intro h
    rw [dif_pos ⟨t, h⟩]
    have := (show ∃ t : List UInt8, t.length ≤ 600 ∧ txtL t = l from ⟨t, h⟩).choose_spec
    exact congrArg some (txtL_inj (this.2.trans h.2.symm))
theorem rdT_none {l : List UInt8} (h : rdT l = none) : ∀ t : List UInt8, t.length ≤ 600 → txtL t ≠ l := fun t ht he => by rw [rdT_some.2 ⟨ht, he⟩] at h; cases h
/-! ### parts -/
/-- a text's parts between a byte -/
def spl1 (c : UInt8) : List UInt8 → List (List UInt8)
  | [] => [[]]
  | x :: r => if x = c then [] :: spl1 c r else match spl1 c r with
    | p :: q => (x :: p) :: q
    | [] => [[x]]
theorem spl1_ne (c : UInt8) : ∀ l, spl1 c l ≠ []
  | [] => by simp [spl1]
  | x :: r => by
    unfold spl1
    split
    · simp
    · split <;> simp
/-- parts, one behind the other -/
def joi (c : UInt8) : List (List UInt8) → List UInt8
  | [] => []
  | [p] => p
  | p :: q :: r => p ++ c :: joi c (q :: r)
theorem joi_cons {c : UInt8} {p : List UInt8} {q : List (List UInt8)} (h : q ≠ []) : joi c (p :: q) = p ++ c :: joi c q := by
  cases q with
  | nil => exact absurd rfl h
  | cons a b => rfl
theorem joi_spl (c : UInt8) : ∀ l, joi c (spl1 c l) = l
  | [] => rfl
  | x :: r => by
    have ih := joi_spl c r
    have hn := spl1_ne c r
    unfold spl1
    split
    · rename_i h
      rw [joi_cons hn, ih, h]
      rfl
    · split
      · rename_i p q he
        rw [he] at ih
        cases q with
        | nil => rw [← ih]; rfl
        | cons a b => rw [← ih]; rfl
      · rename_i he; exact absurd he hn
/-- a part without the byte, and what is behind -/
theorem spl1_app {c : UInt8} : ∀ {p : List UInt8} (r : List UInt8), (∀ b ∈ p, b ≠ c) → spl1 c (p ++ c :: r) = p :: spl1 c r
  | [], r, _ => by simp [spl1]
  | x :: p, r, h => by
    have ih := spl1_app (p := p) r fun b hb => h b (List.mem_cons_of_mem _ hb)
    have hx := h x (List.mem_cons_self ..)
    show (if x = c then [] :: spl1 c (p ++ c :: r) else match spl1 c (p ++ c :: r) with | p :: q => (x :: p) :: q | [] => [[x]]) = _
    rw [if_neg hx, ih]
theorem spl1_one {c : UInt8} : ∀ {p : List UInt8}, (∀ b ∈ p, b ≠ c) → spl1 c p = [p]
  | [], _ => rfl
  | x :: p, h => by
    have ih := spl1_one (p := p) fun b hb => h b (List.mem_cons_of_mem _ hb)
    have hx := h x (List.mem_cons_self ..)
    unfold spl1
    rw [if_neg hx, ih]
theorem spl1_joi {c : UInt8} : ∀ {ps : List (List UInt8)}, ps ≠ [] → (∀ p ∈ ps, ∀ b ∈ p, b ≠ c) → spl1 c (joi c ps) = ps
  | [], h, _ => absurd rfl h
  | [p], _, h => spl1_one (h p (by simp))
  | p :: q :: r, _, h => by
    show spl1 c (p ++ c :: joi c (q :: r)) = _
    rw [spl1_app _ (h p (by simp)), spl1_joi (by simp) fun z hz => h z (List.mem_cons_of_mem _ hz)]
theorem spl1_no {c : UInt8} : ∀ {l : List UInt8}, ∀ p ∈ spl1 c l, ∀ b ∈ p, b ≠ c
  | [], p, hp, b, hb => by
    rw [show spl1 c [] = [[]] from rfl, List.mem_singleton] at hp
    subst hp
    cases hb
  | x :: r, p, hp, b, hb => by
    have ih := spl1_no (c := c) (l := r)
    unfold spl1 at hp
    split at hp
    · rcases List.mem_cons.1 hp with rfl | hp
      · cases hb
      · exact ih p hp b hb
    · rename_i hx
      split at hp
      · rename_i u v he
        rcases List.mem_cons.1 hp with rfl | hp
        · rcases List.mem_cons.1 hb with rfl | hb
          · exact hx
          · exact ih u (by rw [he]; exact List.mem_cons_self ..) b hb
        · exact ih p (by rw [he]; exact List.mem_cons_of_mem _ hp) b hb
      · rw [List.mem_singleton] at hp
        subst hp
        rw [List.mem_singleton] at hb
        subst hb
        exact hx
end Go.Proofs.YtiofdmjecjcdbaaGreatDoor


namespace Go.Proofs.YtiofdmjecjcdbaaGreatDoor
open Go Go.Proofs Go.Sl
set_option linter.unusedSimpArgs false
set_option linter.unusedVariables false
structure AC where
  kd : Int
  sd : Int
  id : Int
  n : Int
  cd : Int
  s : ByteArray
  on : Int
  ww : Int
  xx : Bool
  xw : Int
  xs : Int
  xi : Int
def AC0 (k : Int) : AC := ⟨k, 0, 0, 0, 0, ⟨#[]⟩, 0, 0, false, 0, 0, 0⟩
/-- a field's text -/
def fld (a : AC) (c : UInt8) : List UInt8 :=
  if c = 115 then dgL a.sd else if c = 105 then dgL a.id else if c = 110 then dgL a.n else if c = 99 then dgL a.cd
  else if c = 116 then txtL a.s.data.toList else if c = 111 then dgL a.on else if c = 119 then dgL a.ww
  else if c = 120 then (if a.xx then [49] else [48]) else if c = 112 then dgL a.xw else if c = 113 then dgL a.xs else dgL a.xi
/-- a field laid over -/
def cpA (a : AC) (b : AC) (c : UInt8) : AC :=
  if c = 115 then { b with sd := a.sd } else if c = 105 then { b with id := a.id } else if c = 110 then { b with n := a.n } else if c = 99 then { b with cd := a.cd }
  else if c = 116 then { b with s := a.s } else if c = 111 then { b with on := a.on } else if c = 119 then { b with ww := a.ww }
  else if c = 120 then { b with xx := a.xx } else if c = 112 then { b with xw := a.xw } else if c = 113 then { b with xs := a.xs } else { b with xi := a.xi }
/-- a field set by its text -/
noncomputable def setA (a : AC) (c : UInt8) (l : List UInt8) : Option AC :=
  if c = 115 then (rdI l).map fun n => { a with sd := n }
  else if c = 105 then (rdI l).map fun n => { a with id := n }
  else if c = 110 then (rdI l).map fun n => { a with n := n }
  else if c = 99 then (rdI l).map fun n => { a with cd := n }
  else if c = 116 then (rdT l).map fun t => { a with s := bq t }
  else if c = 111 then (rdI l).map fun n => { a with on := n }
  else if c = 119 then (rdI l).map fun n => { a with ww := n }
  else if c = 120 then (rdI l).bind fun n => if n = 0 then some { a with xx := false } else if n = 1 then some { a with xx := true } else none
  else if c = 112 then (rdI l).map fun n => { a with xw := n }
  else if c = 113 then (rdI l).map fun n => { a with xs := n }
  else (rdI l).map fun n => { a with xi := n }
/-- an act whose numbers are ints, whose text is not too long -/
structure InA (a : AC) : Prop where
  sd : inR a.sd
  id : inR a.id
  n : inR a.n
  cd : inR a.cd
  on : inR a.on
  ww : inR a.ww
  xw : inR a.xw
  xs : inR a.xs
  xi : inR a.xi
def isL (c : UInt8) : Prop := c = 115 ∨ c = 105 ∨ c = 110 ∨ c = 99 ∨ c = 116 ∨ c = 111 ∨ c = 119 ∨ c = 120 ∨ c = 112 ∨ c = 113 ∨ c = 114
instance (c : UInt8) : Decidable (isL c) := by unfold isL; infer_instance
theorem dgL_one : dgL 1 = [49] := by decide
theorem dgL_zero : dgL 0 = [48] := by decide
theorem rd_bit (b : Bool) : rdI (if b then [49] else [48]) = some (if b then 1 else 0) := by
  cases b
  · exact rdI_some.2 ⟨by unfold inR; decide, dgL_zero⟩
  · exact rdI_some.2 ⟨by unfold inR; decide, dgL_one⟩
theorem set_fld {a b : AC} {c : UInt8} (hc : isL c) (ha : InA a) (hs : a.s.size ≤ 600) : setA b c (fld a c) = some (cpA a b c) := by
  obtain ⟨h1, h2, h3, h4, h5, h6, h7, h8, h9⟩ := ha
  rcases hc with rfl | rfl | rfl | rfl | rfl | rfl | rfl | rfl | rfl | rfl | rfl <;>
    simp +decide only [setA, fld, cpA, reduceIte, rdI_dg, *, Option.map_some, rd_bit, Option.bind_some]
  · rw [rdT_some.2 ⟨by simpa using hs, rfl⟩]
    simp [bq_data]
  · cases a.xx <;> simp
/-- all fields set -/
noncomputable def foldA : AC → List UInt8 → List (List UInt8) → Option AC
  | a, [], [] => some a
  | a, c :: cs, l :: ls => (setA a c l).bind fun a' => foldA a' cs ls
  | _, _, _ => none
theorem fold_fld {a : AC} (ha : InA a) (hs : a.s.size ≤ 600) : ∀ {cs : List UInt8} {b : AC}, (∀ c ∈ cs, isL c) → foldA b cs (cs.map (fld a)) = some (cs.foldl (cpA a) b)
  | [], b, _ => rfl
  | c :: cs, b, h => by
    show (setA b c (fld a c)).bind _ = _
    rw [set_fld (h c (by simp)) ha hs]
    exact fold_fld ha hs fun z hz => h z (List.mem_cons_of_mem _ hz)
theorem fold_len : ∀ {cs : List UInt8} {ls : List (List UInt8)} {a b : AC}, foldA a cs ls = some b → ls.length = cs.length
  | [], [], _, _, _ => rfl
  | [], _ :: _, _, _, h => by cases h
  | _ :: _, [], _, _, h => by cases h
  | c :: cs, l :: ls, a, b, h => by
    simp only [foldA] at h
    cases hx : setA a c l with
    | none => rw [hx] at h; cases h
    | some a' =>
      rw [hx] at h
      simp only [List.length_cons, fold_len h]
/-- two acts' same field -/
def eqF (c : UInt8) (a b : AC) : Prop :=
  if c = 115 then a.sd = b.sd else if c = 105 then a.id = b.id else if c = 110 then a.n = b.n else if c = 99 then a.cd = b.cd
  else if c = 116 then a.s = b.s else if c = 111 then a.on = b.on else if c = 119 then a.ww = b.ww
  else if c = 120 then a.xx = b.xx else if c = 112 then a.xw = b.xw else if c = 113 then a.xs = b.xs else a.xi = b.xi
theorem eqF_trans {c : UInt8} {a b d : AC} (h : eqF c a b) (h2 : eqF c b d) : eqF c a d := by
  unfold eqF at h h2 ⊢
  repeat' (split at h <;> rename_i hh <;> simp only [hh, reduceIte] at h2 ⊢)
  all_goals exact h.trans h2
theorem eqF_fld {c : UInt8} {a b : AC} (h : eqF c a b) : fld a c = fld b c := by
  unfold eqF at h
  unfold fld
  repeat' (split at h <;> rename_i hh <;> simp only [hh, reduceIte])
  all_goals rw [h]
theorem eqF_cp {c : UInt8} {a b d : AC} (h : eqF c a b) : cpA a d c = cpA b d c := by
  unfold eqF at h
  unfold cpA
  repeat' (split at h <;> rename_i hh <;> simp only [hh, reduceIte])
  all_goals rw [h]
theorem rd_two {l : List UInt8} {n : Int} (h : rdI l = some n) : dgL n = l := (rdI_some.1 h).2
theorem set_spec {a a' : AC} {c : UInt8} {l : List UInt8} (hc : isL c) (h : setA a c l = some a') : fld a' c = l ∧ cpA a' a c = a' ∧ a'.kd = a.kd ∧ ∀ d, isL d → d ≠ c → eqF d a a' := by
  rcases hc with rfl | rfl | rfl | rfl | rfl | rfl | rfl | rfl | rfl | rfl | rfl <;> simp +decide only [setA, reduceIte] at h
  case inr.inr.inr.inr.inl =>
    cases hr : rdT l with
    | none => rw [hr] at h; cases h
    | some t =>
      rw [hr] at h
      cases h
      refine ⟨?_, rfl, rfl, ?_⟩
      · simp +decide only [fld, reduceIte, data_bq]
        exact (rdT_some.1 hr).2
      · intro d hd hn
        rcases hd with rfl | rfl | rfl | rfl | rfl | rfl | rfl | rfl | rfl | rfl | rfl <;> first | exact absurd rfl hn | rfl
  case inr.inr.inr.inr.inr.inr.inr.inl =>
    cases hr : rdI l with
    | none => rw [hr] at h; cases h
    | some t =>
      rw [hr] at h
      simp only [Option.bind_some] at h
      have e := rd_two hr
      split at h
      · rename_i h0
        subst h0
        cases h
        refine ⟨?_, rfl, rfl, ?_⟩
        · rw [← e, dgL_zero]; rfl
        · intro d hd hn
          rcases hd with rfl | rfl | rfl | rfl | rfl | rfl | rfl | rfl | rfl | rfl | rfl <;> first | exact absurd rfl hn | rfl
      · split at h
        · rename_i h0
          subst h0
          cases h
          refine ⟨?_, rfl, rfl, ?_⟩
          · rw [← e, dgL_one]; rfl
          · intro d hd hn
            rcases hd with rfl | rfl | rfl | rfl | rfl | rfl | rfl | rfl | rfl | rfl | rfl <;> first | exact absurd rfl hn | rfl
        · cases h
  all_goals
    cases hr : rdI l with
    | none => rw [hr] at h; cases h
    | some t =>
      rw [hr] at h
      cases h
      have e := rd_two hr
      refine ⟨e, rfl, rfl, ?_⟩
      intro d hd hn
      rcases hd with rfl | rfl | rfl | rfl | rfl | rfl | rfl | rfl | rfl | rfl | rfl <;> first | exact absurd rfl hn | rfl
theorem fold_spec : ∀ {cs : List UInt8} {ls : List (List UInt8)} {a b : AC}, (∀ c ∈ cs, isL c) → cs.Nodup → foldA a cs ls = some b → ls = cs.map (fld b) ∧ b = cs.foldl (cpA b) a ∧ b.kd = a.kd ∧ ∀ d, isL d → d ∉ cs → eqF d a b
  | [], [], a, b, _, _, h => by
    cases h
    refine ⟨rfl, rfl, rfl, fun d hd _ => ?_⟩
    rcases hd with rfl | rfl | rfl | rfl | rfl | rfl | rfl | rfl | rfl | rfl | rfl <;> rfl
  | [], _ :: _, _, _, _, _, h => by cases h
  | _ :: _, [], _, _, _, _, h => by cases h
  | c :: cs, l :: ls, a, b, hc, hn, h => by
    simp only [foldA] at h
    cases hx : setA a c l with
    | none => rw [hx] at h; cases h
    | some a' =>
      rw [hx] at h
      have hcl := hc c (by simp)
      have hnd := List.nodup_cons.1 hn
      obtain ⟨g1, g2, g3, g4⟩ := set_spec hcl hx
      obtain ⟨k1, k2, k3, k4⟩ := fold_spec (fun z hz => hc z (List.mem_cons_of_mem _ hz)) hnd.2 h
      have hcb := k4 c hcl hnd.1
      refine ⟨?_, ?_, k3.trans g3, fun d hd hdn => ?_⟩
      · rw [List.map_cons, ← k1, ← eqF_fld hcb, g1]
      · rw [List.foldl_cons, ← eqF_cp hcb, g2]
        exact k2
      · exact eqF_trans (g4 d hd fun e => hdn (by rw [e]; simp)) (k4 d hd fun e => hdn (List.mem_cons_of_mem _ e))
/-! ### words -/
def wdN (k : Nat) : List UInt8 := match k with
  | 1 => [111, 112, 101, 110] | 2 => [111, 102, 102, 101, 114] | 3 => [102, 105, 110, 105, 115, 104] | 4 => [114, 101, 97, 100] | 5 => [105, 116, 101, 109] | 6 => [97, 115, 107] | 7 => [109, 111, 118, 101]
  | 8 => [114, 101, 115, 101, 116] | 9 => [103, 111, 97, 119, 97, 121] | 10 => [115, 101, 116, 116, 105, 110, 103, 115] | 11 => [115, 116, 101, 112] | 12 => [100, 101, 108, 105, 118, 101, 114] | 13 => [116, 105, 99, 107] | 14 => [105, 110, 106, 101, 99, 116] | _ => []
def wdF (k : Nat) : List UInt8 := match k with
  | 1 => [115, 110, 99, 111, 119, 120] | 2 => [115, 105, 116] | 3 => [115, 105] | 4 => [115, 105, 110] | 5 => [115, 105] | 6 => [115, 105, 110] | 7 => [115, 105, 111, 119, 120]
  | 8 => [115, 105, 99] | 9 => [115] | 10 => [115, 112, 113, 114] | 11 => [115] | 12 => [115, 110] | 13 => [] | 14 => [115, 116] | _ => []
theorem wd_inj : ∀ i < 15, ∀ j < 15, 1 ≤ i → wdN i = wdN j → i = j := by decide
theorem wd_no32 : ∀ i < 15, ∀ b ∈ wdN i, b ≠ 32 := by decide
theorem wdF_L : ∀ i < 15, ∀ c ∈ wdF i, isL c := by decide
theorem wdF_nd : ∀ i < 15, (wdF i).Nodup := by decide
theorem wdF_len : ∀ i < 15, (wdF i).length ≤ 6 := by decide
/-- which kind a word is, from a kind on -/
def kinF : Nat → Nat → List UInt8 → Option Nat
  | 0, _, _ => none
  | f + 1, k, l => if wdN k = l then some k else kinF f (k + 1) l
def kin (l : List UInt8) : Option Nat := kinF 14 1 l
theorem kinF_some : ∀ {f k : Nat} {l : List UInt8} {j : Nat}, kinF f k l = some j → wdN j = l ∧ k ≤ j ∧ j < k + f
  | 0, _, _, _, h => by cases h
  | f + 1, k, l, j, h => by
    unfold kinF at h
    split at h
    · cases h; rename_i e; exact ⟨e, by omega, by omega⟩
    · have := kinF_some h; exact ⟨this.1, by omega, by omega⟩
theorem kinF_none : ∀ {f k : Nat} {l : List UInt8}, kinF f k l = none → ∀ j, k ≤ j → j < k + f → wdN j ≠ l
  | 0, _, _, _, j, h1, h2 => by omega
  | f + 1, k, l, h, j, h1, h2 => by
    unfold kinF at h
    split at h
    · cases h
    · rename_i e
      by_cases hj : j = k
      · subst hj; exact e
      · exact kinF_none h j (by omega) (by omega)
theorem kin_some {l : List UInt8} {j : Nat} (h : kin l = some j) : wdN j = l ∧ 1 ≤ j ∧ j < 15 := kinF_some h
theorem kin_none {l : List UInt8} (h : kin l = none) : ∀ j, 1 ≤ j → j < 15 → wdN j ≠ l := kinF_none h
theorem kin_of {j : Nat} (h1 : 1 ≤ j) (h2 : j < 15) : kin (wdN j) = some j := by
  cases h : kin (wdN j) with
  | none => exact absurd rfl (kin_none h j h1 h2)
  | some i =>
    obtain ⟨g1, g2, g3⟩ := kin_some h
    exact congrArg some (wd_inj i g3 j h2 g2 g1)
/-- the act of a line's parts -/
noncomputable def prsP : List (List UInt8) → Option AC
  | [] => none
  | w :: ps => match kin w with
    | none => none
    | some k => foldA (AC0 k) (wdF k) ps
noncomputable def prs (l : List UInt8) : Option AC := prsP (spl1 32 l)
def lineP (a : AC) : List (List UInt8) := wdN a.kd.toNat :: (wdF a.kd.toNat).map (fld a)
def lineS (a : AC) : List UInt8 := joi 32 (lineP a)
def cano (a : AC) : AC := (wdF a.kd.toNat).foldl (cpA a) (AC0 a.kd)
def okK (a : AC) : Prop := 1 ≤ a.kd ∧ a.kd ≤ 14 ∧ a.s.size ≤ 600
theorem isD_no {b : UInt8} (h : isD b) : b ≠ 32 ∧ b ≠ 10 := ⟨fun e => by subst e; exact absurd h.1 (by decide), fun e => by subst e; exact absurd h.1 (by decide)⟩
theorem dgL_no (n : Int) : ∀ b ∈ dgL n, b ≠ 32 ∧ b ≠ 10 := fun b hb => by
  unfold dgL at hb
  split at hb
  · rcases List.mem_cons.1 hb with rfl | hb
    · decide
    · exact isD_no (upL_dig _ b hb)
  · exact isD_no (upL_dig _ b hb)
theorem plB_no {b : UInt8} (h : plB b = true) : b ≠ 32 ∧ b ≠ 10 := ⟨fun e => by subst e; exact absurd h (by decide), fun e => by subst e; exact absurd h (by decide)⟩
theorem txtL_no (l : List UInt8) : ∀ b ∈ txtL l, b ≠ 32 ∧ b ≠ 10 := fun b hb => by
  unfold txtL at hb
  split at hb
  · rw [List.mem_singleton] at hb; subst hb; decide
  · obtain ⟨c, _, hc⟩ := List.mem_flatMap.1 hb
    unfold escL at hc
    have hlt := c.toNat_lt
    split at hc
    · rename_i h
      rw [List.mem_singleton] at hc; subst hc; exact plB_no h
    · rcases List.mem_cons.1 hc with rfl | hc
      · decide
      · rcases List.mem_cons.1 hc with rfl | hc
        · exact plB_no (hexD_plain (by omega))
        · rw [List.mem_singleton] at hc
          subst hc
          exact plB_no (hexD_plain (by omega))
theorem fld_no (a : AC) (c : UInt8) : ∀ b ∈ fld a c, b ≠ 32 ∧ b ≠ 10 := by
  unfold fld
  repeat' split
  all_goals first | exact dgL_no _ | exact txtL_no _ | decide
theorem wd_no10 : ∀ i < 15, ∀ b ∈ wdN i, b ≠ 10 := by decide
theorem spl_line {a : AC} (h : okK a) : spl1 32 (lineS a) = lineP a := by
  obtain ⟨h1, h2, h3⟩ := h
  refine spl1_joi (by simp [lineP]) fun p hp b hb => ?_
  rcases List.mem_cons.1 hp with rfl | hp
  · exact wd_no32 _ (by omega) b hb
  · obtain ⟨c, _, rfl⟩ := List.mem_map.1 hp
    exact (fld_no a c b hb).1
theorem joi_no {c d : UInt8} (hd : c ≠ d) : ∀ {ps : List (List UInt8)}, (∀ p ∈ ps, ∀ b ∈ p, b ≠ d) → ∀ b ∈ joi c ps, b ≠ d
  | [], _, b, hb => by cases hb
  | [p], h, b, hb => h p (by simp) b hb
  | p :: q :: r, h, b, hb => by
    rcases List.mem_append.1 (show b ∈ p ++ c :: joi c (q :: r) from hb) with hb | hb
    · exact h p (by simp) b hb
    · rcases List.mem_cons.1 hb with rfl | hb
      · exact hd
      · exact joi_no hd (fun z hz => h z (List.mem_cons_of_mem _ hz)) b hb
theorem line_no10 {a : AC} (h : okK a) : ∀ b ∈ lineS a, b ≠ 10 := by
  obtain ⟨h1, h2, h3⟩ := h
  refine joi_no (by decide) fun p hp b hb => ?_
  rcases List.mem_cons.1 hp with rfl | hp
  · exact wd_no10 _ (by omega) b hb
  · obtain ⟨c, _, rfl⟩ := List.mem_map.1 hp
    exact (fld_no a c b hb).2
theorem prs_line {a : AC} (h : okK a) (ha : InA a) : prs (lineS a) = some (cano a) := by
  unfold prs
  rw [spl_line h]
  obtain ⟨h1, h2, h3⟩ := h
  show (match kin (wdN a.kd.toNat) with | none => none | some k => foldA (AC0 k) (wdF k) ((wdF a.kd.toNat).map (fld a))) = _
  rw [kin_of (by omega) (by omega)]
  simp only
  rw [fold_fld ha h3 (wdF_L _ (by omega))]
  unfold cano
  rw [show ((a.kd.toNat : Nat) : Int) = a.kd by omega]
theorem prs_spec {l : List UInt8} {b : AC} (h : prs l = some b) : 1 ≤ b.kd ∧ b.kd ≤ 14 ∧ lineS b = l ∧ cano b = b := by
  unfold prs at h
  cases hs : spl1 32 l with
  | nil => rw [hs] at h; cases h
  | cons w ps =>
    rw [hs] at h
    simp only [prsP] at h
    cases hk : kin w with
    | none => rw [hk] at h; cases h
    | some k =>
      rw [hk] at h
      simp only at h
      obtain ⟨g1, g2, g3⟩ := kin_some hk
      obtain ⟨k1, k2, k3, _⟩ := fold_spec (wdF_L k g3) (wdF_nd k g3) h
      have ek : b.kd = k := k3
      have en : b.kd.toNat = k := by omega
      refine ⟨by omega, by omega, ?_, ?_⟩
      · unfold lineS lineP
        rw [en, g1, ← k1, ← hs]
        exact joi_spl 32 l
      · unfold cano
        rw [en, ek, ← k2]
/-- what is read has a text of 600 at most -/
theorem set_size {a a' : AC} {c : UInt8} {l : List UInt8} (hc : isL c) (h : setA a c l = some a') (hs : a.s.size ≤ 600) : a'.s.size ≤ 600 := by
  rcases hc with rfl | rfl | rfl | rfl | rfl | rfl | rfl | rfl | rfl | rfl | rfl <;> simp +decide only [setA, reduceIte] at h
  case inr.inr.inr.inr.inl =>
    obtain ⟨n, hn, rfl⟩ := Option.map_eq_some_iff.1 h
    show (bq n).size ≤ 600
    rw [bq_size]
    exact (rdT_some.1 hn).1
  case inr.inr.inr.inr.inr.inr.inr.inl =>
    obtain ⟨n, hn, h2⟩ := Option.bind_eq_some_iff.1 h
    split at h2
    · cases h2; exact hs
    · split at h2
      · cases h2; exact hs
      · cases h2
  all_goals
    obtain ⟨n, hn, rfl⟩ := Option.map_eq_some_iff.1 h
    exact hs
theorem fold_size : ∀ {cs : List UInt8} {ls : List (List UInt8)} {a b : AC}, (∀ c ∈ cs, isL c) → foldA a cs ls = some b → a.s.size ≤ 600 → b.s.size ≤ 600
  | [], [], _, _, _, h, hs => by cases h; exact hs
  | [], _ :: _, _, _, _, h, _ => by cases h
  | _ :: _, [], _, _, _, h, _ => by cases h
  | c :: cs, l :: ls, a, b, hc, h, hs => by
    simp only [foldA] at h
    cases hx : setA a c l with
    | none => rw [hx] at h; cases h
    | some a' =>
      rw [hx] at h
      exact fold_size (fun z hz => hc z (List.mem_cons_of_mem _ hz)) h (set_size (hc c (by simp)) hx hs)
theorem prs_size {l : List UInt8} {b : AC} (h : prs l = some b) : b.s.size ≤ 600 := by
  unfold prs at h
  cases hs : spl1 32 l with
  | nil => rw [hs] at h; cases h
  | cons w ps =>
    rw [hs] at h
    simp only [prsP] at h
    cases hk : kin w with
    | none => rw [hk] at h; cases h
    | some k =>
      rw [hk] at h
      exact fold_size (wdF_L k (kin_some hk).2.2) h (show (0 : Nat) ≤ 600 by decide)
/-- an act's line -/
noncomputable def lineF (a : AC) : Option (List UInt8) := open Classical in if okK a ∧ cano a = a then some (lineS a) else none
theorem lineF_some {a : AC} {l : List UInt8} : lineF a = some l ↔ (okK a ∧ cano a = a) ∧ lineS a = l := by
  unfold lineF
  split
  · rename_i h; simp [h]
  · rename_i h
    constructor
    · intro h2; cases h2
    · intro h2; exact absurd h2.1 h
theorem line_back {a : AC} {l : List UInt8} (ha : InA a) (h : lineF a = some l) : prs l = some a := by
  obtain ⟨⟨h1, h2⟩, rfl⟩ := lineF_some.1 h
  rw [prs_line h1 ha, h2]
theorem prs_back {l : List UInt8} {b : AC} (h : prs l = some b) : lineF b = some l := by
  obtain ⟨h1, h2, h3, h4⟩ := prs_spec h
  exact lineF_some.2 ⟨⟨⟨h1, h2, prs_size h⟩, h4⟩, h3⟩
end Go.Proofs.YtiofdmjecjcdbaaGreatDoor


namespace Go.Proofs.YtiofdmjecjcdbaaGreatDoor
open Go Go.Proofs Go.Sl
set_option linter.unusedSimpArgs false
set_option linter.unusedVariables false
/-! ### what is read is in range -/
theorem inR0 : inR 0 := ⟨by decide, by decide⟩
theorem AC0_in (k : Int) : InA (AC0 k) := ⟨inR0, inR0, inR0, inR0, inR0, inR0, inR0, inR0, inR0⟩
theorem set_in {a a' : AC} {c : UInt8} {l : List UInt8} (hc : isL c) (h : setA a c l = some a') (ha : InA a) : InA a' := by
  obtain ⟨h1, h2, h3, h4, h5, h6, h7, h8, h9⟩ := ha
  rcases hc with rfl | rfl | rfl | rfl | rfl | rfl | rfl | rfl | rfl | rfl | rfl <;> simp +decide only [setA, reduceIte] at h
  case inr.inr.inr.inr.inr.inr.inr.inl =>
    obtain ⟨n, hn, h2⟩ := Option.bind_eq_some_iff.1 h
    split at h2
    · cases h2; constructor <;> assumption
    · split at h2
      · cases h2; constructor <;> assumption
      · cases h2
  case inr.inr.inr.inr.inl =>
    obtain ⟨n, hn, rfl⟩ := Option.map_eq_some_iff.1 h
    constructor <;> assumption
  all_goals
    obtain ⟨n, hn, rfl⟩ := Option.map_eq_some_iff.1 h
    have hr := (rdI_some.1 hn).1
    constructor <;> assumption
theorem fold_in : ∀ {cs : List UInt8} {ls : List (List UInt8)} {a b : AC}, (∀ c ∈ cs, isL c) → foldA a cs ls = some b → InA a → InA b
  | [], [], _, _, _, h, hs => by cases h; exact hs
  | [], _ :: _, _, _, _, h, _ => by cases h
  | _ :: _, [], _, _, _, h, _ => by cases h
  | c :: cs, l :: ls, a, b, hc, h, hs => by
    simp only [foldA] at h
    cases hx : setA a c l with
    | none => rw [hx] at h; cases h
    | some a' =>
      rw [hx] at h
      exact fold_in (fun z hz => hc z (List.mem_cons_of_mem _ hz)) h (set_in (hc c (by simp)) hx hs)
theorem prs_in {l : List UInt8} {b : AC} (h : prs l = some b) : InA b := by
  unfold prs at h
  cases hs : spl1 32 l with
  | nil => rw [hs] at h; cases h
  | cons w ps =>
    rw [hs] at h
    simp only [prsP] at h
    cases hk : kin w with
    | none => rw [hk] at h; cases h
    | some k =>
      rw [hk] at h
      exact fold_in (wdF_L k (kin_some hk).2.2) h (AC0_in _)
/-! ### heads -/
def titB : List UInt8 := [112, 97, 116, 101, 114, 110, 111, 115, 116, 101, 114]
def hdP (ns : List Int) : List (List UInt8) := titB :: ns.map dgL
def hdS (ns : List Int) : List UInt8 := joi 32 (hdP ns)
noncomputable def rdIs : List (List UInt8) → Option (List Int)
  | [] => some []
  | l :: ls => match rdI l with
    | none => none
    | some n => (rdIs ls).map (n :: ·)
theorem rdIs_some : ∀ {ls : List (List UInt8)} {ns : List Int}, rdIs ls = some ns ↔ (∀ n ∈ ns, inR n) ∧ ns.map dgL = ls
  | [], ns => by
    constructor
    · intro h; cases h; exact ⟨by simp, rfl⟩
    · intro ⟨_, h⟩
      cases ns with
      | nil => rfl
      | cons n r => cases h
  | l :: ls, ns => by
    unfold rdIs
    constructor
    · intro h
      cases hr : rdI l with
      | none => rw [hr] at h; cases h
      | some n =>
        rw [hr] at h
        obtain ⟨r, h1, rfl⟩ := Option.map_eq_some_iff.1 h
        obtain ⟨g1, g2⟩ := rdIs_some.1 h1
        obtain ⟨k1, k2⟩ := rdI_some.1 hr
        refine ⟨fun z hz => ?_, ?_⟩
        · rcases List.mem_cons.1 hz with rfl | hz
          · exact k1
          · exact g1 z hz
        · rw [List.map_cons, g2, k2]
    · intro ⟨h1, h2⟩
      cases ns with
      | nil => cases h2
      | cons n r =>
        rw [List.map_cons] at h2
        obtain ⟨e1, e2⟩ := List.cons.inj h2
        rw [rdI_some.2 ⟨h1 n (by simp), e1⟩]
        simp only
        rw [rdIs_some.2 ⟨fun z hz => h1 z (List.mem_cons_of_mem _ hz), e2⟩]
        rfl
noncomputable def rdHd (l : List UInt8) : Option (List Int) := match spl1 32 l with
  | [] => none
  | t :: ps => if t = titB ∧ ps.length = 18 then rdIs ps else none
theorem tit_no : ∀ b ∈ titB, b ≠ 32 ∧ b ≠ 10 := by decide
theorem spl_hd (ns : List Int) : spl1 32 (hdS ns) = hdP ns := by
  refine spl1_joi (by simp [hdP]) fun p hp b hb => ?_
  rcases List.mem_cons.1 hp with rfl | hp
  · exact (tit_no b hb).1
  · obtain ⟨c, _, rfl⟩ := List.mem_map.1 hp
    exact (dgL_no c b hb).1
theorem hd_no10 (ns : List Int) : ∀ b ∈ hdS ns, b ≠ 10 := by
  refine joi_no (by decide) fun p hp b hb => ?_
  rcases List.mem_cons.1 hp with rfl | hp
  · exact (tit_no b hb).2
  · obtain ⟨c, _, rfl⟩ := List.mem_map.1 hp
    exact (dgL_no c b hb).2
theorem rdHd_some {l : List UInt8} {ns : List Int} : rdHd l = some ns ↔ (ns.length = 18 ∧ ∀ n ∈ ns, inR n) ∧ hdS ns = l := by
  unfold rdHd
  constructor
  · intro h
    cases hs : spl1 32 l with
    | nil => rw [hs] at h; cases h
    | cons t ps =>
      rw [hs] at h
      simp only at h
      split at h
      · rename_i hc
        obtain ⟨g1, g2⟩ := rdIs_some.1 h
        refine ⟨⟨by rw [← hc.2, ← g2, List.length_map], g1⟩, ?_⟩
        unfold hdS hdP
        rw [g2, ← hc.1, ← hs]
        exact joi_spl 32 l
      · cases h
  · intro ⟨⟨h1, h2⟩, h3⟩
    subst h3
    rw [spl_hd]
    show (if titB = titB ∧ (ns.map dgL).length = 18 then rdIs (ns.map dgL) else none) = _
    rw [if_pos ⟨rfl, by simpa using h1⟩]
    exact rdIs_some.2 ⟨h2, rfl⟩
/-! ### scripts -/
structure PL where
  ns : List Int
  l : List AC
def PL0 : PL := ⟨[0, 0, 0, 0, 0, 0, 0, 0, 0, 0, 0, 0, 0, 0, 0, 0, 0, 0], []⟩
def lnS (a : AC) : List UInt8 := lineS a ++ [10]
def scrS (p : PL) : List UInt8 := hdS p.ns ++ 10 :: p.l.flatMap lnS
noncomputable def rdScr : Nat → PL → List (List UInt8) → PL × Nat × Int
  | i, _, [] => (PL0, i, 5)
  | i, p, [l] => if l = [] ∧ 0 < i then (p, 0, 0) else (PL0, i + 1, 5)
  | i, p, l :: m :: r => if 512 < i then (PL0, i + 1, 4) else if i = 0 then (match rdHd l with
      | none => (PL0, i + 1, 30)
      | some ns => rdScr (i + 1) ⟨ns, p.l⟩ (m :: r)) else match prs l with
      | none => (PL0, i + 1, 30)
      | some a => rdScr (i + 1) ⟨p.ns, p.l ++ [a]⟩ (m :: r)
theorem rdScr_one {i : Nat} {p : PL} {l : List UInt8} : rdScr i p [l] = if l = [] ∧ 0 < i then (p, 0, 0) else (PL0, i + 1, 5) := by
  rw [rdScr]
theorem rdScr_cons {i : Nat} {p : PL} {l : List UInt8} {r : List (List UInt8)} (hr : r ≠ []) : rdScr i p (l :: r) = if 512 < i then (PL0, i + 1, 4) else if i = 0 then (match rdHd l with
      | none => (PL0, i + 1, 30)
      | some ns => rdScr (i + 1) ⟨ns, p.l⟩ r) else match prs l with
      | none => (PL0, i + 1, 30)
      | some a => rdScr (i + 1) ⟨p.ns, p.l ++ [a]⟩ r := by
  cases r with
  | nil => exact absurd rfl hr
  | cons m r => rw [rdScr]
def okL (a : AC) : Prop := lineF a = some (lineS a) ∧ InA a
structure OkP (p : PL) : Prop where
  n18 : p.ns.length = 18
  rng : ∀ n ∈ p.ns, inR n
  most : p.l.length ≤ 512
  ok : ∀ a ∈ p.l, okL a
theorem okL_k {a : AC} (h : okL a) : okK a := (lineF_some.1 h.1).1.1
theorem rdScr_acts : ∀ {ws : List AC} {i : Nat} {p : PL}, 0 < i → i + ws.length ≤ 513 → (∀ a ∈ ws, okL a) → rdScr i p (spl1 10 (ws.flatMap lnS)) = (⟨p.ns, p.l ++ ws⟩, 0, 0)
  | [], i, p, h0, _, _ => by
    show rdScr i p [[]] = _
    rw [rdScr_one, if_pos ⟨rfl, h0⟩, List.append_nil]
  | a :: ws, i, p, h0, h1, h => by
    have ha := h a (by simp)
    rw [List.length_cons] at h1
    have e : spl1 10 ((a :: ws).flatMap lnS) = lineS a :: spl1 10 (ws.flatMap lnS) := by
      rw [List.flatMap_cons]
      show spl1 10 (lineS a ++ [10] ++ _) = _
      rw [List.append_assoc]
      exact spl1_app _ (line_no10 (okL_k ha))
    rw [e, rdScr_cons (spl1_ne 10 _), if_neg (by omega), if_neg (by omega), line_back ha.2 ha.1]
    simp only
    rw [rdScr_acts (by omega) (by omega) fun z hz => h z (List.mem_cons_of_mem _ hz)]
    simp
/-- what was printed is read as it was -/
theorem rd_scr {p : PL} (h : OkP p) : rdScr 0 PL0 (spl1 10 (scrS p)) = (p, 0, 0) := by
  unfold scrS
  rw [spl1_app _ (hd_no10 p.ns), rdScr_cons (spl1_ne 10 _), if_neg (by omega), if_pos rfl, rdHd_some.2 ⟨⟨h.n18, h.rng⟩, rfl⟩]
  simp only
  rw [rdScr_acts (by omega) (by have := h.most; omega) h.ok]
  rfl
theorem scr_acts : ∀ {ls : List (List UInt8)} {i : Nat} {p q : PL} {k : Nat}, 0 < i → ls ≠ [] → rdScr i p ls = (q, k, 0) → ∃ ws, q = ⟨p.ns, p.l ++ ws⟩ ∧ k = 0 ∧ joi 10 ls = ws.flatMap lnS ∧ i + ws.length ≤ 513 + (if ws = [] then i else 0) ∧ ∀ a ∈ ws, okL a
  | [], _, _, _, _, _, h, _ => absurd rfl h
  | [l], i, p, q, k, h0, _, h => by
    rw [rdScr_one] at h
    split at h
    · rename_i hc
      cases h
      exact ⟨[], by simp, rfl, by rw [hc.1]; rfl, by simp, by simp⟩
    · cases h
  | l :: m :: r, i, p, q, k, h0, _, h => by
    rw [rdScr_cons (by simp)] at h
    split at h
    · cases h
    · rename_i h512
      rw [if_neg (by omega)] at h
      cases hp : prs l with
      | none => rw [hp] at h; cases h
      | some a =>
        rw [hp] at h
        obtain ⟨ws, e1, e2, e3, e4, e5⟩ := scr_acts (by omega) (by simp) h
        have hl := prs_back hp
        have he : lineS a = l := (prs_spec hp).2.2.1
        refine ⟨a :: ws, by rw [e1]; simp, e2, ?_, ?_, fun z hz => ?_⟩
        · rw [joi_cons (by simp), e3, List.flatMap_cons, ← he]
          simp [lnS]
        · rw [List.length_cons, if_neg (by simp)]
          split at e4
          · rename_i h3; subst h3; simp; omega
          · omega
        · rcases List.mem_cons.1 hz with rfl | hz
          · exact ⟨by rw [he]; exact hl, prs_in hp⟩
          · exact e5 z hz
/-- what is read is printed as it was -/
theorem scr_rd {s : List UInt8} {q : PL} {k : Nat} (h : rdScr 0 PL0 (spl1 10 s) = (q, k, 0)) : k = 0 ∧ scrS q = s ∧ OkP q := by
  have hj := joi_spl 10 s
  cases hs : spl1 10 s with
  | nil => exact absurd hs (spl1_ne 10 s)
  | cons l r =>
    rw [hs] at h hj
    cases r with
    | nil =>
      rw [rdScr_one, if_neg (by omega)] at h
      cases h
    | cons m r =>
      rw [rdScr_cons (by simp), if_neg (by omega), if_pos rfl] at h
      cases hh : rdHd l with
      | none => rw [hh] at h; cases h
      | some ns =>
        rw [hh] at h
        obtain ⟨ws, e1, e2, e3, e4, e5⟩ := scr_acts (by omega) (by simp) h
        obtain ⟨⟨g1, g2⟩, g3⟩ := rdHd_some.1 hh
        have e1 : q = ⟨ns, ws⟩ := by rw [e1]; rfl
        subst e1
        refine ⟨e2, ?_, g1, g2, ?_, e5⟩
        · rw [← hj, joi_cons (by simp), e3, ← g3]
          rfl
        · show ws.length ≤ 512
          split at e4
          · rename_i h3; rw [h3]; simp
          · omega
/-- an error's number -/
theorem rd_err : ∀ {ls : List (List UInt8)} {i : Nat} {p q : PL} {k : Nat} {e : Int}, rdScr i p ls = (q, k, e) → (e = 0 ∨ (q = PL0 ∧ e ≠ 0)) ∧ k ≤ i + ls.length
  | [], _, _, _, _, _, h => by cases h; exact ⟨.inr ⟨rfl, by decide⟩, by simp⟩
  | [l], i, p, q, k, e, h => by
    rw [rdScr_one] at h
    split at h <;> cases h
    · exact ⟨.inl rfl, by simp⟩
    · exact ⟨.inr ⟨rfl, by decide⟩, by simp⟩
  | l :: m :: r, i, p, q, k, e, h => by
    rw [rdScr_cons (by simp)] at h
    rw [List.length_cons]
    split at h
    · cases h; exact ⟨.inr ⟨rfl, by decide⟩, by omega⟩
    · split at h
      · cases hh : rdHd l with
        | none => rw [hh] at h; cases h; exact ⟨.inr ⟨rfl, by decide⟩, by omega⟩
        | some ns => rw [hh] at h; have := rd_err h; exact ⟨this.1, by omega⟩
      · cases hh : prs l with
        | none => rw [hh] at h; cases h; exact ⟨.inr ⟨rfl, by decide⟩, by omega⟩
        | some ns => rw [hh] at h; have := rd_err h; exact ⟨this.1, by omega⟩
end Go.Proofs.YtiofdmjecjcdbaaGreatDoor

