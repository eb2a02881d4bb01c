/- Numbers and their bytes: plain facts: lemmas; each with the conditions that it states. -/
import Derived.Test.YtgaekagocbcebaaA4

namespace Go.Proofs.Ytgaekagocbcebaa
open Go Go.Proofs Go.Sl
theorem numB_cons (b : UInt8) (l : List UInt8) : numB (b :: l) = b.toNat * 256 ^ l.length + numB l := by
  have key : ∀ (l : List UInt8) (u : Int), l.foldl (fun u b => u * 256 + (b.toNat : Int)) u = u * 256 ^ l.length + numB l := by
    intro l
    induction l with
    | nil => intro u; simp [numB]
    | cons c l ih =>
      intro u
      have h2 : numB (c :: l) = l.foldl (fun u b => u * 256 + (b.toNat : Int)) (0 * 256 + c.toNat) := rfl
      rw [List.foldl_cons, ih, h2, ih, List.length_cons, Int.pow_succ, Int.add_mul, Int.zero_mul, Int.zero_add, Int.mul_assoc, Int.mul_comm 256, Int.add_assoc]
  have := key l b.toNat
  show l.foldl (fun u b => u * 256 + (b.toNat : Int)) (0 * 256 + b.toNat) = _
  rw [Int.zero_mul, Int.zero_add, this]
theorem bytesLess_num : ∀ (l m : List UInt8), l.length = m.length → Op.bytesLess l m = decide (numB l < numB m)
  | [], [], _ => rfl
  | [], _ :: _, h => by cases h
  | _ :: _, [], h => by cases h
  | b :: l, c :: m, h => by
    have hlen : l.length = m.length := by simpa using h
    have h1 := numB_lt l
    have h2 := numB_lt m
    have h3 := numB_nn l
    have h4 := numB_nn m
    have ih := bytesLess_num l m hlen
    rw [numB_cons, numB_cons]
    rw [hlen] at h1 ⊢
    generalize (256 : Int) ^ m.length = q at *
    unfold Op.bytesLess
    rw [ih]
    have hlt : (b < c) ↔ (b.toNat : Int) < c.toNat := by rw [UInt8.lt_iff_toNat_lt]; omega
    rcases Int.lt_trichotomy (b.toNat : Int) c.toNat with h | h | h
    · have := Int.mul_le_mul_of_nonneg_right (show (b.toNat : Int) + 1 ≤ c.toNat by omega) (show 0 ≤ q by omega)
      rw [Int.add_mul] at this
      have h5 : decide (b.toNat * q + numB l < c.toNat * q + numB m) = true := by rw [decide_eq_true_eq]; omega
      have h6 : decide (b < c) = true := by rw [decide_eq_true_eq]; exact hlt.2 h
      rw [h5, h6]; rfl
    · have hb : b = c := UInt8.toNat_inj.1 (by omega)
      subst hb
      have h6 : decide (b < b) = false := by rw [decide_eq_false_iff_not, hlt]; omega
      rw [h6, beq_self_eq_true, Bool.false_or, Bool.true_and]
      congr 1
      apply propext
      omega
    · have := Int.mul_le_mul_of_nonneg_right (show (c.toNat : Int) + 1 ≤ b.toNat by omega) (show 0 ≤ q by omega)
      rw [Int.add_mul] at this
      have h5 : decide (b.toNat * q + numB l < c.toNat * q + numB m) = false := by rw [decide_eq_false_iff_not]; omega
      have h6 : decide (b < c) = false := by rw [decide_eq_false_iff_not, hlt]; omega
      have h7 : (b == c) = false := by rw [beq_eq_false_iff_ne]; intro e; subst e; omega
      rw [h5, h6, h7]; rfl
theorem num_inj : ∀ (l m : List UInt8), l.length = m.length → numB l = numB m → l = m
  | [], [], _, _ => rfl
  | [], _ :: _, h, _ => by cases h
  | _ :: _, [], h, _ => by cases h
  | b :: l, c :: m, h, hn => by
    have hlen : l.length = m.length := by simpa using h
    have h1 := numB_lt l
    have h2 := numB_lt m
    have h3 := numB_nn l
    have h4 := numB_nn m
    rw [numB_cons, numB_cons] at hn
    rw [hlen] at h1 hn
    generalize (256 : Int) ^ m.length = q at *
    have hbc : (b.toNat : Int) = c.toNat := by
      rcases Int.lt_trichotomy (b.toNat : Int) c.toNat with h | h | h
      · have := Int.mul_le_mul_of_nonneg_right (show (b.toNat : Int) + 1 ≤ c.toNat by omega) (show 0 ≤ q by omega)
        rw [Int.add_mul] at this; omega
      · exact h
      · have := Int.mul_le_mul_of_nonneg_right (show (c.toNat : Int) + 1 ≤ b.toNat by omega) (show 0 ≤ q by omega)
        rw [Int.add_mul] at this; omega
    rw [hbc] at hn
    have hb : b = c := UInt8.toNat_inj.1 (by omega)
    rw [hb, num_inj l m hlen (by omega)]
theorem byteI_nat (n : Int) : ((byteI n).toNat : Int) = n % 256 := by
  have := byteV_of n
  unfold byteV at this
  injection this
theorem wB_succ (n : Int) (k : Nat) : wB n (k + 1 : Nat) = byteI (n / 2 ^ (8 * k)) :: wB n (k : Nat) := by
  unfold wB
  rw [Int.toNat_natCast, Int.toNat_natCast, List.range_succ_eq_map, List.map_cons, List.map_map]
  have e1 : (8 * (((k + 1 : Nat) : Int) - 1 - ((0 : Nat) : Int))).toNat = 8 * k := by omega
  rw [e1]
  congr 1
  apply List.map_congr_left
  intro i hi
  simp only [Function.comp]
  have e2 : (8 * (((k + 1 : Nat) : Int) - 1 - ((i.succ : Nat) : Int))).toNat = (8 * ((k : Int) - 1 - (i : Int))).toNat := by omega
  rw [e2]
theorem num_wB (n : Int) : ∀ k : Nat, numB (wB n (k : Nat)) = n % 256 ^ k
  | 0 => by simp [wB, numB] <;> omega
  | k + 1 => by
    rw [wB_succ, numB_cons, num_wB n k, wB_len, byteI_nat, Int.toNat_natCast]
    have e : (2 : Int) ^ (8 * k) = 256 ^ k := by rw [Int.pow_mul]; rfl
    rw [e, Int.pow_succ]
    have hq : (0 : Int) < 256 ^ k := Int.pow_pos (by decide)
    generalize (256 : Int) ^ k = q at *
    have h1 := Int.emod_def n q
    have h2 := Int.emod_def (n / q) 256
    have h3 := Int.emod_def n (q * 256)
    rw [Int.ediv_ediv_of_nonneg (by omega)] at h2
    rw [h1, h2, h3, Int.sub_mul, Int.mul_comm (n / q) q]
    have h4 : 256 * (n / (q * 256)) * q = q * 256 * (n / (q * 256)) := by rw [Int.mul_comm q 256, Int.mul_assoc, Int.mul_assoc, Int.mul_comm q]
    rw [h4]
    omega
theorem toList_data (s : ByteArray) : s.toList = s.data.toList := by
  exact ByteArray.toList_eq s
end Go.Proofs.Ytgaekagocbcebaa
