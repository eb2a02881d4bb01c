/- Numbers and their bytes: plain facts: lemmas; each with the conditions that it states. -/
import Derived.Test.YthoagholmkiknaaA4

namespace Go.Proofs.Ythoagholmkiknaa
open Go Go.Proofs Go.Sl
theorem numB_cons (b : UInt8) (l : List UInt8) : numB (b :: l) = b.toNat * 256 ^ l.length + numB l := by
  have key : ∀ (l : List UInt8) (u : Int), l.foldl (fun u b => u * 256 + (b.toNat : Int)) u = u * 256 ^ l.length + numB l := by
    intro l
    induction l with
    | nil => intro u; simp [numB]
    | cons c l ih =>
      intro u
      have h2 : numB (c :: l) = l.foldl (fun u b => u * 256 + (b.toNat : Int)) (0 * 256 + c.toNat) := rfl
      rw [List.foldl_cons, ih, h2, ih, List.length_cons, Int.pow_succ, Int.add_mul, Int.zero_mul, Int.zero_add, Int.mul_assoc, Int.mul_comm 256, Int.add_assoc]
  have := key l b.toNat
  show l.foldl (fun u b => u * 256 + (b.toNat : Int)) (0 * 256 + b.toNat) = _
  rw [Int.zero_mul, Int.zero_add, this]
theorem byteI_nat (n : Int) : ((byteI n).toNat : Int) = n % 256 := by
  have := byteV_of n
  unfold byteV at this
  injection this
theorem wB_succ (n : Int) (k : Nat) : wB n (k + 1 : Nat) = byteI (n / 2 ^ (8 * k)) :: wB n (k : Nat) := by
  unfold wB
  rw [Int.toNat_natCast, Int.toNat_natCast, List.range_succ_eq_map, List.map_cons, List.map_map]
  have e1 : (8 * (((k + 1 : Nat) : Int) - 1 - ((0 : Nat) : Int))).toNat = 8 * k := by omega
  rw [e1]
  congr 1
  apply List.map_congr_left
  intro i hi
  simp only [Function.comp]
  have e2 : (8 * (((k + 1 : Nat) : Int) - 1 - ((i.succ : Nat) : Int))).toNat = (8 * ((k : Int) - 1 - (i : Int))).toNat := by omega
  rw [e2]
theorem num_wB (n : Int) : ∀ k : Nat, numB (wB n (k : Nat)) = n % 256 ^ k
  | 0 => by simp [wB, numB] <;> omega
  | k + 1 => by
    rw [wB_succ, numB_cons, num_wB n k, wB_len, byteI_nat, Int.toNat_natCast]
    have e : (2 : Int) ^ (8 * k) = 256 ^ k := by rw [Int.pow_mul]; rfl
    rw [e, Int.pow_succ]
    have hq : (0 : Int) < 256 ^ k := Int.pow_pos (by decide)
    generalize (256 : Int) ^ k = q at *
    have h1 := Int.emod_def n q
    have h2 := Int.emod_def (n / q) 256
    have h3 := Int.emod_def n (q * 256)
    rw [Int.ediv_ediv_of_nonneg (by omega)] at h2
    rw [h1, h2, h3, Int.sub_mul, Int.mul_comm (n / q) q]
    have h4 : 256 * (n / (q * 256)) * q = q * 256 * (n / (q * 256)) := by rw [Int.mul_comm q 256, Int.mul_assoc, Int.mul_assoc, Int.mul_comm q]
    rw [h4]
    omega
theorem toList_data (s : ByteArray) : s.toList = s.data.toList := by
  exact ByteArray.toList_eq s
end Go.Proofs.Ythoagholmkiknaa

