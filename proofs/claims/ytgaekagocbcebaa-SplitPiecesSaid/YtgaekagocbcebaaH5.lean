/- Header: the laws: lemmas; each with the conditions that it states. -/
import Derived.Test.YtgaekagocbcebaaH3
import Derived.Test.YtgaekagocbcebaaH4

namespace Go.Proofs.Ytgaekagocbcebaa
open Go Go.Proofs Go.Sl
set_option maxRecDepth 100000
set_option maxHeartbeats 4000000
set_option linter.unusedSimpArgs false
set_option linter.unusedVariables false
attribute [local irreducible] evG evC spl thenC inBlockC noGotoC CallT retC RetG TurnG CutG pt ro exP star sep pureP
variable {R C : List HP} {K : Value → List HP → Prop}
def hgE (s : ByteArray) : Int := if s.size < 9 then 5 else if 2147483647 < nAt s 5 9 then 6 else 0
def hgN (s : ByteArray) (i j : Nat) : Int := if hgE s = 0 then nAt s i j else 0
def hgV (s : ByteArray) : Value := .tuple #[.agg #[.int .i64 (hgN s 0 3), .int .i64 (hgN s 3 4), .int .i64 (hgN s 4 5), .int .i64 (hgN s 5 9)], .int .i64 (hgE s)]
theorem hgV_eq (s : ByteArray) : hGet s = hgV s := by
  unfold hGet hgV hgN hgE
  by_cases h : s.size < 9
  · simp [h]
  · by_cases h2 : 2147483647 < nAt s 5 9
    · simp [h, h2]
    · simp [h, h2]
theorem hgetC_ok {s : ByteArray} (hK : K (.tuple #[.agg #[.int .i64 (hgN s 0 3), .int .i64 (hgN s 3 4), .int .i64 (hgN s 4 5), .int .i64 (hgN s 5 9)], .int .i64 (hgE s)]) R) : CallT Try.prog 52 #[.string s] R K := hget_ok (by rw [hgV_eq]; exact hK)
theorem rgetC_ok {s : ByteArray} (hs : s.size < 1000000000000000) (hK : K (.tuple #[.agg #[.int .i64 (hgN s 0 3), .int .i64 (hgN s 3 4), .int .i64 (hgN s 4 5), .int .i64 (hgN s 5 9)], .int .i64 (hgE s)]) R) : CallT Try.prog 39 #[.string s] R K := rget_ok hs (by rw [hgV_eq]; exact hK)
/-- a header's bytes -/
def laidH (l t f s : Int) : ByteArray := rB l 3 ++ rB t 1 ++ rB f 1 ++ rB s 4
theorem laid_list {l t f s : Int} (h : hOk l t f s = true) : (laidH l t f s).data.toList = wB l 3 ++ wB t 1 ++ wB f 1 ++ wB s 4 := by
  unfold hOk at h
  simp only [Bool.and_eq_true, decide_eq_true_eq] at h
  unfold laidH rB
  rw [if_neg (by omega), if_neg (by omega), if_neg (by omega), if_neg (by omega)]
  simp
theorem pow256 : (256 : Int) ^ (1 : Nat) = 256 ∧ (256 : Int) ^ (3 : Nat) = 16777216 ∧ (256 : Int) ^ (4 : Nat) = 4294967296 := by decide
theorem may_of {n w : Int} (hw : 0 < w ∧ w ≤ 4) : (pcMay n w = 0 ↔ (0 ≤ n ∧ n < 256 ^ w.toNat)) := by
  constructor
  · intro h; exact may_rng h hw.1
  · intro h
    unfold pcMay
    have e : (2 : Int) ^ (8 * w).toNat = 256 ^ w.toNat := by
      have : (8 * w).toNat = 8 * w.toNat := by omega
      rw [this, Int.pow_mul]; rfl
    rw [e, Int.ediv_eq_zero_of_lt h.1 h.2, if_neg (by omega), if_neg (by omega)]
theorem put_laid {l t f s : Int} : (hOk l t f s = true → hPutS l t f s = laidH l t f s ∧ hPutE l t f s = 0) ∧ (hOk l t f s = false → hPutS l t f s = ⟨#[]⟩ ∧ hPutE l t f s = 2) := by
  obtain ⟨p1, p3, p4⟩ := pow256
  have m1 := may_of (n := l) (w := 3) (by decide)
  have m2 := may_of (n := t) (w := 1) (by decide)
  have m3 := may_of (n := f) (w := 1) (by decide)
  have m4 := may_of (n := s) (w := 4) (by decide)
  rw [show (3 : Int).toNat = 3 from rfl, p3] at m1
  rw [show (1 : Int).toNat = 1 from rfl, p1] at m2 m3
  rw [show (4 : Int).toNat = 4 from rfl, p4] at m4
  have hf : firstE (hPs l t f s) = 0 ↔ (pcMay l 3 = 0 ∧ pcMay t 1 = 0 ∧ pcMay f 1 = 0 ∧ pcMay s 4 = 0) := by
    unfold hPs
    simp only [firstE]
    by_cases h1 : pcMay l 3 = 0 <;> by_cases h2 : pcMay t 1 = 0 <;> by_cases h3 : pcMay f 1 = 0 <;> by_cases h4 : pcMay s 4 = 0 <;> simp [h1, h2, h3, h4]
  constructor
  · intro h
    have hl := laid_list h
    unfold hOk at h
    simp only [Bool.and_eq_true, decide_eq_true_eq] at h
    have hz : firstE (hPs l t f s) = 0 := hf.2 ⟨m1.2 (by omega), m2.2 (by omega), m3.2 (by omega), m4.2 (by omega)⟩
    have he : layE (hPs l t f s) = 0 := by
      unfold layE
      rw [if_pos hz, if_neg]
      have : szL (hPs l t f s) 0 = 9 := by
        unfold hPs
        simp [szL, pcSize] <;> decide
      omega
    unfold hPutS hPutE
    rw [if_neg (by omega), if_neg (by omega), if_pos he]
    refine ⟨ba_ext ?_, rfl⟩
    rw [hl, (lay_size he).2.2.2]
    simp [allB, hPs, pcB]
  · intro h
    unfold hPutS hPutE
    by_cases hs : 2147483647 < s
    · rw [if_pos hs, if_pos hs]; exact ⟨rfl, rfl⟩
    · rw [if_neg hs, if_neg hs]
      have he : ¬ layE (hPs l t f s) = 0 := by
        intro he
        obtain ⟨a, b, c, d⟩ := hf.1 (lay_size he).1
        rw [m1] at a
        rw [m2] at b
        rw [m3] at c
        rw [m4] at d
        unfold hOk at h
        simp at h
        omega
      rw [if_neg he, layS_bad he]
      exact ⟨rfl, rfl⟩
end Go.Proofs.Ytgaekagocbcebaa
