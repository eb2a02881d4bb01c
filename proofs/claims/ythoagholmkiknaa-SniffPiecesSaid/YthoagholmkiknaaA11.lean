/- Octet: reading, case by case: lemmas; each with the conditions that it states. -/
import Derived.Test.YthoagholmkiknaaA7

namespace Go.Proofs.Ythoagholmkiknaa
open Go Go.Proofs Go.Sl
set_option maxRecDepth 100000
set_option maxHeartbeats 4000000
set_option linter.unusedSimpArgs false
set_option linter.unusedVariables false
attribute [local irreducible] evG evC spl thenC inBlockC noGotoC CallT retC RetG TurnG CutG pt ro exP star sep pureP
variable {R C : List HP} {K : Value → List HP → Prop}
theorem ba_ext {s t : ByteArray} (h : s.data.toList = t.data.toList) : s = t := by
  apply ByteArray.ext; exact Array.toList_inj.1 h
theorem may_rng {n w : Int} (h : pcMay n w = 0) (hw : 0 < w) : 0 ≤ n ∧ n < 256 ^ w.toNat := by
  have h4 := pcMay_w h
  have h2 : 0 ≤ n ∧ ¬ 0 < n / 2 ^ (8 * w).toNat := by
    unfold pcMay at h
    split at h
    · cases h
    · split at h
      · cases h
      · omega
  refine ⟨h2.1, ?_⟩
  have e : (2 : Int) ^ (8 * w).toNat = 256 ^ w.toNat := by
    have : (8 * w).toNat = 8 * w.toNat := by omega
    rw [this, Int.pow_mul]; rfl
  rw [e] at h2
  have hq : (0 : Int) < 256 ^ w.toNat := Int.pow_pos (by decide)
  generalize (256 : Int) ^ w.toNat = q at *
  have h3 := Int.emod_lt_of_pos n hq
  have h4 := Int.emod_def n q
  have h5 : n / q = 0 := by
    have : 0 ≤ n / q := Int.ediv_nonneg h2.1 (by omega)
    omega
  rw [h5] at h4
  omega
theorem restY_ok {p : Nat} {s : ByteArray} {bad : Bool} (h : takeOk s.size s bad = true) (hK : K (.string (takeS s.size s bad)) (scanP p (takeR s.size s bad) false :: R)) : CallT Try.prog 78 #[.pointer (some ⟨p, 0, none⟩)] (scanP p s bad :: R) K := by
  refine rest_ok ?_
  rw [h]; exact hK
theorem UY_ok {p : Nat} {n : Int} {s : ByteArray} {bad : Bool} (h : takeOk (uW n) s bad = true) (hK : K (.int .i64 (uN n s bad)) (scanP p (takeR (uW n) s bad) false :: R)) : CallT Try.prog 62 #[.pointer (some ⟨p, 0, none⟩), .int .i64 n] (scanP p s bad :: R) K := by
  refine U_ok ?_
  rw [h]; exact hK
theorem UX_ok {p : Nat} {n : Int} {s : ByteArray} {bad : Bool} (h : takeOk (uW n) s bad = false) (hK : K (.int .i64 0) (scanP p s true :: R)) : CallT Try.prog 62 #[.pointer (some ⟨p, 0, none⟩), .int .i64 n] (scanP p s bad :: R) K := by
  refine U_ok ?_
  unfold uN takeS takeR
  rw [h]; exact hK
theorem sc_take {s : ByteArray} {at_ n : Int} (h0 : 0 ≤ at_) (h1 : 0 ≤ n) (h2 : at_ + n ≤ s.size) : takeOk n (s.extract at_.toNat s.size) false = true ∧ takeS n (s.extract at_.toNat s.size) false = s.extract at_.toNat (at_ + n).toNat ∧ takeR n (s.extract at_.toNat s.size) false = s.extract (at_ + n).toNat s.size := by
  have hok : takeOk n (s.extract at_.toNat s.size) false = true := by
    unfold takeOk
    simp
    omega
  refine ⟨hok, ?_, ?_⟩
  · unfold takeS
    rw [hok]
    apply ba_ext
    simp
    congr 1
    omega
  · unfold takeR
    rw [hok]
    apply ba_ext
    simp
    have e : at_.toNat + n.toNat = (at_ + n).toNat := by omega
    rw [e]
    congr 1
    omega
theorem sc_no {u : ByteArray} {n : Int} {bad : Bool} (h : bad = true ∨ n < 0 ∨ u.size < n) : takeOk n u bad = false := by
  unfold takeOk
  rcases h with rfl | h | h
  · rfl
  · simp; intro; omega
  · simp; intro; omega
end Go.Proofs.Ythoagholmkiknaa

