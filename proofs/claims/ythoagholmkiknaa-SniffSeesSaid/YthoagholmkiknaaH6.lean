/- Header: there and back: lemmas; each with the conditions that it states. -/
import Derived.Test.YthoagholmkiknaaFh
import Derived.Test.YthoagholmkiknaaHa

namespace Go.Proofs.Ythoagholmkiknaa
open Go Go.Proofs Go.Sl
set_option maxRecDepth 100000
set_option maxHeartbeats 4000000
set_option linter.unusedSimpArgs false
set_option linter.unusedVariables false
attribute [local irreducible] evG evC spl thenC inBlockC noGotoC CallT retC RetG TurnG CutG pt ro exP star sep pureP
variable {R C : List HP} {K : Value → List HP → Prop}
theorem nAt_list (s : ByteArray) (i j : Nat) : nAt s i j = numB ((s.data.toList.drop i).take (j - i)) := by
  unfold nAt; simp [List.extract]
theorem num_wBn {n w : Int} (hw : 0 ≤ w) (h0 : 0 ≤ n) (h1 : n < 256 ^ w.toNat) : numB (wB n w) = n := by
  obtain ⟨k, rfl⟩ : ∃ k : Nat, w = k := ⟨w.toNat, by omega⟩
  rw [num_wB, Int.emod_eq_of_lt h0 (by rwa [Int.toNat_natCast] at h1)]
theorem back1 {l t f s : Int} {b : ByteArray} (h : hOk l t f s = true) : hgE (laidH l t f s ++ b) = 0 ∧ hgN (laidH l t f s ++ b) 0 3 = l ∧ hgN (laidH l t f s ++ b) 3 4 = t ∧ hgN (laidH l t f s ++ b) 4 5 = f ∧ hgN (laidH l t f s ++ b) 5 9 = s := by
  obtain ⟨p1, p3, p4⟩ := pow256
  have hl : (laidH l t f s ++ b).data.toList = wB l 3 ++ (wB t 1 ++ (wB f 1 ++ (wB s 4 ++ b.data.toList))) := by
    rw [ByteArray.data_append, Array.toList_append, laid_list h]; simp
  have l1 := wB_len l 3
  have l2 := wB_len t 1
  have l3 := wB_len f 1
  have l4 := wB_len s 4
  rw [show (3 : Int).toNat = 3 from rfl] at l1
  rw [show (1 : Int).toNat = 1 from rfl] at l2 l3
  rw [show (4 : Int).toNat = 4 from rfl] at l4
  unfold hOk at h
  simp only [Bool.and_eq_true, decide_eq_true_eq] at h
  have n1 := num_wBn (n := l) (w := 3) (by decide) (by omega) (by rw [show (3 : Int).toNat = 3 from rfl, p3]; omega)
  have n2 := num_wBn (n := t) (w := 1) (by decide) (by omega) (by rw [show (1 : Int).toNat = 1 from rfl, p1]; omega)
  have n3 := num_wBn (n := f) (w := 1) (by decide) (by omega) (by rw [show (1 : Int).toNat = 1 from rfl, p1]; omega)
  have n4 := num_wBn (n := s) (w := 4) (by decide) (by omega) (by rw [show (4 : Int).toNat = 4 from rfl, p4]; omega)
  have a1 : nAt (laidH l t f s ++ b) 0 3 = l := by
    rw [nAt_list, hl, List.drop_zero, List.take_left' (by omega), n1]
  have a2 : nAt (laidH l t f s ++ b) 3 4 = t := by
    rw [nAt_list, hl, List.drop_left' (by omega), List.take_left' (by omega), n2]
  have a3 : nAt (laidH l t f s ++ b) 4 5 = f := by
    rw [nAt_list, hl, ← List.append_assoc, List.drop_left' (by rw [List.length_append]; omega), List.take_left' (by omega), n3]
  have a4 : nAt (laidH l t f s ++ b) 5 9 = s := by
    rw [nAt_list, hl, ← List.append_assoc, ← List.append_assoc, List.drop_left' (by rw [List.length_append, List.length_append]; omega), List.take_left' (by omega), n4]
  have hsz : (laidH l t f s ++ b).size = 9 + b.size := by
    have : (laidH l t f s ++ b).data.toList.length = (laidH l t f s ++ b).size := by simp
    rw [← this, hl]
    simp only [List.length_append, l1, l2, l3, l4]
    have : b.data.toList.length = b.size := by simp
    omega
  have he : hgE (laidH l t f s ++ b) = 0 := by
    unfold hgE
    rw [if_neg (by omega), if_neg (by rw [a4]; omega)]
  unfold hgN
  rw [he, if_pos rfl, if_pos rfl, if_pos rfl, if_pos rfl]
  exact ⟨rfl, a1, a2, a3, a4⟩
theorem nAt_rng (s : ByteArray) (i j : Nat) : 0 ≤ nAt s i j ∧ nAt s i j < 256 ^ (j - i) := by
  rw [nAt_list]
  refine ⟨numB_nn _, Int.lt_of_lt_of_le (numB_lt _) ?_⟩
  exact_mod_cast Nat.pow_le_pow_right (by decide) (by rw [List.length_take]; omega)
end Go.Proofs.Ythoagholmkiknaa

