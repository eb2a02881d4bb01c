/- Split: bytes in pieces: the law of what is kept. Split: the frames that any bytes are, piece by piece: lemmas; each with the conditions that it states. -/
import Derived.Test.YthoagholmkiknaaP6
import Derived.Test.YthoagholmkiknaaFh

namespace Go.Proofs.Ythoagholmkiknaa
open Go Go.Proofs Go.Sl
set_option maxHeartbeats 1000000
attribute [local irreducible] pF parse
theorem ext_app (a b : List UInt8) (i j : Nat) (h : j ≤ a.length) : (bsB (a ++ b)).extract i j = (bsB a).extract i j := by
  rw [← bsB_ext, ← bsB_ext]
  congr 1
  by_cases hi : i ≤ a.length
  · rw [List.drop_append_of_le_length hi, List.take_append_of_le_length (by rw [List.length_drop]; omega)]
  · rw [show j - i = 0 by omega]; simp
theorem head_app {a b : List UInt8} (h : 9 ≤ a.length) : sL (bsB (a ++ b)) = sL (bsB a) ∧ sT (bsB (a ++ b)) = sT (bsB a) ∧ sF (bsB (a ++ b)) = sF (bsB a) ∧ sS (bsB (a ++ b)) = sS (bsB a) ∧ hgE ((bsB (a ++ b)).extract 0 9) = hgE ((bsB a).extract 0 9) := by
  have e := ext_app a b 0 9 h
  unfold sL sT sF sS
  rw [e]
  exact ⟨rfl, rfl, rfl, rfl, rfl⟩
theorem tail_app {a b : List UInt8} (h : 9 ≤ a.length) (h2 : 9 + (sL (bsB a)).toNat ≤ a.length) : sQ (bsB (a ++ b)) = sQ (bsB a) := by
  unfold sQ
  rw [(head_app h).1]
  exact ext_app a b _ _ h2
theorem st_stop2 {p : ByteArray} (h1 : 9 ≤ p.size) (h2 : hgE (p.extract 0 9) ≠ 0) : stS p = some 1 := by
  unfold stS; rw [if_neg (by omega), if_neg h2]
theorem st_stop3 {p : ByteArray} (h1 : 9 ≤ p.size) (h2 : hgE (p.extract 0 9) = 0) (h3 : fitsR (sL p) (sT p) (sF p) (sS p) ≠ 0) : stS p = some (fitsR (sL p) (sT p) (sF p) (sS p)) := by
  unfold stS; rw [if_neg (by omega), if_pos h2, if_neg h3]
theorem st_stop5 {p : ByteArray} (h1 : 9 ≤ p.size) (h2 : hgE (p.extract 0 9) = 0) (h3 : fitsR (sL p) (sT p) (sF p) (sS p) = 0) (h4 : 9 + sL p ≤ p.size) (h5 : gE (sL p) (sT p) (sF p) (sS p) (sQ p) ≠ 0) : stS p = some (gE (sL p) (sT p) (sF p) (sS p) (sQ p)) := by
  unfold stS; rw [if_neg (by omega), if_pos h2, if_pos h3, if_neg (by omega), if_neg h5]
theorem st_go {p : ByteArray} (h1 : 9 ≤ p.size) (h2 : hgE (p.extract 0 9) = 0) (h3 : fitsR (sL p) (sT p) (sF p) (sS p) = 0) (h4 : 9 + sL p ≤ p.size) (h5 : gE (sL p) (sT p) (sF p) (sS p) (sQ p) = 0) : stS p = none := by
  unfold stS; rw [if_neg (by omega), if_pos h2, if_pos h3, if_neg (by omega), if_pos h5]
theorem st_mono {a b : List UInt8} {e : Int} (h : stS (bsB a) = some e) (he : e ≠ 0) : stS (bsB (a ++ b)) = some e := by
  have hs := bsB_size a
  have hs2 : (bsB (a ++ b)).size = a.length + b.length := by rw [bsB_size, List.length_append]
  rcases st_some h with ⟨q1, rfl⟩ | ⟨q1, q2, rfl⟩ | ⟨q1, q2, q3, rfl⟩ | ⟨q1, q2, q3, q4, rfl⟩ | ⟨q1, q2, q3, q4, q5, rfl⟩
  · exact absurd rfl he
  · obtain ⟨e1, e2, e3, e4, e5⟩ := head_app (b := b) (by omega : 9 ≤ a.length)
    exact st_stop2 (by omega) (by rw [e5]; exact q2)
  · obtain ⟨e1, e2, e3, e4, e5⟩ := head_app (b := b) (by omega : 9 ≤ a.length)
    rw [← e1, ← e2, ← e3, ← e4] at q3 ⊢
    exact st_stop3 (by omega) (by rw [e5]; exact q2) q3
  · exact absurd rfl he
  · obtain ⟨e1, e2, e3, e4, e5⟩ := head_app (b := b) (by omega : 9 ≤ a.length)
    have hl := fits_l q3
    have e6 := tail_app (b := b) (by omega : 9 ≤ a.length) (by omega)
    rw [← e1, ← e2, ← e3, ← e4, ← e6] at q5 ⊢
    rw [← e1, ← e2, ← e3, ← e4] at q3
    rw [← e1] at q4
    exact st_stop5 (by omega) (by rw [e5]; exact q2) q3 (by omega) q5
theorem st_keep {a b : List UInt8} (h : stS (bsB a) = none) : stS (bsB (a ++ b)) = none ∧ sL (bsB (a ++ b)) = sL (bsB a) ∧ cfr (bsB (a ++ b)) = cfr (bsB a) := by
  have hs := bsB_size a
  have hs2 : (bsB (a ++ b)).size = a.length + b.length := by rw [bsB_size, List.length_append]
  obtain ⟨g1, g2, g3, g4, g5, g6, g7⟩ := st_none h
  obtain ⟨e1, e2, e3, e4, e5⟩ := head_app (b := b) (by omega : 9 ≤ a.length)
  have e6 := tail_app (b := b) (by omega : 9 ≤ a.length) (by omega)
  refine ⟨st_go (by omega) (by rw [e5]; exact g2) (by rw [e1, e2, e3, e4]; exact g3) (by rw [e1]; omega) (by rw [e1, e2, e3, e4, e6]; exact g5), e1, ?_⟩
  unfold cfr frA
  rw [e2, e3, e4, e6]
theorem pF_app (b : List UInt8) : ∀ (k : Nat) (a : List UInt8), a.length ≤ k →
    ((pF a).2.2 = 0 → (pF (a ++ b)).1.map cfr = (pF a).1.map cfr ++ (pF ((pF a).2.1 ++ b)).1.map cfr ∧ (pF (a ++ b)).2 = (pF ((pF a).2.1 ++ b)).2) ∧
    ((pF a).2.2 ≠ 0 → (pF (a ++ b)).1.map cfr = (pF a).1.map cfr ∧ (pF (a ++ b)).2.2 = (pF a).2.2) := fun k => by
  induction k with
  | zero =>
    intro a h
    obtain rfl : a = [] := List.length_eq_zero_iff.1 (by omega)
    have hs : stS (bsB []) = some 0 := by unfold stS; rw [if_pos (by rw [bsB_size]; decide)]
    rw [pF_some hs]
    exact ⟨fun _ => ⟨by simp, rfl⟩, fun h => absurd rfl h⟩
  | succ k ih =>
    intro a h
    cases hs : stS (bsB a) with
    | some e =>
      rw [pF_some hs]
      refine ⟨fun he => ⟨by simp, rfl⟩, fun he => ?_⟩
      rw [pF_some (st_mono hs he)]
      exact ⟨rfl, rfl⟩
    | none =>
      obtain ⟨s1, s2, s3⟩ := st_keep (b := b) hs
      have hd := drop_less hs
      obtain ⟨g1, g2, g3, g4, g5, g6, g7⟩ := st_none hs
      have hsz := bsB_size a
      have hdr : (a ++ b).drop (9 + sL (bsB a)).toNat = a.drop (9 + sL (bsB a)).toNat ++ b := List.drop_append_of_le_length (by omega)
      obtain ⟨i1, i2⟩ := ih (a.drop (9 + sL (bsB a)).toNat) (by omega)
      rw [pF_none hs, pF_none s1, s2, hdr]
      refine ⟨fun he => ?_, fun he => ?_⟩
      · obtain ⟨j1, j2⟩ := i1 he
        exact ⟨by simp only [List.map_cons, j1, s3, List.cons_append], j2⟩
      · obtain ⟨j1, j2⟩ := i2 he
        exact ⟨by simp only [List.map_cons, j1, s3], j2⟩
theorem pF_rest : ∀ (k : Nat) (a : List UInt8), a.length ≤ k → stS (bsB (pF a).2.1) = some (pF a).2.2 ∧ (pF a).2.1.length ≤ a.length := fun k => by
  induction k with
  | zero =>
    intro a h
    obtain rfl : a = [] := List.length_eq_zero_iff.1 (by omega)
    have hs : stS (bsB []) = some 0 := by unfold stS; rw [if_pos (by rw [bsB_size]; decide)]
    rw [pF_some hs]
    exact ⟨hs, Nat.le_refl _⟩
  | succ k ih =>
    intro a h
    cases hs : stS (bsB a) with
    | some e => rw [pF_some hs]; exact ⟨hs, Nat.le_refl _⟩
    | none =>
      have hd := drop_less hs
      obtain ⟨i1, i2⟩ := ih (a.drop (9 + sL (bsB a)).toNat) (by omega)
      rw [pF_none hs]
      exact ⟨i1, by show (pF (a.drop (9 + sL (bsB a)).toNat)).2.1.length ≤ a.length; omega⟩
theorem kept_le {a : List UInt8} (h : (pF a).2.2 = 0) : (pF a).2.1.length ≤ 264 := by
  obtain ⟨h1, _⟩ := pF_rest a.length a (Nat.le_refl _)
  have hs := bsB_size (pF a).2.1
  rw [h] at h1
  rcases st_some h1 with ⟨q1, _⟩ | ⟨_, _, q⟩ | ⟨_, _, q3, q⟩ | ⟨q1, q2, q3, q4, _⟩ | ⟨_, _, _, _, q5, q⟩
  · omega
  · cases q
  · exact absurd q.symm q3
  · have := fits_l q3; omega
  · exact absurd q.symm q5
theorem cfr_pn (p : ByteArray) : (cfr p).ps.length = (cfr p).pn ∧ (cfr p).pn < 1000000000000000 := by
  refine ⟨rfl, ?_⟩
  show (gP (sT p) (sQ p)).length < _
  rw [gP_len]
  have h1 : (sQ p).size ≤ (sL p).toNat := by unfold sQ; simp; omega
  have h2 : sL p < 16777216 := by
    unfold sL hgN
    split
    · have := (nAt_rng (p.extract 0 9) 0 3).2; simpa using this
    · omega
  split <;> omega
theorem core_pn {fs : List Fm} {srcs : List ByteArray} (h : fs.map coreF = srcs.map cfr) : ∀ z ∈ fs, z.ps.length = z.pn ∧ z.pn < 1000000000000000 := fun z hz => by
  have h1 : coreF z ∈ srcs.map cfr := by rw [← h]; exact List.mem_map_of_mem hz
  obtain ⟨p, _, hp⟩ := List.mem_map.1 h1
  have := cfr_pn p
  rw [hp] at this
  exact this
end Go.Proofs.Ythoagholmkiknaa


namespace Go.Proofs.Ythoagholmkiknaa
open Go Go.Proofs Go.Sl
set_option maxRecDepth 100000
set_option maxHeartbeats 4000000
set_option linter.unusedSimpArgs false
set_option linter.unusedVariables false
attribute [local irreducible] evG evC spl thenC inBlockC noGotoC CallT retC RetG TurnG CutG pt ro exP star sep pureP
attribute [local irreducible] ByteArray.extract nAt scanP pF parse
variable {R C : List HP} {K : Value → List HP → Prop}
theorem pF_len : ∀ (k : Nat) (a : List UInt8), a.length ≤ k → (pF a).1.length ≤ a.length := fun k => by
  induction k with
  | zero =>
    intro a h
    obtain rfl : a = [] := List.length_eq_zero_iff.1 (by omega)
    have hs : stS (bsB []) = some 0 := by unfold stS; rw [if_pos (by rw [bsB_size]; decide)]
    rw [pF_some hs]
    exact Nat.le_refl _
  | succ k ih =>
    intro a h
    cases hs : stS (bsB a) with
    | some e => rw [pF_some hs]; exact Nat.zero_le _
    | none =>
      have hd := drop_less hs
      have i1 := ih (a.drop (9 + sL (bsB a)).toNat) (by omega)
      rw [pF_none hs]
      show (pF (a.drop (9 + sL (bsB a)).toNat)).1.length + 1 ≤ a.length
      omega
end Go.Proofs.Ythoagholmkiknaa

