/- Split: bytes in pieces: the law of what is kept. Split: the frames that any bytes are, piece by piece: lemmas; each with the conditions that it states. -/
import Derived.Test.YthoagholmkiknaaFh
import Derived.Test.YthoagholmkiknaaP4

namespace Go.Proofs.Ythoagholmkiknaa
open Go Go.Proofs Go.Sl
set_option maxHeartbeats 1000000
attribute [local irreducible] pF parse
theorem st_go {p : ByteArray} (h1 : 9 ≤ p.size) (h2 : hgE (p.extract 0 9) = 0) (h3 : fitsR (sL p) (sT p) (sF p) (sS p) = 0) (h4 : 9 + sL p ≤ p.size) (h5 : gE (sL p) (sT p) (sF p) (sS p) (sQ p) = 0) : stS p = none := by
  unfold stS; rw [if_neg (by omega), if_pos h2, if_pos h3, if_neg (by omega), if_pos h5]
theorem cfr_pn (p : ByteArray) : (cfr p).ps.length = (cfr p).pn ∧ (cfr p).pn < 1000000000000000 := by
  refine ⟨rfl, ?_⟩
  show (gP (sT p) (sQ p)).length < _
  rw [gP_len]
  have h1 : (sQ p).size ≤ (sL p).toNat := by unfold sQ; simp; omega
  have h2 : sL p < 16777216 := by
    unfold sL hgN
    split
    · have := (nAt_rng (p.extract 0 9) 0 3).2; simpa using this
    · omega
  split <;> omega
theorem core_pn {fs : List Fm} {srcs : List ByteArray} (h : fs.map coreF = srcs.map cfr) : ∀ z ∈ fs, z.ps.length = z.pn ∧ z.pn < 1000000000000000 := fun z hz => by
  have h1 : coreF z ∈ srcs.map cfr := by rw [← h]; exact List.mem_map_of_mem hz
  obtain ⟨p, _, hp⟩ := List.mem_map.1 h1
  have := cfr_pn p
  rw [hp] at this
  exact this
end Go.Proofs.Ythoagholmkiknaa


namespace Go.Proofs.Ythoagholmkiknaa
open Go Go.Proofs Go.Sl
set_option maxRecDepth 100000
set_option maxHeartbeats 4000000
set_option linter.unusedSimpArgs false
set_option linter.unusedVariables false
attribute [local irreducible] evG evC spl thenC inBlockC noGotoC CallT retC RetG TurnG CutG pt ro exP star sep pureP
attribute [local irreducible] ByteArray.extract nAt scanP pF parse
variable {R C : List HP} {K : Value → List HP → Prop}
theorem pF_len : ∀ (k : Nat) (a : List UInt8), a.length ≤ k → (pF a).1.length ≤ a.length := fun k => by
  induction k with
  | zero =>
    intro a h
    obtain rfl : a = [] := List.length_eq_zero_iff.1 (by omega)
    have hs : stS (bsB []) = some 0 := by unfold stS; rw [if_pos (by rw [bsB_size]; decide)]
    rw [pF_some hs]
    exact Nat.le_refl _
  | succ k ih =>
    intro a h
    cases hs : stS (bsB a) with
    | some e => rw [pF_some hs]; exact Nat.zero_le _
    | none =>
      have hd := drop_less hs
      have i1 := ih (a.drop (9 + sL (bsB a)).toNat) (by omega)
      rw [pF_none hs]
      show (pF (a.drop (9 + sL (bsB a)).toNat)).1.length + 1 ≤ a.length
      omega
end Go.Proofs.Ythoagholmkiknaa

