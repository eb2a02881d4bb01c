/- Sniff: a frame with data, or that grants, is split as it was laid: lemmas; each with the conditions that it states. -/
import Derived.Test.YthoagholmkiknaaFh
import Derived.Test.YthoagholmkiknaaPb
import Derived.Test.YthoagholmkiknaaFg

namespace Go.Proofs.Ythoagholmkiknaa
open Go Go.Proofs Go.Sl
set_option maxRecDepth 100000
set_option maxHeartbeats 4000000
set_option linter.unusedSimpArgs false
set_option linter.unusedVariables false
attribute [local irreducible] evG evC spl thenC inBlockC noGotoC CallT retC RetG TurnG CutG pt ro exP star sep pureP
attribute [local irreducible] ByteArray.extract scanP
variable {R C : List HP} {K : Value → List HP → Prop}
theorem ext_front {a b : ByteArray} {n : Nat} (h : a.size = n) : (a ++ b).extract 0 n = a ++ ⟨#[]⟩ := by
  subst h
  apply ba_ext
  unfold ByteArray.extract
  simp [ByteArray.copySlice]
  exact List.take_of_length_le (Nat.le_of_eq Array.length_toList)
theorem ext_back {a b : ByteArray} {n m : Nat} (h : a.size = n) (hm : b.size = m) : (a ++ b).extract n (n + m) = b := by
  subst h
  subst hm
  apply ba_ext
  simp
  have h1 : List.drop a.size a.data.toList = [] := List.drop_of_length_le (Nat.le_of_eq Array.length_toList)
  rw [h1, List.take_nil, List.nil_append]
  exact List.take_of_length_le (Nat.le_of_eq Array.length_toList)
/-- frames of data and of grants -/
def dataT (t : Int) : Prop := t = 0 ∨ t = 1 ∨ t = 10 ∨ t = 11
section
variable {t st : Int} {e : Bool} {d : ByteArray} {k on w : Int} {x : Bool} {c la n : Int} {ps : List Pr}
theorem right_bare (h : RightP t st e d k on w x c la n ps) (ht : dataT t) : k = 0 ∧ on = 0 ∧ w = 0 ∧ x = false ∧ c = 0 ∧ la = 0 ∧ ps = [] ∧ (t ≤ 1 → n = 0) ∧ (10 ≤ t → d = ⟨#[]⟩) ∧ 0 ≤ n ∧ n ≤ 2147483647 ∧ (10 ≤ t → e = false) := by
  obtain ⟨h1, h2, h3, h4, h5, h6, h7, h8, h9, h10, h11, h12, h13, h14, h15, h16, h17, h18, h19, h20, h21⟩ := h
  unfold dataT at ht
  have hn := (n31_iff n).1 h20
  have hb : noneB on w x = true := by
    cases hx : noneB on w x with
    | true => rfl
    | false => have := h11 hx; omega
  obtain ⟨b1, b2, b3⟩ := (none_iff on w x).1 hb
  refine ⟨?_, b1, b2, b3, ?_, ?_, ?_, fun h => ?_, fun h => ?_, hn.1, hn.2, fun h => ?_⟩
  · by_cases hk : k = 0
    · exact hk
    · have := h6 hk; omega
  · by_cases hk : c = 0
    · exact hk
    · have := h7 hk; omega
  · by_cases hk : la = 0
    · exact hk
    · have := h8 hk; omega
  · by_cases hk : 0 < ps.length
    · have := h10 hk; omega
    · exact List.length_eq_zero_iff.1 (by omega)
  · by_cases hk : n = 0
    · exact hk
    · have := h9 hk; omega
  · rw [size0]
    by_cases hk : 0 < d.size
    · have := h12 hk; omega
    · omega
  · cases e with
    | false => rfl
    | true => have := h5 rfl; omega
/-- what its bytes are -/
theorem pay_data (h : RightP t st e d k on w x c la n ps) (ht : dataT t) : payL t d k on w x c la n ps = if t ≤ 1 then d.data.toList else wB n 4 := by
  obtain ⟨b1, b2, b3, b4, b5, b6, b7, b8, b9, _⟩ := right_bare h ht
  subst b7
  unfold dataT at ht
  unfold payL
  by_cases h1 : t ≤ 1
  · rw [if_neg (by omega), if_neg (by omega), if_neg (by omega), if_neg (by omega), if_pos h1]
    simp [psL]
  · rw [if_neg (by omega), if_neg (by omega), if_neg (by omega), if_pos (by omega), if_neg h1]
theorem bitI_eq (e : Bool) : (bitI e == 1) = e := by cases e <;> rfl
theorem frB_back (h : RightP t st e d k on w x c la n ps) (ht : dataT t) : stS (frB t st e d k on w x c la n ps) = none ∧ (9 + sL (frB t st e d k on w x c la n ps)).toNat = (frB t st e d k on w x c la n ps).size ∧ cfr (frB t st e d k on w x c la n ps) = ⟨t, st, e, d, 0, 0, 0, false, 0, 0, n, none, 0, 0, []⟩ := by
  have hb := right_bare h ht
  have hp := pay_data h ht
  have hh := right_head h
  have hpl := (pay_law h).2
  have hck := (chk_iff t st e d k on w x c la n ps).2 h
  have hyeq : payL t d k on w x c la n ps = payL t d k on w x c la n ps := rfl
  generalize hY : ByteArray.mk (payL t d k on w x c la n ps).toArray = Y at hh
  have hYs : Y.size ≤ 256 := by rw [← hY, ba_size]; exact hpl
  have hls : (laidH (Y.size : Nat) t (bitI e) st).size = 9 := laid_size hh
  have hfr : frB t st e d k on w x c la n ps = laidH (Y.size : Nat) t (bitI e) st ++ Y := by unfold frB; rw [hY]
  rw [hfr]
  generalize hp0 : laidH (Y.size : Nat) t (bitI e) st ++ Y = p
  have hx0 : p.extract 0 9 = laidH (Y.size : Nat) t (bitI e) st ++ ⟨#[]⟩ := by rw [← hp0]; exact ext_front hls
  have hx1 : p.extract 9 (9 + Y.size) = Y := by rw [← hp0]; exact ext_back hls rfl
  have hps : p.size = 9 + Y.size := by rw [← hp0]; simp [hls]
  obtain ⟨g1, g2, g3, g4, g5⟩ := back1 (b := ⟨#[]⟩) hh
  rw [← hx0] at g1 g2 g3 g4 g5
  have eL : sL p = (Y.size : Nat) := g2
  have eT : sT p = t := g3
  have eF : sF p = bitI e := g4
  have eS : sS p = st := g5
  have eQ : sQ p = Y := by unfold sQ; rw [eL, Int.toNat_natCast]; exact hx1
  obtain ⟨b1, b2, b3, b4, b5, b6, b7, b8, b9, b10, b11, b12⟩ := hb
  subst b1; subst b2; subst b3; subst b4; subst b5; subst b6; subst b7
  have hYl : Y.data.toList = if t ≤ 1 then d.data.toList else wB n 4 := by rw [← hY, hp]
  have fD : gD t Y = d := by
    unfold gD
    unfold dataT at ht
    by_cases h1 : t ≤ 1
    · rw [if_pos (by omega)]
      apply ba_ext
      rw [hYl, if_pos h1]
    · rw [if_neg (by omega), b9 (by omega)]
  have fN : gN t Y = n := by
    unfold gN
    unfold dataT at ht
    by_cases h1 : t ≤ 1
    · rw [if_neg (by omega), b8 h1]
    · rw [if_pos (by omega), nAt_list, hYl, if_neg h1]
      have : List.take (4 - 0) (List.drop 0 (wB n 4)) = wB n 4 := List.take_of_length_le (by rw [List.drop_zero, wB_len]; decide)
      rw [this]
      exact num_wBn (by omega) b10 (by simp; omega)
  have fK : gK t Y = 0 := by unfold gK; unfold dataT at ht; rw [if_neg (by omega)]
  have fO : gO t Y = 0 := by unfold gO; unfold dataT at ht; rw [if_neg (by omega)]
  have fW : gW t Y = 0 := by unfold gW; unfold dataT at ht; rw [if_neg (by omega)]
  have fX : gX t Y = false := by unfold gX; unfold dataT at ht; rw [if_neg (by omega)]
  have fC : gC t Y = 0 := by unfold gC; unfold dataT at ht; rw [if_neg (by omega), if_neg (by omega)]
  have fL : gL t Y = 0 := by unfold gL; unfold dataT at ht; rw [if_neg (by omega)]
  have fP : gP t Y = [] := by unfold gP; unfold dataT at ht; rw [if_neg (by omega)]
  have hfit : fitsR (Y.size : Nat) t (bitI e) st = 0 := by
    obtain ⟨h1, h2, h3, h4, h5, _⟩ := h
    have hbi := bitI_rng e
    have he0 : bitI e ≠ 0 → t ≤ 1 := fun hne => by
      cases e with
      | false => exact absurd rfl hne
      | true => exact h5 rfl
    have hlong : 0 ≤ longR t → ((Y.size : Nat) : Int) = longR t := by
      intro h0
      unfold longR at h0 ⊢
      unfold dataT at ht
      by_cases ht1 : t ≤ 1
      · rw [if_neg (by omega), if_neg (by omega), if_neg (by omega)] at h0; omega
      · rw [if_neg (by omega), if_pos (by omega)]
        have : Y.data.toList.length = 4 := by rw [hYl, if_neg ht1, wB_len]; rfl
        have h9 : Y.size = 4 := Array.length_toList.symm.trans this
        omega
    unfold dataT at ht
    unfold fitsR
    rw [if_neg (by omega), if_neg (by omega), if_neg (by omega), if_neg (by omega), if_neg (by omega), if_neg (by intro hq; exact hq.2 (hlong hq.1))]
  have hg : gE (sL p) (sT p) (sF p) (sS p) (sQ p) = 0 := by
    rw [eL, eT, eF, eS, eQ]
    unfold gE
    rw [if_pos hfit, if_pos rfl, bitI_eq]
    have hgo : gOk t st e Y = true := by
      unfold gOk gB gY
      rw [fD, fN, fK, fO, fW, fX, fC, fL, fP, hck, hY]
      simp
    rw [if_pos hgo]
  refine ⟨?_, ?_, ?_⟩
  · exact st_go (by omega) g1 (by rw [eL, eT, eF, eS]; exact hfit) (by rw [eL, hps]; omega) hg
  · rw [eL, hps]; omega
  · unfold cfr coreF frA
    simp only [eT, eF, eS, eQ, fD, fN, fK, fO, fW, fX, fC, fL, fP, bitI_eq, List.length_nil]
theorem pF_nil : pF [] = ([], [], 0) := pF_some (by unfold stS; rw [if_pos (by decide)])
theorem pF_fr (h : RightP t st e d k on w x c la n ps) (ht : dataT t) : (pF (frB t st e d k on w x c la n ps).data.toList).1.map cfr = [⟨t, st, e, d, 0, 0, 0, false, 0, 0, n, none, 0, 0, []⟩] ∧ (pF (frB t st e d k on w x c la n ps).data.toList).2 = ([], 0) := by
  obtain ⟨h1, h2, h3⟩ := frB_back h ht
  have hB : bsB (frB t st e d k on w x c la n ps).data.toList = frB t st e d k on w x c la n ps := by apply ba_ext; unfold bsB; simp
  rw [pF_none (by rw [hB]; exact h1), hB, h2]
  have hd : (frB t st e d k on w x c la n ps).data.toList.drop (frB t st e d k on w x c la n ps).size = [] := List.drop_of_length_le (by rw [show (frB t st e d k on w x c la n ps).data.toList.length = (frB t st e d k on w x c la n ps).size from Array.length_toList]; exact Nat.le_refl _)
  rw [hd, pF_nil]
  exact ⟨by rw [List.map_cons, h3]; rfl, rfl⟩
end
end Go.Proofs.Ythoagholmkiknaa

