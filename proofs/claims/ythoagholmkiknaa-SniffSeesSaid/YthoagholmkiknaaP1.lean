/- Split: one frame out of bytes: lemmas; each with the conditions that it states. -/
import Derived.Test.YthoagholmkiknaaFh
import Derived.Test.YthoagholmkiknaaKd
import Derived.Test.YthoagholmkiknaaFg

namespace Go.Proofs.Ythoagholmkiknaa
open Go Go.Proofs Go.Sl
set_option maxRecDepth 100000
set_option maxHeartbeats 4000000
set_option linter.unusedSimpArgs false
set_option linter.unusedVariables false
attribute [local irreducible] evG evC spl thenC inBlockC noGotoC CallT retC RetG TurnG CutG pt ro exP star sep pureP
attribute [local irreducible] ByteArray.extract nAt scanP
variable {R C : List HP} {K : Value → List HP → Prop}
/-- the header of bytes: its parts -/
def sL (p : ByteArray) : Int := hgN (p.extract 0 9) 0 3
def sT (p : ByteArray) : Int := hgN (p.extract 0 9) 3 4
def sF (p : ByteArray) : Int := hgN (p.extract 0 9) 4 5
def sS (p : ByteArray) : Int := hgN (p.extract 0 9) 5 9
def sQ (p : ByteArray) : ByteArray := p.extract 9 (9 + (sL p).toNat)
/-- with which code bytes stop; none: they begin with a frame -/
def stS (p : ByteArray) : Option Int := if p.size < 9 then some 0 else if hgE (p.extract 0 9) = 0 then (if fitsR (sL p) (sT p) (sF p) (sS p) = 0 then (if (p.size : Int) < 9 + sL p then some 0 else if gE (sL p) (sT p) (sF p) (sS p) (sQ p) = 0 then none else some (gE (sL p) (sT p) (sF p) (sS p) (sQ p))) else some (fitsR (sL p) (sT p) (sF p) (sS p))) else some 1
theorem fits_l {l t f s : Int} (h : fitsR l t f s = 0) : 0 ≤ l ∧ l ≤ 256 := by
  unfold fitsR at h
  (repeat' split at h) <;> omega
/-- a frame that was read, wherever its settings lie -/
def frA (p : ByteArray) (A : Option Addr) (c : Nat) : Fm := ⟨sT p, sS p, (sF p == 1), gD (sT p) (sQ p), gK (sT p) (sQ p), gO (sT p) (sQ p), gW (sT p) (sQ p), gX (sT p) (sQ p), gC (sT p) (sQ p), gL (sT p) (sQ p), gN (sT p) (sQ p), A, (gP (sT p) (sQ p)).length, c, gP (sT p) (sQ p)⟩
theorem hgN_f (p : ByteArray) : -9223372036854775808 ≤ sF p ∧ sF p ≤ 9223372036854775807 := by
  unfold sF hgN
  split
  · have h1 := (nAt_rng (p.extract 0 9) 4 5).1
    have h2 : nAt (p.extract 0 9) 4 5 < 256 := by have := (nAt_rng (p.extract 0 9) 4 5).2; simpa using this
    omega
  · omega
theorem sL_nn (p : ByteArray) : 0 ≤ sL p := by
  unfold sL hgN
  split
  · exact (nAt_rng _ _ _).1
  · omega
def bsB (bs : List UInt8) : ByteArray := ⟨bs.toArray⟩
theorem bsB_size (bs : List UInt8) : (bsB bs).size = bs.length := ba_size _
theorem bsB_ext (bs : List UInt8) (i j : Nat) : bsB ((bs.drop i).take (j - i)) = (bsB bs).extract i j := by
  apply ba_ext
  unfold bsB
  simp
theorem hgetB_ok {u p : ByteArray} (h : u = p.extract 0 9) (hK : K (.tuple #[.agg #[.int .i64 (sL p), .int .i64 (sT p), .int .i64 (sF p), .int .i64 (sS p)], .int .i64 (hgE (p.extract 0 9))]) R) : CallT Try.prog 43 #[.string u] R K := by
  subst h; exact hgetC_ok hK
theorem fgetQA_ok {u p : ByteArray} (hu : u = sQ p) (h : gE (sL p) (sT p) (sF p) (sS p) (sQ p) = 0) (hK : ∀ A c, K (.tuple #[.agg #[.int .i64 (sT p), .int .i64 (sS p), .bool (sF p == 1), .string (gD (sT p) (sQ p)), .int .i64 (gK (sT p) (sQ p)), .int .i64 (gO (sT p) (sQ p)), .int .i64 (gW (sT p) (sQ p)), .bool (gX (sT p) (sQ p)), .int .i64 (gC (sT p) (sQ p)), .int .i64 (gL (sT p) (sQ p)), .int .i64 (gN (sT p) (sQ p)), .slice A (gP (sT p) (sQ p)).length c], .int .i64 0]) (row A c 76 prC (gP (sT p) (sQ p)) :: R)) : CallT Try.prog 45 #[.agg #[.int .i64 (sL p), .int .i64 (sT p), .int .i64 (sF p), .int .i64 (sS p)], .string u] R K := by
  subst hu; exact fgetA_ok (hgN_f p) h hK
theorem fgetQB_ok {u p : ByteArray} (hu : u = sQ p) (h : gE (sL p) (sT p) (sF p) (sS p) (sQ p) ≠ 0) (hK : K (.tuple #[.agg #[.int .i64 0, .int .i64 0, .bool false, .string ⟨#[]⟩, .int .i64 0, .int .i64 0, .int .i64 0, .bool false, .int .i64 0, .int .i64 0, .int .i64 0, .slice none 0 0], .int .i64 (gE (sL p) (sT p) (sF p) (sS p) (sQ p))]) R) : CallT Try.prog 45 #[.agg #[.int .i64 (sL p), .int .i64 (sT p), .int .i64 (sF p), .int .i64 (sS p)], .string u] R K := by
  subst hu; exact fgetB_ok (hgN_f p) h hK
theorem oneS_ok {A : Option Addr} {n c : Nat} {bs : List UInt8} {e : Int} (hn : bs.length = n) (hc : n ≤ c) (hz : n < 1000000000000) (h : stS (bsB bs) = some e) (hK : ∀ n', K (.tuple #[.agg #[.int .i64 0, .int .i64 0, .bool false, .string ⟨#[]⟩, .int .i64 0, .int .i64 0, .int .i64 0, .bool false, .int .i64 0, .int .i64 0, .int .i64 0, .slice none 0 0], .int .i64 n', .int .i64 e, .bool false]) (rrow A byteC bs :: R)) : CallT Try.prog 34 #[.slice A n c] (rrow A byteC bs :: R) K := by
  subst hn
  have hps := bsB_size bs
  have x0 : (⟨(List.take ((9 : Int).toNat - (0 : Int).toNat) (List.drop (0 : Int).toNat bs)).toArray⟩ : ByteArray) = (bsB bs).extract 0 9 := bsB_ext bs 0 9
  have x1 : (⟨(List.take ((9 + sL (bsB bs)).toNat - (9 : Int).toNat) (List.drop (9 : Int).toNat bs)).toArray⟩ : ByteArray) = sQ (bsB bs) := by
    have h0 := sL_nn (bsB bs)
    rw [show (9 + sL (bsB bs)).toNat - (9 : Int).toNat = 9 + (sL (bsB bs)).toNat - 9 by omega]
    exact bsB_ext bs 9 (9 + (sL (bsB bs)).toNat)
  unfold stS at h
  by_cases h1 : (bsB bs).size < 9
  · rw [if_pos h1] at h
    cases h
    refine callT_intro mixed Try.func34 rfl (by decide) (by decide +kernel) (by exact Nat.le_of_ble_eq_true rfl) ?_
    repeat' (first
      | (show evG _ _ _ _ _ _ _; first | refine G_add64 ?_ | refine G_pure0 ?_ | refine G_load ?_ | refine evG_nil ?_ | refine G_br ?_ ?_ | refine G_field ?_ | refine G_pure ?_ | refine G_store ?_ | refine G_loadV ?_ | refine G_loadV0 ?_ | refine G_loadV2 ?_ | refine G_conv64 ?_ | refine G_conv8 ?_ | refine G_convu ?_ | refine G_conv ?_ | refine G_build ?_ | refine G_slh ?_ | refine G_slo ?_ | refine G_shi ?_ | refine G_cat ?_ | refine G_eql_agg ?_ | refine G_neq_agg ?_ | refine G_bytesP ?_ | refine G_bytesstr ?_ | refine G_call ?_ | refine G_call0 ?_ | refine G_callv ?_ | refine G_callv0 ?_ | (refine G_alloc ?_; intro _) | (refine G_strrow ?_; intro _ _) | (refine G_sliceR ?_; intro _) | (refine G_sliceO ?_; intro _))
      | (show spl _ _ _; first | refine spl_no rfl ?_ | refine spl_yes rfl ?_)
      | (show evC _ _ _ _ _; first | refine c_seq ?_ | refine c_region (by exact rfl) ?_ | refine c_cond (by exact rfl) ?_ | refine c_ret ?_ | refine c_skip ?_ | refine c_block ?_ | refine c_exit ?_ | (show evC _ (.region 13 _ true) _ _ _; refine c_drawT (t := (.br (.st 1 1 (.st 2 1 (.st 3 1 (.st 4 2 (.br (.st 0 2 (.st 5 2 (.st 9 3 (.st 6 1 (.st 7 1 (.st 10 1 (.st 8 2 (.st 11 0 .nil)))))))) (.st 9 3 (.st 0 2 (.st 5 2 (.st 6 1 (.st 7 1 (.st 10 1 (.st 8 2 (.st 11 0 .nil))))))))))))) (.st 9 3 (.st 1 1 (.st 2 1 (.st 3 1 (.st 4 2 (.st 0 2 (.st 5 2 (.st 6 1 (.st 7 1 (.st 10 1 (.st 8 2 (.st 11 0 .nil)))))))))))))) (by kernel_rfl) (by decide +kernel) (by exact rfl) ?_) | refine std ?_)
      | (show Br _ _ _; first | refine Br.t rfl ?_ | refine Br.f rfl ?_ | refine brs ?_ | (first | refine Br.mkN (fun h => ?_) (fun h => ?_) | refine Br.mk (fun h => ?_) (fun h => ?_)) <;> (try (first | contradiction | (exfalso; omega) | (exfalso; simp at h; done))))
      | refine stp ?_)
    all_goals (show retC _ _ _ _ _ _; refine RETC ?_; exact ret_done (hK _))
  rw [if_neg h1] at h
  have y0 : (List.take ((9 : Int).toNat - (0 : Int).toNat) (List.drop (0 : Int).toNat bs)).length = (9 : Int).toNat - (0 : Int).toNat := by simp; omega
  by_cases h2 : hgE ((bsB bs).extract 0 9) = 0
  · rw [if_pos h2] at h
    by_cases h3 : fitsR (sL (bsB bs)) (sT (bsB bs)) (sF (bsB bs)) (sS (bsB bs)) = 0
    · rw [if_pos h3] at h
      have hl := fits_l h3
      by_cases h4 : ((bsB bs).size : Int) < 9 + sL (bsB bs)
      · rw [if_pos h4] at h
        cases h
        refine callT_intro mixed Try.func34 rfl (by decide) (by decide +kernel) (by exact Nat.le_of_ble_eq_true rfl) ?_
        repeat' (first
          | (show evG _ _ _ _ _ _ _; first | refine G_add64 ?_ | refine G_pure0 ?_ | refine G_load ?_ | refine evG_nil ?_ | refine G_br ?_ ?_ | refine G_field ?_ | refine G_pure ?_ | refine G_store ?_ | refine G_loadV ?_ | refine G_loadV0 ?_ | refine G_loadV2 ?_ | refine G_conv64 ?_ | refine G_conv8 ?_ | refine G_convu ?_ | refine G_conv ?_ | refine G_build ?_ | refine G_slh ?_ | refine G_slo ?_ | refine G_shi ?_ | refine G_cat ?_ | refine G_eql_agg ?_ | refine G_neq_agg ?_ | refine G_bytesP ?_ | refine G_bytesstr ?_ | refine G_call ?_ | refine G_call0 ?_ | refine G_callv ?_ | refine G_callv0 ?_ | (refine G_alloc ?_; intro _) | (refine G_strrow ?_; intro _ _) | (refine G_sliceR ?_; intro _) | (refine G_sliceO ?_; intro _))
          | (show spl _ _ _; first | refine spl_no rfl ?_ | refine spl_yes rfl ?_)
          | (show evC _ _ _ _ _; first | refine c_seq ?_ | refine c_region (by exact rfl) ?_ | refine c_cond (by exact rfl) ?_ | refine c_ret ?_ | refine c_skip ?_ | refine c_block ?_ | refine c_exit ?_ | (show evC _ (.region 13 _ true) _ _ _; refine c_drawT (t := (.br (.st 1 1 (.st 2 1 (.st 3 1 (.st 4 2 (.br (.st 0 2 (.st 5 2 (.st 9 3 (.st 6 1 (.st 7 1 (.st 10 1 (.st 8 2 (.st 11 0 .nil)))))))) (.st 9 3 (.st 0 2 (.st 5 2 (.st 6 1 (.st 7 1 (.st 10 1 (.st 8 2 (.st 11 0 .nil))))))))))))) (.st 9 3 (.st 1 1 (.st 2 1 (.st 3 1 (.st 4 2 (.st 0 2 (.st 5 2 (.st 6 1 (.st 7 1 (.st 10 1 (.st 8 2 (.st 11 0 .nil)))))))))))))) (by kernel_rfl) (by decide +kernel) (by exact rfl) ?_) | refine std ?_)
          | (show Br _ _ _; first | refine Br.t rfl ?_ | refine Br.f rfl ?_ | refine brs ?_ | (first | refine Br.mkN (fun h => ?_) (fun h => ?_) | refine Br.mk (fun h => ?_) (fun h => ?_)) <;> (try (first | contradiction | (exfalso; omega) | (exfalso; simp at h; done))))
          | refine stp ?_
          | (show CallT _ 43 _ _ _; refine CA (h := hgetB_ok x0 ?_))
          | (show CallT _ 44 _ _ _; refine CA (h := fits_ok (hgN_f _) ?_)))
        all_goals (show retC _ _ _ _ _ _; refine RETC ?_; exact ret_done (hK _))
      · rw [if_neg h4] at h
        by_cases h5 : gE (sL (bsB bs)) (sT (bsB bs)) (sF (bsB bs)) (sS (bsB bs)) (sQ (bsB bs)) = 0
        · rw [if_pos h5] at h; cases h
        · rw [if_neg h5] at h
          cases h
          have hbf : (gE (sL (bsB bs)) (sT (bsB bs)) (sF (bsB bs)) (sS (bsB bs)) (sQ (bsB bs)) == 0) = false := by simpa using h5
          have y1 : (List.take ((9 + sL (bsB bs)).toNat - (9 : Int).toNat) (List.drop (9 : Int).toNat bs)).length = (9 + sL (bsB bs)).toNat - (9 : Int).toNat := by simp; omega
          refine callT_intro mixed Try.func34 rfl (by decide) (by decide +kernel) (by exact Nat.le_of_ble_eq_true rfl) ?_
          repeat' (first
            | (show evG _ _ _ _ _ _ _; first | refine G_add64 ?_ | refine G_pure0 ?_ | refine G_load ?_ | refine evG_nil ?_ | refine G_br ?_ ?_ | refine G_field ?_ | refine G_pure ?_ | refine G_store ?_ | refine G_loadV ?_ | refine G_loadV0 ?_ | refine G_loadV2 ?_ | refine G_conv64 ?_ | refine G_conv8 ?_ | refine G_convu ?_ | refine G_conv ?_ | refine G_build ?_ | refine G_slh ?_ | refine G_slo ?_ | refine G_shi ?_ | refine G_cat ?_ | refine G_eql_agg ?_ | refine G_neq_agg ?_ | refine G_bytesP ?_ | refine G_bytesstr ?_ | refine G_call ?_ | refine G_call0 ?_ | refine G_callv ?_ | refine G_callv0 ?_ | (refine G_alloc ?_; intro _) | (refine G_strrow ?_; intro _ _) | (refine G_sliceR ?_; intro _) | (refine G_sliceO ?_; intro _))
            | (show spl _ _ _; first | refine spl_no rfl ?_ | refine spl_yes rfl ?_)
            | (show evC _ _ _ _ _; first | refine c_seq ?_ | refine c_region (by exact rfl) ?_ | refine c_cond (by exact rfl) ?_ | refine c_ret ?_ | refine c_skip ?_ | refine c_block ?_ | refine c_exit ?_ | (show evC _ (.region 13 _ true) _ _ _; refine c_drawT (t := (.br (.st 1 1 (.st 2 1 (.st 3 1 (.st 4 2 (.br (.st 0 2 (.st 5 2 (.st 9 3 (.st 6 1 (.st 7 1 (.st 10 1 (.st 8 2 (.st 11 0 .nil)))))))) (.st 9 3 (.st 0 2 (.st 5 2 (.st 6 1 (.st 7 1 (.st 10 1 (.st 8 2 (.st 11 0 .nil))))))))))))) (.st 9 3 (.st 1 1 (.st 2 1 (.st 3 1 (.st 4 2 (.st 0 2 (.st 5 2 (.st 6 1 (.st 7 1 (.st 10 1 (.st 8 2 (.st 11 0 .nil)))))))))))))) (by kernel_rfl) (by decide +kernel) (by exact rfl) ?_) | refine std ?_)
            | (show Br _ _ _; first | refine Br.t rfl ?_ | refine Br.f rfl ?_ | refine brs ?_ | (first | refine Br.mkN (fun h => ?_) (fun h => ?_) | refine Br.mk (fun h => ?_) (fun h => ?_)) <;> (try (first | contradiction | (exfalso; omega) | (exfalso; simp at h; done))))
            | refine stp ?_
            | (show CallT _ 43 _ _ _; refine CA (h := hgetB_ok x0 ?_))
            | (show CallT _ 44 _ _ _; refine CA (h := fits_ok (hgN_f _) ?_))
            | (show CallT _ 45 _ _ _; refine CA (h := fgetQB_ok x1 h5 ?_)))
          all_goals (rw [hbf]; (show retC _ _ _ _ _ _; refine RETC ?_; exact ret_done (hK _)))
    · rw [if_neg h3] at h
      cases h
      refine callT_intro mixed Try.func34 rfl (by decide) (by decide +kernel) (by exact Nat.le_of_ble_eq_true rfl) ?_
      repeat' (first
        | (show evG _ _ _ _ _ _ _; first | refine G_add64 ?_ | refine G_pure0 ?_ | refine G_load ?_ | refine evG_nil ?_ | refine G_br ?_ ?_ | refine G_field ?_ | refine G_pure ?_ | refine G_store ?_ | refine G_loadV ?_ | refine G_loadV0 ?_ | refine G_loadV2 ?_ | refine G_conv64 ?_ | refine G_conv8 ?_ | refine G_convu ?_ | refine G_conv ?_ | refine G_build ?_ | refine G_slh ?_ | refine G_slo ?_ | refine G_shi ?_ | refine G_cat ?_ | refine G_eql_agg ?_ | refine G_neq_agg ?_ | refine G_bytesP ?_ | refine G_bytesstr ?_ | refine G_call ?_ | refine G_call0 ?_ | refine G_callv ?_ | refine G_callv0 ?_ | (refine G_alloc ?_; intro _) | (refine G_strrow ?_; intro _ _) | (refine G_sliceR ?_; intro _) | (refine G_sliceO ?_; intro _))
        | (show spl _ _ _; first | refine spl_no rfl ?_ | refine spl_yes rfl ?_)
        | (show evC _ _ _ _ _; first | refine c_seq ?_ | refine c_region (by exact rfl) ?_ | refine c_cond (by exact rfl) ?_ | refine c_ret ?_ | refine c_skip ?_ | refine c_block ?_ | refine c_exit ?_ | (show evC _ (.region 13 _ true) _ _ _; refine c_drawT (t := (.br (.st 1 1 (.st 2 1 (.st 3 1 (.st 4 2 (.br (.st 0 2 (.st 5 2 (.st 9 3 (.st 6 1 (.st 7 1 (.st 10 1 (.st 8 2 (.st 11 0 .nil)))))))) (.st 9 3 (.st 0 2 (.st 5 2 (.st 6 1 (.st 7 1 (.st 10 1 (.st 8 2 (.st 11 0 .nil))))))))))))) (.st 9 3 (.st 1 1 (.st 2 1 (.st 3 1 (.st 4 2 (.st 0 2 (.st 5 2 (.st 6 1 (.st 7 1 (.st 10 1 (.st 8 2 (.st 11 0 .nil)))))))))))))) (by kernel_rfl) (by decide +kernel) (by exact rfl) ?_) | refine std ?_)
        | (show Br _ _ _; first | refine Br.t rfl ?_ | refine Br.f rfl ?_ | refine brs ?_ | (first | refine Br.mkN (fun h => ?_) (fun h => ?_) | refine Br.mk (fun h => ?_) (fun h => ?_)) <;> (try (first | contradiction | (exfalso; omega) | (exfalso; simp at h; done))))
        | refine stp ?_
        | (show CallT _ 43 _ _ _; refine CA (h := hgetB_ok x0 ?_))
        | (show CallT _ 44 _ _ _; refine CA (h := fits_ok (hgN_f _) ?_)))
      all_goals (show retC _ _ _ _ _ _; refine RETC ?_; exact ret_done (hK _))
  · rw [if_neg h2] at h
    cases h
    refine callT_intro mixed Try.func34 rfl (by decide) (by decide +kernel) (by exact Nat.le_of_ble_eq_true rfl) ?_
    repeat' (first
      | (show evG _ _ _ _ _ _ _; first | refine G_add64 ?_ | refine G_pure0 ?_ | refine G_load ?_ | refine evG_nil ?_ | refine G_br ?_ ?_ | refine G_field ?_ | refine G_pure ?_ | refine G_store ?_ | refine G_loadV ?_ | refine G_loadV0 ?_ | refine G_loadV2 ?_ | refine G_conv64 ?_ | refine G_conv8 ?_ | refine G_convu ?_ | refine G_conv ?_ | refine G_build ?_ | refine G_slh ?_ | refine G_slo ?_ | refine G_shi ?_ | refine G_cat ?_ | refine G_eql_agg ?_ | refine G_neq_agg ?_ | refine G_bytesP ?_ | refine G_bytesstr ?_ | refine G_call ?_ | refine G_call0 ?_ | refine G_callv ?_ | refine G_callv0 ?_ | (refine G_alloc ?_; intro _) | (refine G_strrow ?_; intro _ _) | (refine G_sliceR ?_; intro _) | (refine G_sliceO ?_; intro _))
      | (show spl _ _ _; first | refine spl_no rfl ?_ | refine spl_yes rfl ?_)
      | (show evC _ _ _ _ _; first | refine c_seq ?_ | refine c_region (by exact rfl) ?_ | refine c_cond (by exact rfl) ?_ | refine c_ret ?_ | refine c_skip ?_ | refine c_block ?_ | refine c_exit ?_ | (show evC _ (.region 13 _ true) _ _ _; refine c_drawT (t := (.br (.st 1 1 (.st 2 1 (.st 3 1 (.st 4 2 (.br (.st 0 2 (.st 5 2 (.st 9 3 (.st 6 1 (.st 7 1 (.st 10 1 (.st 8 2 (.st 11 0 .nil)))))))) (.st 9 3 (.st 0 2 (.st 5 2 (.st 6 1 (.st 7 1 (.st 10 1 (.st 8 2 (.st 11 0 .nil))))))))))))) (.st 9 3 (.st 1 1 (.st 2 1 (.st 3 1 (.st 4 2 (.st 0 2 (.st 5 2 (.st 6 1 (.st 7 1 (.st 10 1 (.st 8 2 (.st 11 0 .nil)))))))))))))) (by kernel_rfl) (by decide +kernel) (by exact rfl) ?_) | refine std ?_)
      | (show Br _ _ _; first | refine Br.t rfl ?_ | refine Br.f rfl ?_ | refine brs ?_ | (first | refine Br.mkN (fun h => ?_) (fun h => ?_) | refine Br.mk (fun h => ?_) (fun h => ?_)) <;> (try (first | contradiction | (exfalso; omega) | (exfalso; simp at h; done))))
      | refine stp ?_
      | (show CallT _ 43 _ _ _; refine CA (h := hgetB_ok x0 ?_)))
    all_goals (show retC _ _ _ _ _ _; refine RETC ?_; exact ret_done (hK _))
theorem st_none {p : ByteArray} (h : stS p = none) : 9 ≤ p.size ∧ hgE (p.extract 0 9) = 0 ∧ fitsR (sL p) (sT p) (sF p) (sS p) = 0 ∧ 9 + sL p ≤ p.size ∧ gE (sL p) (sT p) (sF p) (sS p) (sQ p) = 0 ∧ 0 ≤ sL p ∧ sL p ≤ 256 := by
  unfold stS at h
  split at h
  · cases h
  · split at h
    · split at h
      · rename_i h3
        have hl := fits_l h3
        split at h
        · cases h
        · split at h
          · exact ⟨by omega, by assumption, h3, by omega, by assumption, hl.1, hl.2⟩
          · cases h
      · cases h
    · cases h
theorem oneF_ok {A : Option Addr} {n c : Nat} {bs : List UInt8} {p : ByteArray} (hp : bsB bs = p) (hn : bs.length = n) (hc : n ≤ c) (hz : n < 1000000000000) (h : stS p = none) (hK : ∀ A' c', K (.tuple #[.agg #[.int .i64 (sT p), .int .i64 (sS p), .bool (sF p == 1), .string (gD (sT p) (sQ p)), .int .i64 (gK (sT p) (sQ p)), .int .i64 (gO (sT p) (sQ p)), .int .i64 (gW (sT p) (sQ p)), .bool (gX (sT p) (sQ p)), .int .i64 (gC (sT p) (sQ p)), .int .i64 (gL (sT p) (sQ p)), .int .i64 (gN (sT p) (sQ p)), .slice A' (gP (sT p) (sQ p)).length c'], .int .i64 (9 + sL p), .int .i64 0, .bool true]) (row A' c' 76 prC (gP (sT p) (sQ p)) :: rrow A byteC bs :: R)) : CallT Try.prog 34 #[.slice A n c] (rrow A byteC bs :: R) K := by
  subst hn
  subst hp
  have hps := bsB_size bs
  obtain ⟨h1, h2, h3, h4, h5, h6, h7⟩ := st_none h
  have x0 : (⟨(List.take ((9 : Int).toNat - (0 : Int).toNat) (List.drop (0 : Int).toNat bs)).toArray⟩ : ByteArray) = (bsB bs).extract 0 9 := bsB_ext bs 0 9
  have x1 : (⟨(List.take ((9 + sL (bsB bs)).toNat - (9 : Int).toNat) (List.drop (9 : Int).toNat bs)).toArray⟩ : ByteArray) = sQ (bsB bs) := by
    rw [show (9 + sL (bsB bs)).toNat - (9 : Int).toNat = 9 + (sL (bsB bs)).toNat - 9 by omega]
    exact bsB_ext bs 9 (9 + (sL (bsB bs)).toNat)
  have y0 : (List.take ((9 : Int).toNat - (0 : Int).toNat) (List.drop (0 : Int).toNat bs)).length = (9 : Int).toNat - (0 : Int).toNat := by simp; omega
  have y1 : (List.take ((9 + sL (bsB bs)).toNat - (9 : Int).toNat) (List.drop (9 : Int).toNat bs)).length = (9 + sL (bsB bs)).toNat - (9 : Int).toNat := by simp; omega
  refine callT_intro mixed Try.func34 rfl (by decide) (by decide +kernel) (by exact Nat.le_of_ble_eq_true rfl) ?_
  repeat' (first
    | (show evG _ _ _ _ _ _ _; first | refine G_add64 ?_ | refine G_pure0 ?_ | refine G_load ?_ | refine evG_nil ?_ | refine G_br ?_ ?_ | refine G_field ?_ | refine G_pure ?_ | refine G_store ?_ | refine G_loadV ?_ | refine G_loadV0 ?_ | refine G_loadV2 ?_ | refine G_conv64 ?_ | refine G_conv8 ?_ | refine G_convu ?_ | refine G_conv ?_ | refine G_build ?_ | refine G_slh ?_ | refine G_slo ?_ | refine G_shi ?_ | refine G_cat ?_ | refine G_eql_agg ?_ | refine G_neq_agg ?_ | refine G_bytesP ?_ | refine G_bytesstr ?_ | refine G_call ?_ | refine G_call0 ?_ | refine G_callv ?_ | refine G_callv0 ?_ | (refine G_alloc ?_; intro _) | (refine G_strrow ?_; intro _ _) | (refine G_sliceR ?_; intro _) | (refine G_sliceO ?_; intro _))
    | (show spl _ _ _; first | refine spl_no rfl ?_ | refine spl_yes rfl ?_)
    | (show evC _ _ _ _ _; first | refine c_seq ?_ | refine c_region (by exact rfl) ?_ | refine c_cond (by exact rfl) ?_ | refine c_ret ?_ | refine c_skip ?_ | refine c_block ?_ | refine c_exit ?_ | (show evC _ (.region 13 _ true) _ _ _; refine c_drawT (t := (.br (.st 1 1 (.st 2 1 (.st 3 1 (.st 4 2 (.br (.st 0 2 (.st 5 2 (.st 9 3 (.st 6 1 (.st 7 1 (.st 10 1 (.st 8 2 (.st 11 0 .nil)))))))) (.st 9 3 (.st 0 2 (.st 5 2 (.st 6 1 (.st 7 1 (.st 10 1 (.st 8 2 (.st 11 0 .nil))))))))))))) (.st 9 3 (.st 1 1 (.st 2 1 (.st 3 1 (.st 4 2 (.st 0 2 (.st 5 2 (.st 6 1 (.st 7 1 (.st 10 1 (.st 8 2 (.st 11 0 .nil)))))))))))))) (by kernel_rfl) (by decide +kernel) (by exact rfl) ?_) | refine std ?_)
    | (show Br _ _ _; first | refine Br.t rfl ?_ | refine Br.f rfl ?_ | refine brs ?_ | (first | refine Br.mkN (fun h => ?_) (fun h => ?_) | refine Br.mk (fun h => ?_) (fun h => ?_)) <;> (try (first | contradiction | (exfalso; omega) | (exfalso; simp at h; done))))
    | refine stp ?_
    | (show CallT _ 43 _ _ _; refine CA (h := hgetB_ok x0 ?_))
    | (show CallT _ 44 _ _ _; refine CA (h := fits_ok (hgN_f _) ?_))
    | (show CallT _ 45 _ _ _; refine CA (h := fgetQA_ok x1 h5 (fun A' c' => ?_))))
  all_goals (show retC _ _ _ _ _ _; refine RETC ?_; exact ret_done (hK _ _))
end Go.Proofs.Ythoagholmkiknaa

