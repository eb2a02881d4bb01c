/- Header: the laws: lemmas; each with the conditions that it states. -/
import Derived.Test.YtgdfmbnbknhhiaaH3
import Derived.Test.YtgdfmbnbknhhiaaH4

namespace Go.Proofs.Ytgdfmbnbknhhiaa
open Go Go.Proofs Go.Sl
set_option maxRecDepth 100000
set_option maxHeartbeats 4000000
set_option linter.unusedSimpArgs false
set_option linter.unusedVariables false
attribute [local irreducible] evG evC spl thenC inBlockC noGotoC CallT retC RetG TurnG CutG pt ro exP star sep pureP
variable {R C : List HP} {K : Value → List HP → Prop}
def hgE (s : ByteArray) : Int := if s.size < 9 then 5 else if 2147483647 < nAt s 5 9 then 6 else 0
def hgN (s : ByteArray) (i j : Nat) : Int := if hgE s = 0 then nAt s i j else 0
def hgV (s : ByteArray) : Value := .tuple #[.agg #[.int .i64 (hgN s 0 3), .int .i64 (hgN s 3 4), .int .i64 (hgN s 4 5), .int .i64 (hgN s 5 9)], .int .i64 (hgE s)]
theorem hgV_eq (s : ByteArray) : hGet s = hgV s := by
  unfold hGet hgV hgN hgE
  by_cases h : s.size < 9
  · simp [h]
  · by_cases h2 : 2147483647 < nAt s 5 9
    · simp [h, h2]
    · simp [h, h2]
theorem hgetC_ok {s : ByteArray} (hK : K (.tuple #[.agg #[.int .i64 (hgN s 0 3), .int .i64 (hgN s 3 4), .int .i64 (hgN s 4 5), .int .i64 (hgN s 5 9)], .int .i64 (hgE s)]) R) : CallT Try.prog 16 #[.string s] R K := hget_ok (by rw [hgV_eq]; exact hK)
theorem rgetC_ok {s : ByteArray} (hs : s.size < 1000000000000000) (hK : K (.tuple #[.agg #[.int .i64 (hgN s 0 3), .int .i64 (hgN s 3 4), .int .i64 (hgN s 4 5), .int .i64 (hgN s 5 9)], .int .i64 (hgE s)]) R) : CallT Try.prog 17 #[.string s] R K := rget_ok hs (by rw [hgV_eq]; exact hK)
/-- a header's bytes -/
def laidH (l t f s : Int) : ByteArray := rB l 3 ++ rB t 1 ++ rB f 1 ++ rB s 4
theorem laid_list {l t f s : Int} (h : hOk l t f s = true) : (laidH l t f s).data.toList = wB l 3 ++ wB t 1 ++ wB f 1 ++ wB s 4 := by
  unfold hOk at h
  simp only [Bool.and_eq_true, decide_eq_true_eq] at h
  unfold laidH rB
  rw [if_neg (by omega), if_neg (by omega), if_neg (by omega), if_neg (by omega)]
  simp
theorem pow256 : (256 : Int) ^ (1 : Nat) = 256 ∧ (256 : Int) ^ (3 : Nat) = 16777216 ∧ (256 : Int) ^ (4 : Nat) = 4294967296 := by decide
theorem may_of {n w : Int} (hw : 0 < w ∧ w ≤ 4) : (pcMay n w = 0 ↔ (0 ≤ n ∧ n < 256 ^ w.toNat)) := by
  constructor
  · intro h; exact may_rng h hw.1
  · intro h
    unfold pcMay
    have e : (2 : Int) ^ (8 * w).toNat = 256 ^ w.toNat := by
      have : (8 * w).toNat = 8 * w.toNat := by omega
      rw [this, Int.pow_mul]; rfl
    rw [e, Int.ediv_eq_zero_of_lt h.1 h.2, if_neg (by omega), if_neg (by omega)]
theorem put_laid {l t f s : Int} : (hOk l t f s = true → hPutS l t f s = laidH l t f s ∧ hPutE l t f s = 0) ∧ (hOk l t f s = false → hPutS l t f s = ⟨#[]⟩ ∧ hPutE l t f s = 2) := by
  obtain ⟨p1, p3, p4⟩ := pow256
  have m1 := may_of (n := l) (w := 3) (by decide)
  have m2 := may_of (n := t) (w := 1) (by decide)
  have m3 := may_of (n := f) (w := 1) (by decide)
  have m4 := may_of (n := s) (w := 4) (by decide)
  rw [show (3 : Int).toNat = 3 from rfl, p3] at m1
  rw [show (1 : Int).toNat = 1 from rfl, p1] at m2 m3
  rw [show (4 : Int).toNat = 4 from rfl, p4] at m4
  have hf : firstE (hPs l t f s) = 0 ↔ (pcMay l 3 = 0 ∧ pcMay t 1 = 0 ∧ pcMay f 1 = 0 ∧ pcMay s 4 = 0) := by
    unfold hPs
    simp only [firstE]
    by_cases h1 : pcMay l 3 = 0 <;> by_cases h2 : pcMay t 1 = 0 <;> by_cases h3 : pcMay f 1 = 0 <;> by_cases h4 : pcMay s 4 = 0 <;> simp [h1, h2, h3, h4]
  constructor
  · intro h
    have hl := laid_list h
    unfold hOk at h
    simp only [Bool.and_eq_true, decide_eq_true_eq] at h
    have hz : firstE (hPs l t f s) = 0 := hf.2 ⟨m1.2 (by omega), m2.2 (by omega), m3.2 (by omega), m4.2 (by omega)⟩
    have he : layE (hPs l t f s) = 0 := by
      unfold layE
      rw [if_pos hz, if_neg]
      have : szL (hPs l t f s) 0 = 9 := by
        unfold hPs
        simp [szL, pcSize] <;> decide
      omega
    unfold hPutS hPutE
    rw [if_neg (by omega), if_neg (by omega), if_pos he]
    refine ⟨ba_ext ?_, rfl⟩
    rw [hl, (lay_size he).2.2.2]
    simp [allB, hPs, pcB]
  · intro h
    unfold hPutS hPutE
    by_cases hs : 2147483647 < s
    · rw [if_pos hs, if_pos hs]; exact ⟨rfl, rfl⟩
    · rw [if_neg hs, if_neg hs]
      have he : ¬ layE (hPs l t f s) = 0 := by
        intro he
        obtain ⟨a, b, c, d⟩ := hf.1 (lay_size he).1
        rw [m1] at a
        rw [m2] at b
        rw [m3] at c
        rw [m4] at d
        unfold hOk at h
        simp at h
        omega
      rw [if_neg he, layS_bad he]
      exact ⟨rfl, rfl⟩
theorem hputA_ok {l t f s : Int} (h : hOk l t f s = true) (hK : K (.tuple #[.string (laidH l t f s), .int .i64 0]) R) : CallT Try.prog 15 #[.agg #[.int .i64 l, .int .i64 t, .int .i64 f, .int .i64 s]] R K := by
  refine hput_ok ?_
  rw [(put_laid.1 h).1, (put_laid.1 h).2]
  exact hK
theorem hputB_ok {l t f s : Int} (h : hOk l t f s = false) (hK : K (.tuple #[.string ⟨#[]⟩, .int .i64 2]) R) : CallT Try.prog 15 #[.agg #[.int .i64 l, .int .i64 t, .int .i64 f, .int .i64 s]] R K := by
  refine hput_ok ?_
  rw [(put_laid.2 h).1, (put_laid.2 h).2]
  exact hK
theorem awake2_ok (hK : K (.bool true) R) : CallT Try.prog 19 #[] R K := by
  have e1 : laidH 8 7 0 0 = ⟨#[0, 0, 8, 7, 0, 0, 0, 0, 0]⟩ := by decide +kernel
  have e2 : hgN ⟨#[0, 0, 8, 7, 0, 0, 0, 0, 0]⟩ 0 3 = 8 := by decide +kernel
  have e3 : hgN ⟨#[0, 0, 8, 7, 0, 0, 0, 0, 0]⟩ 3 4 = 7 := by decide +kernel
  have e4 : hgN ⟨#[0, 0, 8, 7, 0, 0, 0, 0, 0]⟩ 4 5 = 0 := by decide +kernel
  have e5 : hgN ⟨#[0, 0, 8, 7, 0, 0, 0, 0, 0]⟩ 5 9 = 0 := by decide +kernel
  have e6 : hgE ⟨#[0, 0, 8, 7, 0, 0, 0, 0, 0]⟩ = 0 := by decide +kernel
  have e7 : fitsR 8 7 0 0 = 0 := by decide
  have e8 : fitsR 7 7 0 0 = 6 := by decide
  refine callT_intro mixed Try.func19 rfl (by decide) (by decide +kernel) (by exact Nat.le_of_ble_eq_true rfl) ?_
  repeat' (first
    | (show evG _ _ _ _ _ _ _; first | refine G_andNot0 ?_ | refine G_andNot1 ?_ | refine G_add64 ?_ | refine G_sub64 ?_ | refine G_mul64 ?_ | refine G_quo ?_ | refine G_rem ?_ | refine G_shl8 ?_ | refine G_orb ?_ | refine G_shr ?_ | refine G_pure0 ?_ | refine G_load ?_ | refine evG_nil ?_ | refine G_br ?_ ?_ | refine G_field ?_ | refine G_pure ?_ | refine G_store ?_ | refine G_loadV ?_ | refine G_loadV0 ?_ | refine G_loadV2 ?_ | (refine G_append ?_; intro _ _) | (refine G_appendN ?_; intro _ _) | refine G_not ?_ | refine G_index ?_ | refine G_indexA ?_ | refine G_indexS ?_ | refine G_conv64 ?_ | refine G_conv8 ?_ | refine G_convu ?_ | refine G_conv ?_ | refine G_build ?_ | refine G_slh ?_ | refine G_slo ?_ | refine G_shi ?_ | refine G_cat ?_ | refine G_min ?_ | refine G_max ?_ | refine G_neg64 ?_ | refine G_eql_agg ?_ | refine G_neq_agg ?_ | refine G_bytesP ?_ | refine G_bytesstr ?_ | refine G_call ?_ | refine G_call0 ?_ | refine G_callv ?_ | refine G_callv0 ?_ | (refine G_box ?_; intro _) | (refine G_alloc ?_; intro _) | (refine G_buildSlice ?_; intro _) | (refine G_strrow ?_; intro _ _) | (refine G_indexV ?_; intro _ _ hA; subst hA) | (refine G_sliceR ?_; intro _) | (refine G_sliceO ?_; intro _) | refine G_skip ?_ | refine G_skip0 ?_)
    | (show spl _ _ _; first | refine spl_no rfl ?_ | refine spl_yes rfl ?_)
    | (show evC _ _ _ _ _; first | refine c_seq ?_ | refine c_region (by exact rfl) ?_ | refine c_cond (by exact rfl) ?_ | refine c_ret ?_ | refine c_skip ?_ | refine c_block ?_ | refine c_exit ?_  | refine c_draw (by exact rfl) (by decide +kernel) (by exact rfl) ?_ | refine c_drawT (by exact rfl) (by decide +kernel) (by exact rfl) ?_ | refine c_scope ?_ | refine c_label ?_)
    | (show Br _ _ _; first | refine Br.t (by decide +kernel) ?_ | refine Br.f (by decide +kernel) ?_ | refine Br.t rfl ?_ | refine Br.f rfl ?_ | refine Br.t (beq_self_eq_true _) ?_ | refine Br.f (not_beq_self _) ?_ | refine Br.t (by assumption) ?_ | refine Br.f (by assumption) ?_ | refine Br.t (nb_f (by assumption)) ?_ | refine Br.f (nb_t (by assumption)) ?_ | (refine Br.mk (fun h => ?_) (fun h => ?_) <;> (try simp only [Bool.and_eq_true, Bool.or_eq_true, Bool.and_eq_false_iff, Bool.or_eq_false_iff, decide_eq_true_eq, decide_eq_false_iff_not, beq_iff_eq, bne_iff_ne, beq_eq_false_iff_ne, bne_eq_false_iff_eq, ne_eq, Bool.not_eq_true', Bool.not_eq_false', not_true_eq_false, not_false_eq_true, Int.not_lt, Int.not_le, gt_iff_lt, ge_iff_le] at h) <;> (try (first | contradiction | (exfalso; omega)))))
    | (show thenC _ _ _ _ _; first | refine t_n ?_ | refine t_r ?_ | refine t_e ?_)
    | (show inBlockC _ _ _ _ _; first | refine b_n ?_ | refine b_r ?_ | refine b_hit rfl ?_ | refine b_miss rfl ?_)
    | (show noGotoC _ _ _ _; first | refine g_n ?_ | refine g_r ?_ | refine g_e ?_)
    | (show CallT _ 15 _ _ _; refine CA (h := hputA_ok (by decide) ?_))
    | (show CallT _ 16 _ _ _; refine CA (h := hgetC_ok ?_))
    | (show CallT _ 60 _ _ _; refine CA (h := fits_ok (by decide) ?_)))
  (refine RETC ?_; exact ret_done (hK))
theorem headerNeeds_ok {k : Int} (hK : K (.bool true) R) : CallT Try.prog 5 #[.int .i64 k] R K := by
  by_cases h : 0 ≤ k ∧ k ≤ 11
  · obtain ⟨e1, e2, e3, e4, e5⟩ := rules_facts k h.1 h.2
    have c1 : ∀ {R : List HP} {K : Value → List HP → Prop}, K (.tuple #[.bool (decide (5 ≤ k) && decide (k ≤ 10)), .bool (decide (k ≤ 4) || decide (10 ≤ k)), .int .i64 0]) R → CallT Try.prog 21 #[.int .i64 k] R K := fun h => by
      refine needs_ok ?_
      rw [e1, e2, e4]; exact h
    have c2 : ∀ {R : List HP} {K : Value → List HP → Prop}, K (.tuple #[.int .i64 (longR k), .int .i64 0]) R → CallT Try.prog 22 #[.int .i64 k] R K := fun h => by
      refine long_ok ?_
      rw [e3, e4]; exact h
    refine callT_intro mixed Try.func5 rfl (by decide) (by decide +kernel) (by exact Nat.le_of_ble_eq_true rfl) ?_
    repeat' (first
      | (show evG _ _ _ _ _ _ _; first | refine G_andNot0 ?_ | refine G_andNot1 ?_ | refine G_add64 ?_ | refine G_sub64 ?_ | refine G_mul64 ?_ | refine G_quo ?_ | refine G_rem ?_ | refine G_shl8 ?_ | refine G_orb ?_ | refine G_shr ?_ | refine G_pure0 ?_ | refine G_load ?_ | refine evG_nil ?_ | refine G_br ?_ ?_ | refine G_field ?_ | refine G_pure ?_ | refine G_store ?_ | refine G_loadV ?_ | refine G_loadV0 ?_ | refine G_loadV2 ?_ | (refine G_append ?_; intro _ _) | (refine G_appendN ?_; intro _ _) | refine G_not ?_ | refine G_index ?_ | refine G_indexA ?_ | refine G_indexS ?_ | refine G_conv64 ?_ | refine G_conv8 ?_ | refine G_convu ?_ | refine G_conv ?_ | refine G_build ?_ | refine G_slh ?_ | refine G_slo ?_ | refine G_shi ?_ | refine G_cat ?_ | refine G_min ?_ | refine G_max ?_ | refine G_neg64 ?_ | refine G_eql_agg ?_ | refine G_neq_agg ?_ | refine G_bytesP ?_ | refine G_bytesstr ?_ | refine G_call ?_ | refine G_call0 ?_ | refine G_callv ?_ | refine G_callv0 ?_ | (refine G_box ?_; intro _) | (refine G_alloc ?_; intro _) | (refine G_buildSlice ?_; intro _) | (refine G_strrow ?_; intro _ _) | (refine G_indexV ?_; intro _ _ hA; subst hA) | (refine G_sliceR ?_; intro _) | (refine G_sliceO ?_; intro _) | refine G_skip ?_ | refine G_skip0 ?_)
      | (show spl _ _ _; first | refine spl_no rfl ?_ | refine spl_yes rfl ?_)
      | (show evC _ _ _ _ _; first | refine c_seq ?_ | refine c_region (by exact rfl) ?_ | refine c_cond (by exact rfl) ?_ | refine c_ret ?_ | refine c_skip ?_ | refine c_block ?_ | refine c_exit ?_  | refine c_draw (by exact rfl) (by decide +kernel) (by exact rfl) ?_ | refine c_drawT (by exact rfl) (by decide +kernel) (by exact rfl) ?_ | refine c_scope ?_ | refine c_label ?_)
      | (show Br _ _ _; first | refine Br.t rfl ?_ | refine Br.f rfl ?_ | refine Br.t (beq_self_eq_true _) ?_ | refine Br.f (not_beq_self _) ?_ | refine Br.t (by assumption) ?_ | refine Br.f (by assumption) ?_ | refine Br.t (nb_f (by assumption)) ?_ | refine Br.f (nb_t (by assumption)) ?_ | (refine Br.mk (fun h => ?_) (fun h => ?_) <;> (try simp only [Bool.and_eq_true, Bool.or_eq_true, Bool.and_eq_false_iff, Bool.or_eq_false_iff, decide_eq_true_eq, decide_eq_false_iff_not, beq_iff_eq, bne_iff_ne, beq_eq_false_iff_ne, bne_eq_false_iff_eq, ne_eq, Bool.not_eq_true', Bool.not_eq_false', not_true_eq_false, not_false_eq_true, Int.not_lt, Int.not_le, gt_iff_lt, ge_iff_le] at h) <;> (try (first | contradiction | (exfalso; omega)))))
      | (show thenC _ _ _ _ _; first | refine t_n ?_ | refine t_r ?_ | refine t_e ?_)
      | (show inBlockC _ _ _ _ _; first | refine b_n ?_ | refine b_r ?_ | refine b_hit rfl ?_ | refine b_miss rfl ?_)
      | (show noGotoC _ _ _ _; first | refine g_n ?_ | refine g_r ?_ | refine g_e ?_)
      | (show CallT _ 21 _ _ _; refine CA (h := c1 ?_))
      | (show CallT _ 22 _ _ _; refine CA (h := c2 ?_))
      | (show CallT _ 19 _ _ _; refine CA (h := awake2_ok ?_))
      | (show CallT _ 23 _ _ _; refine CA (h := zeroR_ok ?_))
      | (show CallT _ 24 _ _ _; refine CA (h := oneR_ok ?_))
      | (show CallT _ 25 _ _ _; refine CA (h := longR_ok ?_)))
    all_goals (refine RETC ?_; exact ret_done (kb hK (by simp)))
  · have e1 : ruleOf k = (false, false, 0, 0) := by unfold ruleOf; rw [if_pos (by omega)]
    have e2 : ruleE k = 3 := by unfold ruleE; rw [if_pos (by omega)]
    have c1 : ∀ {R : List HP} {K : Value → List HP → Prop}, K (.tuple #[.bool false, .bool false, .int .i64 3]) R → CallT Try.prog 21 #[.int .i64 k] R K := fun h => by
      refine needs_ok ?_
      rw [e1, e2]; exact h
    have c2 : ∀ {R : List HP} {K : Value → List HP → Prop}, K (.tuple #[.int .i64 0, .int .i64 3]) R → CallT Try.prog 22 #[.int .i64 k] R K := fun h => by
      refine long_ok ?_
      rw [e1, e2]; exact h
    refine callT_intro mixed Try.func5 rfl (by decide) (by decide +kernel) (by exact Nat.le_of_ble_eq_true rfl) ?_
    repeat' (first
      | (show evG _ _ _ _ _ _ _; first | refine G_andNot0 ?_ | refine G_andNot1 ?_ | refine G_add64 ?_ | refine G_sub64 ?_ | refine G_mul64 ?_ | refine G_quo ?_ | refine G_rem ?_ | refine G_shl8 ?_ | refine G_orb ?_ | refine G_shr ?_ | refine G_pure0 ?_ | refine G_load ?_ | refine evG_nil ?_ | refine G_br ?_ ?_ | refine G_field ?_ | refine G_pure ?_ | refine G_store ?_ | refine G_loadV ?_ | refine G_loadV0 ?_ | refine G_loadV2 ?_ | (refine G_append ?_; intro _ _) | (refine G_appendN ?_; intro _ _) | refine G_not ?_ | refine G_index ?_ | refine G_indexA ?_ | refine G_indexS ?_ | refine G_conv64 ?_ | refine G_conv8 ?_ | refine G_convu ?_ | refine G_conv ?_ | refine G_build ?_ | refine G_slh ?_ | refine G_slo ?_ | refine G_shi ?_ | refine G_cat ?_ | refine G_min ?_ | refine G_max ?_ | refine G_neg64 ?_ | refine G_eql_agg ?_ | refine G_neq_agg ?_ | refine G_bytesP ?_ | refine G_bytesstr ?_ | refine G_call ?_ | refine G_call0 ?_ | refine G_callv ?_ | refine G_callv0 ?_ | (refine G_box ?_; intro _) | (refine G_alloc ?_; intro _) | (refine G_buildSlice ?_; intro _) | (refine G_strrow ?_; intro _ _) | (refine G_indexV ?_; intro _ _ hA; subst hA) | (refine G_sliceR ?_; intro _) | (refine G_sliceO ?_; intro _) | refine G_skip ?_ | refine G_skip0 ?_)
      | (show spl _ _ _; first | refine spl_no rfl ?_ | refine spl_yes rfl ?_)
      | (show evC _ _ _ _ _; first | refine c_seq ?_ | refine c_region (by exact rfl) ?_ | refine c_cond (by exact rfl) ?_ | refine c_ret ?_ | refine c_skip ?_ | refine c_block ?_ | refine c_exit ?_  | refine c_draw (by exact rfl) (by decide +kernel) (by exact rfl) ?_ | refine c_drawT (by exact rfl) (by decide +kernel) (by exact rfl) ?_ | refine c_scope ?_ | refine c_label ?_)
      | (show Br _ _ _; first | refine Br.t rfl ?_ | refine Br.f rfl ?_ | refine Br.t (beq_self_eq_true _) ?_ | refine Br.f (not_beq_self _) ?_ | refine Br.t (by assumption) ?_ | refine Br.f (by assumption) ?_ | refine Br.t (nb_f (by assumption)) ?_ | refine Br.f (nb_t (by assumption)) ?_ | (refine Br.mk (fun h => ?_) (fun h => ?_) <;> (try simp only [Bool.and_eq_true, Bool.or_eq_true, Bool.and_eq_false_iff, Bool.or_eq_false_iff, decide_eq_true_eq, decide_eq_false_iff_not, beq_iff_eq, bne_iff_ne, beq_eq_false_iff_ne, bne_eq_false_iff_eq, ne_eq, Bool.not_eq_true', Bool.not_eq_false', not_true_eq_false, not_false_eq_true, Int.not_lt, Int.not_le, gt_iff_lt, ge_iff_le] at h) <;> (try (first | contradiction | (exfalso; omega)))))
      | (show thenC _ _ _ _ _; first | refine t_n ?_ | refine t_r ?_ | refine t_e ?_)
      | (show inBlockC _ _ _ _ _; first | refine b_n ?_ | refine b_r ?_ | refine b_hit rfl ?_ | refine b_miss rfl ?_)
      | (show noGotoC _ _ _ _; first | refine g_n ?_ | refine g_r ?_ | refine g_e ?_)
      | (show CallT _ 21 _ _ _; refine CA (h := c1 ?_))
      | (show CallT _ 22 _ _ _; refine CA (h := c2 ?_))
      | (show CallT _ 19 _ _ _; refine CA (h := awake2_ok ?_)))
    all_goals (refine RETC ?_; exact ret_done (kb hK (by simp)))
theorem headerPuts_ok {l t f s : Int} {b : ByteArray} (hl : l ≤ 9223372036854775807) (ht : t ≤ 9223372036854775807) (hf : f ≤ 9223372036854775807) (hs : s ≤ 9223372036854775807) (hb : b.size < 1000000000000000) (hK : K (.bool true) R) : CallT Try.prog 3 #[.agg #[.int .i64 l, .int .i64 t, .int .i64 f, .int .i64 s], .string b] R K := by
  have c3 : ∀ {R : List HP} {K : Value → List HP → Prop}, K (.string (laidH l t f s)) R → CallT Try.prog 20 #[.agg #[.int .i64 l, .int .i64 t, .int .i64 f, .int .i64 s]] R K := fun h => hlay_ok hl ht hf hs h
  cases ho : hOk l t f s
  · refine callT_intro mixed Try.func3 rfl (by decide) (by decide +kernel) (by exact Nat.le_of_ble_eq_true rfl) ?_
    repeat' (first
      | (show evG _ _ _ _ _ _ _; first | refine G_andNot0 ?_ | refine G_andNot1 ?_ | refine G_add64 ?_ | refine G_sub64 ?_ | refine G_mul64 ?_ | refine G_quo ?_ | refine G_rem ?_ | refine G_shl8 ?_ | refine G_orb ?_ | refine G_shr ?_ | refine G_pure0 ?_ | refine G_load ?_ | refine evG_nil ?_ | refine G_br ?_ ?_ | refine G_field ?_ | refine G_pure ?_ | refine G_store ?_ | refine G_loadV ?_ | refine G_loadV0 ?_ | refine G_loadV2 ?_ | (refine G_append ?_; intro _ _) | (refine G_appendN ?_; intro _ _) | refine G_not ?_ | refine G_index ?_ | refine G_indexA ?_ | refine G_indexS ?_ | refine G_conv64 ?_ | refine G_conv8 ?_ | refine G_convu ?_ | refine G_conv ?_ | refine G_build ?_ | refine G_slh ?_ | refine G_slo ?_ | refine G_shi ?_ | refine G_cat ?_ | refine G_min ?_ | refine G_max ?_ | refine G_neg64 ?_ | refine G_eql_agg ?_ | refine G_neq_agg ?_ | refine G_bytesP ?_ | refine G_bytesstr ?_ | refine G_call ?_ | refine G_call0 ?_ | refine G_callv ?_ | refine G_callv0 ?_ | (refine G_box ?_; intro _) | (refine G_alloc ?_; intro _) | (refine G_buildSlice ?_; intro _) | (refine G_strrow ?_; intro _ _) | (refine G_indexV ?_; intro _ _ hA; subst hA) | (refine G_sliceR ?_; intro _) | (refine G_sliceO ?_; intro _) | refine G_skip ?_ | refine G_skip0 ?_)
      | (show spl _ _ _; first | refine spl_no rfl ?_ | refine spl_yes rfl ?_)
      | (show evC _ _ _ _ _; first | refine c_seq ?_ | refine c_region (by exact rfl) ?_ | refine c_cond (by exact rfl) ?_ | refine c_ret ?_ | refine c_skip ?_ | refine c_block ?_ | refine c_exit ?_  | refine c_draw (by exact rfl) (by decide +kernel) (by exact rfl) ?_ | refine c_drawT (by exact rfl) (by decide +kernel) (by exact rfl) ?_ | refine c_scope ?_ | refine c_label ?_)
      | (show Br _ _ _; first | refine Br.t rfl ?_ | refine Br.f rfl ?_ | refine Br.t (beq_self_eq_true _) ?_ | refine Br.f (not_beq_self _) ?_ | refine Br.t (by assumption) ?_ | refine Br.f (by assumption) ?_ | refine Br.t (nb_f (by assumption)) ?_ | refine Br.f (nb_t (by assumption)) ?_ | (refine Br.mk (fun h => ?_) (fun h => ?_) <;> (try simp only [Bool.and_eq_true, Bool.or_eq_true, Bool.and_eq_false_iff, Bool.or_eq_false_iff, decide_eq_true_eq, decide_eq_false_iff_not, beq_iff_eq, bne_iff_ne, beq_eq_false_iff_ne, bne_eq_false_iff_eq, ne_eq, Bool.not_eq_true', Bool.not_eq_false', not_true_eq_false, not_false_eq_true, Int.not_lt, Int.not_le, gt_iff_lt, ge_iff_le] at h) <;> (try (first | contradiction | (exfalso; omega)))))
      | (show thenC _ _ _ _ _; first | refine t_n ?_ | refine t_r ?_ | refine t_e ?_)
      | (show inBlockC _ _ _ _ _; first | refine b_n ?_ | refine b_r ?_ | refine b_hit rfl ?_ | refine b_miss rfl ?_)
      | (show noGotoC _ _ _ _; first | refine g_n ?_ | refine g_r ?_ | refine g_e ?_)
      | (show CallT _ 15 _ _ _; refine CA (h := hputB_ok (by assumption) ?_))
      | (show CallT _ 16 _ _ _; refine CA (h := hgetC_ok ?_))
      | (show CallT _ 17 _ _ _; refine CA (h := rgetC_ok (by assumption) ?_))
      | (show CallT _ 18 _ _ _; refine CA (h := hright_ok ?_))
      | (show CallT _ 19 _ _ _; refine CA (h := awake2_ok ?_)))
    all_goals (refine RETC ?_; exact ret_done (kb hK (by simp)))
  · refine callT_intro mixed Try.func3 rfl (by decide) (by decide +kernel) (by exact Nat.le_of_ble_eq_true rfl) ?_
    repeat' (first
      | (show evG _ _ _ _ _ _ _; first | refine G_andNot0 ?_ | refine G_andNot1 ?_ | refine G_add64 ?_ | refine G_sub64 ?_ | refine G_mul64 ?_ | refine G_quo ?_ | refine G_rem ?_ | refine G_shl8 ?_ | refine G_orb ?_ | refine G_shr ?_ | refine G_pure0 ?_ | refine G_load ?_ | refine evG_nil ?_ | refine G_br ?_ ?_ | refine G_field ?_ | refine G_pure ?_ | refine G_store ?_ | refine G_loadV ?_ | refine G_loadV0 ?_ | refine G_loadV2 ?_ | (refine G_append ?_; intro _ _) | (refine G_appendN ?_; intro _ _) | refine G_not ?_ | refine G_index ?_ | refine G_indexA ?_ | refine G_indexS ?_ | refine G_conv64 ?_ | refine G_conv8 ?_ | refine G_convu ?_ | refine G_conv ?_ | refine G_build ?_ | refine G_slh ?_ | refine G_slo ?_ | refine G_shi ?_ | refine G_cat ?_ | refine G_min ?_ | refine G_max ?_ | refine G_neg64 ?_ | refine G_eql_agg ?_ | refine G_neq_agg ?_ | refine G_bytesP ?_ | refine G_bytesstr ?_ | refine G_call ?_ | refine G_call0 ?_ | refine G_callv ?_ | refine G_callv0 ?_ | (refine G_box ?_; intro _) | (refine G_alloc ?_; intro _) | (refine G_buildSlice ?_; intro _) | (refine G_strrow ?_; intro _ _) | (refine G_indexV ?_; intro _ _ hA; subst hA) | (refine G_sliceR ?_; intro _) | (refine G_sliceO ?_; intro _) | refine G_skip ?_ | refine G_skip0 ?_)
      | (show spl _ _ _; first | refine spl_no rfl ?_ | refine spl_yes rfl ?_)
      | (show evC _ _ _ _ _; first | refine c_seq ?_ | refine c_region (by exact rfl) ?_ | refine c_cond (by exact rfl) ?_ | refine c_ret ?_ | refine c_skip ?_ | refine c_block ?_ | refine c_exit ?_  | refine c_draw (by exact rfl) (by decide +kernel) (by exact rfl) ?_ | refine c_drawT (by exact rfl) (by decide +kernel) (by exact rfl) ?_ | refine c_scope ?_ | refine c_label ?_)
      | (show Br _ _ _; first | refine Br.t rfl ?_ | refine Br.f rfl ?_ | refine Br.t (beq_self_eq_true _) ?_ | refine Br.f (not_beq_self _) ?_ | refine Br.t (by assumption) ?_ | refine Br.f (by assumption) ?_ | refine Br.t (nb_f (by assumption)) ?_ | refine Br.f (nb_t (by assumption)) ?_ | (refine Br.mk (fun h => ?_) (fun h => ?_) <;> (try simp only [Bool.and_eq_true, Bool.or_eq_true, Bool.and_eq_false_iff, Bool.or_eq_false_iff, decide_eq_true_eq, decide_eq_false_iff_not, beq_iff_eq, bne_iff_ne, beq_eq_false_iff_ne, bne_eq_false_iff_eq, ne_eq, Bool.not_eq_true', Bool.not_eq_false', not_true_eq_false, not_false_eq_true, Int.not_lt, Int.not_le, gt_iff_lt, ge_iff_le] at h) <;> (try (first | contradiction | (exfalso; omega)))))
      | (show thenC _ _ _ _ _; first | refine t_n ?_ | refine t_r ?_ | refine t_e ?_)
      | (show inBlockC _ _ _ _ _; first | refine b_n ?_ | refine b_r ?_ | refine b_hit rfl ?_ | refine b_miss rfl ?_)
      | (show noGotoC _ _ _ _; first | refine g_n ?_ | refine g_r ?_ | refine g_e ?_)
      | (show CallT _ 15 _ _ _; refine CA (h := hputA_ok (by assumption) ?_))
      | (show CallT _ 16 _ _ _; refine CA (h := hgetC_ok ?_))
      | (show CallT _ 17 _ _ _; refine CA (h := rgetC_ok (by assumption) ?_))
      | (show CallT _ 18 _ _ _; refine CA (h := hright_ok ?_))
      | (show CallT _ 19 _ _ _; refine CA (h := awake2_ok ?_))
      | (show CallT _ 20 _ _ _; refine CA (h := c3 ?_)))
    all_goals (refine RETC ?_; exact ret_done (kb hK (by simp)))
end Go.Proofs.Ytgdfmbnbknhhiaa
