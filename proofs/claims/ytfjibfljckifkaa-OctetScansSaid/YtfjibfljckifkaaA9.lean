/- The law OctetBack: lemmas; each with the conditions that it states. -/
import Derived.Test.YtfjibfljckifkaaA8
namespace Go.Proofs.Ytfjibfljckifkaa
open Go Go.Proofs Go.Sl
set_option maxRecDepth 100000
set_option maxHeartbeats 4000000
set_option linter.unusedSimpArgs false
set_option linter.unusedVariables false
attribute [local irreducible] evG evC spl thenC inBlockC noGotoC CallT retC RetG TurnG CutG pt ro exP star sep pureP
variable {R C : List HP} {K : Value → List HP → Prop}
theorem takeY_ok {p : Nat} {n : Int} {s : ByteArray} {bad : Bool} (h : takeOk n s bad = true) (hK : K (.string (takeS n s bad)) (scanP p (takeR n s bad) false :: R)) : CallT Try.prog 26 #[.pointer (some ⟨p, 0, none⟩), .int .i64 n] (scanP p s bad :: R) K := by
  refine take_ok ?_
  rw [h]; exact hK
theorem restY_ok {p : Nat} {s : ByteArray} {bad : Bool} (h : takeOk s.size s bad = true) (hK : K (.string (takeS s.size s bad)) (scanP p (takeR s.size s bad) false :: R)) : CallT Try.prog 23 #[.pointer (some ⟨p, 0, none⟩)] (scanP p s bad :: R) K := by
  refine rest_ok ?_
  rw [h]; exact hK
theorem UY_ok {p : Nat} {n : Int} {s : ByteArray} {bad : Bool} (h : takeOk (uW n) s bad = true) (hK : K (.int .i64 (uN n s bad)) (scanP p (takeR (uW n) s bad) false :: R)) : CallT Try.prog 24 #[.pointer (some ⟨p, 0, none⟩), .int .i64 n] (scanP p s bad :: R) K := by
  refine U_ok ?_
  rw [h]; exact hK
theorem take_app {u : ByteArray} {l t : List UInt8} (k : Int) (hu : u.data.toList = l ++ t) (hk : k = l.length) : takeOk k u false = true ∧ (takeS k u false).data.toList = l ∧ (takeR k u false).data.toList = t := by
  subst hk
  have hs : u.size = l.length + t.length := by
    have : u.data.toList.length = u.size := by simp
    rw [← this, hu, List.length_append]
  have hok : takeOk (l.length : Int) u false = true := by
    unfold takeOk
    simp
    omega
  refine ⟨hok, ?_, ?_⟩
  · unfold takeS
    rw [hok]
    simp [hu]
  · unfold takeR
    rw [hok]
    simp [hu, hs]
theorem uN_app {u : ByteArray} {n w : Int} {t : List UInt8} (hw : 1 ≤ w ∧ w ≤ 4) (hu : u.data.toList = wB n w ++ t) (h0 : 0 ≤ n) (h1 : n < 256 ^ w.toNat) : takeOk (uW w) u false = true ∧ uN w u false = n ∧ (takeR (uW w) u false).data.toList = t := by
  have hW : uW w = w := by unfold uW; rw [if_neg (by omega)]
  obtain ⟨a1, a2, a3⟩ := take_app w hu (by rw [wB_len]; omega)
  refine ⟨by rw [hW]; exact a1, ?_, by rw [hW]; exact a3⟩
  unfold uN
  rw [hW, a2]
  obtain ⟨k, rfl⟩ : ∃ k : Nat, w = k := ⟨w.toNat, by omega⟩
  rw [num_wB, Int.emod_eq_of_lt h0 (by rwa [Int.toNat_natCast] at h1)]
theorem may_rng {n w : Int} (h : pcMay n w = 0) (hw : 0 < w) : 0 ≤ n ∧ n < 256 ^ w.toNat := by
  have h4 := pcMay_w h
  have h2 : 0 ≤ n ∧ ¬ 0 < n / 2 ^ (8 * w).toNat := by
    unfold pcMay at h
    split at h
    · cases h
    · split at h
      · cases h
      · omega
  refine ⟨h2.1, ?_⟩
  have e : (2 : Int) ^ (8 * w).toNat = 256 ^ w.toNat := by
    have : (8 * w).toNat = 8 * w.toNat := by omega
    rw [this, Int.pow_mul]; rfl
  rw [e] at h2
  have hq : (0 : Int) < 256 ^ w.toNat := Int.pow_pos (by decide)
  generalize (256 : Int) ^ w.toNat = q at *
  have h3 := Int.emod_lt_of_pos n hq
  have h4 := Int.emod_def n q
  have h5 : n / q = 0 := by
    have : 0 ≤ n / q := Int.ediv_nonneg h2.1 (by omega)
    omega
  rw [h5] at h4
  omega
theorem ba_ext {s t : ByteArray} (h : s.data.toList = t.data.toList) : s = t := by
  apply ByteArray.ext; exact Array.toList_inj.1 h
theorem back_loop {Q : Exit → Fr → List HP → Prop} {a : Fr} {A : Option Addr} {n c x : Nat} {ps : List Pc} {u0 behind : ByteArray} {C0 : List HP} (hv : View C0 A pcC ps) (hn : ps.length = n) (hn2 : n ≤ 40) (hf : firstE ps = 0) (hu : u0.data.toList = allB ps ++ behind.data.toList)
    (ha : Agree a [(0, .slice A n c), (1, .string behind), (7, .pointer (some ⟨x, 0, none⟩)), (8, .int .i64 0)]) (hC : Ent C (scanP x u0 false :: C0)) (v5 : Value) (h5 : a 5 = v5)
    (hK : ∀ a, Q (.exit 0) (updL a [(0, .slice A n c), (1, .string behind), (7, .pointer (some ⟨x, 0, none⟩)), (5, v5)]) (scanP x behind false :: C0)) : evC Try.prog (loopAt Try.f7 0) Q a C := by
  refine evC_ent hC ?_
  refine LOOP (fun m a C' => ∃ (i : Nat) (u : ByteArray), i + m = n ∧ C' = scanP x u false :: C0 ∧ firstE (ps.drop i) = 0 ∧ u.data.toList = allB (ps.drop i) ++ behind.data.toList ∧ Agree a [(0, .slice A n c), (1, .string behind), (7, .pointer (some ⟨x, 0, none⟩)), (8, .int .i64 i), (5, v5)]) n
    (turn n ⟨0, u0, by omega, rfl, hf, hu, ha.1, ha.2.1, ha.2.2.1, ha.2.2.2.1, h5, trivial⟩) ?_
  rintro n1 a C' ⟨i, u, hi, rfl, hfi, hui, ha⟩
  refine c_fr _ ha ?_
  simp only [updL]
  by_cases hlt : i < n
  · obtain ⟨p, hp, hd⟩ := at_drop (l := ps) (j := i) (by omega)
    rw [firstE_drop hd] at hfi
    split at hfi
    · rename_i hm
      have hw := pcMay_w hm
      have hcons : allB (ps.drop i) = pcB p.n p.w p.s ++ allB (ps.drop (i + 1)) := by rw [hd]; rfl
      rw [hcons] at hui
      by_cases h0 : p.w = 0
      · have hpb : pcB p.n p.w p.s = p.s.data.toList := by
          unfold pcB; rw [if_pos h0, h0]; simp [wB]
        rw [hpb, List.append_assoc] at hui
        obtain ⟨b1, b2, b3⟩ := take_app (p.s.size : Int) hui (by simp)
        have b4 : (takeS p.s.size u false).toList = p.s.toList := by rw [toList_data, toList_data, b2]
        repeat' (first
          | (show evG _ _ _ _ _ _ _; first | refine G_add64 ?_ | refine G_sub64 ?_ | refine G_mul64 ?_ | refine G_quo ?_ | refine G_rem ?_ | refine G_shl8 ?_ | refine G_orb ?_ | refine G_shr ?_ | refine G_pure0 ?_ | refine G_load ?_ | refine evG_nil ?_ | refine G_field ?_ | refine G_pure ?_ | refine G_store ?_ | refine G_loadV ?_ | refine G_loadV0 ?_ | refine G_loadV2 ?_ | (refine G_append ?_; intro _ _) | (refine G_appendN ?_; intro _ _) | refine G_not ?_ | refine G_index ?_ | refine G_indexA ?_ | refine G_indexS ?_ | refine G_conv64 ?_ | refine G_conv8 ?_ | refine G_convu ?_ | refine G_conv ?_ | refine G_build ?_ | refine G_slh ?_ | refine G_slo ?_ | refine G_shi ?_ | refine G_cat ?_ | refine G_min ?_ | refine G_max ?_ | refine G_neg64 ?_ | refine G_eql_agg ?_ | refine G_neq_agg ?_ | refine G_bytesP ?_ | refine G_bytesstr ?_ | refine G_call ?_ | refine G_call0 ?_ | refine G_callv ?_ | refine G_callv0 ?_ | (refine G_box ?_; intro _) | (refine G_alloc ?_; intro _) | (refine G_buildSlice ?_; intro _) | (refine G_strrow ?_; intro _ _) | (refine G_indexV ?_; intro _ _ hA; subst hA) | (refine G_sliceR ?_; intro _) | (refine G_sliceO ?_; intro _) | refine G_skip ?_ | refine G_skip0 ?_)
          | (show spl _ _ _; first | refine spl_no rfl ?_ | refine spl_yes rfl ?_)
          | (show evC _ _ _ _ _; first | refine c_seq ?_ | refine c_region (by exact rfl) ?_ | refine c_cond (by exact rfl) ?_ | refine c_ret ?_ | refine c_skip ?_ | refine c_block ?_ | refine c_exit ?_ | refine c_draw (by exact rfl) (by decide +kernel) (by exact rfl) ?_ | refine c_scope ?_ | refine c_label ?_)
          | (show Br _ _ _; first | refine Br.t rfl ?_ | refine Br.f rfl ?_ | refine Br.t (beq_self_eq_true _) ?_ | refine Br.f (not_beq_self _) ?_ | refine Br.t (by assumption) ?_ | refine Br.f (by assumption) ?_ | (refine Br.mk (fun h => ?_) (fun h => ?_) <;> (try simp only [decide_eq_true_eq, decide_eq_false_iff_not, beq_iff_eq, bne_iff_ne, beq_eq_false_iff_ne, bne_eq_false_iff_eq, ne_eq, Bool.not_eq_true', Bool.not_eq_false', not_true_eq_false, not_false_eq_true, Int.not_lt, Int.not_le, gt_iff_lt, ge_iff_le] at h) <;> (try (first | contradiction | (exfalso; omega)))))
          | (show thenC _ _ _ _ _; first | refine t_n ?_ | refine t_r ?_ | refine t_e ?_)
          | (show inBlockC _ _ _ _ _; first | refine b_n ?_ | refine b_r ?_ | refine b_hit rfl ?_ | refine b_miss rfl ?_)
          | (show noGotoC _ _ _ _; first | refine g_n ?_ | refine g_r ?_ | refine g_e ?_)
          | (show CallT _ 26 _ _ _; refine CA (h := takeY_ok (by assumption) ?_)))
        exact turn (n1 - 1) ⟨i + 1, _, by omega, rfl, hfi, b3, rfl, rfl, rfl, rfl, rfl, trivial⟩
      · have hpb : pcB p.n p.w p.s = wB p.n p.w := by
          unfold pcB; rw [if_neg h0]; rfl
        rw [hpb, List.append_assoc] at hui
        have hr := may_rng hm (by omega)
        obtain ⟨b1, b2, b3⟩ := uN_app (by omega) hui hr.1 hr.2
        repeat' (first
          | (show evG _ _ _ _ _ _ _; first | refine G_add64 ?_ | refine G_sub64 ?_ | refine G_mul64 ?_ | refine G_quo ?_ | refine G_rem ?_ | refine G_shl8 ?_ | refine G_orb ?_ | refine G_shr ?_ | refine G_pure0 ?_ | refine G_load ?_ | refine evG_nil ?_ | refine G_field ?_ | refine G_pure ?_ | refine G_store ?_ | refine G_loadV ?_ | refine G_loadV0 ?_ | refine G_loadV2 ?_ | (refine G_append ?_; intro _ _) | (refine G_appendN ?_; intro _ _) | refine G_not ?_ | refine G_index ?_ | refine G_indexA ?_ | refine G_indexS ?_ | refine G_conv64 ?_ | refine G_conv8 ?_ | refine G_convu ?_ | refine G_conv ?_ | refine G_build ?_ | refine G_slh ?_ | refine G_slo ?_ | refine G_shi ?_ | refine G_cat ?_ | refine G_min ?_ | refine G_max ?_ | refine G_neg64 ?_ | refine G_eql_agg ?_ | refine G_neq_agg ?_ | refine G_bytesP ?_ | refine G_bytesstr ?_ | refine G_call ?_ | refine G_call0 ?_ | refine G_callv ?_ | refine G_callv0 ?_ | (refine G_box ?_; intro _) | (refine G_alloc ?_; intro _) | (refine G_buildSlice ?_; intro _) | (refine G_strrow ?_; intro _ _) | (refine G_indexV ?_; intro _ _ hA; subst hA) | (refine G_sliceR ?_; intro _) | (refine G_sliceO ?_; intro _) | refine G_skip ?_ | refine G_skip0 ?_)
          | (show spl _ _ _; first | refine spl_no rfl ?_ | refine spl_yes rfl ?_)
          | (show evC _ _ _ _ _; first | refine c_seq ?_ | refine c_region (by exact rfl) ?_ | refine c_cond (by exact rfl) ?_ | refine c_ret ?_ | refine c_skip ?_ | refine c_block ?_ | refine c_exit ?_ | refine c_draw (by exact rfl) (by decide +kernel) (by exact rfl) ?_ | refine c_scope ?_ | refine c_label ?_)
          | (show Br _ _ _; first | refine Br.t rfl ?_ | refine Br.f rfl ?_ | refine Br.t (beq_self_eq_true _) ?_ | refine Br.f (not_beq_self _) ?_ | refine Br.t (by assumption) ?_ | refine Br.f (by assumption) ?_ | (refine Br.mk (fun h => ?_) (fun h => ?_) <;> (try simp only [decide_eq_true_eq, decide_eq_false_iff_not, beq_iff_eq, bne_iff_ne, beq_eq_false_iff_ne, bne_eq_false_iff_eq, ne_eq, Bool.not_eq_true', Bool.not_eq_false', not_true_eq_false, not_false_eq_true, Int.not_lt, Int.not_le, gt_iff_lt, ge_iff_le] at h) <;> (try (first | contradiction | (exfalso; omega)))))
          | (show thenC _ _ _ _ _; first | refine t_n ?_ | refine t_r ?_ | refine t_e ?_)
          | (show inBlockC _ _ _ _ _; first | refine b_n ?_ | refine b_r ?_ | refine b_hit rfl ?_ | refine b_miss rfl ?_)
          | (show noGotoC _ _ _ _; first | refine g_n ?_ | refine g_r ?_ | refine g_e ?_)
          | (show CallT _ 24 _ _ _; refine CA (h := UY_ok (by assumption) ?_)))
        exact turn (n1 - 1) ⟨i + 1, _, by omega, rfl, hfi, b3, rfl, rfl, rfl, rfl, rfl, trivial⟩
    · rename_i h1; exact absurd hfi h1
  · obtain rfl : i = n := by omega
    rw [List.drop_eq_nil_of_le (by omega)] at hui
    have := ba_ext (s := u) (t := behind) hui
    subst this
    repeat' (first
      | (show evG _ _ _ _ _ _ _; first | refine G_add64 ?_ | refine G_sub64 ?_ | refine G_mul64 ?_ | refine G_quo ?_ | refine G_rem ?_ | refine G_shl8 ?_ | refine G_orb ?_ | refine G_shr ?_ | refine G_pure0 ?_ | refine G_load ?_ | refine evG_nil ?_ | refine G_field ?_ | refine G_pure ?_ | refine G_store ?_ | refine G_loadV ?_ | refine G_loadV0 ?_ | refine G_loadV2 ?_ | (refine G_append ?_; intro _ _) | (refine G_appendN ?_; intro _ _) | refine G_not ?_ | refine G_index ?_ | refine G_indexA ?_ | refine G_indexS ?_ | refine G_conv64 ?_ | refine G_conv8 ?_ | refine G_convu ?_ | refine G_conv ?_ | refine G_build ?_ | refine G_slh ?_ | refine G_slo ?_ | refine G_shi ?_ | refine G_cat ?_ | refine G_min ?_ | refine G_max ?_ | refine G_neg64 ?_ | refine G_eql_agg ?_ | refine G_neq_agg ?_ | refine G_bytesP ?_ | refine G_bytesstr ?_ | refine G_call ?_ | refine G_call0 ?_ | refine G_callv ?_ | refine G_callv0 ?_ | (refine G_box ?_; intro _) | (refine G_alloc ?_; intro _) | (refine G_buildSlice ?_; intro _) | (refine G_strrow ?_; intro _ _) | (refine G_indexV ?_; intro _ _ hA; subst hA) | (refine G_sliceR ?_; intro _) | (refine G_sliceO ?_; intro _) | refine G_skip ?_ | refine G_skip0 ?_)
      | (show spl _ _ _; first | refine spl_no rfl ?_ | refine spl_yes rfl ?_)
      | (show evC _ _ _ _ _; first | refine c_seq ?_ | refine c_region (by exact rfl) ?_ | refine c_cond (by exact rfl) ?_ | refine c_ret ?_ | refine c_skip ?_ | refine c_block ?_ | refine c_exit ?_ | refine c_draw (by exact rfl) (by decide +kernel) (by exact rfl) ?_ | refine c_scope ?_ | refine c_label ?_)
      | (show Br _ _ _; first | refine Br.t rfl ?_ | refine Br.f rfl ?_ | refine Br.t (beq_self_eq_true _) ?_ | refine Br.f (not_beq_self _) ?_ | refine Br.t (by assumption) ?_ | refine Br.f (by assumption) ?_ | (refine Br.mk (fun h => ?_) (fun h => ?_) <;> (try simp only [decide_eq_true_eq, decide_eq_false_iff_not, beq_iff_eq, bne_iff_ne, beq_eq_false_iff_ne, bne_eq_false_iff_eq, ne_eq, Bool.not_eq_true', Bool.not_eq_false', not_true_eq_false, not_false_eq_true, Int.not_lt, Int.not_le, gt_iff_lt, ge_iff_le] at h) <;> (try (first | contradiction | (exfalso; omega)))))
      | (show thenC _ _ _ _ _; first | refine t_n ?_ | refine t_r ?_ | refine t_e ?_)
      | (show inBlockC _ _ _ _ _; first | refine b_n ?_ | refine b_r ?_ | refine b_hit rfl ?_ | refine b_miss rfl ?_)
      | (show noGotoC _ _ _ _; first | refine g_n ?_ | refine g_r ?_ | refine g_e ?_))
    exact at_updL (p := fun a => Q (.exit 0) a _) [(0, .slice A i c), (1, .string u), (7, .pointer (some ⟨x, 0, none⟩)), (5, v5)] ⟨rfl, rfl, rfl, rfl, trivial⟩ (hK _)
theorem lay_size {ps : List Pc} (h : layE ps = 0) : firstE ps = 0 ∧ szL ps 0 = (layS ps).size ∧ (layS ps).size ≤ 4096 ∧ (layS ps).data.toList = allB ps := by
  have h1 : firstE ps = 0 := by
    by_cases h2 : firstE ps = 0
    · exact h2
    · unfold layE at h; rw [if_neg h2] at h; exact h
  have h2 : szL ps 0 ≤ 4096 := by
    unfold layE at h; rw [if_pos h1] at h
    split at h
    · cases h
    · omega
  have h3 := sz_all ps 0 (by omega) h1 h2
  have h4 : layS ps = ⟨(allB ps).toArray⟩ := by unfold layS; rw [if_pos h]
  have h5 : (layS ps).size = (allB ps).length := by rw [h4]; simp [ByteArray.size]
  exact ⟨h1, by omega, by omega, by rw [h4]⟩
theorem layS_bad {ps : List Pc} (h : ¬ layE ps = 0) : layS ps = ⟨#[]⟩ := by unfold layS; rw [if_neg h]
theorem layS_le (ps : List Pc) : (layS ps).size ≤ 4096 := by
  by_cases h : layE ps = 0
  · exact (lay_size h).2.2.1
  · rw [layS_bad h]; decide
end Go.Proofs.Ytfjibfljckifkaa
