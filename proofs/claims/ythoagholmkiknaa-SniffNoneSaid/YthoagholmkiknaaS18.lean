/- Sniff: a frame: lemmas; each with the conditions that it states. -/
import Derived.Test.YthoagholmkiknaaFh
import Derived.Test.YthoagholmkiknaaSc

namespace Go.Proofs.Ythoagholmkiknaa
open Go Go.Proofs Go.Sl
set_option maxRecDepth 100000
set_option maxHeartbeats 4000000
set_option linter.unusedSimpArgs false
set_option linter.unusedVariables false
attribute [local irreducible] evG evC spl thenC inBlockC noGotoC CallT retC RetG TurnG CutG pt ro exP star sep pureP
attribute [local irreducible] mp mit
variable {R C : List HP} {K : Value → List HP → Prop}
variable {x i0 i1 m ck k0 k1 j : Nat} {A0 A1 : Option Addr} {σ : Sn} {l : List En}
set_option maxHeartbeats 40000000 in
theorem gfr0_ok {tf stf : Int} {ef : Bool} {df : ByteArray} {kf onf wf : Int} {xf : Bool} {cf laf nf : Int} {paf : Option Addr} {pnf pcf : Nat} {ps : List Pr} (hi : InvS j σ) (hj : j ≤ 10000) (hab : absL l = σ.ls) (hok : EnOk l ck) (hn : 0 ≤ nf ∧ nf ≤ 4294967295) (hd : df.size ≤ 10000) (hv : View R paf prC ps) (hpn : ps.length = pnf ∧ pnf < 1000000000000000) (hK : ∀ A0 k0 A1 k1 l' ck', absL l' = (snF0 tf stf ef df nf ps σ).ls → EnOk l' ck' → ∀ A c, K (.slice A (snO0 tf stf ef df σ).length c) (row A c 3 siC (snO0 tf stf ef df σ) :: pt x [.pointer (some ⟨i0, 0, none⟩), .pointer (some ⟨i1, 0, none⟩), .slice A0 (snF0 tf stf ef df nf ps σ).s0.length k0, .slice A1 (snF0 tf stf ef df nf ps σ).s1.length k1, .int .i64 ((snF0 tf stf ef df nf ps σ).a0 : Nat), .int .i64 ((snF0 tf stf ef df nf ps σ).a1 : Nat), .int .i64 (snF0 tf stf ef df nf ps σ).c0, .int .i64 (snF0 tf stf ef df nf ps σ).c1, .map (some m)] 55 :: row A0 k0 58 st3C (snF0 tf stf ef df nf ps σ).s0 :: row A1 k1 58 st3C (snF0 tf stf ef df nf ps σ).s1 :: mp m (l'.map enM) ck' :: stars enP l' :: R)) : CallT Try.prog 23 #[.pointer (some ⟨x, 0, none⟩), .int .i64 0, .agg #[.int .i64 tf, .int .i64 stf, .bool ef, .string df, .int .i64 kf, .int .i64 onf, .int .i64 wf, .bool xf, .int .i64 cf, .int .i64 laf, .int .i64 nf, .slice paf pnf pcf]] (pt x [.pointer (some ⟨i0, 0, none⟩), .pointer (some ⟨i1, 0, none⟩), .slice A0 σ.s0.length k0, .slice A1 σ.s1.length k1, .int .i64 (σ.a0 : Nat), .int .i64 (σ.a1 : Nat), .int .i64 σ.c0, .int .i64 σ.c1, .map (some m)] 55 :: row A0 k0 58 st3C σ.s0 :: row A1 k1 58 st3C σ.s1 :: mp m (l.map enM) ck :: stars enP l :: R) K := by
  by_cases h2 : tf = 2
  · subst h2
    simp only [snF0, snO0, if_true, show ¬ ((2 : Int) = 0) by decide, show ¬ ((2 : Int) = 1) by decide, false_and, if_false] at hK
    refine callT_intro mixed Try.func23 rfl (by decide) (by decide +kernel) (by exact Nat.le_of_ble_eq_true rfl) ?_
    repeat' (first
      | (show evG _ _ _ _ _ _ _; first | refine G_pure0 ?_ | refine G_load ?_ | refine evG_nil ?_ | refine G_br ?_ ?_ | refine G_field ?_ | refine G_pure ?_ | refine G_loadV ?_ | refine G_loadV0 ?_ | refine G_loadV2 ?_ | refine G_eql_agg ?_ | refine G_call ?_ | refine G_call0 ?_ | (refine G_box ?_; intro _))
      | (show spl _ _ _; first | refine spl_no rfl ?_ | refine spl_yes rfl ?_)
      | (show evC _ _ _ _ _; first | refine c_seq ?_ | refine c_region (by exact rfl) ?_ | refine c_cond (by exact rfl) ?_ | refine c_ret ?_ | refine c_skip ?_ | refine c_block ?_ | refine c_exit ?_ | refine std ?_)
      | (show Br _ _ _; first | refine Br.t rfl ?_ | refine Br.f rfl ?_ | refine brs ?_ | (first | refine Br.mkN (fun h => ?_) (fun h => ?_) | refine Br.mk (fun h => ?_) (fun h => ?_)) <;> (try (first | contradiction | (exfalso; omega) | (exfalso; simp at h; done))))
      | refine stp ?_
      | (show CallT _ 35 _ _ _; refine CA (h := gopnA0_ok hi hj hab hok (fun l' ck' hab' hok' => ?_))))
    all_goals (show retC _ _ _ _ _ _; refine RETC ?_; exact ret_done ((hK _ _ _ _ l' ck' hab' hok' none 0)))
  · by_cases h5 : tf = 5
    · subst h5
      simp only [snF0, snO0, if_true, show ¬ ((5 : Int) = 0) by decide, show ¬ ((5 : Int) = 1) by decide, show ¬ ((5 : Int) = 2) by decide, false_and, if_false] at hK
      refine callT_intro mixed Try.func23 rfl (by decide) (by decide +kernel) (by exact Nat.le_of_ble_eq_true rfl) ?_
      repeat' (first
        | (show evG _ _ _ _ _ _ _; first | refine G_pure0 ?_ | refine G_load ?_ | refine evG_nil ?_ | refine G_br ?_ ?_ | refine G_field ?_ | refine G_pure ?_ | refine G_loadV ?_ | refine G_loadV0 ?_ | refine G_loadV2 ?_ | refine G_eql_agg ?_ | refine G_call ?_ | refine G_call0 ?_ | (refine G_box ?_; intro _))
        | (show spl _ _ _; first | refine spl_no rfl ?_ | refine spl_yes rfl ?_)
        | (show evC _ _ _ _ _; first | refine c_seq ?_ | refine c_region (by exact rfl) ?_ | refine c_cond (by exact rfl) ?_ | refine c_ret ?_ | refine c_skip ?_ | refine c_block ?_ | refine c_exit ?_ | refine std ?_)
        | (show Br _ _ _; first | refine Br.t rfl ?_ | refine Br.f rfl ?_ | refine brs ?_ | (first | refine Br.mkN (fun h => ?_) (fun h => ?_) | refine Br.mk (fun h => ?_) (fun h => ?_)) <;> (try (first | contradiction | (exfalso; omega) | (exfalso; simp at h; done))))
        | refine stp ?_
        | (show CallT _ 36 _ _ _; refine CA (h := gsetA0_ok hi hj hab hok hv hpn (fun A' k' => ?_))))
      all_goals (show retC _ _ _ _ _ _; refine RETC ?_; exact ret_done ((hK _ _ _ _ l ck hab hok none 0)))
    · by_cases h6 : tf = 6
      · subst h6
        simp only [snF0, snO0, if_true, show ¬ ((6 : Int) = 0) by decide, show ¬ ((6 : Int) = 1) by decide, show ¬ ((6 : Int) = 2) by decide, show ¬ ((6 : Int) = 5) by decide, false_and, if_false] at hK
        refine callT_intro mixed Try.func23 rfl (by decide) (by decide +kernel) (by exact Nat.le_of_ble_eq_true rfl) ?_
        repeat' (first
          | (show evG _ _ _ _ _ _ _; first | refine G_pure0 ?_ | refine G_load ?_ | refine evG_nil ?_ | refine G_br ?_ ?_ | refine G_field ?_ | refine G_pure ?_ | refine G_loadV ?_ | refine G_loadV0 ?_ | refine G_loadV2 ?_ | refine G_eql_agg ?_ | refine G_call ?_ | refine G_call0 ?_ | (refine G_box ?_; intro _))
          | (show spl _ _ _; first | refine spl_no rfl ?_ | refine spl_yes rfl ?_)
          | (show evC _ _ _ _ _; first | refine c_seq ?_ | refine c_region (by exact rfl) ?_ | refine c_cond (by exact rfl) ?_ | refine c_ret ?_ | refine c_skip ?_ | refine c_block ?_ | refine c_exit ?_ | refine std ?_)
          | (show Br _ _ _; first | refine Br.t rfl ?_ | refine Br.f rfl ?_ | refine brs ?_ | (first | refine Br.mkN (fun h => ?_) (fun h => ?_) | refine Br.mk (fun h => ?_) (fun h => ?_)) <;> (try (first | contradiction | (exfalso; omega) | (exfalso; simp at h; done))))
          | refine stp ?_
          | (show CallT _ 37 _ _ _; refine CA (h := gakn0A_ok hi hj hab hok (fun l' hab' hok' => ?_))))
        all_goals (show retC _ _ _ _ _ _; refine RETC ?_; exact ret_done ((hK _ _ _ _ l' ck hab' hok' none 0)))
      · by_cases h10 : tf = 10 ∨ tf = 11
        · simp only [snF0, snO0, if_neg h2, if_neg h5, if_neg h6, if_pos h10, show ¬ (tf = 0) by omega, show ¬ (tf = 1) by omega, false_and, if_false] at hK
          refine callT_intro mixed Try.func23 rfl (by decide) (by decide +kernel) (by exact Nat.le_of_ble_eq_true rfl) ?_
          repeat' (first
            | (show evG _ _ _ _ _ _ _; first | refine G_pure0 ?_ | refine G_load ?_ | refine evG_nil ?_ | refine G_br ?_ ?_ | refine G_field ?_ | refine G_pure ?_ | refine G_loadV ?_ | refine G_loadV0 ?_ | refine G_loadV2 ?_ | refine G_eql_agg ?_ | refine G_call ?_ | refine G_call0 ?_ | (refine G_box ?_; intro _))
            | (show spl _ _ _; first | refine spl_no rfl ?_ | refine spl_yes rfl ?_)
            | (show evC _ _ _ _ _; first | refine c_seq ?_ | refine c_region (by exact rfl) ?_ | refine c_cond (by exact rfl) ?_ | refine c_ret ?_ | refine c_skip ?_ | refine c_block ?_ | refine c_exit ?_ | refine std ?_)
            | (show Br _ _ _; first | refine Br.t rfl ?_ | refine Br.f rfl ?_ | refine brs ?_ | (first | refine Br.mkN (fun h => ?_) (fun h => ?_) | refine Br.mk (fun h => ?_) (fun h => ?_)) <;> (try (first | contradiction | (exfalso; omega) | (exfalso; simp at h; done))))
            | refine stp ?_
            | (show CallT _ 38 _ _ _; refine CA (h := ggrnA0_ok hi hj hab hok hn (fun l' hab' hok' => ?_))))
          all_goals (show retC _ _ _ _ _ _; refine RETC ?_; exact ret_done ((hK _ _ _ _ l' ck hab' hok' none 0)))
        · by_cases h0 : tf = 0
          · subst h0
            simp only [snF0, snO0, if_neg h2, if_neg h5, if_neg h6, if_neg h10, if_true] at hK
            refine callT_intro mixed Try.func23 rfl (by decide) (by decide +kernel) (by exact Nat.le_of_ble_eq_true rfl) ?_
            repeat' (first
              | (show evG _ _ _ _ _ _ _; first | refine G_pure0 ?_ | refine G_load ?_ | refine evG_nil ?_ | refine G_br ?_ ?_ | refine G_field ?_ | refine G_pure ?_ | refine G_loadV ?_ | refine G_loadV0 ?_ | refine G_loadV2 ?_ | refine G_eql_agg ?_ | refine G_call ?_ | refine G_call0 ?_ | (refine G_box ?_; intro _))
              | (show spl _ _ _; first | refine spl_no rfl ?_ | refine spl_yes rfl ?_)
              | (show evC _ _ _ _ _; first | refine c_seq ?_ | refine c_region (by exact rfl) ?_ | refine c_cond (by exact rfl) ?_ | refine c_ret ?_ | refine c_skip ?_ | refine c_block ?_ | refine c_exit ?_ | refine std ?_)
              | (show Br _ _ _; first | refine Br.t rfl ?_ | refine Br.f rfl ?_ | refine brs ?_ | (first | refine Br.mkN (fun h => ?_) (fun h => ?_) | refine Br.mk (fun h => ?_) (fun h => ?_)) <;> (try (first | contradiction | (exfalso; omega) | (exfalso; simp at h; done))))
              | refine stp ?_
              | (show CallT _ 39 _ _ _; refine CA (h := gdatA0_ok hi hj hab hok hd (fun l' hab' hok' A c => ?_))))
            all_goals (show retC _ _ _ _ _ _; refine RETC ?_; exact ret_done ((hK _ _ _ _ l' ck hab' hok' A c)))
          · by_cases h1 : tf = 1
            · subst h1
              by_cases hs : df ≠ ⟨#[]⟩ ∨ ef = false
              · simp only [snF0, snO0, if_neg h2, if_neg h5, if_neg h6, if_neg h10, if_neg h0, true_and, if_pos hs] at hK
                refine callT_intro mixed Try.func23 rfl (by decide) (by decide +kernel) (by exact Nat.le_of_ble_eq_true rfl) ?_
                repeat' (first
                  | (show evG _ _ _ _ _ _ _; first | refine G_pure0 ?_ | refine G_load ?_ | refine evG_nil ?_ | refine G_br ?_ ?_ | refine G_field ?_ | refine G_pure ?_ | refine G_loadV ?_ | refine G_loadV0 ?_ | refine G_loadV2 ?_ | refine G_eql_agg ?_ | refine G_call ?_ | refine G_call0 ?_ | (refine G_box ?_; intro _))
                  | (show spl _ _ _; first | refine spl_no rfl ?_ | refine spl_yes rfl ?_)
                  | (show evC _ _ _ _ _; first | refine c_seq ?_ | refine c_region (by exact rfl) ?_ | refine c_cond (by exact rfl) ?_ | refine c_ret ?_ | refine c_skip ?_ | refine c_block ?_ | refine c_exit ?_ | refine std ?_)
                  | (show Br _ _ _; first | refine Br.t rfl ?_ | refine Br.f rfl ?_ | refine brs ?_ | (first | refine Br.mkN (fun h => ?_) (fun h => ?_) | refine Br.mk (fun h => ?_) (fun h => ?_)) <;> (try (first | contradiction | (exfalso; omega) | (exfalso; simp at h; done))))
                  | refine stp ?_
                  | (show CallT _ 39 _ _ _; refine CA (h := gitmA0_ok hi hj hab hok hs (fun l' hab' hok' A c => ?_))))
                all_goals (show retC _ _ _ _ _ _; refine RETC ?_; exact ret_done ((hK _ _ _ _ l' ck hab' hok' A c)))
              · simp only [snF0, snO0, if_neg h2, if_neg h5, if_neg h6, if_neg h10, if_neg h0, true_and, if_neg hs] at hK
                refine callT_intro mixed Try.func23 rfl (by decide) (by decide +kernel) (by exact Nat.le_of_ble_eq_true rfl) ?_
                repeat' (first
                  | (show evG _ _ _ _ _ _ _; first | refine G_pure0 ?_ | refine G_load ?_ | refine evG_nil ?_ | refine G_br ?_ ?_ | refine G_field ?_ | refine G_pure ?_ | refine G_loadV ?_ | refine G_loadV0 ?_ | refine G_loadV2 ?_ | refine G_eql_agg ?_ | refine G_call ?_ | refine G_call0 ?_ | (refine G_box ?_; intro _))
                  | (show spl _ _ _; first | refine spl_no rfl ?_ | refine spl_yes rfl ?_)
                  | (show evC _ _ _ _ _; first | refine c_seq ?_ | refine c_region (by exact rfl) ?_ | refine c_cond (by exact rfl) ?_ | refine c_ret ?_ | refine c_skip ?_ | refine c_block ?_ | refine c_exit ?_ | refine std ?_)
                  | (show Br _ _ _; first | refine Br.t rfl ?_ | refine Br.f rfl ?_ | refine brs ?_ | (first | refine Br.mkN (fun h => ?_) (fun h => ?_) | refine Br.mk (fun h => ?_) (fun h => ?_)) <;> (try (first | contradiction | (exfalso; omega) | (exfalso; simp at h; done))))
                  | refine stp ?_
                  | (show CallT _ 39 _ _ _; refine CA (h := gitmE0_ok hi hj hab hok hs (fun A c => ?_))))
                all_goals (show retC _ _ _ _ _ _; refine RETC ?_; exact ret_done ((hK _ _ _ _ l ck hab hok A c)))
            · simp only [snF0, snO0, if_neg h2, if_neg h5, if_neg h6, if_neg h10, if_neg h0, h1, false_and, if_false] at hK
              refine callT_intro mixed Try.func23 rfl (by decide) (by decide +kernel) (by exact Nat.le_of_ble_eq_true rfl) ?_
              repeat' (first
                | (show evG _ _ _ _ _ _ _; first | refine G_pure0 ?_ | refine G_load ?_ | refine evG_nil ?_ | refine G_br ?_ ?_ | refine G_field ?_ | refine G_pure ?_ | refine G_loadV ?_ | refine G_loadV0 ?_ | refine G_loadV2 ?_ | refine G_eql_agg ?_ | refine G_call ?_ | refine G_call0 ?_ | (refine G_box ?_; intro _))
                | (show spl _ _ _; first | refine spl_no rfl ?_ | refine spl_yes rfl ?_)
                | (show evC _ _ _ _ _; first | refine c_seq ?_ | refine c_region (by exact rfl) ?_ | refine c_cond (by exact rfl) ?_ | refine c_ret ?_ | refine c_skip ?_ | refine c_block ?_ | refine c_exit ?_ | refine std ?_)
                | (show Br _ _ _; first | refine Br.t rfl ?_ | refine Br.f rfl ?_ | refine brs ?_ | (first | refine Br.mkN (fun h => ?_) (fun h => ?_) | refine Br.mk (fun h => ?_) (fun h => ?_)) <;> (try (first | contradiction | (exfalso; omega) | (exfalso; simp at h; done))))
                | refine stp ?_)
              all_goals (show retC _ _ _ _ _ _; refine RETC ?_; exact ret_done ((hK _ _ _ _ l ck hab hok none 0)))
set_option maxHeartbeats 40000000 in
theorem gfr1_ok {tf stf : Int} {ef : Bool} {df : ByteArray} {kf onf wf : Int} {xf : Bool} {cf laf nf : Int} {paf : Option Addr} {pnf pcf : Nat} {ps : List Pr} (hi : InvS j σ) (hj : j ≤ 10000) (hab : absL l = σ.ls) (hok : EnOk l ck) (hn : 0 ≤ nf ∧ nf ≤ 4294967295) (hd : df.size ≤ 10000) (hv : View R paf prC ps) (hpn : ps.length = pnf ∧ pnf < 1000000000000000) (hK : ∀ A0 k0 A1 k1 l' ck', absL l' = (snF1 tf stf ef df nf ps σ).ls → EnOk l' ck' → ∀ A c, K (.slice A (snO1 tf stf ef df σ).length c) (row A c 3 siC (snO1 tf stf ef df σ) :: pt x [.pointer (some ⟨i0, 0, none⟩), .pointer (some ⟨i1, 0, none⟩), .slice A0 (snF1 tf stf ef df nf ps σ).s0.length k0, .slice A1 (snF1 tf stf ef df nf ps σ).s1.length k1, .int .i64 ((snF1 tf stf ef df nf ps σ).a0 : Nat), .int .i64 ((snF1 tf stf ef df nf ps σ).a1 : Nat), .int .i64 (snF1 tf stf ef df nf ps σ).c0, .int .i64 (snF1 tf stf ef df nf ps σ).c1, .map (some m)] 55 :: row A0 k0 58 st3C (snF1 tf stf ef df nf ps σ).s0 :: row A1 k1 58 st3C (snF1 tf stf ef df nf ps σ).s1 :: mp m (l'.map enM) ck' :: stars enP l' :: R)) : CallT Try.prog 23 #[.pointer (some ⟨x, 0, none⟩), .int .i64 1, .agg #[.int .i64 tf, .int .i64 stf, .bool ef, .string df, .int .i64 kf, .int .i64 onf, .int .i64 wf, .bool xf, .int .i64 cf, .int .i64 laf, .int .i64 nf, .slice paf pnf pcf]] (pt x [.pointer (some ⟨i0, 0, none⟩), .pointer (some ⟨i1, 0, none⟩), .slice A0 σ.s0.length k0, .slice A1 σ.s1.length k1, .int .i64 (σ.a0 : Nat), .int .i64 (σ.a1 : Nat), .int .i64 σ.c0, .int .i64 σ.c1, .map (some m)] 55 :: row A0 k0 58 st3C σ.s0 :: row A1 k1 58 st3C σ.s1 :: mp m (l.map enM) ck :: stars enP l :: R) K := by
  by_cases h2 : tf = 2
  · subst h2
    simp only [snF1, snO1, if_true, show ¬ ((2 : Int) = 0) by decide, show ¬ ((2 : Int) = 1) by decide, false_and, if_false] at hK
    refine callT_intro mixed Try.func23 rfl (by decide) (by decide +kernel) (by exact Nat.le_of_ble_eq_true rfl) ?_
    repeat' (first
      | (show evG _ _ _ _ _ _ _; first | refine G_pure0 ?_ | refine G_load ?_ | refine evG_nil ?_ | refine G_br ?_ ?_ | refine G_field ?_ | refine G_pure ?_ | refine G_loadV ?_ | refine G_loadV0 ?_ | refine G_loadV2 ?_ | refine G_eql_agg ?_ | refine G_call ?_ | refine G_call0 ?_ | (refine G_box ?_; intro _))
      | (show spl _ _ _; first | refine spl_no rfl ?_ | refine spl_yes rfl ?_)
      | (show evC _ _ _ _ _; first | refine c_seq ?_ | refine c_region (by exact rfl) ?_ | refine c_cond (by exact rfl) ?_ | refine c_ret ?_ | refine c_skip ?_ | refine c_block ?_ | refine c_exit ?_ | refine std ?_)
      | (show Br _ _ _; first | refine Br.t rfl ?_ | refine Br.f rfl ?_ | refine brs ?_ | (first | refine Br.mkN (fun h => ?_) (fun h => ?_) | refine Br.mk (fun h => ?_) (fun h => ?_)) <;> (try (first | contradiction | (exfalso; omega) | (exfalso; simp at h; done))))
      | refine stp ?_
      | (show CallT _ 35 _ _ _; refine CA (h := gopnA1_ok hi hj hab hok (fun l' ck' hab' hok' => ?_))))
    all_goals (show retC _ _ _ _ _ _; refine RETC ?_; exact ret_done ((hK _ _ _ _ l' ck' hab' hok' none 0)))
  · by_cases h5 : tf = 5
    · subst h5
      simp only [snF1, snO1, if_true, show ¬ ((5 : Int) = 0) by decide, show ¬ ((5 : Int) = 1) by decide, show ¬ ((5 : Int) = 2) by decide, false_and, if_false] at hK
      refine callT_intro mixed Try.func23 rfl (by decide) (by decide +kernel) (by exact Nat.le_of_ble_eq_true rfl) ?_
      repeat' (first
        | (show evG _ _ _ _ _ _ _; first | refine G_pure0 ?_ | refine G_load ?_ | refine evG_nil ?_ | refine G_br ?_ ?_ | refine G_field ?_ | refine G_pure ?_ | refine G_loadV ?_ | refine G_loadV0 ?_ | refine G_loadV2 ?_ | refine G_eql_agg ?_ | refine G_call ?_ | refine G_call0 ?_ | (refine G_box ?_; intro _))
        | (show spl _ _ _; first | refine spl_no rfl ?_ | refine spl_yes rfl ?_)
        | (show evC _ _ _ _ _; first | refine c_seq ?_ | refine c_region (by exact rfl) ?_ | refine c_cond (by exact rfl) ?_ | refine c_ret ?_ | refine c_skip ?_ | refine c_block ?_ | refine c_exit ?_ | refine std ?_)
        | (show Br _ _ _; first | refine Br.t rfl ?_ | refine Br.f rfl ?_ | refine brs ?_ | (first | refine Br.mkN (fun h => ?_) (fun h => ?_) | refine Br.mk (fun h => ?_) (fun h => ?_)) <;> (try (first | contradiction | (exfalso; omega) | (exfalso; simp at h; done))))
        | refine stp ?_
        | (show CallT _ 36 _ _ _; refine CA (h := gsetA1_ok hi hj hab hok hv hpn (fun A' k' => ?_))))
      all_goals (show retC _ _ _ _ _ _; refine RETC ?_; exact ret_done ((hK _ _ _ _ l ck hab hok none 0)))
    · by_cases h6 : tf = 6
      · subst h6
        simp only [snF1, snO1, if_true, show ¬ ((6 : Int) = 0) by decide, show ¬ ((6 : Int) = 1) by decide, show ¬ ((6 : Int) = 2) by decide, show ¬ ((6 : Int) = 5) by decide, false_and, if_false] at hK
        refine callT_intro mixed Try.func23 rfl (by decide) (by decide +kernel) (by exact Nat.le_of_ble_eq_true rfl) ?_
        repeat' (first
          | (show evG _ _ _ _ _ _ _; first | refine G_pure0 ?_ | refine G_load ?_ | refine evG_nil ?_ | refine G_br ?_ ?_ | refine G_field ?_ | refine G_pure ?_ | refine G_loadV ?_ | refine G_loadV0 ?_ | refine G_loadV2 ?_ | refine G_eql_agg ?_ | refine G_call ?_ | refine G_call0 ?_ | (refine G_box ?_; intro _))
          | (show spl _ _ _; first | refine spl_no rfl ?_ | refine spl_yes rfl ?_)
          | (show evC _ _ _ _ _; first | refine c_seq ?_ | refine c_region (by exact rfl) ?_ | refine c_cond (by exact rfl) ?_ | refine c_ret ?_ | refine c_skip ?_ | refine c_block ?_ | refine c_exit ?_ | refine std ?_)
          | (show Br _ _ _; first | refine Br.t rfl ?_ | refine Br.f rfl ?_ | refine brs ?_ | (first | refine Br.mkN (fun h => ?_) (fun h => ?_) | refine Br.mk (fun h => ?_) (fun h => ?_)) <;> (try (first | contradiction | (exfalso; omega) | (exfalso; simp at h; done))))
          | refine stp ?_
          | (show CallT _ 37 _ _ _; refine CA (h := gakn1A_ok hi hj hab hok (fun l' hab' hok' => ?_))))
        all_goals (show retC _ _ _ _ _ _; refine RETC ?_; exact ret_done ((hK _ _ _ _ l' ck hab' hok' none 0)))
      · by_cases h10 : tf = 10 ∨ tf = 11
        · simp only [snF1, snO1, if_neg h2, if_neg h5, if_neg h6, if_pos h10, show ¬ (tf = 0) by omega, show ¬ (tf = 1) by omega, false_and, if_false] at hK
          refine callT_intro mixed Try.func23 rfl (by decide) (by decide +kernel) (by exact Nat.le_of_ble_eq_true rfl) ?_
          repeat' (first
            | (show evG _ _ _ _ _ _ _; first | refine G_pure0 ?_ | refine G_load ?_ | refine evG_nil ?_ | refine G_br ?_ ?_ | refine G_field ?_ | refine G_pure ?_ | refine G_loadV ?_ | refine G_loadV0 ?_ | refine G_loadV2 ?_ | refine G_eql_agg ?_ | refine G_call ?_ | refine G_call0 ?_ | (refine G_box ?_; intro _))
            | (show spl _ _ _; first | refine spl_no rfl ?_ | refine spl_yes rfl ?_)
            | (show evC _ _ _ _ _; first | refine c_seq ?_ | refine c_region (by exact rfl) ?_ | refine c_cond (by exact rfl) ?_ | refine c_ret ?_ | refine c_skip ?_ | refine c_block ?_ | refine c_exit ?_ | refine std ?_)
            | (show Br _ _ _; first | refine Br.t rfl ?_ | refine Br.f rfl ?_ | refine brs ?_ | (first | refine Br.mkN (fun h => ?_) (fun h => ?_) | refine Br.mk (fun h => ?_) (fun h => ?_)) <;> (try (first | contradiction | (exfalso; omega) | (exfalso; simp at h; done))))
            | refine stp ?_
            | (show CallT _ 38 _ _ _; refine CA (h := ggrnA1_ok hi hj hab hok hn (fun l' hab' hok' => ?_))))
          all_goals (show retC _ _ _ _ _ _; refine RETC ?_; exact ret_done ((hK _ _ _ _ l' ck hab' hok' none 0)))
        · by_cases h0 : tf = 0
          · subst h0
            simp only [snF1, snO1, if_neg h2, if_neg h5, if_neg h6, if_neg h10, if_true] at hK
            refine callT_intro mixed Try.func23 rfl (by decide) (by decide +kernel) (by exact Nat.le_of_ble_eq_true rfl) ?_
            repeat' (first
              | (show evG _ _ _ _ _ _ _; first | refine G_pure0 ?_ | refine G_load ?_ | refine evG_nil ?_ | refine G_br ?_ ?_ | refine G_field ?_ | refine G_pure ?_ | refine G_loadV ?_ | refine G_loadV0 ?_ | refine G_loadV2 ?_ | refine G_eql_agg ?_ | refine G_call ?_ | refine G_call0 ?_ | (refine G_box ?_; intro _))
              | (show spl _ _ _; first | refine spl_no rfl ?_ | refine spl_yes rfl ?_)
              | (show evC _ _ _ _ _; first | refine c_seq ?_ | refine c_region (by exact rfl) ?_ | refine c_cond (by exact rfl) ?_ | refine c_ret ?_ | refine c_skip ?_ | refine c_block ?_ | refine c_exit ?_ | refine std ?_)
              | (show Br _ _ _; first | refine Br.t rfl ?_ | refine Br.f rfl ?_ | refine brs ?_ | (first | refine Br.mkN (fun h => ?_) (fun h => ?_) | refine Br.mk (fun h => ?_) (fun h => ?_)) <;> (try (first | contradiction | (exfalso; omega) | (exfalso; simp at h; done))))
              | refine stp ?_
              | (show CallT _ 39 _ _ _; refine CA (h := gdatA1_ok hi hj hab hok hd (fun l' hab' hok' A c => ?_))))
            all_goals (show retC _ _ _ _ _ _; refine RETC ?_; exact ret_done ((hK _ _ _ _ l' ck hab' hok' A c)))
          · by_cases h1 : tf = 1
            · subst h1
              by_cases hs : df ≠ ⟨#[]⟩ ∨ ef = false
              · simp only [snF1, snO1, if_neg h2, if_neg h5, if_neg h6, if_neg h10, if_neg h0, true_and, if_pos hs] at hK
                refine callT_intro mixed Try.func23 rfl (by decide) (by decide +kernel) (by exact Nat.le_of_ble_eq_true rfl) ?_
                repeat' (first
                  | (show evG _ _ _ _ _ _ _; first | refine G_pure0 ?_ | refine G_load ?_ | refine evG_nil ?_ | refine G_br ?_ ?_ | refine G_field ?_ | refine G_pure ?_ | refine G_loadV ?_ | refine G_loadV0 ?_ | refine G_loadV2 ?_ | refine G_eql_agg ?_ | refine G_call ?_ | refine G_call0 ?_ | (refine G_box ?_; intro _))
                  | (show spl _ _ _; first | refine spl_no rfl ?_ | refine spl_yes rfl ?_)
                  | (show evC _ _ _ _ _; first | refine c_seq ?_ | refine c_region (by exact rfl) ?_ | refine c_cond (by exact rfl) ?_ | refine c_ret ?_ | refine c_skip ?_ | refine c_block ?_ | refine c_exit ?_ | refine std ?_)
                  | (show Br _ _ _; first | refine Br.t rfl ?_ | refine Br.f rfl ?_ | refine brs ?_ | (first | refine Br.mkN (fun h => ?_) (fun h => ?_) | refine Br.mk (fun h => ?_) (fun h => ?_)) <;> (try (first | contradiction | (exfalso; omega) | (exfalso; simp at h; done))))
                  | refine stp ?_
                  | (show CallT _ 39 _ _ _; refine CA (h := gitmA1_ok hi hj hab hok hs (fun l' hab' hok' A c => ?_))))
                all_goals (show retC _ _ _ _ _ _; refine RETC ?_; exact ret_done ((hK _ _ _ _ l' ck hab' hok' A c)))
              · simp only [snF1, snO1, if_neg h2, if_neg h5, if_neg h6, if_neg h10, if_neg h0, true_and, if_neg hs] at hK
                refine callT_intro mixed Try.func23 rfl (by decide) (by decide +kernel) (by exact Nat.le_of_ble_eq_true rfl) ?_
                repeat' (first
                  | (show evG _ _ _ _ _ _ _; first | refine G_pure0 ?_ | refine G_load ?_ | refine evG_nil ?_ | refine G_br ?_ ?_ | refine G_field ?_ | refine G_pure ?_ | refine G_loadV ?_ | refine G_loadV0 ?_ | refine G_loadV2 ?_ | refine G_eql_agg ?_ | refine G_call ?_ | refine G_call0 ?_ | (refine G_box ?_; intro _))
                  | (show spl _ _ _; first | refine spl_no rfl ?_ | refine spl_yes rfl ?_)
                  | (show evC _ _ _ _ _; first | refine c_seq ?_ | refine c_region (by exact rfl) ?_ | refine c_cond (by exact rfl) ?_ | refine c_ret ?_ | refine c_skip ?_ | refine c_block ?_ | refine c_exit ?_ | refine std ?_)
                  | (show Br _ _ _; first | refine Br.t rfl ?_ | refine Br.f rfl ?_ | refine brs ?_ | (first | refine Br.mkN (fun h => ?_) (fun h => ?_) | refine Br.mk (fun h => ?_) (fun h => ?_)) <;> (try (first | contradiction | (exfalso; omega) | (exfalso; simp at h; done))))
                  | refine stp ?_
                  | (show CallT _ 39 _ _ _; refine CA (h := gitmE1_ok hi hj hab hok hs (fun A c => ?_))))
                all_goals (show retC _ _ _ _ _ _; refine RETC ?_; exact ret_done ((hK _ _ _ _ l ck hab hok A c)))
            · simp only [snF1, snO1, if_neg h2, if_neg h5, if_neg h6, if_neg h10, if_neg h0, h1, false_and, if_false] at hK
              refine callT_intro mixed Try.func23 rfl (by decide) (by decide +kernel) (by exact Nat.le_of_ble_eq_true rfl) ?_
              repeat' (first
                | (show evG _ _ _ _ _ _ _; first | refine G_pure0 ?_ | refine G_load ?_ | refine evG_nil ?_ | refine G_br ?_ ?_ | refine G_field ?_ | refine G_pure ?_ | refine G_loadV ?_ | refine G_loadV0 ?_ | refine G_loadV2 ?_ | refine G_eql_agg ?_ | refine G_call ?_ | refine G_call0 ?_ | (refine G_box ?_; intro _))
                | (show spl _ _ _; first | refine spl_no rfl ?_ | refine spl_yes rfl ?_)
                | (show evC _ _ _ _ _; first | refine c_seq ?_ | refine c_region (by exact rfl) ?_ | refine c_cond (by exact rfl) ?_ | refine c_ret ?_ | refine c_skip ?_ | refine c_block ?_ | refine c_exit ?_ | refine std ?_)
                | (show Br _ _ _; first | refine Br.t rfl ?_ | refine Br.f rfl ?_ | refine brs ?_ | (first | refine Br.mkN (fun h => ?_) (fun h => ?_) | refine Br.mk (fun h => ?_) (fun h => ?_)) <;> (try (first | contradiction | (exfalso; omega) | (exfalso; simp at h; done))))
                | refine stp ?_)
              all_goals (show retC _ _ _ _ _ _; refine RETC ?_; exact ret_done ((hK _ _ _ _ l ck hab hok none 0)))
end Go.Proofs.Ythoagholmkiknaa

