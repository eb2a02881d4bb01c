/- Sniff: a frame. Sniff: See: lemmas; each with the conditions that it states. -/
import Derived.Test.YthoagholmkiknaaFh
import Derived.Test.YthoagholmkiknaaSc
import Derived.Test.YthoagholmkiknaaPb

namespace Go.Proofs.Ythoagholmkiknaa
open Go Go.Proofs Go.Sl
set_option maxRecDepth 100000
set_option maxHeartbeats 4000000
set_option linter.unusedSimpArgs false
set_option linter.unusedVariables false
attribute [local irreducible] evG evC spl thenC inBlockC noGotoC CallT retC RetG TurnG CutG pt ro exP star sep pureP
attribute [local irreducible] mp mit
variable {R C : List HP} {K : Value → List HP → Prop}
variable {x i0 i1 m ck k0 k1 j : Nat} {A0 A1 : Option Addr} {σ : Sn} {l : List En}
set_option maxHeartbeats 40000000 in
theorem gfr1_ok {tf stf : Int} {ef : Bool} {df : ByteArray} {kf onf wf : Int} {xf : Bool} {cf laf nf : Int} {paf : Option Addr} {pnf pcf : Nat} {ps : List Pr} (hi : InvS j σ) (hj : j ≤ 10000) (hab : absL l = σ.ls) (hok : EnOk l ck) (hn : 0 ≤ nf ∧ nf ≤ 4294967295) (hd : df.size ≤ 10000) (hv : View R paf prC ps) (hpn : ps.length = pnf ∧ pnf < 1000000000000000) (hK : ∀ A0 k0 A1 k1 l' ck', absL l' = (snF1 tf stf ef df nf ps σ).ls → EnOk l' ck' → ∀ A c, K (.slice A (snO1 tf stf ef df σ).length c) (row A c 3 siC (snO1 tf stf ef df σ) :: pt x [.pointer (some ⟨i0, 0, none⟩), .pointer (some ⟨i1, 0, none⟩), .slice A0 (snF1 tf stf ef df nf ps σ).s0.length k0, .slice A1 (snF1 tf stf ef df nf ps σ).s1.length k1, .int .i64 ((snF1 tf stf ef df nf ps σ).a0 : Nat), .int .i64 ((snF1 tf stf ef df nf ps σ).a1 : Nat), .int .i64 (snF1 tf stf ef df nf ps σ).c0, .int .i64 (snF1 tf stf ef df nf ps σ).c1, .map (some m)] 55 :: row A0 k0 58 st3C (snF1 tf stf ef df nf ps σ).s0 :: row A1 k1 58 st3C (snF1 tf stf ef df nf ps σ).s1 :: mp m (l'.map enM) ck' :: stars enP l' :: R)) : CallT Try.prog 23 #[.pointer (some ⟨x, 0, none⟩), .int .i64 1, .agg #[.int .i64 tf, .int .i64 stf, .bool ef, .string df, .int .i64 kf, .int .i64 onf, .int .i64 wf, .bool xf, .int .i64 cf, .int .i64 laf, .int .i64 nf, .slice paf pnf pcf]] (pt x [.pointer (some ⟨i0, 0, none⟩), .pointer (some ⟨i1, 0, none⟩), .slice A0 σ.s0.length k0, .slice A1 σ.s1.length k1, .int .i64 (σ.a0 : Nat), .int .i64 (σ.a1 : Nat), .int .i64 σ.c0, .int .i64 σ.c1, .map (some m)] 55 :: row A0 k0 58 st3C σ.s0 :: row A1 k1 58 st3C σ.s1 :: mp m (l.map enM) ck :: stars enP l :: R) K := by
  by_cases h2 : tf = 2
  · subst h2
    simp only [snF1, snO1, if_true, show ¬ ((2 : Int) = 0) by decide, show ¬ ((2 : Int) = 1) by decide, false_and, if_false] at hK
    refine callT_intro mixed Try.func23 rfl (by decide) (by decide +kernel) (by exact Nat.le_of_ble_eq_true rfl) ?_
    repeat' (first
      | (show evG _ _ _ _ _ _ _; first | refine G_pure0 ?_ | refine G_load ?_ | refine evG_nil ?_ | refine G_br ?_ ?_ | refine G_field ?_ | refine G_pure ?_ | refine G_loadV ?_ | refine G_loadV0 ?_ | refine G_loadV2 ?_ | refine G_eql_agg ?_ | refine G_call ?_ | refine G_call0 ?_ | (refine G_box ?_; intro _))
      | (show spl _ _ _; first | refine spl_no rfl ?_ | refine spl_yes rfl ?_)
      | (show evC _ _ _ _ _; first | refine c_seq ?_ | refine c_region (by exact rfl) ?_ | refine c_cond (by exact rfl) ?_ | refine c_ret ?_ | refine c_skip ?_ | refine c_block ?_ | refine c_exit ?_ | refine std ?_)
      | (show Br _ _ _; first | refine Br.t rfl ?_ | refine Br.f rfl ?_ | refine brs ?_ | (first | refine Br.mkN (fun h => ?_) (fun h => ?_) | refine Br.mk (fun h => ?_) (fun h => ?_)) <;> (try (first | contradiction | (exfalso; omega) | (exfalso; simp at h; done))))
      | refine stp ?_
      | (show CallT _ 35 _ _ _; refine CA (h := gopnA1_ok hi hj hab hok (fun l' ck' hab' hok' => ?_))))
    all_goals (show retC _ _ _ _ _ _; refine RETC ?_; exact ret_done ((hK _ _ _ _ l' ck' hab' hok' none 0)))
  · by_cases h5 : tf = 5
    · subst h5
      simp only [snF1, snO1, if_true, show ¬ ((5 : Int) = 0) by decide, show ¬ ((5 : Int) = 1) by decide, show ¬ ((5 : Int) = 2) by decide, false_and, if_false] at hK
      refine callT_intro mixed Try.func23 rfl (by decide) (by decide +kernel) (by exact Nat.le_of_ble_eq_true rfl) ?_
      repeat' (first
        | (show evG _ _ _ _ _ _ _; first | refine G_pure0 ?_ | refine G_load ?_ | refine evG_nil ?_ | refine G_br ?_ ?_ | refine G_field ?_ | refine G_pure ?_ | refine G_loadV ?_ | refine G_loadV0 ?_ | refine G_loadV2 ?_ | refine G_eql_agg ?_ | refine G_call ?_ | refine G_call0 ?_ | (refine G_box ?_; intro _))
        | (show spl _ _ _; first | refine spl_no rfl ?_ | refine spl_yes rfl ?_)
        | (show evC _ _ _ _ _; first | refine c_seq ?_ | refine c_region (by exact rfl) ?_ | refine c_cond (by exact rfl) ?_ | refine c_ret ?_ | refine c_skip ?_ | refine c_block ?_ | refine c_exit ?_ | refine std ?_)
        | (show Br _ _ _; first | refine Br.t rfl ?_ | refine Br.f rfl ?_ | refine brs ?_ | (first | refine Br.mkN (fun h => ?_) (fun h => ?_) | refine Br.mk (fun h => ?_) (fun h => ?_)) <;> (try (first | contradiction | (exfalso; omega) | (exfalso; simp at h; done))))
        | refine stp ?_
        | (show CallT _ 36 _ _ _; refine CA (h := gsetA1_ok hi hj hab hok hv hpn (fun A' k' => ?_))))
      all_goals (show retC _ _ _ _ _ _; refine RETC ?_; exact ret_done ((hK _ _ _ _ l ck hab hok none 0)))
    · by_cases h6 : tf = 6
      · subst h6
        simp only [snF1, snO1, if_true, show ¬ ((6 : Int) = 0) by decide, show ¬ ((6 : Int) = 1) by decide, show ¬ ((6 : Int) = 2) by decide, show ¬ ((6 : Int) = 5) by decide, false_and, if_false] at hK
        refine callT_intro mixed Try.func23 rfl (by decide) (by decide +kernel) (by exact Nat.le_of_ble_eq_true rfl) ?_
        repeat' (first
          | (show evG _ _ _ _ _ _ _; first | refine G_pure0 ?_ | refine G_load ?_ | refine evG_nil ?_ | refine G_br ?_ ?_ | refine G_field ?_ | refine G_pure ?_ | refine G_loadV ?_ | refine G_loadV0 ?_ | refine G_loadV2 ?_ | refine G_eql_agg ?_ | refine G_call ?_ | refine G_call0 ?_ | (refine G_box ?_; intro _))
          | (show spl _ _ _; first | refine spl_no rfl ?_ | refine spl_yes rfl ?_)
          | (show evC _ _ _ _ _; first | refine c_seq ?_ | refine c_region (by exact rfl) ?_ | refine c_cond (by exact rfl) ?_ | refine c_ret ?_ | refine c_skip ?_ | refine c_block ?_ | refine c_exit ?_ | refine std ?_)
          | (show Br _ _ _; first | refine Br.t rfl ?_ | refine Br.f rfl ?_ | refine brs ?_ | (first | refine Br.mkN (fun h => ?_) (fun h => ?_) | refine Br.mk (fun h => ?_) (fun h => ?_)) <;> (try (first | contradiction | (exfalso; omega) | (exfalso; simp at h; done))))
          | refine stp ?_
          | (show CallT _ 37 _ _ _; refine CA (h := gakn1A_ok hi hj hab hok (fun l' hab' hok' => ?_))))
        all_goals (show retC _ _ _ _ _ _; refine RETC ?_; exact ret_done ((hK _ _ _ _ l' ck hab' hok' none 0)))
      · by_cases h10 : tf = 10 ∨ tf = 11
        · simp only [snF1, snO1, if_neg h2, if_neg h5, if_neg h6, if_pos h10, show ¬ (tf = 0) by omega, show ¬ (tf = 1) by omega, false_and, if_false] at hK
          refine callT_intro mixed Try.func23 rfl (by decide) (by decide +kernel) (by exact Nat.le_of_ble_eq_true rfl) ?_
          repeat' (first
            | (show evG _ _ _ _ _ _ _; first | refine G_pure0 ?_ | refine G_load ?_ | refine evG_nil ?_ | refine G_br ?_ ?_ | refine G_field ?_ | refine G_pure ?_ | refine G_loadV ?_ | refine G_loadV0 ?_ | refine G_loadV2 ?_ | refine G_eql_agg ?_ | refine G_call ?_ | refine G_call0 ?_ | (refine G_box ?_; intro _))
            | (show spl _ _ _; first | refine spl_no rfl ?_ | refine spl_yes rfl ?_)
            | (show evC _ _ _ _ _; first | refine c_seq ?_ | refine c_region (by exact rfl) ?_ | refine c_cond (by exact rfl) ?_ | refine c_ret ?_ | refine c_skip ?_ | refine c_block ?_ | refine c_exit ?_ | refine std ?_)
            | (show Br _ _ _; first | refine Br.t rfl ?_ | refine Br.f rfl ?_ | refine brs ?_ | (first | refine Br.mkN (fun h => ?_) (fun h => ?_) | refine Br.mk (fun h => ?_) (fun h => ?_)) <;> (try (first | contradiction | (exfalso; omega) | (exfalso; simp at h; done))))
            | refine stp ?_
            | (show CallT _ 38 _ _ _; refine CA (h := ggrnA1_ok hi hj hab hok hn (fun l' hab' hok' => ?_))))
          all_goals (show retC _ _ _ _ _ _; refine RETC ?_; exact ret_done ((hK _ _ _ _ l' ck hab' hok' none 0)))
        · by_cases h0 : tf = 0
          · subst h0
            simp only [snF1, snO1, if_neg h2, if_neg h5, if_neg h6, if_neg h10, if_true] at hK
            refine callT_intro mixed Try.func23 rfl (by decide) (by decide +kernel) (by exact Nat.le_of_ble_eq_true rfl) ?_
            repeat' (first
              | (show evG _ _ _ _ _ _ _; first | refine G_pure0 ?_ | refine G_load ?_ | refine evG_nil ?_ | refine G_br ?_ ?_ | refine G_field ?_ | refine G_pure ?_ | refine G_loadV ?_ | refine G_loadV0 ?_ | refine G_loadV2 ?_ | refine G_eql_agg ?_ | refine G_call ?_ | refine G_call0 ?_ | (refine G_box ?_; intro _))
              | (show spl _ _ _; first | refine spl_no rfl ?_ | refine spl_yes rfl ?_)
              | (show evC _ _ _ _ _; first | refine c_seq ?_ | refine c_region (by exact rfl) ?_ | refine c_cond (by exact rfl) ?_ | refine c_ret ?_ | refine c_skip ?_ | refine c_block ?_ | refine c_exit ?_ | refine std ?_)
              | (show Br _ _ _; first | refine Br.t rfl ?_ | refine Br.f rfl ?_ | refine brs ?_ | (first | refine Br.mkN (fun h => ?_) (fun h => ?_) | refine Br.mk (fun h => ?_) (fun h => ?_)) <;> (try (first | contradiction | (exfalso; omega) | (exfalso; simp at h; done))))
              | refine stp ?_
              | (show CallT _ 39 _ _ _; refine CA (h := gdatA1_ok hi hj hab hok hd (fun l' hab' hok' A c => ?_))))
            all_goals (show retC _ _ _ _ _ _; refine RETC ?_; exact ret_done ((hK _ _ _ _ l' ck hab' hok' A c)))
          · by_cases h1 : tf = 1
            · subst h1
              by_cases hs : df ≠ ⟨#[]⟩ ∨ ef = false
              · simp only [snF1, snO1, if_neg h2, if_neg h5, if_neg h6, if_neg h10, if_neg h0, true_and, if_pos hs] at hK
                refine callT_intro mixed Try.func23 rfl (by decide) (by decide +kernel) (by exact Nat.le_of_ble_eq_true rfl) ?_
                repeat' (first
                  | (show evG _ _ _ _ _ _ _; first | refine G_pure0 ?_ | refine G_load ?_ | refine evG_nil ?_ | refine G_br ?_ ?_ | refine G_field ?_ | refine G_pure ?_ | refine G_loadV ?_ | refine G_loadV0 ?_ | refine G_loadV2 ?_ | refine G_eql_agg ?_ | refine G_call ?_ | refine G_call0 ?_ | (refine G_box ?_; intro _))
                  | (show spl _ _ _; first | refine spl_no rfl ?_ | refine spl_yes rfl ?_)
                  | (show evC _ _ _ _ _; first | refine c_seq ?_ | refine c_region (by exact rfl) ?_ | refine c_cond (by exact rfl) ?_ | refine c_ret ?_ | refine c_skip ?_ | refine c_block ?_ | refine c_exit ?_ | refine std ?_)
                  | (show Br _ _ _; first | refine Br.t rfl ?_ | refine Br.f rfl ?_ | refine brs ?_ | (first | refine Br.mkN (fun h => ?_) (fun h => ?_) | refine Br.mk (fun h => ?_) (fun h => ?_)) <;> (try (first | contradiction | (exfalso; omega) | (exfalso; simp at h; done))))
                  | refine stp ?_
                  | (show CallT _ 39 _ _ _; refine CA (h := gitmA1_ok hi hj hab hok hs (fun l' hab' hok' A c => ?_))))
                all_goals (show retC _ _ _ _ _ _; refine RETC ?_; exact ret_done ((hK _ _ _ _ l' ck hab' hok' A c)))
              · simp only [snF1, snO1, if_neg h2, if_neg h5, if_neg h6, if_neg h10, if_neg h0, true_and, if_neg hs] at hK
                refine callT_intro mixed Try.func23 rfl (by decide) (by decide +kernel) (by exact Nat.le_of_ble_eq_true rfl) ?_
                repeat' (first
                  | (show evG _ _ _ _ _ _ _; first | refine G_pure0 ?_ | refine G_load ?_ | refine evG_nil ?_ | refine G_br ?_ ?_ | refine G_field ?_ | refine G_pure ?_ | refine G_loadV ?_ | refine G_loadV0 ?_ | refine G_loadV2 ?_ | refine G_eql_agg ?_ | refine G_call ?_ | refine G_call0 ?_ | (refine G_box ?_; intro _))
                  | (show spl _ _ _; first | refine spl_no rfl ?_ | refine spl_yes rfl ?_)
                  | (show evC _ _ _ _ _; first | refine c_seq ?_ | refine c_region (by exact rfl) ?_ | refine c_cond (by exact rfl) ?_ | refine c_ret ?_ | refine c_skip ?_ | refine c_block ?_ | refine c_exit ?_ | refine std ?_)
                  | (show Br _ _ _; first | refine Br.t rfl ?_ | refine Br.f rfl ?_ | refine brs ?_ | (first | refine Br.mkN (fun h => ?_) (fun h => ?_) | refine Br.mk (fun h => ?_) (fun h => ?_)) <;> (try (first | contradiction | (exfalso; omega) | (exfalso; simp at h; done))))
                  | refine stp ?_
                  | (show CallT _ 39 _ _ _; refine CA (h := gitmE1_ok hi hj hab hok hs (fun A c => ?_))))
                all_goals (show retC _ _ _ _ _ _; refine RETC ?_; exact ret_done ((hK _ _ _ _ l ck hab hok A c)))
            · simp only [snF1, snO1, if_neg h2, if_neg h5, if_neg h6, if_neg h10, if_neg h0, h1, false_and, if_false] at hK
              refine callT_intro mixed Try.func23 rfl (by decide) (by decide +kernel) (by exact Nat.le_of_ble_eq_true rfl) ?_
              repeat' (first
                | (show evG _ _ _ _ _ _ _; first | refine G_pure0 ?_ | refine G_load ?_ | refine evG_nil ?_ | refine G_br ?_ ?_ | refine G_field ?_ | refine G_pure ?_ | refine G_loadV ?_ | refine G_loadV0 ?_ | refine G_loadV2 ?_ | refine G_eql_agg ?_ | refine G_call ?_ | refine G_call0 ?_ | (refine G_box ?_; intro _))
                | (show spl _ _ _; first | refine spl_no rfl ?_ | refine spl_yes rfl ?_)
                | (show evC _ _ _ _ _; first | refine c_seq ?_ | refine c_region (by exact rfl) ?_ | refine c_cond (by exact rfl) ?_ | refine c_ret ?_ | refine c_skip ?_ | refine c_block ?_ | refine c_exit ?_ | refine std ?_)
                | (show Br _ _ _; first | refine Br.t rfl ?_ | refine Br.f rfl ?_ | refine brs ?_ | (first | refine Br.mkN (fun h => ?_) (fun h => ?_) | refine Br.mk (fun h => ?_) (fun h => ?_)) <;> (try (first | contradiction | (exfalso; omega) | (exfalso; simp at h; done))))
                | refine stp ?_)
              all_goals (show retC _ _ _ _ _ _; refine RETC ?_; exact ret_done ((hK _ _ _ _ l ck hab hok none 0)))
end Go.Proofs.Ythoagholmkiknaa


namespace Go.Proofs.Ythoagholmkiknaa
open Go Go.Proofs Go.Sl
set_option maxRecDepth 100000
set_option maxHeartbeats 4000000
set_option linter.unusedSimpArgs false
set_option linter.unusedVariables false
attribute [local irreducible] evG evC spl thenC inBlockC noGotoC CallT retC RetG TurnG CutG pt ro exP star sep pureP
attribute [local irreducible] mp mit
variable {R C : List HP} {K : Value → List HP → Prop}
variable {x i0 i1 m ck k0 k1 j : Nat} {A0 A1 : Option Addr} {σ : Sn} {l : List En}
theorem pF_all : ∀ (k : Nat) (a : List UInt8), a.length ≤ k → ∀ p ∈ (pF a).1, stS p = none := fun k => by
  induction k with
  | zero =>
    intro a h
    obtain rfl : a = [] := List.length_eq_zero_iff.1 (by omega)
    have hs : stS (bsB []) = some 0 := by unfold stS; rw [if_pos (by rw [bsB_size]; decide)]
    rw [pF_some hs]
    exact fun p hp => by cases hp
  | succ k ih =>
    intro a h
    cases hs : stS (bsB a) with
    | some e => rw [pF_some hs]; exact fun p hp => by cases hp
    | none =>
      have hd := drop_less hs
      rw [pF_none hs]
      intro p hp
      rcases List.mem_cons.1 hp with rfl | hp
      · exact hs
      · exact ih _ (by omega) p hp
theorem core_rng {fs : List Fm} {bs : List UInt8} (h : fs.map coreF = (pF bs).1.map cfr) : ∀ z ∈ fs, (0 ≤ z.n ∧ z.n ≤ 4294967295) ∧ z.d.size ≤ 10000 ∧ (z.ps.length = z.pn ∧ z.pn < 1000000000000000) := fun z hz => by
  have h1 : coreF z ∈ (pF bs).1.map cfr := by rw [← h]; exact List.mem_map_of_mem hz
  obtain ⟨p, hp, he⟩ := List.mem_map.1 h1
  have h2 := pF_all bs.length bs (Nat.le_refl _) p hp
  obtain ⟨g1, g2, g3, g4, g5, g6, g7⟩ := st_none h2
  have hq : (sQ p).size ≤ 256 := by unfold sQ; rw [ByteArray.size_extract]; omega
  have e1 : z.n = gN (sT p) (sQ p) := (congrArg Fm.n he).symm
  have e2 : z.d = gD (sT p) (sQ p) := (congrArg Fm.d he).symm
  refine ⟨?_, ?_, core_pn h z hz⟩
  · rw [e1]
    unfold gN
    split
    · have := nAt_rng (sQ p) 0 4
      simp at this
      omega
    · omega
  · rw [e2]
    unfold gD
    split
    · omega
    · exact Nat.zero_le _
def snL0 : List Fm → Sn × List Int → Sn × List Int
  | [], p => p
  | y :: r, p => snL0 r (snF0 y.t y.st y.e y.d y.n y.ps p.1, p.2 ++ snO0 y.t y.st y.e y.d p.1)
def seeL0 (σ : Sn) (bs : List UInt8) : Sn × List Int := snL0 ((pF bs).1.map cfr) (σ, [])
def seeO0 (σ : Sn) (bs : List UInt8) : List Int := (seeL0 σ bs).2 ++ (if (pF bs).2.2 = 0 then [] else [0])
def snL1 : List Fm → Sn × List Int → Sn × List Int
  | [], p => p
  | y :: r, p => snL1 r (snF1 y.t y.st y.e y.d y.n y.ps p.1, p.2 ++ snO1 y.t y.st y.e y.d p.1)
theorem snL1_core : ∀ (l : List Fm) (p : Sn × List Int), snL1 (l.map coreF) p = snL1 l p
  | [], _ => rfl
  | y :: r, p => snL1_core r _
theorem snL1_at {fs : List Fm} {i : Nat} {y : Fm} (h : fs[i]? = some y) (p : Sn × List Int) : snL1 (fs.drop i) p = snL1 (fs.drop (i + 1)) (snF1 y.t y.st y.e y.d y.n y.ps p.1, p.2 ++ snO1 y.t y.st y.e y.d p.1) := by
  have hj := (List.getElem?_eq_some_iff.1 h).1
  rw [List.drop_eq_getElem_cons hj, (List.getElem?_eq_some_iff.1 h).2]
  rfl
def seeL1 (σ : Sn) (bs : List UInt8) : Sn × List Int := snL1 ((pF bs).1.map cfr) (σ, [])
def seeO1 (σ : Sn) (bs : List UInt8) : List Int := (seeL1 σ bs).2 ++ (if (pF bs).2.2 = 0 then [] else [0])
set_option maxHeartbeats 40000000 in
theorem gsee1_ok {ks : List UInt8} {s : ByteArray} (hz : j + ks.length + s.size ≤ 9000) (hi : InvS j σ) (hab : absL l = σ.ls) (hok : EnOk l ck) (hK : ∀ A0 k0 A1 k1 l' ck' j', j' ≤ j + ks.length + s.size → InvS j' (seeL1 σ (ks ++ s.data.toList)).1 → absL l' = (seeL1 σ (ks ++ s.data.toList)).1.ls → EnOk l' ck' → ∀ A c, K (.slice A (seeO1 σ (ks ++ s.data.toList)).length c) (row A c 3 siC (seeO1 σ (ks ++ s.data.toList)) :: spP i1 (if (pF (ks ++ s.data.toList)).2.2 = 0 then (pF (ks ++ s.data.toList)).2.1 else []) (pF (ks ++ s.data.toList)).2.2 :: pt x [.pointer (some ⟨i0, 0, none⟩), .pointer (some ⟨i1, 0, none⟩), .slice A0 (seeL1 σ (ks ++ s.data.toList)).1.s0.length k0, .slice A1 (seeL1 σ (ks ++ s.data.toList)).1.s1.length k1, .int .i64 ((seeL1 σ (ks ++ s.data.toList)).1.a0 : Nat), .int .i64 ((seeL1 σ (ks ++ s.data.toList)).1.a1 : Nat), .int .i64 (seeL1 σ (ks ++ s.data.toList)).1.c0, .int .i64 (seeL1 σ (ks ++ s.data.toList)).1.c1, .map (some m)] 55 :: row A0 k0 58 st3C (seeL1 σ (ks ++ s.data.toList)).1.s0 :: row A1 k1 58 st3C (seeL1 σ (ks ++ s.data.toList)).1.s1 :: mp m (l'.map enM) ck' :: stars enP l' :: R)) : CallT Try.prog 8 #[.pointer (some ⟨x, 0, none⟩), .int .i64 1, .string s] (spP i1 ks 0 :: pt x [.pointer (some ⟨i0, 0, none⟩), .pointer (some ⟨i1, 0, none⟩), .slice A0 σ.s0.length k0, .slice A1 σ.s1.length k1, .int .i64 (σ.a0 : Nat), .int .i64 (σ.a1 : Nat), .int .i64 σ.c0, .int .i64 σ.c1, .map (some m)] 55 :: row A0 k0 58 st3C σ.s0 :: row A1 k1 58 st3C σ.s1 :: mp m (l.map enM) ck :: stars enP l :: R) K := by
  have hall := pF_len (ks ++ s.data.toList).length (ks ++ s.data.toList) (Nat.le_refl _)
  have hal2 : (ks ++ s.data.toList).length = ks.length + s.size := by simp
  refine callT_intro mixed Try.func8 rfl (by decide) (by decide +kernel) (by exact Nat.le_of_ble_eq_true rfl) ?_
  repeat' (first
    | (show evG _ _ _ _ _ _ _; first | refine G_add64 ?_ | refine G_pure0 ?_ | refine G_load ?_ | refine evG_nil ?_ | refine G_br ?_ ?_ | refine G_field ?_ | refine G_pure ?_ | refine G_store ?_ | refine G_loadV ?_ | refine G_loadV0 ?_ | refine G_loadV2 ?_ | (refine G_append ?_; intro _ _) | (refine G_appendN ?_; intro _ _) | refine G_not ?_ | refine G_index ?_ | refine G_indexA ?_ | refine G_cat ?_ | refine G_eql_agg ?_ | refine G_neq_agg ?_ | refine G_call ?_ | refine G_call0 ?_ | (refine G_alloc ?_; intro _) | (refine G_buildSlice ?_; intro _) | (refine G_indexV ?_; intro _ _ hA; subst hA) | refine G_skip ?_ | refine G_skip0 ?_)
    | (show spl _ _ _; first | refine spl_no rfl ?_ | refine spl_yes rfl ?_)
    | (show evC _ _ _ _ _; first | refine c_seq ?_ | refine c_region (by exact rfl) ?_ | refine c_cond (by exact rfl) ?_ | refine c_ret ?_ | refine c_skip ?_ | refine c_block ?_ | refine c_exit ?_ | refine std ?_)
    | (show Br _ _ _; first | refine Br.t rfl ?_ | refine Br.f rfl ?_ | refine brs ?_ | (first | refine Br.mkN (fun h => ?_) (fun h => ?_) | refine Br.mk (fun h => ?_) (fun h => ?_)) <;> (try (first | contradiction | (exfalso; omega) | (exfalso; simp at h; done))))
    | refine stp ?_
    | (show CallT _ 20 _ _ _; refine CA (h := sright_ok ?_))
    | (show CallT _ 21 _ _ _; refine CA (h := broken_ok ?_))
    | (show CallT _ 22 _ _ _; refine CA (h := feed_ok (by omega) (fun F cF fs hfs => ?_))))
  have hfl : fs.length ≤ ks.length + s.size := by
    have := congrArg List.length hfs
    simp only [List.length_map] at this
    omega
  have hr := core_rng hfs
  have hsee : snL1 fs (σ, []) = seeL1 σ (ks ++ s.data.toList) := by rw [← snL1_core fs, hfs]; rfl
  refine LOOP (fun kk a C' => ∃ (i : Nat) (σ' : Sn) (out : List Int) (A0 A1 : Option Addr) (k0 k1 : Nat) (l : List En) (ck : Nat) (A : Option Addr) (c : Nat), i + kk = fs.length ∧ InvS (j + i) σ' ∧ absL l = σ'.ls ∧ EnOk l ck ∧ out.length ≤ 2 * i ∧ snL1 (fs.drop i) (σ', out) = seeL1 σ (ks ++ s.data.toList) ∧ Agree a [(0, .pointer (some ⟨x, 0, none⟩)), (1, .int .i64 1), (7, .slice A out.length c), (9, .int .i64 (pF (ks ++ s.data.toList)).2.2), (40, .slice F fs.length cF), (41, .int .i64 fs.length), (42, .int .i64 i)] ∧ C' = row A c 3 siC out :: row F cF 38 fmC fs :: spP i1 (if (pF (ks ++ s.data.toList)).2.2 = 0 then (pF (ks ++ s.data.toList)).2.1 else []) (pF (ks ++ s.data.toList)).2.2 :: pt x [.pointer (some ⟨i0, 0, none⟩), .pointer (some ⟨i1, 0, none⟩), .slice A0 σ'.s0.length k0, .slice A1 σ'.s1.length k1, .int .i64 (σ'.a0 : Nat), .int .i64 (σ'.a1 : Nat), .int .i64 σ'.c0, .int .i64 σ'.c1, .map (some m)] 55 :: row A0 k0 58 st3C σ'.s0 :: row A1 k1 58 st3C σ'.s1 :: mp m (l.map enM) ck :: stars enP l :: allP fmP fs :: R) fs.length (turn fs.length ⟨0, σ, [], A0, A1, k0, k1, l, ck, none, 0, by omega, hi, hab, hok, by simp, hsee, ⟨rfl, rfl, rfl, rfl, rfl, rfl, rfl, trivial⟩, rfl⟩ (by omega)) ?_
  rintro kk a C' ⟨i, σ', out, A0, A1, k0, k1, l, ck, A, c, hik, hi', hab', hok', hol, hsl, ha, rfl⟩
  refine c_fr _ ha ?_
  simp only [updL]
  by_cases hlt : i < fs.length
  · obtain ⟨y, hy, _⟩ := at_drop (l := fs) (j := i) hlt
    have hym := List.mem_of_getElem? hy
    obtain ⟨hn, hd, hpn⟩ := hr y hym
    rw [snL1_at hy] at hsl
    have hso := snO1_len y.t y.st y.e y.d σ'
    repeat' (first
      | (show evG _ _ _ _ _ _ _; first | refine G_add64 ?_ | refine G_pure0 ?_ | refine G_load ?_ | refine evG_nil ?_ | refine G_br ?_ ?_ | refine G_field ?_ | refine G_pure ?_ | refine G_store ?_ | refine G_loadV ?_ | refine G_loadV0 ?_ | refine G_loadV2 ?_ | (refine G_append ?_; intro _ _) | (refine G_appendN ?_; intro _ _) | refine G_not ?_ | refine G_index ?_ | refine G_indexA ?_ | refine G_cat ?_ | refine G_eql_agg ?_ | refine G_neq_agg ?_ | refine G_call ?_ | refine G_call0 ?_ | (refine G_alloc ?_; intro _) | (refine G_buildSlice ?_; intro _) | (refine G_indexV ?_; intro _ _ hA; subst hA) | refine G_skip ?_ | refine G_skip0 ?_)
      | (show spl _ _ _; first | refine spl_no rfl ?_ | refine spl_yes rfl ?_)
      | (show evC _ _ _ _ _; first | refine c_seq ?_ | refine c_region (by exact rfl) ?_ | refine c_cond (by exact rfl) ?_ | refine c_ret ?_ | refine c_skip ?_ | refine c_block ?_ | refine c_exit ?_ | refine std ?_)
      | (show Br _ _ _; first | refine Br.t rfl ?_ | refine Br.f rfl ?_ | refine brs ?_ | (first | refine Br.mkN (fun h => ?_) (fun h => ?_) | refine Br.mk (fun h => ?_) (fun h => ?_)) <;> (try (first | contradiction | (exfalso; omega) | (exfalso; simp at h; done))))
      | refine stp ?_
      | (show CallT _ 23 _ _ _; refine CA (h := gfr1_ok hi' (by omega) hab' hok' hn hd (by ((repeat (first | exact view_fmP hym | apply view_there)) <;> exact view_fmP hym)) hpn (fun A0 k0 A1 k1 l' ck' hab2 hok2 A2 c2 => ?_)))
      | (show evG _ _ _ _ _ _ _; refine G_append (E := siC) ?_; intro _ _))
    all_goals (show TurnG _ _ _ _; exact turn (kk - 1) ⟨i + 1, _, _, _, _, _, _, l', ck', _, _, by omega, inv_snF1 hn hi', hab2, hok2, by show (out ++ snO1 y.t y.st y.e y.d σ').length ≤ 2 * (i + 1); rw [List.length_append]; omega, hsl, ⟨rfl, rfl, rfl, rfl, rfl, rfl, rfl, trivial⟩, rfl⟩)
  · rw [List.drop_eq_nil_of_le (by omega)] at hsl
    have hs1 : (seeL1 σ (ks ++ s.data.toList)).1 = σ' := by rw [← hsl]; rfl
    have hs2 : (seeL1 σ (ks ++ s.data.toList)).2 = out := by rw [← hsl]; rfl
    simp only [seeO1, hs1, hs2] at hK
    by_cases hc : (pF (ks ++ s.data.toList)).2.2 = 0
    · simp only [if_pos hc, List.append_nil] at hK ⊢
      repeat' (first
        | (show evG _ _ _ _ _ _ _; first | refine G_add64 ?_ | refine G_pure0 ?_ | refine G_load ?_ | refine evG_nil ?_ | refine G_br ?_ ?_ | refine G_field ?_ | refine G_pure ?_ | refine G_store ?_ | refine G_loadV ?_ | refine G_loadV0 ?_ | refine G_loadV2 ?_ | (refine G_append ?_; intro _ _) | (refine G_appendN ?_; intro _ _) | refine G_not ?_ | refine G_index ?_ | refine G_indexA ?_ | refine G_cat ?_ | refine G_eql_agg ?_ | refine G_neq_agg ?_ | refine G_call ?_ | refine G_call0 ?_ | (refine G_alloc ?_; intro _) | (refine G_buildSlice ?_; intro _) | (refine G_indexV ?_; intro _ _ hA; subst hA) | refine G_skip ?_ | refine G_skip0 ?_)
        | (show spl _ _ _; first | refine spl_no rfl ?_ | refine spl_yes rfl ?_)
        | (show evC _ _ _ _ _; first | refine c_seq ?_ | refine c_region (by exact rfl) ?_ | refine c_cond (by exact rfl) ?_ | refine c_ret ?_ | refine c_skip ?_ | refine c_block ?_ | refine c_exit ?_ | refine std ?_)
        | (show Br _ _ _; first | refine Br.t rfl ?_ | refine Br.f rfl ?_ | refine brs ?_ | (first | refine Br.mkN (fun h => ?_) (fun h => ?_) | refine Br.mk (fun h => ?_) (fun h => ?_)) <;> (try (first | contradiction | (exfalso; omega) | (exfalso; simp at h; done))))
        | refine stp ?_)
      all_goals (show retC _ _ _ _ _ _; refine RETC ?_; exact ret_done ((hK _ _ _ _ l ck (j + i) (by omega) hi' hab' hok' _ _)))
    · simp only [if_neg hc] at hK ⊢
      repeat' (first
        | (show evG _ _ _ _ _ _ _; first | refine G_add64 ?_ | refine G_pure0 ?_ | refine G_load ?_ | refine evG_nil ?_ | refine G_br ?_ ?_ | refine G_field ?_ | refine G_pure ?_ | refine G_store ?_ | refine G_loadV ?_ | refine G_loadV0 ?_ | refine G_loadV2 ?_ | (refine G_append ?_; intro _ _) | (refine G_appendN ?_; intro _ _) | refine G_not ?_ | refine G_index ?_ | refine G_indexA ?_ | refine G_cat ?_ | refine G_eql_agg ?_ | refine G_neq_agg ?_ | refine G_call ?_ | refine G_call0 ?_ | (refine G_alloc ?_; intro _) | (refine G_buildSlice ?_; intro _) | (refine G_indexV ?_; intro _ _ hA; subst hA) | refine G_skip ?_ | refine G_skip0 ?_)
        | (show spl _ _ _; first | refine spl_no rfl ?_ | refine spl_yes rfl ?_)
        | (show evC _ _ _ _ _; first | refine c_seq ?_ | refine c_region (by exact rfl) ?_ | refine c_cond (by exact rfl) ?_ | refine c_ret ?_ | refine c_skip ?_ | refine c_block ?_ | refine c_exit ?_ | refine std ?_)
        | (show Br _ _ _; first | refine Br.t rfl ?_ | refine Br.f rfl ?_ | refine brs ?_ | (first | refine Br.mkN (fun h => ?_) (fun h => ?_) | refine Br.mk (fun h => ?_) (fun h => ?_)) <;> (try (first | contradiction | (exfalso; omega) | (exfalso; simp at h; done))))
        | refine stp ?_)
      all_goals (show retC _ _ _ _ _ _; refine RETC ?_; exact ret_done ((hK _ _ _ _ l ck (j + i) (by omega) hi' hab' hok' _ _)))
end Go.Proofs.Ythoagholmkiknaa

