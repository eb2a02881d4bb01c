/- Split: the frames that any bytes are, piece by piece: lemmas; each with the conditions that it states. -/
import Derived.Test.YtgaekagocbcebaaP8

namespace Go.Proofs.Ytgaekagocbcebaa
open Go Go.Proofs Go.Sl
set_option maxRecDepth 100000
set_option maxHeartbeats 4000000
set_option linter.unusedSimpArgs false
set_option linter.unusedVariables false
attribute [local irreducible] evG evC spl thenC inBlockC noGotoC CallT retC RetG TurnG CutG pt ro exP star sep pureP
attribute [local irreducible] ByteArray.extract nAt scanP pF parse
variable {R C : List HP} {K : Value → List HP → Prop}
theorem pF_len : ∀ (k : Nat) (a : List UInt8), a.length ≤ k → (pF a).1.length ≤ a.length := fun k => by
  induction k with
  | zero =>
    intro a h
    obtain rfl : a = [] := List.length_eq_zero_iff.1 (by omega)
    have hs : stS (bsB []) = some 0 := by unfold stS; rw [if_pos (by rw [bsB_size]; decide)]
    rw [pF_some hs]
    exact Nat.le_refl _
  | succ k ih =>
    intro a h
    cases hs : stS (bsB a) with
    | some e => rw [pF_some hs]; exact Nat.zero_le _
    | none =>
      have hd := drop_less hs
      have i1 := ih (a.drop (9 + sL (bsB a)).toNat) (by omega)
      rw [pF_none hs]
      show (pF (a.drop (9 + sL (bsB a)).toNat)).1.length + 1 ≤ a.length
      omega
theorem feeds_len (k : Nat) {al s ks : List UInt8} (h : (pF (al ++ s)).1.map cfr = (pF al).1.map cfr ++ (pF (ks ++ s)).1.map cfr) : (pF (al ++ s)).1.length = (pF al).1.length + (pF (ks ++ s)).1.length ∧ (pF (al ++ s)).1.length ≤ al.length + s.length := by
  have h1 := congrArg List.length h
  simp only [List.length_map, List.length_append] at h1
  have h2 := pF_len (al ++ s).length (al ++ s) (Nat.le_refl _)
  rw [List.length_append] at h2
  exact ⟨h1, h2⟩
theorem seen_eq {fs gs : List Fm} {srcsA srcsX srcsY : List ByteArray} (hfs : fs.map coreF = srcsY.map cfr) (hgs : gs.map coreF = srcsX.map cfr) (h : srcsX.map cfr = srcsA.map cfr ++ srcsY.map cfr) : fs.map coreF = (List.take (((gs.length : Nat) : Int).toNat - ((srcsA.length : Nat) : Int).toNat) (List.drop ((srcsA.length : Nat) : Int).toNat gs)).map coreF := by
  rw [Int.toNat_natCast, Int.toNat_natCast, List.take_of_length_le (by rw [List.length_drop]; exact Nat.le_refl _), List.map_drop, hgs, h, hfs]
  rw [List.drop_append_of_le_length (by simp), List.drop_eq_nil_of_le (by simp)]
  rfl
theorem splitFeeds_ok {A : Option Addr} {n c : Nat} {ls : List ByteArray} (hv : View C A stC ls) (hn : ls.length = n) (hn2 : n < 1000000000000000) (hK : ∀ C, K (.bool true) C) : CallT Try.prog 4 #[.slice A n c] C K := by
  subst hn
  have e00 : pF (ByteArray.mk #[]).data.toList = ([], [], 0) := by decide +kernel
  refine callT_intro mixed Try.func4 rfl (by decide) (by decide +kernel) (by exact Nat.le_of_ble_eq_true rfl) ?_
  repeat' (first
    | (show evG _ _ _ _ _ _ _; first | refine G_andNot0 ?_ | refine G_andNot1 ?_ | refine G_add64 ?_ | refine G_sub64 ?_ | refine G_mul64 ?_ | refine G_quo ?_ | refine G_rem ?_ | refine G_shl8 ?_ | refine G_orb ?_ | refine G_shr ?_ | refine G_pure0 ?_ | refine G_load ?_ | refine evG_nil ?_ | refine G_br ?_ ?_ | refine G_field ?_ | refine G_pure ?_ | refine G_store ?_ | refine G_loadV ?_ | refine G_loadV0 ?_ | refine G_loadV2 ?_ | (refine G_append ?_; intro _ _) | (refine G_appendN ?_; intro _ _) | refine G_not ?_ | refine G_index ?_ | refine G_indexA ?_ | refine G_indexS ?_ | refine G_conv64 ?_ | refine G_conv8 ?_ | refine G_convu ?_ | refine G_conv ?_ | refine G_build ?_ | refine G_slh ?_ | refine G_slo ?_ | refine G_shi ?_ | refine G_cat ?_ | refine G_min ?_ | refine G_max ?_ | refine G_neg64 ?_ | refine G_eql_agg ?_ | refine G_neq_agg ?_ | refine G_bytesP ?_ | refine G_bytesstr ?_ | refine G_call ?_ | refine G_call0 ?_ | refine G_callv ?_ | refine G_callv0 ?_ | (refine G_box ?_; intro _) | (refine G_alloc ?_; intro _) | (refine G_buildSlice ?_; intro _) | (refine G_strrow ?_; intro _ _) | (refine G_indexV ?_; intro _ _ hA; subst hA) | (refine G_sliceR ?_; intro _) | (refine G_sliceO ?_; intro _) | refine G_skip ?_ | refine G_skip0 ?_)
    | (show spl _ _ _; first | refine spl_no rfl ?_ | refine spl_yes rfl ?_)
    | (show evC _ _ _ _ _; first | refine c_seq ?_ | refine c_region (by exact rfl) ?_ | refine c_cond (by exact rfl) ?_ | refine c_ret ?_ | refine c_skip ?_ | refine c_block ?_ | refine c_exit ?_  | refine c_draw (by exact rfl) (by decide +kernel) (by exact rfl) ?_ | refine c_drawT (by exact rfl) (by decide +kernel) (by exact rfl) ?_ | refine c_scope ?_ | refine c_label ?_)
    | (show Br _ _ _; first | refine Br.t rfl ?_ | refine Br.f rfl ?_ | refine Br.t (beq_self_eq_true _) ?_ | refine Br.f (not_beq_self _) ?_ | refine Br.t (by assumption) ?_ | refine Br.f (by assumption) ?_ | refine Br.t (nb_f (by assumption)) ?_ | refine Br.f (nb_t (by assumption)) ?_ | (refine Br.mk (fun h => ?_) (fun h => ?_) <;> (try simp only [Bool.and_eq_true, Bool.or_eq_true, Bool.and_eq_false_iff, Bool.or_eq_false_iff, decide_eq_true_eq, decide_eq_false_iff_not, beq_iff_eq, bne_iff_ne, beq_eq_false_iff_ne, bne_eq_false_iff_eq, ne_eq, Bool.not_eq_true', Bool.not_eq_false', not_true_eq_false, not_false_eq_true, Int.not_lt, Int.not_le, gt_iff_lt, ge_iff_le] at h) <;> (try (first | contradiction | (exfalso; omega)))))
    | (show thenC _ _ _ _ _; first | refine t_n ?_ | refine t_r ?_ | refine t_e ?_)
    | (show inBlockC _ _ _ _ _; first | refine b_n ?_ | refine b_r ?_ | refine b_hit rfl ?_ | refine b_miss rfl ?_)
    | (show noGotoC _ _ _ _; first | refine g_n ?_ | refine g_r ?_ | refine g_e ?_)
    | (show CallT _ 14 _ _ _; refine CA (h := snew_ok (fun x => ?_)))
    | (show CallT _ 15 _ _ _; refine CA (h := awake4_ok ?_)))
  refine LOOP (fun m a C' => ∃ (j : Nat) (al : ByteArray) (ks : List UInt8) (br seen : Int), j + m = ls.length ∧ C' = spP x ks br :: C ∧ al.size ≤ 1500 * j ∧ (br ≠ 0 → ks = []) ∧ (br = 0 → (pF al.data.toList).2.2 = 0 ∧ (pF al.data.toList).2.1 = ks ∧ seen = ((pF al.data.toList).1.length : Nat)) ∧ Agree a [(0, .slice A ls.length c), (2, .bool false), (3, .pointer (some ⟨x, 0, none⟩)), (4, .string al), (5, .int .i64 seen), (6, .int .i64 br), (7, .int .i64 j)]) ls.length (turn ls.length ⟨0, ⟨#[]⟩, [], 0, 0, by omega, rfl, by decide, fun _ => rfl, fun _ => ?_, rfl, rfl, rfl, rfl, rfl, rfl, rfl, trivial⟩) ?_
  · exact ⟨by rw [e00], by rw [e00], by rw [e00]; rfl⟩
  rintro n1 a C' ⟨j, al, ks, br, seen, hj, rfl, hal, hb1, hb2, ha⟩
  refine c_fr _ ha ?_
  simp only [updL]
  by_cases hlt : j < ls.length
  · by_cases h30 : j < 30
    · obtain ⟨s, hs, hd⟩ := at_drop (l := ls) (j := j) (by omega)
      by_cases hbig : 1500 < s.size
      · repeat' (first
          | (show evG _ _ _ _ _ _ _; first | refine G_andNot0 ?_ | refine G_andNot1 ?_ | refine G_add64 ?_ | refine G_sub64 ?_ | refine G_mul64 ?_ | refine G_quo ?_ | refine G_rem ?_ | refine G_shl8 ?_ | refine G_orb ?_ | refine G_shr ?_ | refine G_pure0 ?_ | refine G_load ?_ | refine evG_nil ?_ | refine G_br ?_ ?_ | refine G_field ?_ | refine G_pure ?_ | refine G_store ?_ | refine G_loadV ?_ | refine G_loadV0 ?_ | refine G_loadV2 ?_ | (refine G_append ?_; intro _ _) | (refine G_appendN ?_; intro _ _) | refine G_not ?_ | refine G_index ?_ | refine G_indexA ?_ | refine G_indexS ?_ | refine G_conv64 ?_ | refine G_conv8 ?_ | refine G_convu ?_ | refine G_conv ?_ | refine G_build ?_ | refine G_slh ?_ | refine G_slo ?_ | refine G_shi ?_ | refine G_cat ?_ | refine G_min ?_ | refine G_max ?_ | refine G_neg64 ?_ | refine G_eql_agg ?_ | refine G_neq_agg ?_ | refine G_bytesP ?_ | refine G_bytesstr ?_ | refine G_call ?_ | refine G_call0 ?_ | refine G_callv ?_ | refine G_callv0 ?_ | (refine G_box ?_; intro _) | (refine G_alloc ?_; intro _) | (refine G_buildSlice ?_; intro _) | (refine G_strrow ?_; intro _ _) | (refine G_indexV ?_; intro _ _ hA; subst hA) | (refine G_sliceR ?_; intro _) | (refine G_sliceO ?_; intro _) | refine G_skip ?_ | refine G_skip0 ?_)
          | (show spl _ _ _; first | refine spl_no rfl ?_ | refine spl_yes rfl ?_)
          | (show evC _ _ _ _ _; first | refine c_seq ?_ | refine c_region (by exact rfl) ?_ | refine c_cond (by exact rfl) ?_ | refine c_ret ?_ | refine c_skip ?_ | refine c_block ?_ | refine c_exit ?_  | refine c_draw (by exact rfl) (by decide +kernel) (by exact rfl) ?_ | refine c_drawT (by exact rfl) (by decide +kernel) (by exact rfl) ?_ | refine c_scope ?_ | refine c_label ?_)
          | (show Br _ _ _; first | refine Br.t rfl ?_ | refine Br.f rfl ?_ | refine Br.t (beq_self_eq_true _) ?_ | refine Br.f (not_beq_self _) ?_ | refine Br.t (by assumption) ?_ | refine Br.f (by assumption) ?_ | refine Br.t (nb_f (by assumption)) ?_ | refine Br.f (nb_t (by assumption)) ?_ | (refine Br.mk (fun h => ?_) (fun h => ?_) <;> (try simp only [Bool.and_eq_true, Bool.or_eq_true, Bool.and_eq_false_iff, Bool.or_eq_false_iff, decide_eq_true_eq, decide_eq_false_iff_not, beq_iff_eq, bne_iff_ne, beq_eq_false_iff_ne, bne_eq_false_iff_eq, ne_eq, Bool.not_eq_true', Bool.not_eq_false', not_true_eq_false, not_false_eq_true, Int.not_lt, Int.not_le, gt_iff_lt, ge_iff_le] at h) <;> (try (first | contradiction | (exfalso; omega)))))
          | (show thenC _ _ _ _ _; first | refine t_n ?_ | refine t_r ?_ | refine t_e ?_)
          | (show inBlockC _ _ _ _ _; first | refine b_n ?_ | refine b_r ?_ | refine b_hit rfl ?_ | refine b_miss rfl ?_)
          | (show noGotoC _ _ _ _; first | refine g_n ?_ | refine g_r ?_ | refine g_e ?_))
        all_goals exact turn (n1 - 1) ⟨j + 1, al, ks, br, seen, by omega, rfl, by omega, hb1, hb2, rfl, rfl, rfl, rfl, rfl, rfl, rfl, trivial⟩
      · by_cases hbr : br = 0
        · subst hbr
          obtain ⟨h1, h2, h3⟩ := hb2 rfl
          have hal2 : al.data.toList.length = al.size := by simp
          have hkl : ks.length ≤ 264 := by rw [← h2]; exact kept_le h1
          have hX := (pF_app s.data.toList al.data.toList.length al.data.toList (Nat.le_refl _)).1 h1
          rw [h2] at hX
          have hap : (al ++ s).data.toList = al.data.toList ++ s.data.toList := by simp
          have hasz : (al ++ s).size = al.size + s.size := ByteArray.size_append ..
          have hfl := feeds_len (pF al.data.toList).1.length (al := al.data.toList) (s := s.data.toList) hX.1
          generalize hY : pF (ks ++ s.data.toList) = Y at hX hfl
          generalize hZ : pF (al.data.toList ++ s.data.toList) = Z at hX hfl
          obtain ⟨srcsY, rest, e⟩ := Y
          obtain ⟨srcsX, rest', e'⟩ := Z
          obtain ⟨hX1, hX2⟩ := hX
          simp only [Prod.mk.injEq] at hX2
          obtain ⟨rfl, rfl⟩ := hX2
          simp only at hX1 hfl
          have cF : ∀ {R : List HP} {K : Value → List HP → Prop}, (∀ F c fs, fs.map coreF = srcsY.map cfr → fs.length = srcsY.length → K (.tuple #[.slice F fs.length c, .int .i64 e']) (row F c 28 fmC fs :: allP fmP fs :: spP x (if e' = 0 then rest' else []) e' :: R)) → CallT Try.prog 16 #[.pointer (some ⟨x, 0, none⟩), .string s] (spP x ks 0 :: R) K := fun {R K} hk => by
            refine feed_ok (by omega) fun F c fs hfs => ?_
            rw [hY] at hfs ⊢
            exact hk F c fs hfs (by simpa using congrArg List.length hfs)
          have cR : ∀ {R : List HP} {K : Value → List HP → Prop}, (∀ F c gs, gs.map coreF = srcsX.map cfr → gs.length = srcsX.length → rest'.length ≤ al.size + s.size → K (.tuple #[.slice F gs.length c, .int .i64 (((al ++ s).size : Int) - rest'.length), .int .i64 e']) (row F c 28 fmC gs :: allP fmP gs :: R)) → CallT Try.prog 19 #[.string (al ++ s)] R K := fun {R K} hk => by
            refine rframes_ok (by omega) fun F c gs hgs hgl => ?_
            rw [hap, hZ] at hgs hgl ⊢
            exact hk F c gs hgs (by simpa using congrArg List.length hgs) (by rw [hasz] at hgl; exact hgl)
          have hseen : seen = ((pF al.data.toList).1.length : Nat) := h3
          generalize hA : (pF al.data.toList).1 = srcsA at hX1 hfl hseen
          subst hseen
          have hs2 : s.data.toList.length = s.size := by simp
          have hyb : srcsY.length < 1000000 := by omega
          by_cases he : e' = 0
          · subst he
            simp only [if_true] at cF
            have hk264 : rest'.length ≤ 264 := by
              have := kept_le (a := ks ++ s.data.toList) (by rw [hY])
              rw [hY] at this
              exact this
            repeat' (first
              | (show evG _ _ _ _ _ _ _; first | refine G_andNot0 ?_ | refine G_andNot1 ?_ | refine G_add64 ?_ | refine G_sub64 ?_ | refine G_mul64 ?_ | refine G_quo ?_ | refine G_rem ?_ | refine G_shl8 ?_ | refine G_orb ?_ | refine G_shr ?_ | refine G_pure0 ?_ | refine G_load ?_ | refine evG_nil ?_ | refine G_br ?_ ?_ | refine G_field ?_ | refine G_pure ?_ | refine G_store ?_ | refine G_loadV ?_ | refine G_loadV0 ?_ | refine G_loadV2 ?_ | (refine G_append ?_; intro _ _) | (refine G_appendN ?_; intro _ _) | refine G_not ?_ | refine G_index ?_ | refine G_indexA ?_ | refine G_indexS ?_ | refine G_conv64 ?_ | refine G_conv8 ?_ | refine G_convu ?_ | refine G_conv ?_ | refine G_build ?_ | refine G_slh ?_ | refine G_slo ?_ | refine G_shi ?_ | refine G_cat ?_ | refine G_min ?_ | refine G_max ?_ | refine G_neg64 ?_ | refine G_eql_agg ?_ | refine G_neq_agg ?_ | refine G_bytesP ?_ | refine G_bytesstr ?_ | refine G_call ?_ | refine G_call0 ?_ | refine G_callv ?_ | refine G_callv0 ?_ | (refine G_box ?_; intro _) | (refine G_alloc ?_; intro _) | (refine G_buildSlice ?_; intro _) | (refine G_strrow ?_; intro _ _) | (refine G_indexV ?_; intro _ _ hA; subst hA) | (refine G_sliceR ?_; intro _) | (refine G_sliceO ?_; intro _) | refine G_skip ?_ | refine G_skip0 ?_)
              | (show spl _ _ _; first | refine spl_no rfl ?_ | refine spl_yes rfl ?_)
              | (show evC _ _ _ _ _; first | refine c_seq ?_ | refine c_region (by exact rfl) ?_ | refine c_cond (by exact rfl) ?_ | refine c_ret ?_ | refine c_skip ?_ | refine c_block ?_ | refine c_exit ?_  | refine c_draw (by exact rfl) (by decide +kernel) (by exact rfl) ?_ | refine c_drawT (by exact rfl) (by decide +kernel) (by exact rfl) ?_ | refine c_scope ?_ | refine c_label ?_)
              | (show Br _ _ _; first | refine Br.t rfl ?_ | refine Br.f rfl ?_ | refine Br.t (beq_self_eq_true _) ?_ | refine Br.f (not_beq_self _) ?_ | refine Br.t (by assumption) ?_ | refine Br.f (by assumption) ?_ | refine Br.t (nb_f (by assumption)) ?_ | refine Br.f (nb_t (by assumption)) ?_ | (refine Br.mk (fun h => ?_) (fun h => ?_) <;> (try simp only [Bool.and_eq_true, Bool.or_eq_true, Bool.and_eq_false_iff, Bool.or_eq_false_iff, decide_eq_true_eq, decide_eq_false_iff_not, beq_iff_eq, bne_iff_ne, beq_eq_false_iff_ne, bne_eq_false_iff_eq, ne_eq, Bool.not_eq_true', Bool.not_eq_false', not_true_eq_false, not_false_eq_true, Int.not_lt, Int.not_le, gt_iff_lt, ge_iff_le] at h) <;> (try (first | contradiction | (exfalso; omega)))))
              | (show thenC _ _ _ _ _; first | refine t_n ?_ | refine t_r ?_ | refine t_e ?_)
              | (show inBlockC _ _ _ _ _; first | refine b_n ?_ | refine b_r ?_ | refine b_hit rfl ?_ | refine b_miss rfl ?_)
              | (show noGotoC _ _ _ _; first | refine g_n ?_ | refine g_r ?_ | refine g_e ?_)
              | (show CallT _ 16 _ _ _; refine CA (h := cF (fun F1 c1 fs hfs hfn => ?_)))
              | (show CallT _ 19 _ _ _; refine CA (h := cR (fun G1 c2 gs hgs hgn hgl => ?_)))
              | (show CallT _ 17 _ _ _; refine CA (h := kept_ok ?_))
              | (show CallT _ 18 _ _ _; refine CA (h := broken_ok ?_))
              | (show CallT _ 20 _ _ _; refine CA (h := r4same_ok (xs := fs) (by ((repeat (first | exact view_row | exact view_rrow | exact view_pt | assumption | apply view_there)) <;> exact view_row)) (by ((repeat (first | exact view_row | exact view_rrow | exact view_pt | assumption | apply view_there)) <;> exact view_row)) (fun z hz => by ((repeat (first | exact view_fmP hz | apply view_there)) <;> exact view_fmP hz)) (fun z hz => by (have hm := List.mem_of_mem_drop (List.mem_of_mem_take hz); ((repeat (first | exact view_fmP hm | apply view_there)) <;> exact view_fmP hm))) (fun z hz => core_pn hgs z (List.mem_of_mem_drop (List.mem_of_mem_take hz))) (seen_eq hfs hgs hX1) rfl (by simp) (by omega) ?_)))
            all_goals exact turn (n1 - 1) ⟨j + 1, al ++ s, rest', 0, ((gs.length : Nat) : Int), by omega, rfl, by rw [hasz]; omega, fun h => absurd rfl h, fun _ => ⟨by rw [hap, hZ], by rw [hap, hZ], by rw [hap, hZ, hgn]⟩, rfl, rfl, rfl, rfl, rfl, rfl, rfl, trivial⟩
          · simp only [he, if_false] at cF
            repeat' (first
              | (show evG _ _ _ _ _ _ _; first | refine G_andNot0 ?_ | refine G_andNot1 ?_ | refine G_add64 ?_ | refine G_sub64 ?_ | refine G_mul64 ?_ | refine G_quo ?_ | refine G_rem ?_ | refine G_shl8 ?_ | refine G_orb ?_ | refine G_shr ?_ | refine G_pure0 ?_ | refine G_load ?_ | refine evG_nil ?_ | refine G_br ?_ ?_ | refine G_field ?_ | refine G_pure ?_ | refine G_store ?_ | refine G_loadV ?_ | refine G_loadV0 ?_ | refine G_loadV2 ?_ | (refine G_append ?_; intro _ _) | (refine G_appendN ?_; intro _ _) | refine G_not ?_ | refine G_index ?_ | refine G_indexA ?_ | refine G_indexS ?_ | refine G_conv64 ?_ | refine G_conv8 ?_ | refine G_convu ?_ | refine G_conv ?_ | refine G_build ?_ | refine G_slh ?_ | refine G_slo ?_ | refine G_shi ?_ | refine G_cat ?_ | refine G_min ?_ | refine G_max ?_ | refine G_neg64 ?_ | refine G_eql_agg ?_ | refine G_neq_agg ?_ | refine G_bytesP ?_ | refine G_bytesstr ?_ | refine G_call ?_ | refine G_call0 ?_ | refine G_callv ?_ | refine G_callv0 ?_ | (refine G_box ?_; intro _) | (refine G_alloc ?_; intro _) | (refine G_buildSlice ?_; intro _) | (refine G_strrow ?_; intro _ _) | (refine G_indexV ?_; intro _ _ hA; subst hA) | (refine G_sliceR ?_; intro _) | (refine G_sliceO ?_; intro _) | refine G_skip ?_ | refine G_skip0 ?_)
              | (show spl _ _ _; first | refine spl_no rfl ?_ | refine spl_yes rfl ?_)
              | (show evC _ _ _ _ _; first | refine c_seq ?_ | refine c_region (by exact rfl) ?_ | refine c_cond (by exact rfl) ?_ | refine c_ret ?_ | refine c_skip ?_ | refine c_block ?_ | refine c_exit ?_  | refine c_draw (by exact rfl) (by decide +kernel) (by exact rfl) ?_ | refine c_drawT (by exact rfl) (by decide +kernel) (by exact rfl) ?_ | refine c_scope ?_ | refine c_label ?_)
              | (show Br _ _ _; first | refine Br.t rfl ?_ | refine Br.f rfl ?_ | refine Br.t (beq_self_eq_true _) ?_ | refine Br.f (not_beq_self _) ?_ | refine Br.t (by assumption) ?_ | refine Br.f (by assumption) ?_ | refine Br.t (nb_f (by assumption)) ?_ | refine Br.f (nb_t (by assumption)) ?_ | (refine Br.mk (fun h => ?_) (fun h => ?_) <;> (try simp only [Bool.and_eq_true, Bool.or_eq_true, Bool.and_eq_false_iff, Bool.or_eq_false_iff, decide_eq_true_eq, decide_eq_false_iff_not, beq_iff_eq, bne_iff_ne, beq_eq_false_iff_ne, bne_eq_false_iff_eq, ne_eq, Bool.not_eq_true', Bool.not_eq_false', not_true_eq_false, not_false_eq_true, Int.not_lt, Int.not_le, gt_iff_lt, ge_iff_le] at h) <;> (try (first | contradiction | (exfalso; omega)))))
              | (show thenC _ _ _ _ _; first | refine t_n ?_ | refine t_r ?_ | refine t_e ?_)
              | (show inBlockC _ _ _ _ _; first | refine b_n ?_ | refine b_r ?_ | refine b_hit rfl ?_ | refine b_miss rfl ?_)
              | (show noGotoC _ _ _ _; first | refine g_n ?_ | refine g_r ?_ | refine g_e ?_)
              | (show CallT _ 16 _ _ _; refine CA (h := cF (fun F1 c1 fs hfs hfn => ?_)))
              | (show CallT _ 19 _ _ _; refine CA (h := cR (fun G1 c2 gs hgs hgn hgl => ?_)))
              | (show CallT _ 17 _ _ _; refine CA (h := kept_ok ?_))
              | (show CallT _ 18 _ _ _; refine CA (h := broken_ok ?_))
              | (show CallT _ 20 _ _ _; refine CA (h := r4same_ok (xs := fs) (by ((repeat (first | exact view_row | exact view_rrow | exact view_pt | assumption | apply view_there)) <;> exact view_row)) (by ((repeat (first | exact view_row | exact view_rrow | exact view_pt | assumption | apply view_there)) <;> exact view_row)) (fun z hz => by ((repeat (first | exact view_fmP hz | apply view_there)) <;> exact view_fmP hz)) (fun z hz => by (have hm := List.mem_of_mem_drop (List.mem_of_mem_take hz); ((repeat (first | exact view_fmP hm | apply view_there)) <;> exact view_fmP hm))) (fun z hz => core_pn hgs z (List.mem_of_mem_drop (List.mem_of_mem_take hz))) (seen_eq hfs hgs hX1) rfl (by simp) (by omega) ?_)))
            all_goals exact turn (n1 - 1) ⟨j + 1, al ++ s, [], e', ((gs.length : Nat) : Int), by omega, rfl, by rw [hasz]; omega, fun _ => rfl, fun h => absurd h he, rfl, rfl, rfl, rfl, rfl, rfl, rfl, trivial⟩
        · obtain rfl := hb1 hbr
          repeat' (first
            | (show evG _ _ _ _ _ _ _; first | refine G_andNot0 ?_ | refine G_andNot1 ?_ | refine G_add64 ?_ | refine G_sub64 ?_ | refine G_mul64 ?_ | refine G_quo ?_ | refine G_rem ?_ | refine G_shl8 ?_ | refine G_orb ?_ | refine G_shr ?_ | refine G_pure0 ?_ | refine G_load ?_ | refine evG_nil ?_ | refine G_br ?_ ?_ | refine G_field ?_ | refine G_pure ?_ | refine G_store ?_ | refine G_loadV ?_ | refine G_loadV0 ?_ | refine G_loadV2 ?_ | (refine G_append ?_; intro _ _) | (refine G_appendN ?_; intro _ _) | refine G_not ?_ | refine G_index ?_ | refine G_indexA ?_ | refine G_indexS ?_ | refine G_conv64 ?_ | refine G_conv8 ?_ | refine G_convu ?_ | refine G_conv ?_ | refine G_build ?_ | refine G_slh ?_ | refine G_slo ?_ | refine G_shi ?_ | refine G_cat ?_ | refine G_min ?_ | refine G_max ?_ | refine G_neg64 ?_ | refine G_eql_agg ?_ | refine G_neq_agg ?_ | refine G_bytesP ?_ | refine G_bytesstr ?_ | refine G_call ?_ | refine G_call0 ?_ | refine G_callv ?_ | refine G_callv0 ?_ | (refine G_box ?_; intro _) | (refine G_alloc ?_; intro _) | (refine G_buildSlice ?_; intro _) | (refine G_strrow ?_; intro _ _) | (refine G_indexV ?_; intro _ _ hA; subst hA) | (refine G_sliceR ?_; intro _) | (refine G_sliceO ?_; intro _) | refine G_skip ?_ | refine G_skip0 ?_)
            | (show spl _ _ _; first | refine spl_no rfl ?_ | refine spl_yes rfl ?_)
            | (show evC _ _ _ _ _; first | refine c_seq ?_ | refine c_region (by exact rfl) ?_ | refine c_cond (by exact rfl) ?_ | refine c_ret ?_ | refine c_skip ?_ | refine c_block ?_ | refine c_exit ?_  | refine c_draw (by exact rfl) (by decide +kernel) (by exact rfl) ?_ | refine c_drawT (by exact rfl) (by decide +kernel) (by exact rfl) ?_ | refine c_scope ?_ | refine c_label ?_)
            | (show Br _ _ _; first | refine Br.t rfl ?_ | refine Br.f rfl ?_ | refine Br.t (beq_self_eq_true _) ?_ | refine Br.f (not_beq_self _) ?_ | refine Br.t (by assumption) ?_ | refine Br.f (by assumption) ?_ | refine Br.t (nb_f (by assumption)) ?_ | refine Br.f (nb_t (by assumption)) ?_ | (refine Br.mk (fun h => ?_) (fun h => ?_) <;> (try simp only [Bool.and_eq_true, Bool.or_eq_true, Bool.and_eq_false_iff, Bool.or_eq_false_iff, decide_eq_true_eq, decide_eq_false_iff_not, beq_iff_eq, bne_iff_ne, beq_eq_false_iff_ne, bne_eq_false_iff_eq, ne_eq, Bool.not_eq_true', Bool.not_eq_false', not_true_eq_false, not_false_eq_true, Int.not_lt, Int.not_le, gt_iff_lt, ge_iff_le] at h) <;> (try (first | contradiction | (exfalso; omega)))))
            | (show thenC _ _ _ _ _; first | refine t_n ?_ | refine t_r ?_ | refine t_e ?_)
            | (show inBlockC _ _ _ _ _; first | refine b_n ?_ | refine b_r ?_ | refine b_hit rfl ?_ | refine b_miss rfl ?_)
            | (show noGotoC _ _ _ _; first | refine g_n ?_ | refine g_r ?_ | refine g_e ?_)
            | (show CallT _ 16 _ _ _; refine CA (h := feedB_ok hbr ?_))
            | (show CallT _ 17 _ _ _; refine CA (h := kept_ok ?_))
            | (show CallT _ 18 _ _ _; refine CA (h := broken_ok ?_)))
          all_goals exact turn (n1 - 1) ⟨j + 1, al, [], br, seen, by omega, rfl, by omega, hb1, hb2, rfl, rfl, rfl, rfl, rfl, rfl, rfl, trivial⟩
    · repeat' (first
        | (show evG _ _ _ _ _ _ _; first | refine G_andNot0 ?_ | refine G_andNot1 ?_ | refine G_add64 ?_ | refine G_sub64 ?_ | refine G_mul64 ?_ | refine G_quo ?_ | refine G_rem ?_ | refine G_shl8 ?_ | refine G_orb ?_ | refine G_shr ?_ | refine G_pure0 ?_ | refine G_load ?_ | refine evG_nil ?_ | refine G_br ?_ ?_ | refine G_field ?_ | refine G_pure ?_ | refine G_store ?_ | refine G_loadV ?_ | refine G_loadV0 ?_ | refine G_loadV2 ?_ | (refine G_append ?_; intro _ _) | (refine G_appendN ?_; intro _ _) | refine G_not ?_ | refine G_index ?_ | refine G_indexA ?_ | refine G_indexS ?_ | refine G_conv64 ?_ | refine G_conv8 ?_ | refine G_convu ?_ | refine G_conv ?_ | refine G_build ?_ | refine G_slh ?_ | refine G_slo ?_ | refine G_shi ?_ | refine G_cat ?_ | refine G_min ?_ | refine G_max ?_ | refine G_neg64 ?_ | refine G_eql_agg ?_ | refine G_neq_agg ?_ | refine G_bytesP ?_ | refine G_bytesstr ?_ | refine G_call ?_ | refine G_call0 ?_ | refine G_callv ?_ | refine G_callv0 ?_ | (refine G_box ?_; intro _) | (refine G_alloc ?_; intro _) | (refine G_buildSlice ?_; intro _) | (refine G_strrow ?_; intro _ _) | (refine G_indexV ?_; intro _ _ hA; subst hA) | (refine G_sliceR ?_; intro _) | (refine G_sliceO ?_; intro _) | refine G_skip ?_ | refine G_skip0 ?_)
        | (show spl _ _ _; first | refine spl_no rfl ?_ | refine spl_yes rfl ?_)
        | (show evC _ _ _ _ _; first | refine c_seq ?_ | refine c_region (by exact rfl) ?_ | refine c_cond (by exact rfl) ?_ | refine c_ret ?_ | refine c_skip ?_ | refine c_block ?_ | refine c_exit ?_  | refine c_draw (by exact rfl) (by decide +kernel) (by exact rfl) ?_ | refine c_drawT (by exact rfl) (by decide +kernel) (by exact rfl) ?_ | refine c_scope ?_ | refine c_label ?_)
        | (show Br _ _ _; first | refine Br.t rfl ?_ | refine Br.f rfl ?_ | refine Br.t (beq_self_eq_true _) ?_ | refine Br.f (not_beq_self _) ?_ | refine Br.t (by assumption) ?_ | refine Br.f (by assumption) ?_ | refine Br.t (nb_f (by assumption)) ?_ | refine Br.f (nb_t (by assumption)) ?_ | (refine Br.mk (fun h => ?_) (fun h => ?_) <;> (try simp only [Bool.and_eq_true, Bool.or_eq_true, Bool.and_eq_false_iff, Bool.or_eq_false_iff, decide_eq_true_eq, decide_eq_false_iff_not, beq_iff_eq, bne_iff_ne, beq_eq_false_iff_ne, bne_eq_false_iff_eq, ne_eq, Bool.not_eq_true', Bool.not_eq_false', not_true_eq_false, not_false_eq_true, Int.not_lt, Int.not_le, gt_iff_lt, ge_iff_le] at h) <;> (try (first | contradiction | (exfalso; omega)))))
        | (show thenC _ _ _ _ _; first | refine t_n ?_ | refine t_r ?_ | refine t_e ?_)
        | (show inBlockC _ _ _ _ _; first | refine b_n ?_ | refine b_r ?_ | refine b_hit rfl ?_ | refine b_miss rfl ?_)
        | (show noGotoC _ _ _ _; first | refine g_n ?_ | refine g_r ?_ | refine g_e ?_))
      all_goals (refine RETC ?_; exact ret_done (hK _))
  · repeat' (first
      | (show evG _ _ _ _ _ _ _; first | refine G_andNot0 ?_ | refine G_andNot1 ?_ | refine G_add64 ?_ | refine G_sub64 ?_ | refine G_mul64 ?_ | refine G_quo ?_ | refine G_rem ?_ | refine G_shl8 ?_ | refine G_orb ?_ | refine G_shr ?_ | refine G_pure0 ?_ | refine G_load ?_ | refine evG_nil ?_ | refine G_br ?_ ?_ | refine G_field ?_ | refine G_pure ?_ | refine G_store ?_ | refine G_loadV ?_ | refine G_loadV0 ?_ | refine G_loadV2 ?_ | (refine G_append ?_; intro _ _) | (refine G_appendN ?_; intro _ _) | refine G_not ?_ | refine G_index ?_ | refine G_indexA ?_ | refine G_indexS ?_ | refine G_conv64 ?_ | refine G_conv8 ?_ | refine G_convu ?_ | refine G_conv ?_ | refine G_build ?_ | refine G_slh ?_ | refine G_slo ?_ | refine G_shi ?_ | refine G_cat ?_ | refine G_min ?_ | refine G_max ?_ | refine G_neg64 ?_ | refine G_eql_agg ?_ | refine G_neq_agg ?_ | refine G_bytesP ?_ | refine G_bytesstr ?_ | refine G_call ?_ | refine G_call0 ?_ | refine G_callv ?_ | refine G_callv0 ?_ | (refine G_box ?_; intro _) | (refine G_alloc ?_; intro _) | (refine G_buildSlice ?_; intro _) | (refine G_strrow ?_; intro _ _) | (refine G_indexV ?_; intro _ _ hA; subst hA) | (refine G_sliceR ?_; intro _) | (refine G_sliceO ?_; intro _) | refine G_skip ?_ | refine G_skip0 ?_)
      | (show spl _ _ _; first | refine spl_no rfl ?_ | refine spl_yes rfl ?_)
      | (show evC _ _ _ _ _; first | refine c_seq ?_ | refine c_region (by exact rfl) ?_ | refine c_cond (by exact rfl) ?_ | refine c_ret ?_ | refine c_skip ?_ | refine c_block ?_ | refine c_exit ?_  | refine c_draw (by exact rfl) (by decide +kernel) (by exact rfl) ?_ | refine c_drawT (by exact rfl) (by decide +kernel) (by exact rfl) ?_ | refine c_scope ?_ | refine c_label ?_)
      | (show Br _ _ _; first | refine Br.t rfl ?_ | refine Br.f rfl ?_ | refine Br.t (beq_self_eq_true _) ?_ | refine Br.f (not_beq_self _) ?_ | refine Br.t (by assumption) ?_ | refine Br.f (by assumption) ?_ | refine Br.t (nb_f (by assumption)) ?_ | refine Br.f (nb_t (by assumption)) ?_ | (refine Br.mk (fun h => ?_) (fun h => ?_) <;> (try simp only [Bool.and_eq_true, Bool.or_eq_true, Bool.and_eq_false_iff, Bool.or_eq_false_iff, decide_eq_true_eq, decide_eq_false_iff_not, beq_iff_eq, bne_iff_ne, beq_eq_false_iff_ne, bne_eq_false_iff_eq, ne_eq, Bool.not_eq_true', Bool.not_eq_false', not_true_eq_false, not_false_eq_true, Int.not_lt, Int.not_le, gt_iff_lt, ge_iff_le] at h) <;> (try (first | contradiction | (exfalso; omega)))))
      | (show thenC _ _ _ _ _; first | refine t_n ?_ | refine t_r ?_ | refine t_e ?_)
      | (show inBlockC _ _ _ _ _; first | refine b_n ?_ | refine b_r ?_ | refine b_hit rfl ?_ | refine b_miss rfl ?_)
      | (show noGotoC _ _ _ _; first | refine g_n ?_ | refine g_r ?_ | refine g_e ?_))
    all_goals (refine RETC ?_; exact ret_done (hK _))
end Go.Proofs.Ytgaekagocbcebaa
