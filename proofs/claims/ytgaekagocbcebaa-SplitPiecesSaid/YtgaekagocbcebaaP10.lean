/- Split: in whatever pieces bytes come, the frames are the same: lemmas; each with the conditions that it states. -/
import Derived.Test.YtgaekagocbcebaaP9
import Derived.Test.YtgaekagocbcebaaT17

namespace Go.Proofs.Ytgaekagocbcebaa
open Go Go.Proofs Go.Sl
set_option maxRecDepth 100000
set_option maxHeartbeats 4000000
set_option linter.unusedSimpArgs false
set_option linter.unusedVariables false
attribute [local irreducible] evG evC spl thenC inBlockC noGotoC CallT retC RetG TurnG CutG pt ro exP star sep pureP
attribute [local irreducible] ByteArray.extract nAt scanP pF parse
variable {R C : List HP} {K : Value → List HP → Prop}
def lowI (a b : Int) : Int := if a < b then a else b
theorem low_ok {a b : Int} (hK : K (.int .i64 (lowI a b)) R) : CallT Try.prog 21 #[.int .i64 a, .int .i64 b] R K := by
  refine callT_intro mixed Try.func21 rfl (by decide) (by decide +kernel) (by exact Nat.le_of_ble_eq_true rfl) ?_
  repeat' (first
    | (show evG _ _ _ _ _ _ _; first | refine G_andNot0 ?_ | refine G_andNot1 ?_ | refine G_add64 ?_ | refine G_sub64 ?_ | refine G_mul64 ?_ | refine G_quo ?_ | refine G_rem ?_ | refine G_shl8 ?_ | refine G_orb ?_ | refine G_shr ?_ | refine G_pure0 ?_ | refine G_load ?_ | refine evG_nil ?_ | refine G_br ?_ ?_ | refine G_field ?_ | refine G_pure ?_ | refine G_store ?_ | refine G_loadV ?_ | refine G_loadV0 ?_ | refine G_loadV2 ?_ | (refine G_append ?_; intro _ _) | (refine G_appendN ?_; intro _ _) | refine G_not ?_ | refine G_index ?_ | refine G_indexA ?_ | refine G_indexS ?_ | refine G_conv64 ?_ | refine G_conv8 ?_ | refine G_convu ?_ | refine G_conv ?_ | refine G_build ?_ | refine G_slh ?_ | refine G_slo ?_ | refine G_shi ?_ | refine G_cat ?_ | refine G_min ?_ | refine G_max ?_ | refine G_neg64 ?_ | refine G_eql_agg ?_ | refine G_neq_agg ?_ | refine G_bytesP ?_ | refine G_bytesstr ?_ | refine G_call ?_ | refine G_call0 ?_ | refine G_callv ?_ | refine G_callv0 ?_ | (refine G_box ?_; intro _) | (refine G_alloc ?_; intro _) | (refine G_buildSlice ?_; intro _) | (refine G_strrow ?_; intro _ _) | (refine G_indexV ?_; intro _ _ hA; subst hA) | (refine G_sliceR ?_; intro _) | (refine G_sliceO ?_; intro _) | refine G_skip ?_ | refine G_skip0 ?_)
    | (show spl _ _ _; first | refine spl_no rfl ?_ | refine spl_yes rfl ?_)
    | (show evC _ _ _ _ _; first | refine c_seq ?_ | refine c_region (by exact rfl) ?_ | refine c_cond (by exact rfl) ?_ | refine c_ret ?_ | refine c_skip ?_ | refine c_block ?_ | refine c_exit ?_  | refine c_draw (by exact rfl) (by decide +kernel) (by exact rfl) ?_ | refine c_drawT (by exact rfl) (by decide +kernel) (by exact rfl) ?_ | refine c_scope ?_ | refine c_label ?_)
    | (show Br _ _ _; first | refine Br.t rfl ?_ | refine Br.f rfl ?_ | refine Br.t (beq_self_eq_true _) ?_ | refine Br.f (not_beq_self _) ?_ | refine Br.t (by assumption) ?_ | refine Br.f (by assumption) ?_ | refine Br.t (nb_f (by assumption)) ?_ | refine Br.f (nb_t (by assumption)) ?_ | (refine Br.mk (fun h => ?_) (fun h => ?_) <;> (try simp only [Bool.and_eq_true, Bool.or_eq_true, Bool.and_eq_false_iff, Bool.or_eq_false_iff, decide_eq_true_eq, decide_eq_false_iff_not, beq_iff_eq, bne_iff_ne, beq_eq_false_iff_ne, bne_eq_false_iff_eq, ne_eq, Bool.not_eq_true', Bool.not_eq_false', not_true_eq_false, not_false_eq_true, Int.not_lt, Int.not_le, gt_iff_lt, ge_iff_le] at h) <;> (try (first | contradiction | (exfalso; omega)))))
    | (show thenC _ _ _ _ _; first | refine t_n ?_ | refine t_r ?_ | refine t_e ?_)
    | (show inBlockC _ _ _ _ _; first | refine b_n ?_ | refine b_r ?_ | refine b_hit rfl ?_ | refine b_miss rfl ?_)
    | (show noGotoC _ _ _ _; first | refine g_n ?_ | refine g_r ?_ | refine g_e ?_))
  all_goals first
    | (unfold lowI at hK; rw [if_pos (by assumption)] at hK; (refine RETC ?_; exact ret_done (hK)))
    | (unfold lowI at hK; rw [if_neg (by omega)] at hK; (refine RETC ?_; exact ret_done (hK)))
/-- what is kept of bytes -/
def keepF (P : List UInt8) : List UInt8 := if (pF P).2.2 = 0 then (pF P).2.1 else []
theorem yfeed_ok {y : Nat} {P b : List UInt8} {u : ByteArray} (hu : u.data.toList = b) (hz : u.size < 100000) (hP : P.length ≤ 100000) (hK : ∀ F c fs, (pF (P ++ b)).1.map cfr = (pF P).1.map cfr ++ fs.map coreF → fs.length < 1000000 → K (.tuple #[.slice F fs.length c, .int .i64 (pF (P ++ b)).2.2]) (spP y (keepF (P ++ b)) (pF (P ++ b)).2.2 :: row F c 28 fmC fs :: allP fmP fs :: R)) : CallT Try.prog 16 #[.pointer (some ⟨y, 0, none⟩), .string u] (spP y (keepF P) (pF P).2.2 :: R) K := by
  have hap := pF_app b P.length P (Nat.le_refl _)
  refine CallT.entK ?_
  by_cases he : (pF P).2.2 = 0
  · have hk : keepF P = (pF P).2.1 := by unfold keepF; rw [if_pos he]
    obtain ⟨a1, a2⟩ := hap.1 he
    have hkl := kept_le he
    rw [hk, he]
    refine feed_ok (by omega) fun F c fs hfs => ?_
    rw [hu] at hfs ⊢
    rw [← hfs] at a1
    have hl : fs.length < 1000000 := by
      have h3 := congrArg List.length a1
      simp only [List.length_map, List.length_append] at h3
      have h4 := pF_len (P ++ b).length (P ++ b) (Nat.le_refl _)
      rw [List.length_append] at h4
      have h5 : b.length = u.size := by rw [← hu]; simp
      omega
    rw [← a2]
    refine ⟨_, ?_, hK F c fs a1 hl⟩
    unfold keepF
    exact Ent.pick (Pick.there (Pick.there Pick.here)) (Ent.refl _)
  · obtain ⟨a1, a2⟩ := hap.2 he
    have hk : keepF P = [] := by unfold keepF; rw [if_neg he]
    have hk2 : keepF (P ++ b) = [] := by unfold keepF; rw [if_neg (by rw [a2]; exact he)]
    rw [hk]
    have hh := hK none 0 [] (by rw [a1]; simp) (by show (0 : Nat) < _; decide)
    rw [hk2, a2] at hh
    refine feedB_ok he ⟨_, ?_, hh⟩
    exact Ent.pick Pick.here (Ent.nilrow' (Ent.allnil (Ent.refl _)))
theorem splitPieces_ok {A : Option Addr} {n c : Nat} {s : ByteArray} {cs : List UInt8} (hv : View C A byteC cs) (hn : cs.length = n) (hn2 : n < 1000000000000000) (hK : ∀ C, K (.bool true) C) : CallT Try.prog 5 #[.string s, .slice A n c] C K := by
  subst hn
  by_cases hbig : 3000 < s.size
  · refine callT_intro mixed Try.func5 rfl (by decide) (by decide +kernel) (by exact Nat.le_of_ble_eq_true rfl) ?_
    repeat' (first
      | (show evG _ _ _ _ _ _ _; first | refine G_andNot0 ?_ | refine G_andNot1 ?_ | refine G_add64 ?_ | refine G_sub64 ?_ | refine G_mul64 ?_ | refine G_quo ?_ | refine G_rem ?_ | refine G_shl8 ?_ | refine G_orb ?_ | refine G_shr ?_ | refine G_pure0 ?_ | refine G_load ?_ | refine evG_nil ?_ | refine G_br ?_ ?_ | refine G_field ?_ | refine G_pure ?_ | refine G_store ?_ | refine G_loadV ?_ | refine G_loadV0 ?_ | refine G_loadV2 ?_ | (refine G_append ?_; intro _ _) | (refine G_appendN ?_; intro _ _) | refine G_not ?_ | refine G_index ?_ | refine G_indexA ?_ | refine G_indexS ?_ | refine G_conv64 ?_ | refine G_conv8 ?_ | refine G_convu ?_ | refine G_conv ?_ | refine G_build ?_ | refine G_slh ?_ | refine G_slo ?_ | refine G_shi ?_ | refine G_cat ?_ | refine G_min ?_ | refine G_max ?_ | refine G_neg64 ?_ | refine G_eql_agg ?_ | refine G_neq_agg ?_ | refine G_bytesP ?_ | refine G_bytesstr ?_ | refine G_call ?_ | refine G_call0 ?_ | refine G_callv ?_ | refine G_callv0 ?_ | (refine G_box ?_; intro _) | (refine G_alloc ?_; intro _) | (refine G_buildSlice ?_; intro _) | (refine G_strrow ?_; intro _ _) | (refine G_indexV ?_; intro _ _ hA; subst hA) | (refine G_sliceR ?_; intro _) | (refine G_sliceO ?_; intro _) | refine G_skip ?_ | refine G_skip0 ?_)
      | (show spl _ _ _; first | refine spl_no rfl ?_ | refine spl_yes rfl ?_)
      | (show evC _ _ _ _ _; first | refine c_seq ?_ | refine c_region (by exact rfl) ?_ | refine c_cond (by exact rfl) ?_ | refine c_ret ?_ | refine c_skip ?_ | refine c_block ?_ | refine c_exit ?_  | refine c_draw (by exact rfl) (by decide +kernel) (by exact rfl) ?_ | refine c_drawT (by exact rfl) (by decide +kernel) (by exact rfl) ?_ | refine c_scope ?_ | refine c_label ?_)
      | (show Br _ _ _; first | refine Br.t rfl ?_ | refine Br.f rfl ?_ | refine Br.t (beq_self_eq_true _) ?_ | refine Br.f (not_beq_self _) ?_ | refine Br.t (by assumption) ?_ | refine Br.f (by assumption) ?_ | refine Br.t (nb_f (by assumption)) ?_ | refine Br.f (nb_t (by assumption)) ?_ | (refine Br.mk (fun h => ?_) (fun h => ?_) <;> (try simp only [Bool.and_eq_true, Bool.or_eq_true, Bool.and_eq_false_iff, Bool.or_eq_false_iff, decide_eq_true_eq, decide_eq_false_iff_not, beq_iff_eq, bne_iff_ne, beq_eq_false_iff_ne, bne_eq_false_iff_eq, ne_eq, Bool.not_eq_true', Bool.not_eq_false', not_true_eq_false, not_false_eq_true, Int.not_lt, Int.not_le, gt_iff_lt, ge_iff_le] at h) <;> (try (first | contradiction | (exfalso; omega)))))
      | (show thenC _ _ _ _ _; first | refine t_n ?_ | refine t_r ?_ | refine t_e ?_)
      | (show inBlockC _ _ _ _ _; first | refine b_n ?_ | refine b_r ?_ | refine b_hit rfl ?_ | refine b_miss rfl ?_)
      | (show noGotoC _ _ _ _; first | refine g_n ?_ | refine g_r ?_ | refine g_e ?_)
      | (show CallT _ 15 _ _ _; refine CA (h := awake4_ok ?_)))
    all_goals (refine RETC ?_; exact ret_done (hK _))
  have e00 : pF [] = ([], [], 0) := by decide +kernel
  have hsl : s.data.toList.length = s.size := by simp
  have c0 : ∀ {x : Nat} {R : List HP} {K : Value → List HP → Prop}, (∀ F c fs, (pF s.data.toList).1.map cfr = fs.map coreF → K (.tuple #[.slice F fs.length c, .int .i64 (pF s.data.toList).2.2]) (spP x (keepF s.data.toList) (pF s.data.toList).2.2 :: row F c 28 fmC fs :: allP fmP fs :: R)) → CallT Try.prog 16 #[.pointer (some ⟨x, 0, none⟩), .string s] (spP x [] 0 :: R) K := fun {x R K} hk => by
    have hh := yfeed_ok (y := x) (P := []) (b := s.data.toList) (u := s) (R := R) (K := K) rfl (by omega) (by simp) (fun F c fs h1 h2 => by
      rw [List.nil_append] at h1 ⊢
      exact hk F c fs (by rw [h1, e00]; rfl))
    unfold keepF at hh
    rw [e00] at hh
    exact hh
  refine callT_intro mixed Try.func5 rfl (by decide) (by decide +kernel) (by exact Nat.le_of_ble_eq_true rfl) ?_
  repeat' (first
    | (show evG _ _ _ _ _ _ _; first | refine G_andNot0 ?_ | refine G_andNot1 ?_ | refine G_add64 ?_ | refine G_sub64 ?_ | refine G_mul64 ?_ | refine G_quo ?_ | refine G_rem ?_ | refine G_shl8 ?_ | refine G_orb ?_ | refine G_shr ?_ | refine G_pure0 ?_ | refine G_load ?_ | refine evG_nil ?_ | refine G_br ?_ ?_ | refine G_field ?_ | refine G_pure ?_ | refine G_store ?_ | refine G_loadV ?_ | refine G_loadV0 ?_ | refine G_loadV2 ?_ | (refine G_append ?_; intro _ _) | (refine G_appendN ?_; intro _ _) | refine G_not ?_ | refine G_index ?_ | refine G_indexA ?_ | refine G_indexS ?_ | refine G_conv64 ?_ | refine G_conv8 ?_ | refine G_convu ?_ | refine G_conv ?_ | refine G_build ?_ | refine G_slh ?_ | refine G_slo ?_ | refine G_shi ?_ | refine G_cat ?_ | refine G_min ?_ | refine G_max ?_ | refine G_neg64 ?_ | refine G_eql_agg ?_ | refine G_neq_agg ?_ | refine G_bytesP ?_ | refine G_bytesstr ?_ | refine G_call ?_ | refine G_call0 ?_ | refine G_callv ?_ | refine G_callv0 ?_ | (refine G_box ?_; intro _) | (refine G_alloc ?_; intro _) | (refine G_buildSlice ?_; intro _) | (refine G_strrow ?_; intro _ _) | (refine G_indexV ?_; intro _ _ hA; subst hA) | (refine G_sliceR ?_; intro _) | (refine G_sliceO ?_; intro _) | refine G_skip ?_ | refine G_skip0 ?_)
    | (show spl _ _ _; first | refine spl_no rfl ?_ | refine spl_yes rfl ?_)
    | (show evC _ _ _ _ _; first | refine c_seq ?_ | refine c_region (by exact rfl) ?_ | refine c_cond (by exact rfl) ?_ | refine c_ret ?_ | refine c_skip ?_ | refine c_block ?_ | refine c_exit ?_  | refine c_draw (by exact rfl) (by decide +kernel) (by exact rfl) ?_ | refine c_drawT (by exact rfl) (by decide +kernel) (by exact rfl) ?_ | refine c_scope ?_ | refine c_label ?_)
    | (show Br _ _ _; first | refine Br.t rfl ?_ | refine Br.f rfl ?_ | refine Br.t (beq_self_eq_true _) ?_ | refine Br.f (not_beq_self _) ?_ | refine Br.t (by assumption) ?_ | refine Br.f (by assumption) ?_ | refine Br.t (nb_f (by assumption)) ?_ | refine Br.f (nb_t (by assumption)) ?_ | (refine Br.mk (fun h => ?_) (fun h => ?_) <;> (try simp only [Bool.and_eq_true, Bool.or_eq_true, Bool.and_eq_false_iff, Bool.or_eq_false_iff, decide_eq_true_eq, decide_eq_false_iff_not, beq_iff_eq, bne_iff_ne, beq_eq_false_iff_ne, bne_eq_false_iff_eq, ne_eq, Bool.not_eq_true', Bool.not_eq_false', not_true_eq_false, not_false_eq_true, Int.not_lt, Int.not_le, gt_iff_lt, ge_iff_le] at h) <;> (try (first | contradiction | (exfalso; omega)))))
    | (show thenC _ _ _ _ _; first | refine t_n ?_ | refine t_r ?_ | refine t_e ?_)
    | (show inBlockC _ _ _ _ _; first | refine b_n ?_ | refine b_r ?_ | refine b_hit rfl ?_ | refine b_miss rfl ?_)
    | (show noGotoC _ _ _ _; first | refine g_n ?_ | refine g_r ?_ | refine g_e ?_)
    | (show CallT _ 14 _ _ _; refine CA (h := snew_ok (fun x => ?_)))
    | (show CallT _ 16 _ _ _; refine CA (h := c0 (fun F0 b0 fs0 hfs0 => ?_))))
  rename_i x1
  have k0 : keepF [] = [] := by unfold keepF; rw [e00]; rfl
  refine LOOP (fun m a C' => ∃ (at_ i : Nat) (G : Option Addr) (cg : Nat) (gs : List Fm), (cs.length - i) + (s.size - at_) = m ∧ at_ ≤ s.size ∧ i ≤ cs.length + 3000 ∧ (cs.length ≤ i → i ≤ cs.length + at_) ∧ gs.map coreF = (pF (s.data.toList.take at_)).1.map cfr ∧ C' = spP x (keepF (s.data.toList.take at_)) (pF (s.data.toList.take at_)).2.2 :: row G cg 28 fmC gs :: allP fmP gs :: spP x1 (keepF s.data.toList) (pF s.data.toList).2.2 :: row F0 b0 28 fmC fs0 :: allP fmP fs0 :: C ∧ Agree a [(0, .string s), (1, .slice A cs.length c), (4, .bool false), (5, .pointer (some ⟨x1, 0, none⟩)), (6, .pointer (some ⟨x, 0, none⟩)), (7, .slice F0 fs0.length b0), (8, .int .i64 (pF s.data.toList).2.2), (9, .slice G gs.length cg), (10, .int .i64 (pF (s.data.toList.take at_)).2.2), (11, .int .i64 at_), (12, .int .i64 i)]) (cs.length + s.size)
    (turn (cs.length + s.size) ⟨0, 0, none, 0, [], by omega, by omega, by omega, by omega, by rw [List.take_zero, e00]; rfl, by rw [List.take_zero, k0, e00], rfl, rfl, rfl, rfl, rfl, rfl, rfl, rfl, by rw [List.take_zero, e00]; rfl, rfl, rfl, trivial⟩ (by omega) (Ent.trans (by ((iterate 30 (try (first | exact Ent.refl _ | exact Ent.nil | (apply Ent.pick; focus ((repeat (first | exact Pick.here | apply Pick.there)) <;> exact Pick.here)) | (apply Ent.pickP; focus ((repeat (first | exact pers_ro _ _ _ | exact pers_rrow _ _ _ | exact pers_pure _ | refine pers_sep ?_ ?_ | refine pers_ex fun _ => ?_)) <;> exact pers_pure _); focus ((repeat (first | exact Pick.here | apply Pick.there)) <;> exact Pick.here)) | (apply Ent.pure; focus (first | assumption | exact rfl | omega)) | apply Ent.nilrow' | apply Ent.ex | apply Ent.sep | apply Ent.drop))) <;> exact Ent.nil)) (Ent.cons (Ent.nilrow' (Ent.allnil (Ent.refl _)))))) ?_
  rintro n1 a C' ⟨at_, i, G, cg, gs, hm, hat, hi3, hi4, hgs, rfl, ha⟩
  refine c_fr _ ha ?_
  simp only [updL]
  have hgl : gs.length ≤ at_ := by
    have h1 := congrArg List.length hgs
    have h2 := pF_len (s.data.toList.take at_).length (s.data.toList.take at_) (Nat.le_refl _)
    simp only [List.length_map] at h1
    rw [List.length_take] at h2
    omega
  have hP1 : (s.data.toList.take at_).length ≤ 100000 := by rw [List.length_take]; omega
  by_cases hlt : at_ < s.size
  · have key : ∀ v : Int, 0 ≤ v → (0 ≤ lowI v ((s.size : Int) - at_) ∧ lowI v ((s.size : Int) - at_) ≤ (s.size : Int) - at_) := fun v h => by unfold lowI; split <;> omega
    have hu : ∀ v : Int, 0 ≤ v → (s.extract ((at_ : Nat) : Int).toNat (((at_ : Nat) : Int) + lowI v ((s.size : Int) - at_)).toNat).data.toList = (s.data.toList.drop at_).take (lowI v ((s.size : Int) - at_)).toNat := fun v h => by
      have := key v h
      simp
      congr 1
      omega
    have hus : ∀ v : Int, (s.extract ((at_ : Nat) : Int).toNat (((at_ : Nat) : Int) + lowI v ((s.size : Int) - at_)).toNat).size < 100000 := fun v => by simp; omega
    by_cases hi : i < cs.length
    · obtain ⟨b, hb⟩ := getB (l := cs) (j := i) hi
      have hb2 := b.toNat_lt
      have kv1 := key b.toNat (by omega)
      have hu1 := hu b.toNat (by omega)
      have hs1 := hus b.toNat
      repeat' (first
        | (show evG _ _ _ _ _ _ _; first | refine G_andNot0 ?_ | refine G_andNot1 ?_ | refine G_add64 ?_ | refine G_sub64 ?_ | refine G_mul64 ?_ | refine G_quo ?_ | refine G_rem ?_ | refine G_shl8 ?_ | refine G_orb ?_ | refine G_shr ?_ | refine G_pure0 ?_ | refine G_load ?_ | refine evG_nil ?_ | refine G_br ?_ ?_ | refine G_field ?_ | refine G_pure ?_ | refine G_store ?_ | refine G_loadV ?_ | refine G_loadV0 ?_ | refine G_loadV2 ?_ | (refine G_append ?_; intro _ _) | (refine G_appendN ?_; intro _ _) | refine G_not ?_ | refine G_index ?_ | refine G_indexA ?_ | refine G_indexS ?_ | refine G_conv64 ?_ | refine G_conv8 ?_ | refine G_convu ?_ | refine G_conv ?_ | refine G_build ?_ | refine G_slh ?_ | refine G_slo ?_ | refine G_shi ?_ | refine G_cat ?_ | refine G_min ?_ | refine G_max ?_ | refine G_neg64 ?_ | refine G_eql_agg ?_ | refine G_neq_agg ?_ | refine G_bytesP ?_ | refine G_bytesstr ?_ | refine G_call ?_ | refine G_call0 ?_ | refine G_callv ?_ | refine G_callv0 ?_ | (refine G_box ?_; intro _) | (refine G_alloc ?_; intro _) | (refine G_buildSlice ?_; intro _) | (refine G_strrow ?_; intro _ _) | (refine G_indexV ?_; intro _ _ hA; subst hA) | (refine G_sliceR ?_; intro _) | (refine G_sliceO ?_; intro _) | refine G_skip ?_ | refine G_skip0 ?_)
        | (show spl _ _ _; first | refine spl_no rfl ?_ | refine spl_yes rfl ?_)
        | (show evC _ _ _ _ _; first | refine c_seq ?_ | refine c_region (by exact rfl) ?_ | refine c_cond (by exact rfl) ?_ | refine c_ret ?_ | refine c_skip ?_ | refine c_block ?_ | refine c_exit ?_  | refine c_draw (by exact rfl) (by decide +kernel) (by exact rfl) ?_ | refine c_drawT (by exact rfl) (by decide +kernel) (by exact rfl) ?_ | refine c_scope ?_ | refine c_label ?_)
        | (show Br _ _ _; first | refine Br.t rfl ?_ | refine Br.f rfl ?_ | refine Br.t (beq_self_eq_true _) ?_ | refine Br.f (not_beq_self _) ?_ | refine Br.t (by assumption) ?_ | refine Br.f (by assumption) ?_ | refine Br.t (nb_f (by assumption)) ?_ | refine Br.f (nb_t (by assumption)) ?_ | (refine Br.mk (fun h => ?_) (fun h => ?_) <;> (try simp only [Bool.and_eq_true, Bool.or_eq_true, Bool.and_eq_false_iff, Bool.or_eq_false_iff, decide_eq_true_eq, decide_eq_false_iff_not, beq_iff_eq, bne_iff_ne, beq_eq_false_iff_ne, bne_eq_false_iff_eq, ne_eq, Bool.not_eq_true', Bool.not_eq_false', not_true_eq_false, not_false_eq_true, Int.not_lt, Int.not_le, gt_iff_lt, ge_iff_le] at h) <;> (try (first | contradiction | (exfalso; omega)))))
        | (show thenC _ _ _ _ _; first | refine t_n ?_ | refine t_r ?_ | refine t_e ?_)
        | (show inBlockC _ _ _ _ _; first | refine b_n ?_ | refine b_r ?_ | refine b_hit rfl ?_ | refine b_miss rfl ?_)
        | (show noGotoC _ _ _ _; first | refine g_n ?_ | refine g_r ?_ | refine g_e ?_)
        | (show CallT _ 21 _ _ _; refine CA (h := low_ok ?_))
        | (show CallT _ 16 _ _ _; refine CA (h := yfeed_ok hu1 hs1 hP1 (fun F1 b1 fs h1 h2 => ?_)))
        | (show evG _ _ _ _ _ _ _; first | (refine G_appendU ?_; intro _ _)))
      all_goals
        have tk : s.data.toList.take (at_ + (lowI b.toNat ((s.size : Int) - at_)).toNat) = s.data.toList.take at_ ++ (s.data.toList.drop at_).take (lowI b.toNat ((s.size : Int) - at_)).toNat := List.take_add
        refine turn ((cs.length - (i + 1)) + (s.size - (at_ + (lowI b.toNat ((s.size : Int) - at_)).toNat))) ⟨at_ + (lowI b.toNat ((s.size : Int) - at_)).toNat, i + 1, _, _, gs ++ fs, rfl, by omega, by omega, by omega, by rw [List.map_append, hgs, tk, h1], by rw [tk], rfl, rfl, rfl, rfl, rfl, rfl, rfl, rfl, by rw [tk]; rfl, congrArg (Value.int .i64) (by omega), rfl, trivial⟩ (by omega) ?_
        exact Ent.trans (B := allP fmP gs :: allP fmP fs :: _) (by ((iterate 30 (try (first | exact Ent.refl _ | exact Ent.nil | (apply Ent.pick; focus ((repeat (first | exact Pick.here | apply Pick.there)) <;> exact Pick.here)) | (apply Ent.pickP; focus ((repeat (first | exact pers_ro _ _ _ | exact pers_rrow _ _ _ | exact pers_pure _ | refine pers_sep ?_ ?_ | refine pers_ex fun _ => ?_)) <;> exact pers_pure _); focus ((repeat (first | exact Pick.here | apply Pick.there)) <;> exact Pick.here)) | (apply Ent.pure; focus (first | assumption | exact rfl | omega)) | apply Ent.nilrow' | apply Ent.ex | apply Ent.sep | apply Ent.drop))) <;> exact Ent.nil)) (Ent.trans (pers_allP pers_fmP mono_fmP) (by ((iterate 30 (try (first | exact Ent.refl _ | exact Ent.nil | (apply Ent.pick; focus ((repeat (first | exact Pick.here | apply Pick.there)) <;> exact Pick.here)) | (apply Ent.pickP; focus ((repeat (first | exact pers_ro _ _ _ | exact pers_rrow _ _ _ | exact pers_pure _ | refine pers_sep ?_ ?_ | refine pers_ex fun _ => ?_)) <;> exact pers_pure _); focus ((repeat (first | exact Pick.here | apply Pick.there)) <;> exact Pick.here)) | (apply Ent.pure; focus (first | assumption | exact rfl | omega)) | apply Ent.nilrow' | apply Ent.ex | apply Ent.sep | apply Ent.drop))) <;> exact Ent.nil)))
    · have kv1 := key 1 (by omega)
      have hu1 := hu 1 (by omega)
      have hs1 := hus 1
      have kv2 : 1 ≤ lowI 1 ((s.size : Int) - at_) := by unfold lowI; split <;> omega
      repeat' (first
        | (show evG _ _ _ _ _ _ _; first | refine G_andNot0 ?_ | refine G_andNot1 ?_ | refine G_add64 ?_ | refine G_sub64 ?_ | refine G_mul64 ?_ | refine G_quo ?_ | refine G_rem ?_ | refine G_shl8 ?_ | refine G_orb ?_ | refine G_shr ?_ | refine G_pure0 ?_ | refine G_load ?_ | refine evG_nil ?_ | refine G_br ?_ ?_ | refine G_field ?_ | refine G_pure ?_ | refine G_store ?_ | refine G_loadV ?_ | refine G_loadV0 ?_ | refine G_loadV2 ?_ | (refine G_append ?_; intro _ _) | (refine G_appendN ?_; intro _ _) | refine G_not ?_ | refine G_index ?_ | refine G_indexA ?_ | refine G_indexS ?_ | refine G_conv64 ?_ | refine G_conv8 ?_ | refine G_convu ?_ | refine G_conv ?_ | refine G_build ?_ | refine G_slh ?_ | refine G_slo ?_ | refine G_shi ?_ | refine G_cat ?_ | refine G_min ?_ | refine G_max ?_ | refine G_neg64 ?_ | refine G_eql_agg ?_ | refine G_neq_agg ?_ | refine G_bytesP ?_ | refine G_bytesstr ?_ | refine G_call ?_ | refine G_call0 ?_ | refine G_callv ?_ | refine G_callv0 ?_ | (refine G_box ?_; intro _) | (refine G_alloc ?_; intro _) | (refine G_buildSlice ?_; intro _) | (refine G_strrow ?_; intro _ _) | (refine G_indexV ?_; intro _ _ hA; subst hA) | (refine G_sliceR ?_; intro _) | (refine G_sliceO ?_; intro _) | refine G_skip ?_ | refine G_skip0 ?_)
        | (show spl _ _ _; first | refine spl_no rfl ?_ | refine spl_yes rfl ?_)
        | (show evC _ _ _ _ _; first | refine c_seq ?_ | refine c_region (by exact rfl) ?_ | refine c_cond (by exact rfl) ?_ | refine c_ret ?_ | refine c_skip ?_ | refine c_block ?_ | refine c_exit ?_  | refine c_draw (by exact rfl) (by decide +kernel) (by exact rfl) ?_ | refine c_drawT (by exact rfl) (by decide +kernel) (by exact rfl) ?_ | refine c_scope ?_ | refine c_label ?_)
        | (show Br _ _ _; first | refine Br.t rfl ?_ | refine Br.f rfl ?_ | refine Br.t (beq_self_eq_true _) ?_ | refine Br.f (not_beq_self _) ?_ | refine Br.t (by assumption) ?_ | refine Br.f (by assumption) ?_ | refine Br.t (nb_f (by assumption)) ?_ | refine Br.f (nb_t (by assumption)) ?_ | (refine Br.mk (fun h => ?_) (fun h => ?_) <;> (try simp only [Bool.and_eq_true, Bool.or_eq_true, Bool.and_eq_false_iff, Bool.or_eq_false_iff, decide_eq_true_eq, decide_eq_false_iff_not, beq_iff_eq, bne_iff_ne, beq_eq_false_iff_ne, bne_eq_false_iff_eq, ne_eq, Bool.not_eq_true', Bool.not_eq_false', not_true_eq_false, not_false_eq_true, Int.not_lt, Int.not_le, gt_iff_lt, ge_iff_le] at h) <;> (try (first | contradiction | (exfalso; omega)))))
        | (show thenC _ _ _ _ _; first | refine t_n ?_ | refine t_r ?_ | refine t_e ?_)
        | (show inBlockC _ _ _ _ _; first | refine b_n ?_ | refine b_r ?_ | refine b_hit rfl ?_ | refine b_miss rfl ?_)
        | (show noGotoC _ _ _ _; first | refine g_n ?_ | refine g_r ?_ | refine g_e ?_)
        | (show CallT _ 21 _ _ _; refine CA (h := low_ok ?_))
        | (show CallT _ 16 _ _ _; refine CA (h := yfeed_ok hu1 hs1 hP1 (fun F1 b1 fs h1 h2 => ?_)))
        | (show evG _ _ _ _ _ _ _; first | (refine G_appendU ?_; intro _ _)))
      all_goals
        have tk : s.data.toList.take (at_ + (lowI 1 ((s.size : Int) - at_)).toNat) = s.data.toList.take at_ ++ (s.data.toList.drop at_).take (lowI 1 ((s.size : Int) - at_)).toNat := List.take_add
        refine turn ((cs.length - (i + 1)) + (s.size - (at_ + (lowI 1 ((s.size : Int) - at_)).toNat))) ⟨at_ + (lowI 1 ((s.size : Int) - at_)).toNat, i + 1, _, _, gs ++ fs, rfl, by omega, by omega, by omega, by rw [List.map_append, hgs, tk, h1], by rw [tk], rfl, rfl, rfl, rfl, rfl, rfl, rfl, rfl, by rw [tk]; rfl, congrArg (Value.int .i64) (by omega), rfl, trivial⟩ (by omega) ?_
        exact Ent.trans (B := allP fmP gs :: allP fmP fs :: _) (by ((iterate 30 (try (first | exact Ent.refl _ | exact Ent.nil | (apply Ent.pick; focus ((repeat (first | exact Pick.here | apply Pick.there)) <;> exact Pick.here)) | (apply Ent.pickP; focus ((repeat (first | exact pers_ro _ _ _ | exact pers_rrow _ _ _ | exact pers_pure _ | refine pers_sep ?_ ?_ | refine pers_ex fun _ => ?_)) <;> exact pers_pure _); focus ((repeat (first | exact Pick.here | apply Pick.there)) <;> exact Pick.here)) | (apply Ent.pure; focus (first | assumption | exact rfl | omega)) | apply Ent.nilrow' | apply Ent.ex | apply Ent.sep | apply Ent.drop))) <;> exact Ent.nil)) (Ent.trans (pers_allP pers_fmP mono_fmP) (by ((iterate 30 (try (first | exact Ent.refl _ | exact Ent.nil | (apply Ent.pick; focus ((repeat (first | exact Pick.here | apply Pick.there)) <;> exact Pick.here)) | (apply Ent.pickP; focus ((repeat (first | exact pers_ro _ _ _ | exact pers_rrow _ _ _ | exact pers_pure _ | refine pers_sep ?_ ?_ | refine pers_ex fun _ => ?_)) <;> exact pers_pure _); focus ((repeat (first | exact Pick.here | apply Pick.there)) <;> exact Pick.here)) | (apply Ent.pure; focus (first | assumption | exact rfl | omega)) | apply Ent.nilrow' | apply Ent.ex | apply Ent.sep | apply Ent.drop))) <;> exact Ent.nil)))
  · obtain rfl : at_ = s.size := by omega
    have htk : s.data.toList.take s.size = s.data.toList := List.take_of_length_le (by omega)
    rw [htk] at hgs ⊢
    have hsm : fs0.map coreF = gs.map coreF := by rw [hgs, ← hfs0]
    have hfl : fs0.length < 1000000000 := by
      have := congrArg List.length hsm
      simp only [List.length_map] at this
      omega
    repeat' (first
      | (show evG _ _ _ _ _ _ _; first | refine G_andNot0 ?_ | refine G_andNot1 ?_ | refine G_add64 ?_ | refine G_sub64 ?_ | refine G_mul64 ?_ | refine G_quo ?_ | refine G_rem ?_ | refine G_shl8 ?_ | refine G_orb ?_ | refine G_shr ?_ | refine G_pure0 ?_ | refine G_load ?_ | refine evG_nil ?_ | refine G_br ?_ ?_ | refine G_field ?_ | refine G_pure ?_ | refine G_store ?_ | refine G_loadV ?_ | refine G_loadV0 ?_ | refine G_loadV2 ?_ | (refine G_append ?_; intro _ _) | (refine G_appendN ?_; intro _ _) | refine G_not ?_ | refine G_index ?_ | refine G_indexA ?_ | refine G_indexS ?_ | refine G_conv64 ?_ | refine G_conv8 ?_ | refine G_convu ?_ | refine G_conv ?_ | refine G_build ?_ | refine G_slh ?_ | refine G_slo ?_ | refine G_shi ?_ | refine G_cat ?_ | refine G_min ?_ | refine G_max ?_ | refine G_neg64 ?_ | refine G_eql_agg ?_ | refine G_neq_agg ?_ | refine G_bytesP ?_ | refine G_bytesstr ?_ | refine G_call ?_ | refine G_call0 ?_ | refine G_callv ?_ | refine G_callv0 ?_ | (refine G_box ?_; intro _) | (refine G_alloc ?_; intro _) | (refine G_buildSlice ?_; intro _) | (refine G_strrow ?_; intro _ _) | (refine G_indexV ?_; intro _ _ hA; subst hA) | (refine G_sliceR ?_; intro _) | (refine G_sliceO ?_; intro _) | refine G_skip ?_ | refine G_skip0 ?_)
      | (show spl _ _ _; first | refine spl_no rfl ?_ | refine spl_yes rfl ?_)
      | (show evC _ _ _ _ _; first | refine c_seq ?_ | refine c_region (by exact rfl) ?_ | refine c_cond (by exact rfl) ?_ | refine c_ret ?_ | refine c_skip ?_ | refine c_block ?_ | refine c_exit ?_  | refine c_draw (by exact rfl) (by decide +kernel) (by exact rfl) ?_ | refine c_drawT (by exact rfl) (by decide +kernel) (by exact rfl) ?_ | refine c_scope ?_ | refine c_label ?_)
      | (show Br _ _ _; first | refine Br.t rfl ?_ | refine Br.f rfl ?_ | refine Br.t (beq_self_eq_true _) ?_ | refine Br.f (not_beq_self _) ?_ | refine Br.t (by assumption) ?_ | refine Br.f (by assumption) ?_ | refine Br.t (nb_f (by assumption)) ?_ | refine Br.f (nb_t (by assumption)) ?_ | (refine Br.mk (fun h => ?_) (fun h => ?_) <;> (try simp only [Bool.and_eq_true, Bool.or_eq_true, Bool.and_eq_false_iff, Bool.or_eq_false_iff, decide_eq_true_eq, decide_eq_false_iff_not, beq_iff_eq, bne_iff_ne, beq_eq_false_iff_ne, bne_eq_false_iff_eq, ne_eq, Bool.not_eq_true', Bool.not_eq_false', not_true_eq_false, not_false_eq_true, Int.not_lt, Int.not_le, gt_iff_lt, ge_iff_le] at h) <;> (try (first | contradiction | (exfalso; omega)))))
      | (show thenC _ _ _ _ _; first | refine t_n ?_ | refine t_r ?_ | refine t_e ?_)
      | (show inBlockC _ _ _ _ _; first | refine b_n ?_ | refine b_r ?_ | refine b_hit rfl ?_ | refine b_miss rfl ?_)
      | (show noGotoC _ _ _ _; first | refine g_n ?_ | refine g_r ?_ | refine g_e ?_)
      | (show CallT _ 15 _ _ _; refine CA (h := awake4_ok ?_))
      | (show CallT _ 20 _ _ _; refine CA (h := r4same_ok (xs := fs0) (ys := gs) (by ((repeat (first | exact view_row | exact view_rrow | exact view_pt | assumption | apply view_there)) <;> exact view_row)) (by ((repeat (first | exact view_row | exact view_rrow | exact view_pt | assumption | apply view_there)) <;> exact view_row)) (fun z hz => by ((repeat (first | exact view_fmP hz | apply view_there)) <;> exact view_fmP hz)) (fun z hz => by ((repeat (first | exact view_fmP hz | apply view_there)) <;> exact view_fmP hz)) (fun z hz => core_pn hgs z hz) hsm rfl rfl hfl ?_))
      | (show CallT _ 17 _ _ _; refine CA (h := kept_ok ?_))
      | (show CallT _ 18 _ _ _; refine CA (h := broken_ok ?_)))
    all_goals (refine RETC ?_; exact ret_done (kb (hK _) (by simp)))
end Go.Proofs.Ytgaekagocbcebaa
