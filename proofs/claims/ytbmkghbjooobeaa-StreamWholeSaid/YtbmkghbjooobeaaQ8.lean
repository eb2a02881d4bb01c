/- Ring: Write: lemmas; each with the conditions that it states. -/
import Derived.Test.YtbmkghbjooobeaaQb
import Derived.Test.YtbmkghbjooobeaaQa
import Derived.Test.YtbmkghbjooobeaaFg

namespace Go.Proofs.Ytbmkghbjooobeaa
open Go Go.Proofs Go.Sl
set_option maxRecDepth 100000
set_option maxHeartbeats 4000000
set_option linter.unusedSimpArgs false
set_option linter.unusedVariables false
attribute [local irreducible] evG evC spl thenC inBlockC noGotoC CallT retC RetG TurnG CutG pt ro exP star sep pureP
variable {R C : List HP} {K : Value → List HP → Prop}
theorem tolen (s : ByteArray) : s.data.toList.length = s.size := by simp
theorem ring_foldI {r cap fi : Nat} {m : Int} {bs buf : List UInt8} {A : Option Addr} {c : Nat} (h : RingI cap fi buf bs) (hm : m = (bs.length : Nat)) : Ent (pt r [.slice A cap c, .int .i64 fi, .int .i64 m] 157 :: row A c 5 byteC buf :: R) (ringP r cap bs :: R) := by
  subst hm
  exact ring_fold h rfl
theorem modc {x cap : Nat} (h : x < 2 * cap) : x % cap = if x < cap then x else x - cap := by
  split
  · exact Nat.mod_eq_of_lt (by assumption)
  · rw [Nat.mod_eq_sub_mod (by omega), Nat.mod_eq_of_lt (by omega)]
theorem ring_write {cap fi at_ k : Nat} {buf bs w x1 x2 : List UInt8} (h : RingI cap fi buf bs) (hc : 0 < cap) (hw : bs.length + w.length ≤ cap) (ha : at_ = (fi + bs.length) % cap) (hk : k = min w.length (cap - at_))
    (h1 : x1 = buf.take at_ ++ (w.take k ++ buf.drop (at_ + k))) (h2 : x2 = w.drop k ++ x1.drop (w.length - k)) : RingI cap fi x2 (bs ++ w) := by
  obtain ⟨b1, b2, b3, b4⟩ := h
  have hat : at_ < cap := by rw [ha]; exact Nat.mod_lt _ hc
  have hk1 : k ≤ w.length := by omega
  have hk2 : at_ + k ≤ cap := by omega
  have hfi : fi < cap := by omega
  rw [modc (by omega)] at ha
  have l1 : x1.length = cap := by
    subst h1
    simp only [List.length_append, List.length_take, List.length_drop]
    omega
  have l2 : x2.length = cap := by
    subst h2
    simp only [List.length_append, List.length_drop, l1]
    omega
  have g1 : ∀ j, j < cap → x1[j]? = if j < at_ then buf[j]? else if j < at_ + k then w[j - at_]? else buf[j]? := by
    intro j hj
    subst h1
    have t1 : (buf.take at_).length = at_ := by rw [List.length_take]; omega
    have t2 : (w.take k).length = k := by rw [List.length_take]; omega
    rw [List.getElem?_append, t1]
    split
    · rw [List.getElem?_take]; simp_all
    · rw [List.getElem?_append, t2]
      split
      · rw [if_pos (by omega), List.getElem?_take, if_pos (by omega)]
      · rw [if_neg (by omega), List.getElem?_drop]; congr 1; omega
  have g2 : ∀ j, j < cap → x2[j]? = if j < w.length - k then w[k + j]? else x1[j]? := by
    intro j hj
    subst h2
    rw [List.getElem?_append, List.length_drop]
    split
    · rw [List.getElem?_drop]
    · rw [List.getElem?_drop]; congr 1; omega
  refine ⟨l2, .inl hfi, by rw [List.length_append]; omega, fun i hi => ?_⟩
  rw [List.length_append] at hi
  have hp : (fi + i) % cap < cap := Nat.mod_lt _ hc
  have hm := modc (x := fi + i) (cap := cap) (by omega)
  rw [g2 _ hp, g1 _ hp, List.getElem?_append]
  by_cases c1 : i < bs.length
  · rw [if_pos c1, b4 i c1]
    have e1 : ¬ ((fi + i) % cap < w.length - k) := by
      rw [hm]; split at ha <;> split <;> omega
    rw [if_neg e1]
    by_cases e2 : (fi + i) % cap < at_
    · rw [if_pos e2]
    · rw [if_neg e2, if_neg]
      rw [hm] at e2 ⊢
      split at ha <;> split at e2 <;> (try split) <;> omega
  · rw [if_neg c1]
    by_cases c2 : i - bs.length < k
    · have e0 : (fi + i) % cap = at_ + (i - bs.length) := by
        rw [hm]; split at ha <;> split <;> omega
      rw [if_neg (by rw [e0]; omega), if_neg (by rw [e0]; omega), if_pos (by rw [e0]; omega), e0]
      congr 1; omega
    · have e0 : (fi + i) % cap + k = i - bs.length := by
        rw [hm]; split at ha <;> split <;> omega
      rw [if_pos (by omega)]
      congr 1; omega
theorem rwriteZ_ok {r cap : Nat} {bs : List UInt8} {s : ByteArray} (hc : cap ≤ 65536) (hz : s.size = 0 ∨ cap ≤ bs.length) (hK : K (.int .i64 0) (ringP r cap bs :: R)) : CallT Try.prog 86 #[.pointer (some ⟨r, 0, none⟩), .string s] (ringP r cap bs :: R) K := by
  refine ring_open fun A c fi buf hI => ?_
  have hI' := hI
  obtain ⟨h1, h2, h3, h4⟩ := hI'
  refine callT_intro mixed Try.func86 rfl (by decide) (by decide +kernel) (by exact Nat.le_of_ble_eq_true rfl) ?_
  repeat' (first
    | (show evG _ _ _ _ _ _ _; first | refine G_andNot0 ?_ | refine G_andNot1 ?_ | refine G_add64 ?_ | refine G_sub64 ?_ | refine G_mul64 ?_ | refine G_quo ?_ | refine G_rem ?_ | refine G_shl8 ?_ | refine G_orb ?_ | refine G_shr ?_ | refine G_pure0 ?_ | refine G_load ?_ | refine evG_nil ?_ | refine G_br ?_ ?_ | refine G_field ?_ | refine G_pure ?_ | refine G_store ?_ | refine G_loadV ?_ | refine G_loadV0 ?_ | refine G_loadV2 ?_ | (refine G_append ?_; intro _ _) | (refine G_appendN ?_; intro _ _) | refine G_not ?_ | refine G_index ?_ | refine G_indexA ?_ | refine G_indexS ?_ | refine G_conv64 ?_ | refine G_conv8 ?_ | refine G_convu ?_ | refine G_conv ?_ | refine G_build ?_ | refine G_slh ?_ | refine G_slo ?_ | refine G_shi ?_ | refine G_cat ?_ | refine G_min ?_ | refine G_max ?_ | refine G_neg64 ?_ | refine G_eql_agg ?_ | refine G_neq_agg ?_ | refine G_bytesP ?_ | refine G_bytesstr ?_ | refine G_call ?_ | refine G_call0 ?_ | refine G_callv ?_ | refine G_callv0 ?_ | (refine G_box ?_; intro _) | (refine G_alloc ?_; intro _) | (refine G_buildSlice ?_; intro _) | (refine G_strrow ?_; intro _ _) | (refine G_indexV ?_; intro _ _ hA; subst hA) | (refine G_sliceR ?_; intro _) | (refine G_sliceO ?_; intro _) | refine G_skip ?_ | refine G_skip0 ?_)
    | (show spl _ _ _; first | refine spl_no rfl ?_ | refine spl_yes rfl ?_)
    | (show evC _ _ _ _ _; first | refine c_seq ?_ | refine c_region (by exact rfl) ?_ | refine c_cond (by exact rfl) ?_ | refine c_ret ?_ | refine c_skip ?_ | refine c_block ?_ | refine c_exit ?_  | (show evC _ (.region 4 _ true) _ _ _; refine c_draw (l := [(0, 0), (1, 0), (2, 0), (3, 0), (4, 0), (5, 0), (6, 0), (7, 0), (8, 0), (9, 0), (10, 0), (11, 0), (12, 0), (13, 0), (14, 0), (15, 0)]) (by decide +kernel) (by decide +kernel) (by exact rfl) ?_) | (show evC _ (.region 5 _ true) _ _ _; refine c_draw (l := [(0, 0), (1, 0), (2, 0), (3, 0), (4, 0), (5, 0), (6, 0), (7, 0), (8, 0), (9, 1), (10, 0)]) (by decide +kernel) (by decide +kernel) (by exact rfl) ?_) | (show evC _ (.region 6 _ true) _ _ _; refine c_draw (l := [(0, 0), (1, 0), (2, 0), (3, 0), (4, 0), (5, 0), (6, 0), (7, 0), (8, 1)]) (by decide +kernel) (by decide +kernel) (by exact rfl) ?_) | refine c_draw (by exact rfl) (by decide +kernel) (by exact rfl) ?_ | refine c_drawT (by exact rfl) (by decide +kernel) (by exact rfl) ?_ | refine c_scope ?_ | refine c_label ?_)
    | (show Br _ _ _; first | refine Br.t rfl ?_ | refine Br.f rfl ?_ | refine Br.t (beq_self_eq_true _) ?_ | refine Br.f (not_beq_self _) ?_ | refine Br.t (by assumption) ?_ | refine Br.f (by assumption) ?_ | refine Br.t (nb_f (by assumption)) ?_ | refine Br.f (nb_t (by assumption)) ?_ | (refine Br.mk (fun h => ?_) (fun h => ?_) <;> (try simp only [Bool.and_eq_true, Bool.or_eq_true, Bool.and_eq_false_iff, Bool.or_eq_false_iff, decide_eq_true_eq, decide_eq_false_iff_not, beq_iff_eq, bne_iff_ne, beq_eq_false_iff_ne, bne_eq_false_iff_eq, ne_eq, Bool.not_eq_true', Bool.not_eq_false', not_true_eq_false, not_false_eq_true, Int.not_lt, Int.not_le, gt_iff_lt, ge_iff_le] at h) <;> (try (first | contradiction | (exfalso; omega)))))
    | (show thenC _ _ _ _ _; first | refine t_n ?_ | refine t_r ?_ | refine t_e ?_)
    | (show inBlockC _ _ _ _ _; first | refine b_n ?_ | refine b_r ?_ | refine b_hit rfl ?_ | refine b_miss rfl ?_)
    | (show noGotoC _ _ _ _; first | refine g_n ?_ | refine g_r ?_ | refine g_e ?_)
    | (show CallT _ 125 _ _ _; refine CA (h := rroomR_ok (by omega) hc ?_)))
  all_goals
    refine RETC ?_
    exact ret_of (Ent.trans (by ((iterate 30 (try (first | exact Ent.refl _ | exact Ent.nil | (apply Ent.pick; focus ((repeat (first | exact Pick.here | apply Pick.there)) <;> exact Pick.here)) | (apply Ent.pickP; focus ((repeat (first | exact pers_ro _ _ _ | exact pers_rrow _ _ _ | exact pers_pure _ | refine pers_sep ?_ ?_ | refine pers_ex fun _ => ?_)) <;> exact pers_pure _); focus ((repeat (first | exact Pick.here | apply Pick.there)) <;> exact Pick.here)) | (apply Ent.pure; focus (first | assumption | exact rfl | omega)) | apply Ent.nilrow' | apply Ent.ex | apply Ent.sep | apply Ent.drop))) <;> exact Ent.nil)) (ring_fold hI rfl)) (ki hK (by omega))
theorem rwrite_ok {r cap n : Nat} {bs : List UInt8} {s : ByteArray} (hc : cap ≤ 65536) (hn : (n : Int) = min (s.size : Int) ((cap : Int) - (bs.length : Int))) (h0 : 0 < n) (hK : K (.int .i64 n) (ringP r cap (bs ++ s.data.toList.take n) :: R)) : CallT Try.prog 86 #[.pointer (some ⟨r, 0, none⟩), .string s] (ringP r cap bs :: R) K := by
  refine ring_open fun A c fi buf hI => ?_
  have hI' := hI
  obtain ⟨h1, h2, h3, h4⟩ := hI'
  refine call_rowfact (Pick.there Pick.here) fun hbc => ?_
  refine row_some (Pick.there Pick.here) (by omega) fun B off hA => ?_
  subst hA
  have hsl : s.data.toList.length = s.size := by simp
  have hes : (s.extract 0 ((n : Int)).toNat).size = n := by simp; omega
  have hat : (fi + bs.length) % cap < cap := Nat.mod_lt _ (by omega)
  have e1 : ((fi : Int) + (bs.length : Int)) % (cap : Int) = (((fi + bs.length) % cap : Nat) : Int) := by push_cast; rfl
  have hwr := fun x1 x2 k => ring_write (w := s.data.toList.take n) (x1 := x1) (x2 := x2) (at_ := (fi + bs.length) % cap) (k := k) hI (by omega) (by rw [List.length_take, hsl]; omega) rfl
  generalize hag : (fi + bs.length) % cap = at_ at *
  refine callT_intro mixed Try.func86 rfl (by decide) (by decide +kernel) (by exact Nat.le_of_ble_eq_true rfl) ?_
  repeat' (first
    | (show evG _ _ _ _ _ _ _; rw [← hn])
    | (show evG _ _ _ _ _ _ _; rw [e1])
    | (show evG _ _ _ _ _ _ _; refine G_sliceV ?_; intro A' hA'; obtain rfl := sub_at (j := at_) hA' (by omega) (by omega))
    | (show evG _ _ _ _ _ _ _; first | refine G_andNot0 ?_ | refine G_andNot1 ?_ | refine G_add64 ?_ | refine G_sub64 ?_ | refine G_mul64 ?_ | refine G_quo ?_ | refine G_rem ?_ | refine G_shl8 ?_ | refine G_orb ?_ | refine G_shr ?_ | refine G_pure0 ?_ | refine G_load ?_ | refine evG_nil ?_ | refine G_br ?_ ?_ | refine G_field ?_ | refine G_pure ?_ | refine G_store ?_ | refine G_loadV ?_ | refine G_loadV0 ?_ | refine G_loadV2 ?_ | (refine G_append ?_; intro _ _) | (refine G_appendN ?_; intro _ _) | refine G_not ?_ | refine G_index ?_ | refine G_indexA ?_ | refine G_indexS ?_ | refine G_conv64 ?_ | refine G_conv8 ?_ | refine G_convu ?_ | refine G_conv ?_ | refine G_build ?_ | refine G_slh ?_ | refine G_slo ?_ | refine G_shi ?_ | refine G_cat ?_ | refine G_min ?_ | refine G_max ?_ | refine G_neg64 ?_ | refine G_eql_agg ?_ | refine G_neq_agg ?_ | refine G_bytesP ?_ | refine G_bytesstr ?_ | refine G_call ?_ | refine G_call0 ?_ | refine G_callv ?_ | refine G_callv0 ?_ | (refine G_box ?_; intro _) | (refine G_alloc ?_; intro _) | (refine G_buildSlice ?_; intro _) | (refine G_strrow ?_; intro _ _) | (refine G_indexV ?_; intro _ _ hA; subst hA) | (refine G_sliceR ?_; intro _) | (refine G_sliceO ?_; intro _) | refine G_skip ?_ | refine G_skip0 ?_)
    | (show spl _ _ _; first | refine spl_no rfl ?_ | refine spl_yes rfl ?_)
    | (show evC _ _ _ _ _; first | refine c_seq ?_ | refine c_region (by exact rfl) ?_ | refine c_cond (by exact rfl) ?_ | refine c_ret ?_ | refine c_skip ?_ | refine c_block ?_ | refine c_exit ?_  | (show evC _ (.region 4 _ true) _ _ _; refine c_draw (l := [(0, 0), (1, 0), (2, 0), (3, 0), (4, 0), (5, 0), (6, 0), (7, 0), (8, 0), (9, 0), (10, 0), (11, 0), (12, 0), (13, 0), (14, 0), (15, 0)]) (by decide +kernel) (by decide +kernel) (by exact rfl) ?_) | (show evC _ (.region 5 _ true) _ _ _; refine c_draw (l := [(0, 0), (1, 0), (2, 0), (3, 0), (4, 0), (5, 0), (6, 0), (7, 0), (8, 0), (9, 1), (10, 0)]) (by decide +kernel) (by decide +kernel) (by exact rfl) ?_) | (show evC _ (.region 6 _ true) _ _ _; refine c_draw (l := [(0, 0), (1, 0), (2, 0), (3, 0), (4, 0), (5, 0), (6, 0), (7, 0), (8, 1)]) (by decide +kernel) (by decide +kernel) (by exact rfl) ?_) | refine c_draw (by exact rfl) (by decide +kernel) (by exact rfl) ?_ | refine c_drawT (by exact rfl) (by decide +kernel) (by exact rfl) ?_ | refine c_scope ?_ | refine c_label ?_)
    | (show Br _ _ _; first | refine Br.t rfl ?_ | refine Br.f rfl ?_ | refine Br.t (beq_self_eq_true _) ?_ | refine Br.f (not_beq_self _) ?_ | refine Br.t (by assumption) ?_ | refine Br.f (by assumption) ?_ | refine Br.t (nb_f (by assumption)) ?_ | refine Br.f (nb_t (by assumption)) ?_ | (refine Br.mk (fun h => ?_) (fun h => ?_) <;> (try simp only [Bool.and_eq_true, Bool.or_eq_true, Bool.and_eq_false_iff, Bool.or_eq_false_iff, decide_eq_true_eq, decide_eq_false_iff_not, beq_iff_eq, bne_iff_ne, beq_eq_false_iff_ne, bne_eq_false_iff_eq, ne_eq, Bool.not_eq_true', Bool.not_eq_false', not_true_eq_false, not_false_eq_true, Int.not_lt, Int.not_le, gt_iff_lt, ge_iff_le] at h) <;> (try (first | contradiction | (exfalso; omega)))))
    | (show thenC _ _ _ _ _; first | refine t_n ?_ | refine t_r ?_ | refine t_e ?_)
    | (show inBlockC _ _ _ _ _; first | refine b_n ?_ | refine b_r ?_ | refine b_hit rfl ?_ | refine b_miss rfl ?_)
    | (show noGotoC _ _ _ _; first | refine g_n ?_ | refine g_r ?_ | refine g_e ?_)
    | (show CallT _ 125 _ _ _; refine CA (h := rroomR_ok (by omega) hc ?_))
    | (show evG _ _ _ _ _ _ _; refine G_copyS (j := at_) (hj := by omega) ?_)
    | (show evG _ _ _ _ _ _ _; refine G_copyS (j := 0) (hj := by simp only [List.length_append, List.length_take, List.length_drop, tolen]; omega) ?_))
  have exl : ∀ i j, (s.extract i j).data.toList = (s.data.toList.drop i).take (j - i) := fun i j => by simp
  have hkn : min n (cap - at_) ≤ n := by omega
  have exs : (s.extract (min n (cap - at_)) n).size = n - min n (cap - at_) := by simp; omega
  simp only [Int.toNat_natCast] at hes ⊢
  simp only [hes, exs, exl]
  have hln : (s.data.toList.take n).length = n := by rw [List.length_take, hsl]; omega
  rw [hln] at hwr
  generalize hkk : min n (cap - at_) = kk at *
  refine RETC ?_
  refine ret_of (C' := ringP r cap (bs ++ List.take n s.data.toList) :: R) ?_ hK
  refine ring_foldI (hwr _ _ kk rfl rfl ?_) ?_
  · rw [show min (n - kk) cap = n - kk by omega, List.drop_take]
    simp [List.take_take]
  · rw [List.length_append, hln]; push_cast; rfl
end Go.Proofs.Ytbmkghbjooobeaa

