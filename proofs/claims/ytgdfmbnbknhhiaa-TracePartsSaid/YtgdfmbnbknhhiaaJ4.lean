/- Trace: what is laid is read: lemmas; each with the conditions that it states. -/

import Derived.Test.YtgdfmbnbknhhiaaJ6
namespace Go.Proofs.Ytgdfmbnbknhhiaa
open Go Go.Proofs Go.Sl
set_option maxRecDepth 100000
set_option maxHeartbeats 4000000
set_option linter.unusedSimpArgs false
set_option linter.unusedVariables false
attribute [local irreducible] evG evC spl thenC inBlockC noGotoC CallT retC RetG TurnG CutG pt ro exP star sep pureP
variable {R C : List HP} {K : Value → List HP → Prop}
theorem nAt_app {t : ByteArray} {i j : Nat} {a b c : List UInt8} (h : t.data.toList = a ++ (b ++ c)) (ha : a.length = i) (hb : i + b.length = j) : nAt t i j = numB b := by
  rw [nAt_list, h, List.drop_left' ha, List.take_left' (by omega)]
theorem ex_app {t : ByteArray} {i j : Nat} {a b c : List UInt8} (h : t.data.toList = a ++ (b ++ c)) (ha : a.length = i) (hb : i + b.length = j) : (t.extract i j).data.toList = b := by
  simp only [ByteArray.data_extract, Array.toList_extract, List.extract]
  rw [h, List.drop_left' ha, List.take_left' (by omega)]
theorem size_list (t : ByteArray) : t.data.toList.length = t.size := by simp
theorem ex_tail (s : ByteArray) (i : Nat) : (s.extract i s.size).data.toList = s.data.toList.drop i := by
  simp only [ByteArray.data_extract, Array.toList_extract, List.extract]
  exact List.take_of_length_le (by rw [List.length_drop, size_list]; exact Nat.le_refl _)
theorem nx_one {t : ByteArray} {x : Mv} {r : List UInt8} (h : t.data.toList = x.b ++ r) (hok : x.ok = true) : nxE t = 0 ∧ mvAt t = x ∧ nAt t 10 12 = x.s.size := by
  obtain ⟨p1, p3, p4⟩ := pow256
  have p2 := pow256_2
  have hb := bitI_rng x.e
  have hk := hok
  unfold Mv.ok mvOk at hk
  simp only [Bool.and_eq_true, decide_eq_true_eq] at hk
  have l1 := wB_len x.w 1
  have l2 := wB_len (bitI x.e) 1
  have l3 := wB_len x.st 4
  have l4 := wB_len x.n 4
  have l5 := wB_len x.s.size 2
  rw [show (1 : Int).toNat = 1 from rfl] at l1 l2
  rw [show (4 : Int).toNat = 4 from rfl] at l3 l4
  rw [show (2 : Int).toNat = 2 from rfl] at l5
  have ls := size_list x.s
  have n1 := num_wBn (n := x.w) (w := 1) (by decide) (by omega) (by rw [show (1 : Int).toNat = 1 from rfl, p1]; omega)
  have n2 := num_wBn (n := bitI x.e) (w := 1) (by decide) (by omega) (by rw [show (1 : Int).toNat = 1 from rfl, p1]; omega)
  have n3 := num_wBn (n := x.st) (w := 4) (by decide) (by omega) (by rw [show (4 : Int).toNat = 4 from rfl, p4]; omega)
  have n4 := num_wBn (n := x.n) (w := 4) (by decide) (by omega) (by rw [show (4 : Int).toNat = 4 from rfl, p4]; omega)
  have n5 := num_wBn (n := x.s.size) (w := 2) (by decide) (by omega) (by rw [show (2 : Int).toNat = 2 from rfl, p2]; omega)
  unfold Mv.b oneL at h
  have a1 : nAt t 0 1 = x.w := by
    rw [nAt_app (i := 0) (j := 1) (a := []) (b := wB x.w 1) (c := wB (bitI x.e) 1 ++ (wB x.st 4 ++ (wB x.n 4 ++ (wB x.s.size 2 ++ x.s.data.toList))) ++ r) (by rw [h]; simp) rfl (by omega), n1]
  have a2 : nAt t 1 2 = bitI x.e := by
    rw [nAt_app (a := wB x.w 1) (b := wB (bitI x.e) 1) (c := (wB x.st 4 ++ (wB x.n 4 ++ (wB x.s.size 2 ++ x.s.data.toList))) ++ r) (by rw [h]; simp) (by omega) (by omega), n2]
  have a3 : nAt t 2 6 = x.st := by
    rw [nAt_app (a := wB x.w 1 ++ wB (bitI x.e) 1) (b := wB x.st 4) (c := (wB x.n 4 ++ (wB x.s.size 2 ++ x.s.data.toList)) ++ r) (by rw [h]; simp) (by rw [List.length_append]; omega) (by omega), n3]
  have a4 : nAt t 6 10 = x.n := by
    rw [nAt_app (a := wB x.w 1 ++ wB (bitI x.e) 1 ++ wB x.st 4) (b := wB x.n 4) (c := (wB x.s.size 2 ++ x.s.data.toList) ++ r) (by rw [h]; simp) (by simp only [List.length_append]; omega) (by omega), n4]
  have a5 : nAt t 10 12 = x.s.size := by
    rw [nAt_app (a := wB x.w 1 ++ wB (bitI x.e) 1 ++ wB x.st 4 ++ wB x.n 4) (b := wB x.s.size 2) (c := x.s.data.toList ++ r) (by rw [h]; simp) (by simp only [List.length_append]; omega) (by omega), n5]
  have a6 : t.extract 12 (12 + x.s.size) = x.s := ba_ext (by
    rw [ex_app (a := wB x.w 1 ++ wB (bitI x.e) 1 ++ wB x.st 4 ++ wB x.n 4 ++ wB x.s.size 2) (b := x.s.data.toList) (c := r) (by rw [h]; simp) (by simp only [List.length_append]; omega) (by omega)])
  have a7 : (bitI x.e == 1) = x.e := by cases x.e <;> rfl
  have em : mvAt t = x := by unfold mvAt; rw [a1, a2, a3, a4, a5, Int.toNat_natCast, a6, a7]
  have hsz : t.size = 12 + x.s.size + r.length := by
    rw [← size_list, h]
    simp only [List.length_append]
    omega
  refine ⟨?_, em, a5⟩
  unfold nxE
  rw [if_neg (by omega), if_neg (by omega), if_neg]
  rw [a1, a2, a3, a4, a5, Int.toNat_natCast, a6]
  intro hh
  rcases hh with hh | hh
  · omega
  · unfold Mv.ok at hok; rw [hok] at hh; cases hh
theorem read_lay {s : ByteArray} : ∀ (post pre : List Mv), s.data.toList = allL pre ++ allL post → pre.length + post.length ≤ 256 → post.all Mv.ok = true → rdF (s.size - (allL pre).length) s (allL pre).length pre = (pre ++ post, (s.size : Int), 0)
  | [], pre, h, _, _ => by
    have hsz := size_list s
    rw [h] at hsz
    simp [allL] at hsz
    have : (allL pre).length = s.size := by unfold allL; simp; omega
    rw [rdF_end (by omega), this]; simp
  | x :: post, pre, h, hl, hall => by
    simp only [List.all_cons, Bool.and_eq_true] at hall
    have hx : allL (x :: post) = x.b ++ allL post := rfl
    rw [hx] at h
    have hsz := size_list s
    rw [h] at hsz
    simp only [List.length_append] at hsz
    have hxl : x.b.length = 12 + x.s.size := oneL_len _ _ _ _ _
    have ht : (s.extract (allL pre).length s.size).data.toList = x.b ++ allL post := by
      rw [ex_tail, h, List.drop_left' rfl]
    obtain ⟨q1, q2, q3⟩ := nx_one ht hall.1
    simp only [List.length_cons] at hl
    rw [rd_more (by omega) q1 (by omega), q2, q3, Int.toNat_natCast]
    have e : allL (pre ++ [x]) = allL pre ++ x.b := allL_snoc _ _
    have ih := read_lay post (pre ++ [x]) (by rw [h, e]; simp) (by rw [List.length_append, List.length_singleton]; omega) hall.2
    rw [e, List.length_append, hxl, ← Nat.add_assoc] at ih
    rw [ih]; simp
theorem read_lay0 {xs : List Mv} (hl : xs.length ≤ 256) (hall : xs.all Mv.ok = true) : rdF (ByteArray.mk (allL xs).toArray).size ⟨(allL xs).toArray⟩ 0 [] = (xs, ((ByteArray.mk (allL xs).toArray).size : Int), 0) := by
  have := read_lay (s := ⟨(allL xs).toArray⟩) xs [] (by simp [allL]) (by simpa using hl) hall
  simpa [allL] using this
theorem nx_bytes {t : ByteArray} (h : nxE t = 0) : (mvAt t).b = t.data.toList.take (12 + (nAt t 10 12).toNat) := by
  obtain ⟨q1, q2, q3, q4⟩ := nx_len h
  have q0 := (nAt_rng t 10 12).1
  have r2 := (nAt_rng t 1 2).1
  have ls := size_list t
  obtain ⟨w, hw⟩ : ∃ w : Nat, nAt t 10 12 = w := ⟨(nAt t 10 12).toNat, by omega⟩
  have hb : bitI (nAt t 1 2 == 1) = nAt t 1 2 := by
    rcases (by omega : nAt t 1 2 = 0 ∨ nAt t 1 2 = 1) with e | e <;> rw [e] <;> rfl
  have hs : ((t.extract 12 (12 + w)).size : Int) = nAt t 10 12 := by
    rw [hw]; simp; omega
  unfold mvAt Mv.b oneL
  simp only [hw, Int.toNat_natCast]
  rw [hs, hb, nAt_list, nAt_list, nAt_list, nAt_list, nAt_list]
  rw [wB_num (by simp [ls]; omega), wB_num (by simp [ls]; omega), wB_num (by simp [ls]; omega), wB_num (by simp [ls]; omega), wB_num (by simp [ls]; omega)]
  have e : ∀ (l : List UInt8) (i a b : Nat), (l.drop i).take a ++ (l.drop (i + a)).take b = (l.drop i).take (a + b) := fun l i a b => by
    rw [List.take_add, List.drop_drop]
  have ex : (t.extract 12 (12 + w)).data.toList = (t.data.toList.drop 12).take w := by
    simp [List.extract]
  rw [ex]
  generalize t.data.toList = l at *
  have e1 := e l 0 1 1
  have e2 := e l 0 2 4
  have e3 := e l 0 6 4
  have e4 := e l 0 10 2
  have e5 := e l 0 12 w
  simp only [List.drop_zero, Nat.zero_add] at e1 e2 e3 e4 e5
  rw [← e5, ← e4, ← e3, ← e2, ← e1]
  simp
theorem rd_inv {s : ByteArray} : ∀ (k : Nat) (at_ : Nat) (out r : List Mv) (n : Int), s.size ≤ at_ + k → out.length ≤ 256 → rdF k s at_ out = (r, n, 0) → ∃ ys, r = out ++ ys ∧ ys.all Mv.ok = true ∧ r.length ≤ 256 ∧ allL ys = s.data.toList.drop at_
  | 0, at_, out, r, n, hk, ho, h => by
    rw [rdF_end (by omega)] at h
    cases h
    refine ⟨[], by simp, rfl, ho, ?_⟩
    rw [List.drop_eq_nil_of_le (by rw [size_list]; omega)]; rfl
  | k + 1, at_, out, r, n, hk, ho, h => by
    rw [rdF_step] at h
    split at h
    · cases h
      refine ⟨[], by simp, rfl, ho, ?_⟩
      rw [List.drop_eq_nil_of_le (by rw [size_list]; omega)]; rfl
    split at h
    · rename_i h1 h2
      injection h with _ h; injection h with _ h
      exact absurd h h2
    split at h
    · cases h
    · rename_i h1 h2 h3
      have hx : nxE (s.extract at_ s.size) = 0 := by omega
      obtain ⟨q1, q2, q3, q4⟩ := nx_len hx
      have q0 := (nAt_rng (s.extract at_ s.size) 10 12).1
      obtain ⟨ys, e1, e2, e3, e4⟩ := rd_inv k _ _ r n (by omega) (by rw [List.length_append, List.length_singleton]; omega) h
      refine ⟨mvAt (s.extract at_ s.size) :: ys, by rw [e1]; simp, by simp only [List.all_cons, q4, e2, Bool.and_true], e3, ?_⟩
      have hb := nx_bytes hx
      rw [ex_tail] at hb
      show (mvAt (s.extract at_ s.size)).b ++ allL ys = _
      rw [hb, e4]
      have : s.data.toList.drop (at_ + 12 + (nAt (s.extract at_ s.size) 10 12).toNat) = (s.data.toList.drop at_).drop (12 + (nAt (s.extract at_ s.size) 10 12).toNat) := by rw [List.drop_drop, Nat.add_assoc]
      rw [this, List.take_append_drop]
theorem rd_fail {s : ByteArray} : ∀ (k : Nat) (at_ : Nat) (out r : List Mv) (n e : Int), rdF k s at_ out = (r, n, e) → e ≠ 0 → r = []
  | 0, at_, out, r, n, e, h, he => by
    cases h; exact absurd rfl he
  | k + 1, at_, out, r, n, e, h, he => by
    rw [rdF_step] at h
    split at h
    · cases h; exact absurd rfl he
    split at h
    · cases h; rfl
    split at h
    · cases h; rfl
    · exact rd_fail k _ _ r n e h he
theorem treadE_ok {s : ByteArray} {out : List Mv} {n e : Int} (hs : s.size ≤ 131072) (hr : rdF s.size s 0 [] = (out, n, e)) (hK : ∀ A c, K (.tuple #[.slice A out.length c, .int .i64 n, .int .i64 e]) (row A c 44 mvC out :: R)) : CallT Try.prog 32 #[.string s] R K := by
  refine tread_ok hs ?_
  rw [hr]; exact hK
theorem rreadE_ok {s : ByteArray} {out : List Mv} {n e : Int} (hs : s.size ≤ 131072) (hr : rdF s.size s 0 [] = (out, n, e)) (hK : ∀ A c, K (.tuple #[.slice A out.length c, .int .i64 n, .int .i64 e]) (row A c 44 mvC out :: R)) : CallT Try.prog 33 #[.string s] R K := by
  refine rread_ok hs ?_
  rw [hr]; exact hK
theorem treadBig_ok {s : ByteArray} (hs : 131072 < s.size) (hK : K (.tuple #[.slice none 0 0, .int .i64 0, .int .i64 4]) R) : CallT Try.prog 32 #[.string s] R K := by
  refine callT_intro mixed Try.func32 rfl (by decide) (by decide +kernel) (by exact Nat.le_of_ble_eq_true rfl) ?_
  repeat' (first
    | (show evG _ _ _ _ _ _ _; first | refine G_andNot0 ?_ | refine G_andNot1 ?_ | refine G_add64 ?_ | refine G_sub64 ?_ | refine G_mul64 ?_ | refine G_quo ?_ | refine G_rem ?_ | refine G_shl8 ?_ | refine G_orb ?_ | refine G_shr ?_ | refine G_pure0 ?_ | refine G_load ?_ | refine evG_nil ?_ | refine G_br ?_ ?_ | refine G_field ?_ | refine G_pure ?_ | refine G_store ?_ | refine G_loadV ?_ | refine G_loadV0 ?_ | refine G_loadV2 ?_ | (refine G_append ?_; intro _ _) | (refine G_appendN ?_; intro _ _) | refine G_not ?_ | refine G_index ?_ | refine G_indexA ?_ | refine G_indexS ?_ | refine G_conv64 ?_ | refine G_conv8 ?_ | refine G_convu ?_ | refine G_conv ?_ | refine G_build ?_ | refine G_slh ?_ | refine G_slo ?_ | refine G_shi ?_ | refine G_cat ?_ | refine G_min ?_ | refine G_max ?_ | refine G_neg64 ?_ | refine G_eql_agg ?_ | refine G_neq_agg ?_ | refine G_bytesP ?_ | refine G_bytesstr ?_ | refine G_call ?_ | refine G_call0 ?_ | refine G_callv ?_ | refine G_callv0 ?_ | (refine G_box ?_; intro _) | (refine G_alloc ?_; intro _) | (refine G_buildSlice ?_; intro _) | (refine G_strrow ?_; intro _ _) | (refine G_indexV ?_; intro _ _ hA; subst hA) | (refine G_sliceR ?_; intro _) | (refine G_sliceO ?_; intro _) | refine G_skip ?_ | refine G_skip0 ?_)
    | (show spl _ _ _; first | refine spl_no rfl ?_ | refine spl_yes rfl ?_)
    | (show evC _ _ _ _ _; first | refine c_seq ?_ | refine c_region (by exact rfl) ?_ | refine c_cond (by exact rfl) ?_ | refine c_ret ?_ | refine c_skip ?_ | refine c_block ?_ | refine c_exit ?_  | refine c_draw (by exact rfl) (by decide +kernel) (by exact rfl) ?_ | refine c_drawT (by exact rfl) (by decide +kernel) (by exact rfl) ?_ | refine c_scope ?_ | refine c_label ?_)
    | (show Br _ _ _; first | refine Br.t rfl ?_ | refine Br.f rfl ?_ | refine Br.t (beq_self_eq_true _) ?_ | refine Br.f (not_beq_self _) ?_ | refine Br.t (by assumption) ?_ | refine Br.f (by assumption) ?_ | refine Br.t (nb_f (by assumption)) ?_ | refine Br.f (nb_t (by assumption)) ?_ | (refine Br.mk (fun h => ?_) (fun h => ?_) <;> (try simp only [Bool.and_eq_true, Bool.or_eq_true, Bool.and_eq_false_iff, Bool.or_eq_false_iff, decide_eq_true_eq, decide_eq_false_iff_not, beq_iff_eq, bne_iff_ne, beq_eq_false_iff_ne, bne_eq_false_iff_eq, ne_eq, Bool.not_eq_true', Bool.not_eq_false', not_true_eq_false, not_false_eq_true, Int.not_lt, Int.not_le, gt_iff_lt, ge_iff_le] at h) <;> (try (first | contradiction | (exfalso; omega)))))
    | (show thenC _ _ _ _ _; first | refine t_n ?_ | refine t_r ?_ | refine t_e ?_)
    | (show inBlockC _ _ _ _ _; first | refine b_n ?_ | refine b_r ?_ | refine b_hit rfl ?_ | refine b_miss rfl ?_)
    | (show noGotoC _ _ _ _; first | refine g_n ?_ | refine g_r ?_ | refine g_e ?_))
  (refine RETC ?_; exact ret_done (hK))
theorem tlayA_ok {A : Option Addr} {n c : Nat} {xs : List Mv} (hv : View C A mvC xs) (hn : xs.length = n) (hn2 : n ≤ 256) (hall : xs.all Mv.ok = true) (hK : K (.tuple #[.string ⟨(allL xs).toArray⟩, .int .i64 0]) C) : CallT Try.prog 30 #[.slice A n c] C K := by
  refine tlay_ok hv hn (by omega) ?_
  have e1 : layLE xs = 0 := by unfold layLE; rw [if_neg (by omega), if_pos hall]
  have e2 : layLS xs = ⟨(allL xs).toArray⟩ := by unfold layLS; rw [if_pos e1]
  rw [e1, e2]; exact hK
theorem awake34_ok (hK : K (.bool true) R) : CallT Try.prog 27 #[] R K := by
  have e1 : allL [⟨1, 3, 2, ⟨#[97, 98]⟩, false⟩] = [1, 0, 0, 0, 0, 3, 0, 0, 0, 2, 0, 2, 97, 98] := by decide +kernel
  have e2 := read_lay0 (xs := [⟨1, 3, 2, ⟨#[97, 98]⟩, false⟩]) (by decide) (by decide)
  rw [e1] at e2
  refine callT_intro mixed Try.func27 rfl (by decide) (by decide +kernel) (by exact Nat.le_of_ble_eq_true rfl) ?_
  repeat' (first
    | (show evG _ _ _ _ _ _ _; first | refine G_andNot0 ?_ | refine G_andNot1 ?_ | refine G_add64 ?_ | refine G_sub64 ?_ | refine G_mul64 ?_ | refine G_quo ?_ | refine G_rem ?_ | refine G_shl8 ?_ | refine G_orb ?_ | refine G_shr ?_ | refine G_pure0 ?_ | refine G_load ?_ | refine evG_nil ?_ | refine G_br ?_ ?_ | refine G_field ?_ | refine G_pure ?_ | refine G_store ?_ | refine G_loadV ?_ | refine G_loadV0 ?_ | refine G_loadV2 ?_ | (refine G_append ?_; intro _ _) | (refine G_appendN ?_; intro _ _) | refine G_not ?_ | refine G_index ?_ | refine G_indexA ?_ | refine G_indexS ?_ | refine G_conv64 ?_ | refine G_conv8 ?_ | refine G_convu ?_ | refine G_conv ?_ | refine G_build ?_ | refine G_slh ?_ | refine G_slo ?_ | refine G_shi ?_ | refine G_cat ?_ | refine G_min ?_ | refine G_max ?_ | refine G_neg64 ?_ | refine G_eql_agg ?_ | refine G_neq_agg ?_ | refine G_bytesP ?_ | refine G_bytesstr ?_ | refine G_call ?_ | refine G_call0 ?_ | refine G_callv ?_ | refine G_callv0 ?_ | (refine G_box ?_; intro _) | (refine G_alloc ?_; intro _) | (refine G_buildSlice ?_; intro _) | (refine G_strrow ?_; intro _ _) | (refine G_indexV ?_; intro _ _ hA; subst hA) | (refine G_sliceR ?_; intro _) | (refine G_sliceO ?_; intro _) | refine G_skip ?_ | refine G_skip0 ?_)
    | (show spl _ _ _; first | refine spl_no rfl ?_ | refine spl_yes rfl ?_)
    | (show evC _ _ _ _ _; first | refine c_seq ?_ | refine c_region (by exact rfl) ?_ | refine c_cond (by exact rfl) ?_ | refine c_ret ?_ | refine c_skip ?_ | refine c_block ?_ | refine c_exit ?_  | refine c_draw (by exact rfl) (by decide +kernel) (by exact rfl) ?_ | refine c_drawT (by exact rfl) (by decide +kernel) (by exact rfl) ?_ | refine c_scope ?_ | refine c_label ?_)
    | (show Br _ _ _; first | refine Br.t (by decide +kernel) ?_ | refine Br.f (by decide +kernel) ?_ | refine Br.t rfl ?_ | refine Br.f rfl ?_ | refine Br.t (beq_self_eq_true _) ?_ | refine Br.f (not_beq_self _) ?_ | refine Br.t (by assumption) ?_ | refine Br.f (by assumption) ?_ | refine Br.t (nb_f (by assumption)) ?_ | refine Br.f (nb_t (by assumption)) ?_ | (refine Br.mk (fun h => ?_) (fun h => ?_) <;> (try simp only [Bool.and_eq_true, Bool.or_eq_true, Bool.and_eq_false_iff, Bool.or_eq_false_iff, decide_eq_true_eq, decide_eq_false_iff_not, beq_iff_eq, bne_iff_ne, beq_eq_false_iff_ne, bne_eq_false_iff_eq, ne_eq, Bool.not_eq_true', Bool.not_eq_false', not_true_eq_false, not_false_eq_true, Int.not_lt, Int.not_le, gt_iff_lt, ge_iff_le] at h) <;> (try (first | contradiction | (exfalso; omega)))))
    | (show thenC _ _ _ _ _; first | refine t_n ?_ | refine t_r ?_ | refine t_e ?_)
    | (show inBlockC _ _ _ _ _; first | refine b_n ?_ | refine b_r ?_ | refine b_hit rfl ?_ | refine b_miss rfl ?_)
    | (show noGotoC _ _ _ _; first | refine g_n ?_ | refine g_r ?_ | refine g_e ?_)
    | (show CallT _ 30 _ _ _; refine CA (h := tlayA_ok (xs := [⟨1, 3, 2, ⟨#[97, 98]⟩, false⟩]) (by ((repeat (first | exact view_row | exact view_rrow | exact view_pt | assumption | apply view_there)) <;> exact view_row)) (by exact rfl) (by decide) (by decide) ?_))
    | (show CallT _ 32 _ _ _; refine CA (h := treadE_ok (by decide) e2 (fun A c => ?_)))
    | (show CallT _ 34 _ _ _; refine CA (h := sameT_ok (by ((repeat (first | exact view_row | exact view_rrow | exact view_pt | assumption | apply view_there)) <;> exact view_row)) (by ((repeat (first | exact view_row | exact view_rrow | exact view_pt | assumption | apply view_there)) <;> exact view_row)) (by exact rfl) (by decide) ?_)))
  (refine RETC ?_; exact ret_done (hK))
theorem traceReads_ok {s : ByteArray} (hK : ∀ C, K (.bool true) C) : CallT Try.prog 7 #[.string s] R K := by
  by_cases hs : 131072 < s.size
  · refine callT_intro mixed Try.func7 rfl (by decide) (by decide +kernel) (by exact Nat.le_of_ble_eq_true rfl) ?_
    repeat' (first
      | (show evG _ _ _ _ _ _ _; first | refine G_andNot0 ?_ | refine G_andNot1 ?_ | refine G_add64 ?_ | refine G_sub64 ?_ | refine G_mul64 ?_ | refine G_quo ?_ | refine G_rem ?_ | refine G_shl8 ?_ | refine G_orb ?_ | refine G_shr ?_ | refine G_pure0 ?_ | refine G_load ?_ | refine evG_nil ?_ | refine G_br ?_ ?_ | refine G_field ?_ | refine G_pure ?_ | refine G_store ?_ | refine G_loadV ?_ | refine G_loadV0 ?_ | refine G_loadV2 ?_ | (refine G_append ?_; intro _ _) | (refine G_appendN ?_; intro _ _) | refine G_not ?_ | refine G_index ?_ | refine G_indexA ?_ | refine G_indexS ?_ | refine G_conv64 ?_ | refine G_conv8 ?_ | refine G_convu ?_ | refine G_conv ?_ | refine G_build ?_ | refine G_slh ?_ | refine G_slo ?_ | refine G_shi ?_ | refine G_cat ?_ | refine G_min ?_ | refine G_max ?_ | refine G_neg64 ?_ | refine G_eql_agg ?_ | refine G_neq_agg ?_ | refine G_bytesP ?_ | refine G_bytesstr ?_ | refine G_call ?_ | refine G_call0 ?_ | refine G_callv ?_ | refine G_callv0 ?_ | (refine G_box ?_; intro _) | (refine G_alloc ?_; intro _) | (refine G_buildSlice ?_; intro _) | (refine G_strrow ?_; intro _ _) | (refine G_indexV ?_; intro _ _ hA; subst hA) | (refine G_sliceR ?_; intro _) | (refine G_sliceO ?_; intro _) | refine G_skip ?_ | refine G_skip0 ?_)
      | (show spl _ _ _; first | refine spl_no rfl ?_ | refine spl_yes rfl ?_)
      | (show evC _ _ _ _ _; first | refine c_seq ?_ | refine c_region (by exact rfl) ?_ | refine c_cond (by exact rfl) ?_ | refine c_ret ?_ | refine c_skip ?_ | refine c_block ?_ | refine c_exit ?_  | refine c_draw (by exact rfl) (by decide +kernel) (by exact rfl) ?_ | refine c_drawT (by exact rfl) (by decide +kernel) (by exact rfl) ?_ | refine c_scope ?_ | refine c_label ?_)
      | (show Br _ _ _; first | refine Br.t rfl ?_ | refine Br.f rfl ?_ | refine Br.t (beq_self_eq_true _) ?_ | refine Br.f (not_beq_self _) ?_ | refine Br.t (by assumption) ?_ | refine Br.f (by assumption) ?_ | refine Br.t (nb_f (by assumption)) ?_ | refine Br.f (nb_t (by assumption)) ?_ | (refine Br.mk (fun h => ?_) (fun h => ?_) <;> (try simp only [Bool.and_eq_true, Bool.or_eq_true, Bool.and_eq_false_iff, Bool.or_eq_false_iff, decide_eq_true_eq, decide_eq_false_iff_not, beq_iff_eq, bne_iff_ne, beq_eq_false_iff_ne, bne_eq_false_iff_eq, ne_eq, Bool.not_eq_true', Bool.not_eq_false', not_true_eq_false, not_false_eq_true, Int.not_lt, Int.not_le, gt_iff_lt, ge_iff_le] at h) <;> (try (first | contradiction | (exfalso; omega)))))
      | (show thenC _ _ _ _ _; first | refine t_n ?_ | refine t_r ?_ | refine t_e ?_)
      | (show inBlockC _ _ _ _ _; first | refine b_n ?_ | refine b_r ?_ | refine b_hit rfl ?_ | refine b_miss rfl ?_)
      | (show noGotoC _ _ _ _; first | refine g_n ?_ | refine g_r ?_ | refine g_e ?_)
      | (show CallT _ 32 _ _ _; refine CA (h := treadBig_ok (by omega) ?_))
      | (show CallT _ 27 _ _ _; refine CA (h := awake34_ok ?_)))
    (refine RETC ?_; exact ret_done (kb (hK _) (by simp)))
  · obtain ⟨out, n, e, hr⟩ : ∃ out n e, rdF s.size s 0 [] = (out, n, e) := ⟨_, _, _, rfl⟩
    have hl : out.length ≤ 256 := by
      by_cases he : e = 0
      · subst he
        obtain ⟨ys, e1, e2, e3, e4⟩ := rd_inv _ _ _ _ _ (by omega) (by decide) hr
        exact e3
      · rw [rd_fail _ _ _ _ _ _ hr he]; decide
    refine callT_intro mixed Try.func7 rfl (by decide) (by decide +kernel) (by exact Nat.le_of_ble_eq_true rfl) ?_
    repeat' (first
      | (show evG _ _ _ _ _ _ _; first | refine G_andNot0 ?_ | refine G_andNot1 ?_ | refine G_add64 ?_ | refine G_sub64 ?_ | refine G_mul64 ?_ | refine G_quo ?_ | refine G_rem ?_ | refine G_shl8 ?_ | refine G_orb ?_ | refine G_shr ?_ | refine G_pure0 ?_ | refine G_load ?_ | refine evG_nil ?_ | refine G_br ?_ ?_ | refine G_field ?_ | refine G_pure ?_ | refine G_store ?_ | refine G_loadV ?_ | refine G_loadV0 ?_ | refine G_loadV2 ?_ | (refine G_append ?_; intro _ _) | (refine G_appendN ?_; intro _ _) | refine G_not ?_ | refine G_index ?_ | refine G_indexA ?_ | refine G_indexS ?_ | refine G_conv64 ?_ | refine G_conv8 ?_ | refine G_convu ?_ | refine G_conv ?_ | refine G_build ?_ | refine G_slh ?_ | refine G_slo ?_ | refine G_shi ?_ | refine G_cat ?_ | refine G_min ?_ | refine G_max ?_ | refine G_neg64 ?_ | refine G_eql_agg ?_ | refine G_neq_agg ?_ | refine G_bytesP ?_ | refine G_bytesstr ?_ | refine G_call ?_ | refine G_call0 ?_ | refine G_callv ?_ | refine G_callv0 ?_ | (refine G_box ?_; intro _) | (refine G_alloc ?_; intro _) | (refine G_buildSlice ?_; intro _) | (refine G_strrow ?_; intro _ _) | (refine G_indexV ?_; intro _ _ hA; subst hA) | (refine G_sliceR ?_; intro _) | (refine G_sliceO ?_; intro _) | refine G_skip ?_ | refine G_skip0 ?_)
      | (show spl _ _ _; first | refine spl_no rfl ?_ | refine spl_yes rfl ?_)
      | (show evC _ _ _ _ _; first | refine c_seq ?_ | refine c_region (by exact rfl) ?_ | refine c_cond (by exact rfl) ?_ | refine c_ret ?_ | refine c_skip ?_ | refine c_block ?_ | refine c_exit ?_  | refine c_draw (by exact rfl) (by decide +kernel) (by exact rfl) ?_ | refine c_drawT (by exact rfl) (by decide +kernel) (by exact rfl) ?_ | refine c_scope ?_ | refine c_label ?_)
      | (show Br _ _ _; first | refine Br.t rfl ?_ | refine Br.f rfl ?_ | refine Br.t (beq_self_eq_true _) ?_ | refine Br.f (not_beq_self _) ?_ | refine Br.t (by assumption) ?_ | refine Br.f (by assumption) ?_ | refine Br.t (nb_f (by assumption)) ?_ | refine Br.f (nb_t (by assumption)) ?_ | (refine Br.mk (fun h => ?_) (fun h => ?_) <;> (try simp only [Bool.and_eq_true, Bool.or_eq_true, Bool.and_eq_false_iff, Bool.or_eq_false_iff, decide_eq_true_eq, decide_eq_false_iff_not, beq_iff_eq, bne_iff_ne, beq_eq_false_iff_ne, bne_eq_false_iff_eq, ne_eq, Bool.not_eq_true', Bool.not_eq_false', not_true_eq_false, not_false_eq_true, Int.not_lt, Int.not_le, gt_iff_lt, ge_iff_le] at h) <;> (try (first | contradiction | (exfalso; omega)))))
      | (show thenC _ _ _ _ _; first | refine t_n ?_ | refine t_r ?_ | refine t_e ?_)
      | (show inBlockC _ _ _ _ _; first | refine b_n ?_ | refine b_r ?_ | refine b_hit rfl ?_ | refine b_miss rfl ?_)
      | (show noGotoC _ _ _ _; first | refine g_n ?_ | refine g_r ?_ | refine g_e ?_)
      | (show CallT _ 32 _ _ _; refine CA (h := treadE_ok (by omega) (by assumption) (fun A c => ?_)))
      | (show CallT _ 33 _ _ _; refine CA (h := rreadE_ok (by omega) (by assumption) (fun A c => ?_)))
      | (show CallT _ 27 _ _ _; refine CA (h := awake34_ok ?_))
      | (show CallT _ 34 _ _ _; refine CA (h := sameT_ok (xs := out) (by ((repeat (first | exact view_row | exact view_rrow | exact view_pt | assumption | apply view_there)) <;> exact view_row)) (by ((repeat (first | exact view_row | exact view_rrow | exact view_pt | assumption | apply view_there)) <;> exact view_row)) (by exact rfl) (by omega) ?_)))
    (refine RETC ?_; exact ret_done (kb (hK _) (by simp)))
theorem traceBack_ok {A : Option Addr} {m c : Nat} {xs : List Mv} {s : ByteArray} (hn : xs.length = m) (hm : m < 1000000000000000) (hs : s.size < 1000000000000000) (hK : ∀ C, K (.bool true) C) : CallT Try.prog 8 #[.slice A m c, .string s] (rrow A mvC xs :: R) K := by
  subst hn
  by_cases hb : 65536 < s.size
  · refine callT_intro mixed Try.func8 rfl (by decide) (by decide +kernel) (by exact Nat.le_of_ble_eq_true rfl) ?_
    repeat' (first
      | (show evG _ _ _ _ _ _ _; first | refine G_andNot0 ?_ | refine G_andNot1 ?_ | refine G_add64 ?_ | refine G_sub64 ?_ | refine G_mul64 ?_ | refine G_quo ?_ | refine G_rem ?_ | refine G_shl8 ?_ | refine G_orb ?_ | refine G_shr ?_ | refine G_pure0 ?_ | refine G_load ?_ | refine evG_nil ?_ | refine G_br ?_ ?_ | refine G_field ?_ | refine G_pure ?_ | refine G_store ?_ | refine G_loadV ?_ | refine G_loadV0 ?_ | refine G_loadV2 ?_ | (refine G_append ?_; intro _ _) | (refine G_appendN ?_; intro _ _) | refine G_not ?_ | refine G_index ?_ | refine G_indexA ?_ | refine G_indexS ?_ | refine G_conv64 ?_ | refine G_conv8 ?_ | refine G_convu ?_ | refine G_conv ?_ | refine G_build ?_ | refine G_slh ?_ | refine G_slo ?_ | refine G_shi ?_ | refine G_cat ?_ | refine G_min ?_ | refine G_max ?_ | refine G_neg64 ?_ | refine G_eql_agg ?_ | refine G_neq_agg ?_ | refine G_bytesP ?_ | refine G_bytesstr ?_ | refine G_call ?_ | refine G_call0 ?_ | refine G_callv ?_ | refine G_callv0 ?_ | (refine G_box ?_; intro _) | (refine G_alloc ?_; intro _) | (refine G_buildSlice ?_; intro _) | (refine G_strrow ?_; intro _ _) | (refine G_indexV ?_; intro _ _ hA; subst hA) | (refine G_sliceR ?_; intro _) | (refine G_sliceO ?_; intro _) | refine G_skip ?_ | refine G_skip0 ?_)
      | (show spl _ _ _; first | refine spl_no rfl ?_ | refine spl_yes rfl ?_)
      | (show evC _ _ _ _ _; first | refine c_seq ?_ | refine c_region (by exact rfl) ?_ | refine c_cond (by exact rfl) ?_ | refine c_ret ?_ | refine c_skip ?_ | refine c_block ?_ | refine c_exit ?_  | refine c_draw (by exact rfl) (by decide +kernel) (by exact rfl) ?_ | refine c_drawT (by exact rfl) (by decide +kernel) (by exact rfl) ?_ | refine c_scope ?_ | refine c_label ?_)
      | (show Br _ _ _; first | refine Br.t rfl ?_ | refine Br.f rfl ?_ | refine Br.t (beq_self_eq_true _) ?_ | refine Br.f (not_beq_self _) ?_ | refine Br.t (by assumption) ?_ | refine Br.f (by assumption) ?_ | refine Br.t (nb_f (by assumption)) ?_ | refine Br.f (nb_t (by assumption)) ?_ | (refine Br.mk (fun h => ?_) (fun h => ?_) <;> (try simp only [Bool.and_eq_true, Bool.or_eq_true, Bool.and_eq_false_iff, Bool.or_eq_false_iff, decide_eq_true_eq, decide_eq_false_iff_not, beq_iff_eq, bne_iff_ne, beq_eq_false_iff_ne, bne_eq_false_iff_eq, ne_eq, Bool.not_eq_true', Bool.not_eq_false', not_true_eq_false, not_false_eq_true, Int.not_lt, Int.not_le, gt_iff_lt, ge_iff_le] at h) <;> (try (first | contradiction | (exfalso; omega)))))
      | (show thenC _ _ _ _ _; first | refine t_n ?_ | refine t_r ?_ | refine t_e ?_)
      | (show inBlockC _ _ _ _ _; first | refine b_n ?_ | refine b_r ?_ | refine b_hit rfl ?_ | refine b_miss rfl ?_)
      | (show noGotoC _ _ _ _; first | refine g_n ?_ | refine g_r ?_ | refine g_e ?_)
      | (show CallT _ 26 _ _ _; refine CA (h := light_ok (by ((repeat (first | exact view_row | exact view_rrow | exact view_pt | assumption | apply view_there)) <;> exact view_row)) (by exact rfl) (by omega) ?_))
      | (show CallT _ 27 _ _ _; refine CA (h := awake34_ok ?_)))
    all_goals (refine RETC ?_; exact ret_done (hK _))
  cases hli : lightB xs
  · refine callT_intro mixed Try.func8 rfl (by decide) (by decide +kernel) (by exact Nat.le_of_ble_eq_true rfl) ?_
    repeat' (first
      | (show evG _ _ _ _ _ _ _; first | refine G_andNot0 ?_ | refine G_andNot1 ?_ | refine G_add64 ?_ | refine G_sub64 ?_ | refine G_mul64 ?_ | refine G_quo ?_ | refine G_rem ?_ | refine G_shl8 ?_ | refine G_orb ?_ | refine G_shr ?_ | refine G_pure0 ?_ | refine G_load ?_ | refine evG_nil ?_ | refine G_br ?_ ?_ | refine G_field ?_ | refine G_pure ?_ | refine G_store ?_ | refine G_loadV ?_ | refine G_loadV0 ?_ | refine G_loadV2 ?_ | (refine G_append ?_; intro _ _) | (refine G_appendN ?_; intro _ _) | refine G_not ?_ | refine G_index ?_ | refine G_indexA ?_ | refine G_indexS ?_ | refine G_conv64 ?_ | refine G_conv8 ?_ | refine G_convu ?_ | refine G_conv ?_ | refine G_build ?_ | refine G_slh ?_ | refine G_slo ?_ | refine G_shi ?_ | refine G_cat ?_ | refine G_min ?_ | refine G_max ?_ | refine G_neg64 ?_ | refine G_eql_agg ?_ | refine G_neq_agg ?_ | refine G_bytesP ?_ | refine G_bytesstr ?_ | refine G_call ?_ | refine G_call0 ?_ | refine G_callv ?_ | refine G_callv0 ?_ | (refine G_box ?_; intro _) | (refine G_alloc ?_; intro _) | (refine G_buildSlice ?_; intro _) | (refine G_strrow ?_; intro _ _) | (refine G_indexV ?_; intro _ _ hA; subst hA) | (refine G_sliceR ?_; intro _) | (refine G_sliceO ?_; intro _) | refine G_skip ?_ | refine G_skip0 ?_)
      | (show spl _ _ _; first | refine spl_no rfl ?_ | refine spl_yes rfl ?_)
      | (show evC _ _ _ _ _; first | refine c_seq ?_ | refine c_region (by exact rfl) ?_ | refine c_cond (by exact rfl) ?_ | refine c_ret ?_ | refine c_skip ?_ | refine c_block ?_ | refine c_exit ?_  | refine c_draw (by exact rfl) (by decide +kernel) (by exact rfl) ?_ | refine c_drawT (by exact rfl) (by decide +kernel) (by exact rfl) ?_ | refine c_scope ?_ | refine c_label ?_)
      | (show Br _ _ _; first | refine Br.t rfl ?_ | refine Br.f rfl ?_ | refine Br.t (beq_self_eq_true _) ?_ | refine Br.f (not_beq_self _) ?_ | refine Br.t (by assumption) ?_ | refine Br.f (by assumption) ?_ | refine Br.t (nb_f (by assumption)) ?_ | refine Br.f (nb_t (by assumption)) ?_ | (refine Br.mk (fun h => ?_) (fun h => ?_) <;> (try simp only [Bool.and_eq_true, Bool.or_eq_true, Bool.and_eq_false_iff, Bool.or_eq_false_iff, decide_eq_true_eq, decide_eq_false_iff_not, beq_iff_eq, bne_iff_ne, beq_eq_false_iff_ne, bne_eq_false_iff_eq, ne_eq, Bool.not_eq_true', Bool.not_eq_false', not_true_eq_false, not_false_eq_true, Int.not_lt, Int.not_le, gt_iff_lt, ge_iff_le] at h) <;> (try (first | contradiction | (exfalso; omega)))))
      | (show thenC _ _ _ _ _; first | refine t_n ?_ | refine t_r ?_ | refine t_e ?_)
      | (show inBlockC _ _ _ _ _; first | refine b_n ?_ | refine b_r ?_ | refine b_hit rfl ?_ | refine b_miss rfl ?_)
      | (show noGotoC _ _ _ _; first | refine g_n ?_ | refine g_r ?_ | refine g_e ?_)
      | (show CallT _ 26 _ _ _; refine CA (h := light_ok (by ((repeat (first | exact view_row | exact view_rrow | exact view_pt | assumption | apply view_there)) <;> exact view_row)) (by exact rfl) (by omega) ?_))
      | (show CallT _ 27 _ _ _; refine CA (h := awake34_ok ?_)))
    all_goals (refine RETC ?_; exact ret_done (hK _))
  have hn3 : xs.length ≤ 300 := by unfold lightB at hli; simp only [Bool.and_eq_true, decide_eq_true_eq] at hli; omega
  obtain ⟨out, n, e, hr⟩ : ∃ out n e, rdF s.size s 0 [] = (out, n, e) := ⟨_, _, _, rfl⟩
  have hE : ∀ {R : List HP} {K : Value → List HP → Prop}, layLE xs = 0 → K (.tuple #[.string ⟨(allL xs).toArray⟩, .int .i64 0]) (rrow A mvC xs :: R) → CallT Try.prog 30 #[.slice A xs.length c] (rrow A mvC xs :: R) K := fun h hk => by
    refine tlay_ok view_rrow rfl (by omega) ?_
    unfold layLS
    rw [if_pos h, h]; exact hk
  have hF : ∀ {R : List HP} {K : Value → List HP → Prop}, layLE xs ≠ 0 → K (.tuple #[.string ⟨#[]⟩, .int .i64 (layLE xs)]) (rrow A mvC xs :: R) → CallT Try.prog 30 #[.slice A xs.length c] (rrow A mvC xs :: R) K := fun h hk => by
    refine tlay_ok view_rrow rfl (by omega) ?_
    unfold layLS
    rw [if_neg h]; exact hk
  by_cases he : e = 0
  · subst he
    obtain ⟨ys, e1, e2, e3, e4⟩ := rd_inv _ _ _ _ _ (by omega) (by decide) hr
    rw [List.nil_append] at e1
    subst e1
    have es : ByteArray.mk (allL out).toArray = s := ba_ext (by simp [e4])
    have es2 : allL out = s.toList := by rw [toList_data, e4]; rfl
    by_cases hl : layLE xs = 0
    · have hxl : xs.length ≤ 256 ∧ xs.all Mv.ok = true := by
        unfold layLE at hl
        split at hl
        · cases hl
        · split at hl
          · exact ⟨by omega, by assumption⟩
          · cases hl
      have hr2 := read_lay0 hxl.1 hxl.2
      have hl2 := allL_len hxl.2
      have hl3 : (ByteArray.mk (allL xs).toArray).size ≤ 131072 := by rw [ba_size]; omega
      refine callT_intro mixed Try.func8 rfl (by decide) (by decide +kernel) (by exact Nat.le_of_ble_eq_true rfl) ?_
      repeat' (first
        | (show evG _ _ _ _ _ _ _; first | refine G_andNot0 ?_ | refine G_andNot1 ?_ | refine G_add64 ?_ | refine G_sub64 ?_ | refine G_mul64 ?_ | refine G_quo ?_ | refine G_rem ?_ | refine G_shl8 ?_ | refine G_orb ?_ | refine G_shr ?_ | refine G_pure0 ?_ | refine G_load ?_ | refine evG_nil ?_ | refine G_br ?_ ?_ | refine G_field ?_ | refine G_pure ?_ | refine G_store ?_ | refine G_loadV ?_ | refine G_loadV0 ?_ | refine G_loadV2 ?_ | (refine G_append ?_; intro _ _) | (refine G_appendN ?_; intro _ _) | refine G_not ?_ | refine G_index ?_ | refine G_indexA ?_ | refine G_indexS ?_ | refine G_conv64 ?_ | refine G_conv8 ?_ | refine G_convu ?_ | refine G_conv ?_ | refine G_build ?_ | refine G_slh ?_ | refine G_slo ?_ | refine G_shi ?_ | refine G_cat ?_ | refine G_min ?_ | refine G_max ?_ | refine G_neg64 ?_ | refine G_eql_agg ?_ | refine G_neq_agg ?_ | refine G_bytesP ?_ | refine G_bytesstr ?_ | refine G_call ?_ | refine G_call0 ?_ | refine G_callv ?_ | refine G_callv0 ?_ | (refine G_box ?_; intro _) | (refine G_alloc ?_; intro _) | (refine G_buildSlice ?_; intro _) | (refine G_strrow ?_; intro _ _) | (refine G_indexV ?_; intro _ _ hA; subst hA) | (refine G_sliceR ?_; intro _) | (refine G_sliceO ?_; intro _) | refine G_skip ?_ | refine G_skip0 ?_)
        | (show spl _ _ _; first | refine spl_no rfl ?_ | refine spl_yes rfl ?_)
        | (show evC _ _ _ _ _; first | refine c_seq ?_ | refine c_region (by exact rfl) ?_ | refine c_cond (by exact rfl) ?_ | refine c_ret ?_ | refine c_skip ?_ | refine c_block ?_ | refine c_exit ?_  | refine c_draw (by exact rfl) (by decide +kernel) (by exact rfl) ?_ | refine c_drawT (by exact rfl) (by decide +kernel) (by exact rfl) ?_ | refine c_scope ?_ | refine c_label ?_)
        | (show Br _ _ _; first | refine Br.t rfl ?_ | refine Br.f rfl ?_ | refine Br.t (beq_self_eq_true _) ?_ | refine Br.f (not_beq_self _) ?_ | refine Br.t (by assumption) ?_ | refine Br.f (by assumption) ?_ | refine Br.t (nb_f (by assumption)) ?_ | refine Br.f (nb_t (by assumption)) ?_ | (refine Br.mk (fun h => ?_) (fun h => ?_) <;> (try simp only [Bool.and_eq_true, Bool.or_eq_true, Bool.and_eq_false_iff, Bool.or_eq_false_iff, decide_eq_true_eq, decide_eq_false_iff_not, beq_iff_eq, bne_iff_ne, beq_eq_false_iff_ne, bne_eq_false_iff_eq, ne_eq, Bool.not_eq_true', Bool.not_eq_false', not_true_eq_false, not_false_eq_true, Int.not_lt, Int.not_le, gt_iff_lt, ge_iff_le] at h) <;> (try (first | contradiction | (exfalso; omega)))))
        | (show thenC _ _ _ _ _; first | refine t_n ?_ | refine t_r ?_ | refine t_e ?_)
        | (show inBlockC _ _ _ _ _; first | refine b_n ?_ | refine b_r ?_ | refine b_hit rfl ?_ | refine b_miss rfl ?_)
        | (show noGotoC _ _ _ _; first | refine g_n ?_ | refine g_r ?_ | refine g_e ?_)
        | (show CallT _ 26 _ _ _; refine CA (h := light_ok (by ((repeat (first | exact view_row | exact view_rrow | exact view_pt | assumption | apply view_there)) <;> exact view_row)) (by exact rfl) (by omega) ?_))
        | (show CallT _ 27 _ _ _; refine CA (h := awake34_ok ?_))
        | (show CallT _ 30 _ _ _; refine CA (h := hE (by assumption) ?_))
        | (show CallT _ 32 _ _ _; refine CA (h := treadE_ok (by omega) hr2 (fun A c => ?_)))
        | (show CallT _ 32 _ _ _; refine CA (h := treadE_ok (by omega) hr (fun A c => ?_)))
        | (show CallT _ 34 _ _ _; refine CA (h := sameT_ok (xs := xs) (by ((repeat (first | exact view_row | exact view_rrow | exact view_pt | assumption | apply view_there)) <;> exact view_row)) (by ((repeat (first | exact view_row | exact view_rrow | exact view_pt | assumption | apply view_there)) <;> exact view_row)) (by exact rfl) (by omega) ?_))
        | (show CallT _ 30 _ _ _; refine CA (h := tlayA_ok (xs := out) (by ((repeat (first | exact view_row | exact view_rrow | exact view_pt | assumption | apply view_there)) <;> exact view_row)) (by exact rfl) (by omega) (by assumption) ?_)))
      all_goals (refine RETC ?_; exact ret_done (kb (hK _) (by simp [es2])))
    · refine callT_intro mixed Try.func8 rfl (by decide) (by decide +kernel) (by exact Nat.le_of_ble_eq_true rfl) ?_
      repeat' (first
        | (show evG _ _ _ _ _ _ _; first | refine G_andNot0 ?_ | refine G_andNot1 ?_ | refine G_add64 ?_ | refine G_sub64 ?_ | refine G_mul64 ?_ | refine G_quo ?_ | refine G_rem ?_ | refine G_shl8 ?_ | refine G_orb ?_ | refine G_shr ?_ | refine G_pure0 ?_ | refine G_load ?_ | refine evG_nil ?_ | refine G_br ?_ ?_ | refine G_field ?_ | refine G_pure ?_ | refine G_store ?_ | refine G_loadV ?_ | refine G_loadV0 ?_ | refine G_loadV2 ?_ | (refine G_append ?_; intro _ _) | (refine G_appendN ?_; intro _ _) | refine G_not ?_ | refine G_index ?_ | refine G_indexA ?_ | refine G_indexS ?_ | refine G_conv64 ?_ | refine G_conv8 ?_ | refine G_convu ?_ | refine G_conv ?_ | refine G_build ?_ | refine G_slh ?_ | refine G_slo ?_ | refine G_shi ?_ | refine G_cat ?_ | refine G_min ?_ | refine G_max ?_ | refine G_neg64 ?_ | refine G_eql_agg ?_ | refine G_neq_agg ?_ | refine G_bytesP ?_ | refine G_bytesstr ?_ | refine G_call ?_ | refine G_call0 ?_ | refine G_callv ?_ | refine G_callv0 ?_ | (refine G_box ?_; intro _) | (refine G_alloc ?_; intro _) | (refine G_buildSlice ?_; intro _) | (refine G_strrow ?_; intro _ _) | (refine G_indexV ?_; intro _ _ hA; subst hA) | (refine G_sliceR ?_; intro _) | (refine G_sliceO ?_; intro _) | refine G_skip ?_ | refine G_skip0 ?_)
        | (show spl _ _ _; first | refine spl_no rfl ?_ | refine spl_yes rfl ?_)
        | (show evC _ _ _ _ _; first | refine c_seq ?_ | refine c_region (by exact rfl) ?_ | refine c_cond (by exact rfl) ?_ | refine c_ret ?_ | refine c_skip ?_ | refine c_block ?_ | refine c_exit ?_  | refine c_draw (by exact rfl) (by decide +kernel) (by exact rfl) ?_ | refine c_drawT (by exact rfl) (by decide +kernel) (by exact rfl) ?_ | refine c_scope ?_ | refine c_label ?_)
        | (show Br _ _ _; first | refine Br.t rfl ?_ | refine Br.f rfl ?_ | refine Br.t (beq_self_eq_true _) ?_ | refine Br.f (not_beq_self _) ?_ | refine Br.t (by assumption) ?_ | refine Br.f (by assumption) ?_ | refine Br.t (nb_f (by assumption)) ?_ | refine Br.f (nb_t (by assumption)) ?_ | (refine Br.mk (fun h => ?_) (fun h => ?_) <;> (try simp only [Bool.and_eq_true, Bool.or_eq_true, Bool.and_eq_false_iff, Bool.or_eq_false_iff, decide_eq_true_eq, decide_eq_false_iff_not, beq_iff_eq, bne_iff_ne, beq_eq_false_iff_ne, bne_eq_false_iff_eq, ne_eq, Bool.not_eq_true', Bool.not_eq_false', not_true_eq_false, not_false_eq_true, Int.not_lt, Int.not_le, gt_iff_lt, ge_iff_le] at h) <;> (try (first | contradiction | (exfalso; omega)))))
        | (show thenC _ _ _ _ _; first | refine t_n ?_ | refine t_r ?_ | refine t_e ?_)
        | (show inBlockC _ _ _ _ _; first | refine b_n ?_ | refine b_r ?_ | refine b_hit rfl ?_ | refine b_miss rfl ?_)
        | (show noGotoC _ _ _ _; first | refine g_n ?_ | refine g_r ?_ | refine g_e ?_)
        | (show CallT _ 26 _ _ _; refine CA (h := light_ok (by ((repeat (first | exact view_row | exact view_rrow | exact view_pt | assumption | apply view_there)) <;> exact view_row)) (by exact rfl) (by omega) ?_))
        | (show CallT _ 27 _ _ _; refine CA (h := awake34_ok ?_))
        | (show CallT _ 30 _ _ _; refine CA (h := hF (by assumption) ?_))
        | (show CallT _ 32 _ _ _; refine CA (h := treadE_ok (by omega) hr (fun A c => ?_)))
        | (show CallT _ 30 _ _ _; refine CA (h := tlayA_ok (xs := out) (by ((repeat (first | exact view_row | exact view_rrow | exact view_pt | assumption | apply view_there)) <;> exact view_row)) (by exact rfl) (by omega) (by assumption) ?_)))
      all_goals (refine RETC ?_; exact ret_done (kb (hK _) (by simp [es2])))
  · have eo := rd_fail _ _ _ _ _ _ hr he
    subst eo
    by_cases hl : layLE xs = 0
    · have hxl : xs.length ≤ 256 ∧ xs.all Mv.ok = true := by
        unfold layLE at hl
        split at hl
        · cases hl
        · split at hl
          · exact ⟨by omega, by assumption⟩
          · cases hl
      have hr2 := read_lay0 hxl.1 hxl.2
      have hl2 := allL_len hxl.2
      have hl3 : (ByteArray.mk (allL xs).toArray).size ≤ 131072 := by rw [ba_size]; omega
      refine callT_intro mixed Try.func8 rfl (by decide) (by decide +kernel) (by exact Nat.le_of_ble_eq_true rfl) ?_
      repeat' (first
        | (show evG _ _ _ _ _ _ _; first | refine G_andNot0 ?_ | refine G_andNot1 ?_ | refine G_add64 ?_ | refine G_sub64 ?_ | refine G_mul64 ?_ | refine G_quo ?_ | refine G_rem ?_ | refine G_shl8 ?_ | refine G_orb ?_ | refine G_shr ?_ | refine G_pure0 ?_ | refine G_load ?_ | refine evG_nil ?_ | refine G_br ?_ ?_ | refine G_field ?_ | refine G_pure ?_ | refine G_store ?_ | refine G_loadV ?_ | refine G_loadV0 ?_ | refine G_loadV2 ?_ | (refine G_append ?_; intro _ _) | (refine G_appendN ?_; intro _ _) | refine G_not ?_ | refine G_index ?_ | refine G_indexA ?_ | refine G_indexS ?_ | refine G_conv64 ?_ | refine G_conv8 ?_ | refine G_convu ?_ | refine G_conv ?_ | refine G_build ?_ | refine G_slh ?_ | refine G_slo ?_ | refine G_shi ?_ | refine G_cat ?_ | refine G_min ?_ | refine G_max ?_ | refine G_neg64 ?_ | refine G_eql_agg ?_ | refine G_neq_agg ?_ | refine G_bytesP ?_ | refine G_bytesstr ?_ | refine G_call ?_ | refine G_call0 ?_ | refine G_callv ?_ | refine G_callv0 ?_ | (refine G_box ?_; intro _) | (refine G_alloc ?_; intro _) | (refine G_buildSlice ?_; intro _) | (refine G_strrow ?_; intro _ _) | (refine G_indexV ?_; intro _ _ hA; subst hA) | (refine G_sliceR ?_; intro _) | (refine G_sliceO ?_; intro _) | refine G_skip ?_ | refine G_skip0 ?_)
        | (show spl _ _ _; first | refine spl_no rfl ?_ | refine spl_yes rfl ?_)
        | (show evC _ _ _ _ _; first | refine c_seq ?_ | refine c_region (by exact rfl) ?_ | refine c_cond (by exact rfl) ?_ | refine c_ret ?_ | refine c_skip ?_ | refine c_block ?_ | refine c_exit ?_  | refine c_draw (by exact rfl) (by decide +kernel) (by exact rfl) ?_ | refine c_drawT (by exact rfl) (by decide +kernel) (by exact rfl) ?_ | refine c_scope ?_ | refine c_label ?_)
        | (show Br _ _ _; first | refine Br.t rfl ?_ | refine Br.f rfl ?_ | refine Br.t (beq_self_eq_true _) ?_ | refine Br.f (not_beq_self _) ?_ | refine Br.t (by assumption) ?_ | refine Br.f (by assumption) ?_ | refine Br.t (nb_f (by assumption)) ?_ | refine Br.f (nb_t (by assumption)) ?_ | (refine Br.mk (fun h => ?_) (fun h => ?_) <;> (try simp only [Bool.and_eq_true, Bool.or_eq_true, Bool.and_eq_false_iff, Bool.or_eq_false_iff, decide_eq_true_eq, decide_eq_false_iff_not, beq_iff_eq, bne_iff_ne, beq_eq_false_iff_ne, bne_eq_false_iff_eq, ne_eq, Bool.not_eq_true', Bool.not_eq_false', not_true_eq_false, not_false_eq_true, Int.not_lt, Int.not_le, gt_iff_lt, ge_iff_le] at h) <;> (try (first | contradiction | (exfalso; omega)))))
        | (show thenC _ _ _ _ _; first | refine t_n ?_ | refine t_r ?_ | refine t_e ?_)
        | (show inBlockC _ _ _ _ _; first | refine b_n ?_ | refine b_r ?_ | refine b_hit rfl ?_ | refine b_miss rfl ?_)
        | (show noGotoC _ _ _ _; first | refine g_n ?_ | refine g_r ?_ | refine g_e ?_)
        | (show CallT _ 26 _ _ _; refine CA (h := light_ok (by ((repeat (first | exact view_row | exact view_rrow | exact view_pt | assumption | apply view_there)) <;> exact view_row)) (by exact rfl) (by omega) ?_))
        | (show CallT _ 27 _ _ _; refine CA (h := awake34_ok ?_))
        | (show CallT _ 30 _ _ _; refine CA (h := hE (by assumption) ?_))
        | (show CallT _ 32 _ _ _; refine CA (h := treadE_ok (by omega) hr2 (fun A c => ?_)))
        | (show CallT _ 32 _ _ _; refine CA (h := treadE_ok (by omega) hr (fun A c => ?_)))
        | (show CallT _ 34 _ _ _; refine CA (h := sameT_ok (xs := xs) (by ((repeat (first | exact view_row | exact view_rrow | exact view_pt | assumption | apply view_there)) <;> exact view_row)) (by ((repeat (first | exact view_row | exact view_rrow | exact view_pt | assumption | apply view_there)) <;> exact view_row)) (by exact rfl) (by omega) ?_)))
      all_goals (refine RETC ?_; exact ret_done (kb (hK _) (by simp)))
    · refine callT_intro mixed Try.func8 rfl (by decide) (by decide +kernel) (by exact Nat.le_of_ble_eq_true rfl) ?_
      repeat' (first
        | (show evG _ _ _ _ _ _ _; first | refine G_andNot0 ?_ | refine G_andNot1 ?_ | refine G_add64 ?_ | refine G_sub64 ?_ | refine G_mul64 ?_ | refine G_quo ?_ | refine G_rem ?_ | refine G_shl8 ?_ | refine G_orb ?_ | refine G_shr ?_ | refine G_pure0 ?_ | refine G_load ?_ | refine evG_nil ?_ | refine G_br ?_ ?_ | refine G_field ?_ | refine G_pure ?_ | refine G_store ?_ | refine G_loadV ?_ | refine G_loadV0 ?_ | refine G_loadV2 ?_ | (refine G_append ?_; intro _ _) | (refine G_appendN ?_; intro _ _) | refine G_not ?_ | refine G_index ?_ | refine G_indexA ?_ | refine G_indexS ?_ | refine G_conv64 ?_ | refine G_conv8 ?_ | refine G_convu ?_ | refine G_conv ?_ | refine G_build ?_ | refine G_slh ?_ | refine G_slo ?_ | refine G_shi ?_ | refine G_cat ?_ | refine G_min ?_ | refine G_max ?_ | refine G_neg64 ?_ | refine G_eql_agg ?_ | refine G_neq_agg ?_ | refine G_bytesP ?_ | refine G_bytesstr ?_ | refine G_call ?_ | refine G_call0 ?_ | refine G_callv ?_ | refine G_callv0 ?_ | (refine G_box ?_; intro _) | (refine G_alloc ?_; intro _) | (refine G_buildSlice ?_; intro _) | (refine G_strrow ?_; intro _ _) | (refine G_indexV ?_; intro _ _ hA; subst hA) | (refine G_sliceR ?_; intro _) | (refine G_sliceO ?_; intro _) | refine G_skip ?_ | refine G_skip0 ?_)
        | (show spl _ _ _; first | refine spl_no rfl ?_ | refine spl_yes rfl ?_)
        | (show evC _ _ _ _ _; first | refine c_seq ?_ | refine c_region (by exact rfl) ?_ | refine c_cond (by exact rfl) ?_ | refine c_ret ?_ | refine c_skip ?_ | refine c_block ?_ | refine c_exit ?_  | refine c_draw (by exact rfl) (by decide +kernel) (by exact rfl) ?_ | refine c_drawT (by exact rfl) (by decide +kernel) (by exact rfl) ?_ | refine c_scope ?_ | refine c_label ?_)
        | (show Br _ _ _; first | refine Br.t rfl ?_ | refine Br.f rfl ?_ | refine Br.t (beq_self_eq_true _) ?_ | refine Br.f (not_beq_self _) ?_ | refine Br.t (by assumption) ?_ | refine Br.f (by assumption) ?_ | refine Br.t (nb_f (by assumption)) ?_ | refine Br.f (nb_t (by assumption)) ?_ | (refine Br.mk (fun h => ?_) (fun h => ?_) <;> (try simp only [Bool.and_eq_true, Bool.or_eq_true, Bool.and_eq_false_iff, Bool.or_eq_false_iff, decide_eq_true_eq, decide_eq_false_iff_not, beq_iff_eq, bne_iff_ne, beq_eq_false_iff_ne, bne_eq_false_iff_eq, ne_eq, Bool.not_eq_true', Bool.not_eq_false', not_true_eq_false, not_false_eq_true, Int.not_lt, Int.not_le, gt_iff_lt, ge_iff_le] at h) <;> (try (first | contradiction | (exfalso; omega)))))
        | (show thenC _ _ _ _ _; first | refine t_n ?_ | refine t_r ?_ | refine t_e ?_)
        | (show inBlockC _ _ _ _ _; first | refine b_n ?_ | refine b_r ?_ | refine b_hit rfl ?_ | refine b_miss rfl ?_)
        | (show noGotoC _ _ _ _; first | refine g_n ?_ | refine g_r ?_ | refine g_e ?_)
        | (show CallT _ 26 _ _ _; refine CA (h := light_ok (by ((repeat (first | exact view_row | exact view_rrow | exact view_pt | assumption | apply view_there)) <;> exact view_row)) (by exact rfl) (by omega) ?_))
        | (show CallT _ 27 _ _ _; refine CA (h := awake34_ok ?_))
        | (show CallT _ 30 _ _ _; refine CA (h := hF (by assumption) ?_))
        | (show CallT _ 32 _ _ _; refine CA (h := treadE_ok (by omega) hr (fun A c => ?_))))
      all_goals (refine RETC ?_; exact ret_done (kb (hK _) (by simp)))
end Go.Proofs.Ytgdfmbnbknhhiaa
