/- Tx: an offer of an item; no more than is wanted: lemmas; each with the conditions that it states. -/
import Derived.Test.YtbmkghbjooobeaaU8
import Derived.Test.YtbmkghbjooobeaaT22

namespace Go.Proofs.Ytbmkghbjooobeaa
open Go Go.Proofs Go.Sl
set_option maxRecDepth 100000
set_option maxHeartbeats 4000000
set_option linter.unusedSimpArgs false
set_option linter.unusedVariables false
attribute [local irreducible] evG evC spl thenC inBlockC noGotoC CallT retC RetG TurnG CutG pt ro exP star sep pureP
variable {R C : List HP} {K : Value → List HP → Prop}
/-- what an offer of an item may answer, and what waits then -/
def OffR (st : Int) (l : List ByteArray) (en : Bool) (s : ByteArray) (e : Int) (l' : List ByteArray) : Prop :=
  (e = 0 ∧ en = false ∧ s.size ≤ 256 ∧ (l' = l ++ [s] ∨ (st ≠ 0 ∧ l' = l) ∨ (st ≠ 0 ∧ ∃ s0 l0, l = s0 :: l0 ∧ l' = l0 ++ [s]))) ∨ (e ≠ 0 ∧ l' = l)
section
variable {t x cap : Nat} {st : Int} {en ou : Bool} {ac se dr w : Int} {k n : Int} {s : ByteArray} {l : List ByteArray}
theorem txIoff_ok (hb : ac ≤ 800000000) (hK : ∀ v e l' ac' dr', OffR st l en s e l' → ac' ≤ ac + 1 → TI cap st l' w en ou ac' se dr' → K (.tuple #[.int .i64 v, .int .i64 e]) (txI t cap st l' w en ou ac' se dr' :: R)) : CallT Try.prog 22 #[.pointer (some ⟨t, 0, none⟩), .string s] (txI t cap st l w en ou ac se dr :: R) K := by
  refine txI_fact fun hT => ?_
  have hT' := hT
  obtain ⟨h1, h2, h3, h4, h5, h6, h7, h8, h9⟩ := hT'
  cases en with
  | true => exact txIoffE_ok rfl (hK _ _ _ _ _ (.inr ⟨by decide, rfl⟩) (by omega) hT)
  | false =>
    by_cases hz : 256 < s.size
    · exact txIoffG_ok rfl hz (hK _ _ _ _ _ (.inr ⟨by decide, rfl⟩) (by omega) hT)
    by_cases c1 : l.length < cap
    · exact txIoffK_ok rfl (by omega) c1 hb (hK _ _ _ _ _ (.inl ⟨rfl, rfl, by omega, .inl rfl⟩) (by omega) ⟨by simp; omega, h2, h3, by omega, by simp; omega, h6, h7, h8, fun h => by simpa using (h9 h).1⟩)
    by_cases c2 : st = 0
    · exact txIoffR_ok rfl (by omega) (by omega) c2 (hK _ _ _ _ _ (.inr ⟨by decide, rfl⟩) (by omega) hT)
    by_cases c3 : st = 1 ∨ cap = 0
    · exact txIoffD_ok rfl (by omega) (by omega) c2 c3 hb (hK _ _ _ _ _ (.inl ⟨rfl, rfl, by omega, .inr (.inl ⟨c2, rfl⟩)⟩) (by omega) ⟨by omega, h2, by omega, by omega, h5, h6, h7, h8, h9⟩)
    cases l with
    | nil => exfalso; simp at c1 c3; omega
    | cons s0 l =>
      have hl1 : (s0 :: l).length = l.length + 1 := rfl
      exact txIoffP_ok rfl (by omega) (by omega) c2 (by omega) (by omega) hb (hK _ _ _ _ _ (.inl ⟨rfl, rfl, by omega, .inr (.inr ⟨c2, s0, l, rfl, rfl⟩)⟩) (by omega) ⟨by simp; omega, h2, by omega, by omega, by simp; omega, h6, h7, h8, fun h => by simpa using (h9 h).1⟩)
theorem offR_mem {e : Int} {l' : List ByteArray} (h : OffR st l en s e l') (hl : ∀ z ∈ l, z.size ≤ 256) : ∀ z ∈ l', z.size ≤ 256 := by
  rcases h with ⟨_, _, hs, rfl | ⟨_, rfl⟩ | ⟨_, s0, l0, rfl, rfl⟩⟩ | ⟨_, rfl⟩
  · intro z hz
    rcases List.mem_append.1 hz with h | h
    · exact hl z h
    · simp at h; subst h; exact hs
  · exact hl
  · intro z hz
    rcases List.mem_append.1 hz with h | h
    · exact hl z (by simp [h])
    · simp at h; subst h; exact hs
  · exact hl
end
section
variable {A : Option Addr} {n c : Nat} {ls : List TA} {kd st : Int}
theorem txNeverI_ok {cap : Nat} (hc : cap ≤ 64) (hst : 0 ≤ st ∧ st ≤ 2) (hv : View C A taC ls) (hps : ∀ y ∈ ls, -9223372036854775808 ≤ y.n ∧ y.n ≤ 9223372036854775807) (hn : ls.length = n) (hn2 : n < 1000000000000000) (hK : ∀ R, K (.bool true) R) : CallT Try.prog 4 #[.agg #[.int .i64 2, .int .i64 cap, .int .i64 st], .slice A n c] C K := by
  subst hn
  have hz0 : (ByteArray.mk #[]).size = 0 := rfl
  have hr : rightE 2 cap st = 0 := by rw [rightE, if_neg (by omega), if_neg (by omega), if_neg (by omega)]
  refine callT_intro mixed Try.func4 rfl (by decide) (by decide +kernel) (by exact Nat.le_of_ble_eq_true rfl) ?_
  repeat' (first
    | (show evG _ _ _ _ _ _ _; first | refine G_andNot0 ?_ | refine G_andNot1 ?_ | refine G_add64 ?_ | refine G_sub64 ?_ | refine G_mul64 ?_ | refine G_quo ?_ | refine G_rem ?_ | refine G_shl8 ?_ | refine G_orb ?_ | refine G_shr ?_ | refine G_pure0 ?_ | refine G_load ?_ | refine evG_nil ?_ | refine G_br ?_ ?_ | refine G_field ?_ | refine G_pure ?_ | refine G_store ?_ | refine G_loadV ?_ | refine G_loadV0 ?_ | refine G_loadV2 ?_ | (refine G_append ?_; intro _ _) | (refine G_appendN ?_; intro _ _) | refine G_not ?_ | refine G_index ?_ | refine G_indexA ?_ | refine G_indexS ?_ | refine G_conv64 ?_ | refine G_conv8 ?_ | refine G_convu ?_ | refine G_conv ?_ | refine G_build ?_ | refine G_slh ?_ | refine G_slo ?_ | refine G_shi ?_ | refine G_cat ?_ | refine G_min ?_ | refine G_max ?_ | refine G_neg64 ?_ | refine G_eql_agg ?_ | refine G_neq_agg ?_ | refine G_bytesP ?_ | refine G_bytesstr ?_ | refine G_call ?_ | refine G_call0 ?_ | refine G_callv ?_ | refine G_callv0 ?_ | (refine G_box ?_; intro _) | (refine G_alloc ?_; intro _) | (refine G_buildSlice ?_; intro _) | (refine G_strrow ?_; intro _ _) | (refine G_indexV ?_; intro _ _ hA; subst hA) | (refine G_sliceR ?_; intro _) | (refine G_sliceO ?_; intro _) | refine G_skip ?_ | refine G_skip0 ?_)
    | (show spl _ _ _; first | refine spl_no rfl ?_ | refine spl_yes rfl ?_)
    | (show evC _ _ _ _ _; first | refine c_seq ?_ | refine c_region (by exact rfl) ?_ | refine c_cond (by exact rfl) ?_ | refine c_ret ?_ | refine c_skip ?_ | refine c_block ?_ | refine c_exit ?_  | refine c_draw (l := [(0, 0), (1, 0), (2, 0), (3, 0), (4, 0), (5, 1), (6, 0), (7, 1), (8, 0), (9, 0), (10, 0), (11, 0), (12, 1), (13, 1), (14, 0), (15, 0), (16, 0), (17, 0), (18, 1), (19, 1), (20, 2), (21, 2), (22, 0), (23, 0)]) (by decide +kernel) (by decide +kernel) (by exact rfl) ?_ | refine c_draw (by exact rfl) (by decide +kernel) (by exact rfl) ?_ | refine c_drawT (by exact rfl) (by decide +kernel) (by exact rfl) ?_ | refine c_scope ?_ | refine c_label ?_)
    | (show Br _ _ _; first | refine Br.t rfl ?_ | refine Br.f rfl ?_ | refine Br.t (beq_self_eq_true _) ?_ | refine Br.f (not_beq_self _) ?_ | refine Br.t (by assumption) ?_ | refine Br.f (by assumption) ?_ | refine Br.t (nb_f (by assumption)) ?_ | refine Br.f (nb_t (by assumption)) ?_ | (refine Br.mk (fun h => ?_) (fun h => ?_) <;> (try simp only [Bool.and_eq_true, Bool.or_eq_true, Bool.and_eq_false_iff, Bool.or_eq_false_iff, decide_eq_true_eq, decide_eq_false_iff_not, beq_iff_eq, bne_iff_ne, beq_eq_false_iff_ne, bne_eq_false_iff_eq, ne_eq, Bool.not_eq_true', Bool.not_eq_false', not_true_eq_false, not_false_eq_true, Int.not_lt, Int.not_le, gt_iff_lt, ge_iff_le] at h) <;> (try (first | contradiction | (exfalso; omega)))))
    | (show thenC _ _ _ _ _; first | refine t_n ?_ | refine t_r ?_ | refine t_e ?_)
    | (show inBlockC _ _ _ _ _; first | refine b_n ?_ | refine b_r ?_ | refine b_hit rfl ?_ | refine b_miss rfl ?_)
    | (show noGotoC _ _ _ _; first | refine g_n ?_ | refine g_r ?_ | refine g_e ?_)
    | (show CallT _ 16 _ _ _; refine CA (h := txnewI_ok hc hst (fun t => ?_)))
    | (show CallT _ 17 _ _ _; refine CA (h := right22V_ok hr ?_))
    | (show CallT _ 18 _ _ _; refine CA (h := awake22_ok ?_)))
  rename_i r2
  refine LOOP (fun m a C' => ∃ (j : Nat) (l : List ByteArray) (w : Int) (en ou : Bool) (ac se dr wa : Int), j + m = ls.length ∧ ac ≤ (j : Int) ∧ j ≤ 80 ∧ (∀ z ∈ l, z.size ≤ 256) ∧ 0 ≤ wa ∧ (se + w ≤ wa ∨ wa = 1099511627776) ∧ wa ≤ 1099511627776 ∧ C' = pt r2 [.int .i64 2, .int .i64 cap, .int .i64 st] 23 :: txI t cap st l w en ou ac se dr :: C ∧ Agree a [(1, .slice A ls.length c), (2, .pointer (some ⟨r2, 0, none⟩)), (4, .bool false), (5, .pointer (some ⟨t, 0, none⟩)), (7, .int .i64 wa), (8, .int .i64 j)]) ls.length (turn ls.length ⟨0, [], 0, false, false, 0, 0, 0, 0, by omega, by omega, by omega, by simp, by omega, by omega, by omega, rfl, rfl, rfl, rfl, rfl, rfl, rfl, trivial⟩ (by omega)) ?_
  rintro n1 a C' ⟨j, l, w, en, ou, ac, se, dr, wa, hj, hac, hj80, hsz, hw0, hwa, hwm, rfl, ha⟩
  refine c_fr _ ha ?_
  simp only [updL]
  refine evC_fact (fun H hs => txI_sats hs.tail) fun hT => ?_
  have hT' := hT
  obtain ⟨h1, h2, h3, h4, h5, h6, h7, h8, h9⟩ := hT'
  by_cases hlt : j < ls.length ∧ j < 80
  · obtain ⟨hlt, h80⟩ := hlt
    obtain ⟨y, hy, hd⟩ := at_drop (l := ls) (j := j) (by omega)
    have hyn := hps y (List.mem_of_getElem? hy)
    by_cases hz : 600 < y.s.size
    · repeat' (first
        | (show evG _ _ _ _ _ _ _; first | refine G_andNot0 ?_ | refine G_andNot1 ?_ | refine G_add64 ?_ | refine G_sub64 ?_ | refine G_mul64 ?_ | refine G_quo ?_ | refine G_rem ?_ | refine G_shl8 ?_ | refine G_orb ?_ | refine G_shr ?_ | refine G_pure0 ?_ | refine G_load ?_ | refine evG_nil ?_ | refine G_br ?_ ?_ | refine G_field ?_ | refine G_pure ?_ | refine G_store ?_ | refine G_loadV ?_ | refine G_loadV0 ?_ | refine G_loadV2 ?_ | (refine G_append ?_; intro _ _) | (refine G_appendN ?_; intro _ _) | refine G_not ?_ | refine G_index ?_ | refine G_indexA ?_ | refine G_indexS ?_ | refine G_conv64 ?_ | refine G_conv8 ?_ | refine G_convu ?_ | refine G_conv ?_ | refine G_build ?_ | refine G_slh ?_ | refine G_slo ?_ | refine G_shi ?_ | refine G_cat ?_ | refine G_min ?_ | refine G_max ?_ | refine G_neg64 ?_ | refine G_eql_agg ?_ | refine G_neq_agg ?_ | refine G_bytesP ?_ | refine G_bytesstr ?_ | refine G_call ?_ | refine G_call0 ?_ | refine G_callv ?_ | refine G_callv0 ?_ | (refine G_box ?_; intro _) | (refine G_alloc ?_; intro _) | (refine G_buildSlice ?_; intro _) | (refine G_strrow ?_; intro _ _) | (refine G_indexV ?_; intro _ _ hA; subst hA) | (refine G_sliceR ?_; intro _) | (refine G_sliceO ?_; intro _) | refine G_skip ?_ | refine G_skip0 ?_)
        | (show spl _ _ _; first | refine spl_no rfl ?_ | refine spl_yes rfl ?_)
        | (show evC _ _ _ _ _; first | refine c_seq ?_ | refine c_region (by exact rfl) ?_ | refine c_cond (by exact rfl) ?_ | refine c_ret ?_ | refine c_skip ?_ | refine c_block ?_ | refine c_exit ?_  | refine c_draw (l := [(0, 0), (1, 0), (2, 0), (3, 0), (4, 0), (5, 1), (6, 0), (7, 1), (8, 0), (9, 0), (10, 0), (11, 0), (12, 1), (13, 1), (14, 0), (15, 0), (16, 0), (17, 0), (18, 1), (19, 1), (20, 2), (21, 2), (22, 0), (23, 0)]) (by decide +kernel) (by decide +kernel) (by exact rfl) ?_ | refine c_draw (by exact rfl) (by decide +kernel) (by exact rfl) ?_ | refine c_drawT (by exact rfl) (by decide +kernel) (by exact rfl) ?_ | refine c_scope ?_ | refine c_label ?_)
        | (show Br _ _ _; first | refine Br.t rfl ?_ | refine Br.f rfl ?_ | refine Br.t (beq_self_eq_true _) ?_ | refine Br.f (not_beq_self _) ?_ | refine Br.t (by assumption) ?_ | refine Br.f (by assumption) ?_ | refine Br.t (nb_f (by assumption)) ?_ | refine Br.f (nb_t (by assumption)) ?_ | (refine Br.mk (fun h => ?_) (fun h => ?_) <;> (try simp only [Bool.and_eq_true, Bool.or_eq_true, Bool.and_eq_false_iff, Bool.or_eq_false_iff, decide_eq_true_eq, decide_eq_false_iff_not, beq_iff_eq, bne_iff_ne, beq_eq_false_iff_ne, bne_eq_false_iff_eq, ne_eq, Bool.not_eq_true', Bool.not_eq_false', not_true_eq_false, not_false_eq_true, Int.not_lt, Int.not_le, gt_iff_lt, ge_iff_le] at h) <;> (try (first | contradiction | (exfalso; omega)))))
        | (show thenC _ _ _ _ _; first | refine t_n ?_ | refine t_r ?_ | refine t_e ?_)
        | (show inBlockC _ _ _ _ _; first | refine b_n ?_ | refine b_r ?_ | refine b_hit rfl ?_ | refine b_miss rfl ?_)
        | (show noGotoC _ _ _ _; first | refine g_n ?_ | refine g_r ?_ | refine g_e ?_))
      all_goals (show TurnG _ _ _ _; exact turn (n1 - 1) ⟨j + 1, l, w, en, ou, ac, se, dr, wa, by omega, by omega, by omega, hsz, hw0, hwa, hwm, rfl, rfl, rfl, rfl, rfl, rfl, rfl, trivial⟩)
    by_cases k34 : y.k = 3 ∨ y.k = 4
    · cases hr : rdI l w en ou with
      | true =>
        cases l with
        | nil =>
          repeat' (first
            | (show evG _ _ _ _ _ _ _; first | refine G_andNot0 ?_ | refine G_andNot1 ?_ | refine G_add64 ?_ | refine G_sub64 ?_ | refine G_mul64 ?_ | refine G_quo ?_ | refine G_rem ?_ | refine G_shl8 ?_ | refine G_orb ?_ | refine G_shr ?_ | refine G_pure0 ?_ | refine G_load ?_ | refine evG_nil ?_ | refine G_br ?_ ?_ | refine G_field ?_ | refine G_pure ?_ | refine G_store ?_ | refine G_loadV ?_ | refine G_loadV0 ?_ | refine G_loadV2 ?_ | (refine G_append ?_; intro _ _) | (refine G_appendN ?_; intro _ _) | refine G_not ?_ | refine G_index ?_ | refine G_indexA ?_ | refine G_indexS ?_ | refine G_conv64 ?_ | refine G_conv8 ?_ | refine G_convu ?_ | refine G_conv ?_ | refine G_build ?_ | refine G_slh ?_ | refine G_slo ?_ | refine G_shi ?_ | refine G_cat ?_ | refine G_min ?_ | refine G_max ?_ | refine G_neg64 ?_ | refine G_eql_agg ?_ | refine G_neq_agg ?_ | refine G_bytesP ?_ | refine G_bytesstr ?_ | refine G_call ?_ | refine G_call0 ?_ | refine G_callv ?_ | refine G_callv0 ?_ | (refine G_box ?_; intro _) | (refine G_alloc ?_; intro _) | (refine G_buildSlice ?_; intro _) | (refine G_strrow ?_; intro _ _) | (refine G_indexV ?_; intro _ _ hA; subst hA) | (refine G_sliceR ?_; intro _) | (refine G_sliceO ?_; intro _) | refine G_skip ?_ | refine G_skip0 ?_)
            | (show spl _ _ _; first | refine spl_no rfl ?_ | refine spl_yes rfl ?_)
            | (show evC _ _ _ _ _; first | refine c_seq ?_ | refine c_region (by exact rfl) ?_ | refine c_cond (by exact rfl) ?_ | refine c_ret ?_ | refine c_skip ?_ | refine c_block ?_ | refine c_exit ?_  | refine c_draw (l := [(0, 0), (1, 0), (2, 0), (3, 0), (4, 0), (5, 1), (6, 0), (7, 1), (8, 0), (9, 0), (10, 0), (11, 0), (12, 1), (13, 1), (14, 0), (15, 0), (16, 0), (17, 0), (18, 1), (19, 1), (20, 2), (21, 2), (22, 0), (23, 0)]) (by decide +kernel) (by decide +kernel) (by exact rfl) ?_ | refine c_draw (by exact rfl) (by decide +kernel) (by exact rfl) ?_ | refine c_drawT (by exact rfl) (by decide +kernel) (by exact rfl) ?_ | refine c_scope ?_ | refine c_label ?_)
            | (show Br _ _ _; first | refine Br.t rfl ?_ | refine Br.f rfl ?_ | refine Br.t (beq_self_eq_true _) ?_ | refine Br.f (not_beq_self _) ?_ | refine Br.t (by assumption) ?_ | refine Br.f (by assumption) ?_ | refine Br.t (nb_f (by assumption)) ?_ | refine Br.f (nb_t (by assumption)) ?_ | (refine Br.mk (fun h => ?_) (fun h => ?_) <;> (try simp only [Bool.and_eq_true, Bool.or_eq_true, Bool.and_eq_false_iff, Bool.or_eq_false_iff, decide_eq_true_eq, decide_eq_false_iff_not, beq_iff_eq, bne_iff_ne, beq_eq_false_iff_ne, bne_eq_false_iff_eq, ne_eq, Bool.not_eq_true', Bool.not_eq_false', not_true_eq_false, not_false_eq_true, Int.not_lt, Int.not_le, gt_iff_lt, ge_iff_le] at h) <;> (try (first | contradiction | (exfalso; omega)))))
            | (show thenC _ _ _ _ _; first | refine t_n ?_ | refine t_r ?_ | refine t_e ?_)
            | (show inBlockC _ _ _ _ _; first | refine b_n ?_ | refine b_r ?_ | refine b_hit rfl ?_ | refine b_miss rfl ?_)
            | (show noGotoC _ _ _ _; first | refine g_n ?_ | refine g_r ?_ | refine g_e ?_)
            | (show CallT _ 19 _ _ _; refine CA (h := txItakeE_ok hr ?_))
            | (show evG _ _ _ _ _ _ _; refine G_fieldV ?_)
            | (show CallT _ 24 _ _ _; refine CA (h := txItold_ok ?_))
            | (show CallT _ 25 _ _ _; refine CA (h := waiting_ok (by simp at h1; omega) ?_)))
          all_goals first | (exfalso; simp at h1; omega) | (show TurnG _ _ _ _; exact turn (n1 - 1) ⟨j + 1, [], w, en, true, ac, se, dr, wa, by omega, by omega, by omega, hsz, hw0, hwa, hwm, rfl, rfl, rfl, rfl, rfl, rfl, rfl, trivial⟩)
        | cons s0 l =>
          have hl1 : (s0 :: l).length = l.length + 1 := rfl
          have hw : 0 < w := by simpa [rdI] using hr
          have hs0 := hsz s0 (by simp)
          repeat' (first
            | (show evG _ _ _ _ _ _ _; first | refine G_andNot0 ?_ | refine G_andNot1 ?_ | refine G_add64 ?_ | refine G_sub64 ?_ | refine G_mul64 ?_ | refine G_quo ?_ | refine G_rem ?_ | refine G_shl8 ?_ | refine G_orb ?_ | refine G_shr ?_ | refine G_pure0 ?_ | refine G_load ?_ | refine evG_nil ?_ | refine G_br ?_ ?_ | refine G_field ?_ | refine G_pure ?_ | refine G_store ?_ | refine G_loadV ?_ | refine G_loadV0 ?_ | refine G_loadV2 ?_ | (refine G_append ?_; intro _ _) | (refine G_appendN ?_; intro _ _) | refine G_not ?_ | refine G_index ?_ | refine G_indexA ?_ | refine G_indexS ?_ | refine G_conv64 ?_ | refine G_conv8 ?_ | refine G_convu ?_ | refine G_conv ?_ | refine G_build ?_ | refine G_slh ?_ | refine G_slo ?_ | refine G_shi ?_ | refine G_cat ?_ | refine G_min ?_ | refine G_max ?_ | refine G_neg64 ?_ | refine G_eql_agg ?_ | refine G_neq_agg ?_ | refine G_bytesP ?_ | refine G_bytesstr ?_ | refine G_call ?_ | refine G_call0 ?_ | refine G_callv ?_ | refine G_callv0 ?_ | (refine G_box ?_; intro _) | (refine G_alloc ?_; intro _) | (refine G_buildSlice ?_; intro _) | (refine G_strrow ?_; intro _ _) | (refine G_indexV ?_; intro _ _ hA; subst hA) | (refine G_sliceR ?_; intro _) | (refine G_sliceO ?_; intro _) | refine G_skip ?_ | refine G_skip0 ?_)
            | (show spl _ _ _; first | refine spl_no rfl ?_ | refine spl_yes rfl ?_)
            | (show evC _ _ _ _ _; first | refine c_seq ?_ | refine c_region (by exact rfl) ?_ | refine c_cond (by exact rfl) ?_ | refine c_ret ?_ | refine c_skip ?_ | refine c_block ?_ | refine c_exit ?_  | refine c_draw (l := [(0, 0), (1, 0), (2, 0), (3, 0), (4, 0), (5, 1), (6, 0), (7, 1), (8, 0), (9, 0), (10, 0), (11, 0), (12, 1), (13, 1), (14, 0), (15, 0), (16, 0), (17, 0), (18, 1), (19, 1), (20, 2), (21, 2), (22, 0), (23, 0)]) (by decide +kernel) (by decide +kernel) (by exact rfl) ?_ | refine c_draw (by exact rfl) (by decide +kernel) (by exact rfl) ?_ | refine c_drawT (by exact rfl) (by decide +kernel) (by exact rfl) ?_ | refine c_scope ?_ | refine c_label ?_)
            | (show Br _ _ _; first | refine Br.t rfl ?_ | refine Br.f rfl ?_ | refine Br.t (beq_self_eq_true _) ?_ | refine Br.f (not_beq_self _) ?_ | refine Br.t (by assumption) ?_ | refine Br.f (by assumption) ?_ | refine Br.t (nb_f (by assumption)) ?_ | refine Br.f (nb_t (by assumption)) ?_ | (refine Br.mk (fun h => ?_) (fun h => ?_) <;> (try simp only [Bool.and_eq_true, Bool.or_eq_true, Bool.and_eq_false_iff, Bool.or_eq_false_iff, decide_eq_true_eq, decide_eq_false_iff_not, beq_iff_eq, bne_iff_ne, beq_eq_false_iff_ne, bne_eq_false_iff_eq, ne_eq, Bool.not_eq_true', Bool.not_eq_false', not_true_eq_false, not_false_eq_true, Int.not_lt, Int.not_le, gt_iff_lt, ge_iff_le] at h) <;> (try (first | contradiction | (exfalso; omega)))))
            | (show thenC _ _ _ _ _; first | refine t_n ?_ | refine t_r ?_ | refine t_e ?_)
            | (show inBlockC _ _ _ _ _; first | refine b_n ?_ | refine b_r ?_ | refine b_hit rfl ?_ | refine b_miss rfl ?_)
            | (show noGotoC _ _ _ _; first | refine g_n ?_ | refine g_r ?_ | refine g_e ?_)
            | (show CallT _ 19 _ _ _; refine CA (h := txItake_ok hw ?_))
            | (show evG _ _ _ _ _ _ _; refine G_fieldV ?_)
            | (show CallT _ 24 _ _ _; refine CA (h := txItold_ok ?_))
            | (show CallT _ 25 _ _ _; refine CA (h := waiting_ok (by omega) ?_)))
          all_goals (show TurnG _ _ _ _; exact turn (n1 - 1) ⟨j + 1, l, w - 1, en, false, ac, se + 1, dr, wa, by omega, by omega, by omega, fun z hz => hsz z (by simp [hz]), hw0, by omega, hwm, rfl, rfl, rfl, rfl, rfl, rfl, rfl, trivial⟩)
      | false =>
        repeat' (first
          | (show evG _ _ _ _ _ _ _; first | refine G_andNot0 ?_ | refine G_andNot1 ?_ | refine G_add64 ?_ | refine G_sub64 ?_ | refine G_mul64 ?_ | refine G_quo ?_ | refine G_rem ?_ | refine G_shl8 ?_ | refine G_orb ?_ | refine G_shr ?_ | refine G_pure0 ?_ | refine G_load ?_ | refine evG_nil ?_ | refine G_br ?_ ?_ | refine G_field ?_ | refine G_pure ?_ | refine G_store ?_ | refine G_loadV ?_ | refine G_loadV0 ?_ | refine G_loadV2 ?_ | (refine G_append ?_; intro _ _) | (refine G_appendN ?_; intro _ _) | refine G_not ?_ | refine G_index ?_ | refine G_indexA ?_ | refine G_indexS ?_ | refine G_conv64 ?_ | refine G_conv8 ?_ | refine G_convu ?_ | refine G_conv ?_ | refine G_build ?_ | refine G_slh ?_ | refine G_slo ?_ | refine G_shi ?_ | refine G_cat ?_ | refine G_min ?_ | refine G_max ?_ | refine G_neg64 ?_ | refine G_eql_agg ?_ | refine G_neq_agg ?_ | refine G_bytesP ?_ | refine G_bytesstr ?_ | refine G_call ?_ | refine G_call0 ?_ | refine G_callv ?_ | refine G_callv0 ?_ | (refine G_box ?_; intro _) | (refine G_alloc ?_; intro _) | (refine G_buildSlice ?_; intro _) | (refine G_strrow ?_; intro _ _) | (refine G_indexV ?_; intro _ _ hA; subst hA) | (refine G_sliceR ?_; intro _) | (refine G_sliceO ?_; intro _) | refine G_skip ?_ | refine G_skip0 ?_)
          | (show spl _ _ _; first | refine spl_no rfl ?_ | refine spl_yes rfl ?_)
          | (show evC _ _ _ _ _; first | refine c_seq ?_ | refine c_region (by exact rfl) ?_ | refine c_cond (by exact rfl) ?_ | refine c_ret ?_ | refine c_skip ?_ | refine c_block ?_ | refine c_exit ?_  | refine c_draw (l := [(0, 0), (1, 0), (2, 0), (3, 0), (4, 0), (5, 1), (6, 0), (7, 1), (8, 0), (9, 0), (10, 0), (11, 0), (12, 1), (13, 1), (14, 0), (15, 0), (16, 0), (17, 0), (18, 1), (19, 1), (20, 2), (21, 2), (22, 0), (23, 0)]) (by decide +kernel) (by decide +kernel) (by exact rfl) ?_ | refine c_draw (by exact rfl) (by decide +kernel) (by exact rfl) ?_ | refine c_drawT (by exact rfl) (by decide +kernel) (by exact rfl) ?_ | refine c_scope ?_ | refine c_label ?_)
          | (show Br _ _ _; first | refine Br.t rfl ?_ | refine Br.f rfl ?_ | refine Br.t (beq_self_eq_true _) ?_ | refine Br.f (not_beq_self _) ?_ | refine Br.t (by assumption) ?_ | refine Br.f (by assumption) ?_ | refine Br.t (nb_f (by assumption)) ?_ | refine Br.f (nb_t (by assumption)) ?_ | (refine Br.mk (fun h => ?_) (fun h => ?_) <;> (try simp only [Bool.and_eq_true, Bool.or_eq_true, Bool.and_eq_false_iff, Bool.or_eq_false_iff, decide_eq_true_eq, decide_eq_false_iff_not, beq_iff_eq, bne_iff_ne, beq_eq_false_iff_ne, bne_eq_false_iff_eq, ne_eq, Bool.not_eq_true', Bool.not_eq_false', not_true_eq_false, not_false_eq_true, Int.not_lt, Int.not_le, gt_iff_lt, ge_iff_le] at h) <;> (try (first | contradiction | (exfalso; omega)))))
          | (show thenC _ _ _ _ _; first | refine t_n ?_ | refine t_r ?_ | refine t_e ?_)
          | (show inBlockC _ _ _ _ _; first | refine b_n ?_ | refine b_r ?_ | refine b_hit rfl ?_ | refine b_miss rfl ?_)
          | (show noGotoC _ _ _ _; first | refine g_n ?_ | refine g_r ?_ | refine g_e ?_)
          | (show CallT _ 19 _ _ _; refine CA (h := txItakeN_ok hr ?_))
          | (show evG _ _ _ _ _ _ _; refine G_fieldV ?_)
          | (show CallT _ 24 _ _ _; refine CA (h := txItold_ok ?_))
          | (show CallT _ 25 _ _ _; refine CA (h := waiting_ok (by omega) ?_)))
        all_goals (show TurnG _ _ _ _; exact turn (n1 - 1) ⟨j + 1, l, w, en, ou, ac, se, dr, wa, by omega, by omega, by omega, hsz, hw0, hwa, hwm, rfl, rfl, rfl, rfl, rfl, rfl, rfl, trivial⟩)
    by_cases k56 : y.k = 5 ∨ y.k = 6
    · by_cases hn : y.n < 1
      · repeat' (first
          | (show evG _ _ _ _ _ _ _; first | refine G_andNot0 ?_ | refine G_andNot1 ?_ | refine G_add64 ?_ | refine G_sub64 ?_ | refine G_mul64 ?_ | refine G_quo ?_ | refine G_rem ?_ | refine G_shl8 ?_ | refine G_orb ?_ | refine G_shr ?_ | refine G_pure0 ?_ | refine G_load ?_ | refine evG_nil ?_ | refine G_br ?_ ?_ | refine G_field ?_ | refine G_pure ?_ | refine G_store ?_ | refine G_loadV ?_ | refine G_loadV0 ?_ | refine G_loadV2 ?_ | (refine G_append ?_; intro _ _) | (refine G_appendN ?_; intro _ _) | refine G_not ?_ | refine G_index ?_ | refine G_indexA ?_ | refine G_indexS ?_ | refine G_conv64 ?_ | refine G_conv8 ?_ | refine G_convu ?_ | refine G_conv ?_ | refine G_build ?_ | refine G_slh ?_ | refine G_slo ?_ | refine G_shi ?_ | refine G_cat ?_ | refine G_min ?_ | refine G_max ?_ | refine G_neg64 ?_ | refine G_eql_agg ?_ | refine G_neq_agg ?_ | refine G_bytesP ?_ | refine G_bytesstr ?_ | refine G_call ?_ | refine G_call0 ?_ | refine G_callv ?_ | refine G_callv0 ?_ | (refine G_box ?_; intro _) | (refine G_alloc ?_; intro _) | (refine G_buildSlice ?_; intro _) | (refine G_strrow ?_; intro _ _) | (refine G_indexV ?_; intro _ _ hA; subst hA) | (refine G_sliceR ?_; intro _) | (refine G_sliceO ?_; intro _) | refine G_skip ?_ | refine G_skip0 ?_)
          | (show spl _ _ _; first | refine spl_no rfl ?_ | refine spl_yes rfl ?_)
          | (show evC _ _ _ _ _; first | refine c_seq ?_ | refine c_region (by exact rfl) ?_ | refine c_cond (by exact rfl) ?_ | refine c_ret ?_ | refine c_skip ?_ | refine c_block ?_ | refine c_exit ?_  | refine c_draw (l := [(0, 0), (1, 0), (2, 0), (3, 0), (4, 0), (5, 1), (6, 0), (7, 1), (8, 0), (9, 0), (10, 0), (11, 0), (12, 1), (13, 1), (14, 0), (15, 0), (16, 0), (17, 0), (18, 1), (19, 1), (20, 2), (21, 2), (22, 0), (23, 0)]) (by decide +kernel) (by decide +kernel) (by exact rfl) ?_ | refine c_draw (by exact rfl) (by decide +kernel) (by exact rfl) ?_ | refine c_drawT (by exact rfl) (by decide +kernel) (by exact rfl) ?_ | refine c_scope ?_ | refine c_label ?_)
          | (show Br _ _ _; first | refine Br.t rfl ?_ | refine Br.f rfl ?_ | refine Br.t (beq_self_eq_true _) ?_ | refine Br.f (not_beq_self _) ?_ | refine Br.t (by assumption) ?_ | refine Br.f (by assumption) ?_ | refine Br.t (nb_f (by assumption)) ?_ | refine Br.f (nb_t (by assumption)) ?_ | (refine Br.mk (fun h => ?_) (fun h => ?_) <;> (try simp only [Bool.and_eq_true, Bool.or_eq_true, Bool.and_eq_false_iff, Bool.or_eq_false_iff, decide_eq_true_eq, decide_eq_false_iff_not, beq_iff_eq, bne_iff_ne, beq_eq_false_iff_ne, bne_eq_false_iff_eq, ne_eq, Bool.not_eq_true', Bool.not_eq_false', not_true_eq_false, not_false_eq_true, Int.not_lt, Int.not_le, gt_iff_lt, ge_iff_le] at h) <;> (try (first | contradiction | (exfalso; omega)))))
          | (show thenC _ _ _ _ _; first | refine t_n ?_ | refine t_r ?_ | refine t_e ?_)
          | (show inBlockC _ _ _ _ _; first | refine b_n ?_ | refine b_r ?_ | refine b_hit rfl ?_ | refine b_miss rfl ?_)
          | (show noGotoC _ _ _ _; first | refine g_n ?_ | refine g_r ?_ | refine g_e ?_)
          | (show CallT _ 20 _ _ _; refine CA (h := txIwantX_ok hn ?_))
          | (show evG _ _ _ _ _ _ _; refine G_fieldV ?_)
          | (show CallT _ 24 _ _ _; refine CA (h := txItold_ok ?_))
          | (show CallT _ 25 _ _ _; refine CA (h := waiting_ok (by omega) ?_)))
        all_goals (show TurnG _ _ _ _; exact turn (n1 - 1) ⟨j + 1, l, w, en, ou, ac, se, dr, wa, by omega, by omega, by omega, hsz, hw0, hwa, hwm, rfl, rfl, rfl, rfl, rfl, rfl, rfl, trivial⟩)
      · repeat' (first
          | (show evG _ _ _ _ _ _ _; first | refine G_andNot0 ?_ | refine G_andNot1 ?_ | refine G_add64 ?_ | refine G_sub64 ?_ | refine G_mul64 ?_ | refine G_quo ?_ | refine G_rem ?_ | refine G_shl8 ?_ | refine G_orb ?_ | refine G_shr ?_ | refine G_pure0 ?_ | refine G_load ?_ | refine evG_nil ?_ | refine G_br ?_ ?_ | refine G_field ?_ | refine G_pure ?_ | refine G_store ?_ | refine G_loadV ?_ | refine G_loadV0 ?_ | refine G_loadV2 ?_ | (refine G_append ?_; intro _ _) | (refine G_appendN ?_; intro _ _) | refine G_not ?_ | refine G_index ?_ | refine G_indexA ?_ | refine G_indexS ?_ | refine G_conv64 ?_ | refine G_conv8 ?_ | refine G_convu ?_ | refine G_conv ?_ | refine G_build ?_ | refine G_slh ?_ | refine G_slo ?_ | refine G_shi ?_ | refine G_cat ?_ | refine G_min ?_ | refine G_max ?_ | refine G_neg64 ?_ | refine G_eql_agg ?_ | refine G_neq_agg ?_ | refine G_bytesP ?_ | refine G_bytesstr ?_ | refine G_call ?_ | refine G_call0 ?_ | refine G_callv ?_ | refine G_callv0 ?_ | (refine G_box ?_; intro _) | (refine G_alloc ?_; intro _) | (refine G_buildSlice ?_; intro _) | (refine G_strrow ?_; intro _ _) | (refine G_indexV ?_; intro _ _ hA; subst hA) | (refine G_sliceR ?_; intro _) | (refine G_sliceO ?_; intro _) | refine G_skip ?_ | refine G_skip0 ?_)
          | (show spl _ _ _; first | refine spl_no rfl ?_ | refine spl_yes rfl ?_)
          | (show evC _ _ _ _ _; first | refine c_seq ?_ | refine c_region (by exact rfl) ?_ | refine c_cond (by exact rfl) ?_ | refine c_ret ?_ | refine c_skip ?_ | refine c_block ?_ | refine c_exit ?_  | refine c_draw (l := [(0, 0), (1, 0), (2, 0), (3, 0), (4, 0), (5, 1), (6, 0), (7, 1), (8, 0), (9, 0), (10, 0), (11, 0), (12, 1), (13, 1), (14, 0), (15, 0), (16, 0), (17, 0), (18, 1), (19, 1), (20, 2), (21, 2), (22, 0), (23, 0)]) (by decide +kernel) (by decide +kernel) (by exact rfl) ?_ | refine c_draw (by exact rfl) (by decide +kernel) (by exact rfl) ?_ | refine c_drawT (by exact rfl) (by decide +kernel) (by exact rfl) ?_ | refine c_scope ?_ | refine c_label ?_)
          | (show Br _ _ _; first | refine Br.t rfl ?_ | refine Br.f rfl ?_ | refine Br.t (beq_self_eq_true _) ?_ | refine Br.f (not_beq_self _) ?_ | refine Br.t (by assumption) ?_ | refine Br.f (by assumption) ?_ | refine Br.t (nb_f (by assumption)) ?_ | refine Br.f (nb_t (by assumption)) ?_ | (refine Br.mk (fun h => ?_) (fun h => ?_) <;> (try simp only [Bool.and_eq_true, Bool.or_eq_true, Bool.and_eq_false_iff, Bool.or_eq_false_iff, decide_eq_true_eq, decide_eq_false_iff_not, beq_iff_eq, bne_iff_ne, beq_eq_false_iff_ne, bne_eq_false_iff_eq, ne_eq, Bool.not_eq_true', Bool.not_eq_false', not_true_eq_false, not_false_eq_true, Int.not_lt, Int.not_le, gt_iff_lt, ge_iff_le] at h) <;> (try (first | contradiction | (exfalso; omega)))))
          | (show thenC _ _ _ _ _; first | refine t_n ?_ | refine t_r ?_ | refine t_e ?_)
          | (show inBlockC _ _ _ _ _; first | refine b_n ?_ | refine b_r ?_ | refine b_hit rfl ?_ | refine b_miss rfl ?_)
          | (show noGotoC _ _ _ _; first | refine g_n ?_ | refine g_r ?_ | refine g_e ?_)
          | (show CallT _ 20 _ _ _; refine CA (h := txIwant_ok (by omega) ?_))
          | (show evG _ _ _ _ _ _ _; refine G_fieldV ?_)
          | (show CallT _ 24 _ _ _; refine CA (h := txItold_ok ?_))
          | (show CallT _ 25 _ _ _; refine CA (h := waiting_ok (by omega) ?_)))
        all_goals (show TurnG _ _ _ _; exact turn (n1 - 1) ⟨j + 1, l, w + min y.n (2147483647 - w), en, ou, ac, se, dr, _, by omega, by omega, by omega, hsz, by omega, by omega, by omega, rfl, rfl, rfl, rfl, rfl, rfl, rfl, trivial⟩)
    by_cases k7 : y.k = 7
    · repeat' (first
        | (show evG _ _ _ _ _ _ _; first | refine G_andNot0 ?_ | refine G_andNot1 ?_ | refine G_add64 ?_ | refine G_sub64 ?_ | refine G_mul64 ?_ | refine G_quo ?_ | refine G_rem ?_ | refine G_shl8 ?_ | refine G_orb ?_ | refine G_shr ?_ | refine G_pure0 ?_ | refine G_load ?_ | refine evG_nil ?_ | refine G_br ?_ ?_ | refine G_field ?_ | refine G_pure ?_ | refine G_store ?_ | refine G_loadV ?_ | refine G_loadV0 ?_ | refine G_loadV2 ?_ | (refine G_append ?_; intro _ _) | (refine G_appendN ?_; intro _ _) | refine G_not ?_ | refine G_index ?_ | refine G_indexA ?_ | refine G_indexS ?_ | refine G_conv64 ?_ | refine G_conv8 ?_ | refine G_convu ?_ | refine G_conv ?_ | refine G_build ?_ | refine G_slh ?_ | refine G_slo ?_ | refine G_shi ?_ | refine G_cat ?_ | refine G_min ?_ | refine G_max ?_ | refine G_neg64 ?_ | refine G_eql_agg ?_ | refine G_neq_agg ?_ | refine G_bytesP ?_ | refine G_bytesstr ?_ | refine G_call ?_ | refine G_call0 ?_ | refine G_callv ?_ | refine G_callv0 ?_ | (refine G_box ?_; intro _) | (refine G_alloc ?_; intro _) | (refine G_buildSlice ?_; intro _) | (refine G_strrow ?_; intro _ _) | (refine G_indexV ?_; intro _ _ hA; subst hA) | (refine G_sliceR ?_; intro _) | (refine G_sliceO ?_; intro _) | refine G_skip ?_ | refine G_skip0 ?_)
        | (show spl _ _ _; first | refine spl_no rfl ?_ | refine spl_yes rfl ?_)
        | (show evC _ _ _ _ _; first | refine c_seq ?_ | refine c_region (by exact rfl) ?_ | refine c_cond (by exact rfl) ?_ | refine c_ret ?_ | refine c_skip ?_ | refine c_block ?_ | refine c_exit ?_  | refine c_draw (l := [(0, 0), (1, 0), (2, 0), (3, 0), (4, 0), (5, 1), (6, 0), (7, 1), (8, 0), (9, 0), (10, 0), (11, 0), (12, 1), (13, 1), (14, 0), (15, 0), (16, 0), (17, 0), (18, 1), (19, 1), (20, 2), (21, 2), (22, 0), (23, 0)]) (by decide +kernel) (by decide +kernel) (by exact rfl) ?_ | refine c_draw (by exact rfl) (by decide +kernel) (by exact rfl) ?_ | refine c_drawT (by exact rfl) (by decide +kernel) (by exact rfl) ?_ | refine c_scope ?_ | refine c_label ?_)
        | (show Br _ _ _; first | refine Br.t rfl ?_ | refine Br.f rfl ?_ | refine Br.t (beq_self_eq_true _) ?_ | refine Br.f (not_beq_self _) ?_ | refine Br.t (by assumption) ?_ | refine Br.f (by assumption) ?_ | refine Br.t (nb_f (by assumption)) ?_ | refine Br.f (nb_t (by assumption)) ?_ | (refine Br.mk (fun h => ?_) (fun h => ?_) <;> (try simp only [Bool.and_eq_true, Bool.or_eq_true, Bool.and_eq_false_iff, Bool.or_eq_false_iff, decide_eq_true_eq, decide_eq_false_iff_not, beq_iff_eq, bne_iff_ne, beq_eq_false_iff_ne, bne_eq_false_iff_eq, ne_eq, Bool.not_eq_true', Bool.not_eq_false', not_true_eq_false, not_false_eq_true, Int.not_lt, Int.not_le, gt_iff_lt, ge_iff_le] at h) <;> (try (first | contradiction | (exfalso; omega)))))
        | (show thenC _ _ _ _ _; first | refine t_n ?_ | refine t_r ?_ | refine t_e ?_)
        | (show inBlockC _ _ _ _ _; first | refine b_n ?_ | refine b_r ?_ | refine b_hit rfl ?_ | refine b_miss rfl ?_)
        | (show noGotoC _ _ _ _; first | refine g_n ?_ | refine g_r ?_ | refine g_e ?_)
        | (show CallT _ 21 _ _ _; refine CA (h := txIend_ok ?_))
        | (show evG _ _ _ _ _ _ _; refine G_fieldV ?_)
        | (show CallT _ 24 _ _ _; refine CA (h := txItold_ok ?_))
        | (show CallT _ 25 _ _ _; refine CA (h := waiting_ok (by omega) ?_)))
      all_goals (show TurnG _ _ _ _; exact turn (n1 - 1) ⟨j + 1, l, w, true, ou, ac, se, dr, wa, by omega, by omega, by omega, hsz, hw0, hwa, hwm, rfl, rfl, rfl, rfl, rfl, rfl, rfl, trivial⟩)
    repeat' (first
      | (show evG _ _ _ _ _ _ _; first | refine G_andNot0 ?_ | refine G_andNot1 ?_ | refine G_add64 ?_ | refine G_sub64 ?_ | refine G_mul64 ?_ | refine G_quo ?_ | refine G_rem ?_ | refine G_shl8 ?_ | refine G_orb ?_ | refine G_shr ?_ | refine G_pure0 ?_ | refine G_load ?_ | refine evG_nil ?_ | refine G_br ?_ ?_ | refine G_field ?_ | refine G_pure ?_ | refine G_store ?_ | refine G_loadV ?_ | refine G_loadV0 ?_ | refine G_loadV2 ?_ | (refine G_append ?_; intro _ _) | (refine G_appendN ?_; intro _ _) | refine G_not ?_ | refine G_index ?_ | refine G_indexA ?_ | refine G_indexS ?_ | refine G_conv64 ?_ | refine G_conv8 ?_ | refine G_convu ?_ | refine G_conv ?_ | refine G_build ?_ | refine G_slh ?_ | refine G_slo ?_ | refine G_shi ?_ | refine G_cat ?_ | refine G_min ?_ | refine G_max ?_ | refine G_neg64 ?_ | refine G_eql_agg ?_ | refine G_neq_agg ?_ | refine G_bytesP ?_ | refine G_bytesstr ?_ | refine G_call ?_ | refine G_call0 ?_ | refine G_callv ?_ | refine G_callv0 ?_ | (refine G_box ?_; intro _) | (refine G_alloc ?_; intro _) | (refine G_buildSlice ?_; intro _) | (refine G_strrow ?_; intro _ _) | (refine G_indexV ?_; intro _ _ hA; subst hA) | (refine G_sliceR ?_; intro _) | (refine G_sliceO ?_; intro _) | refine G_skip ?_ | refine G_skip0 ?_)
      | (show spl _ _ _; first | refine spl_no rfl ?_ | refine spl_yes rfl ?_)
      | (show evC _ _ _ _ _; first | refine c_seq ?_ | refine c_region (by exact rfl) ?_ | refine c_cond (by exact rfl) ?_ | refine c_ret ?_ | refine c_skip ?_ | refine c_block ?_ | refine c_exit ?_  | refine c_draw (l := [(0, 0), (1, 0), (2, 0), (3, 0), (4, 0), (5, 1), (6, 0), (7, 1), (8, 0), (9, 0), (10, 0), (11, 0), (12, 1), (13, 1), (14, 0), (15, 0), (16, 0), (17, 0), (18, 1), (19, 1), (20, 2), (21, 2), (22, 0), (23, 0)]) (by decide +kernel) (by decide +kernel) (by exact rfl) ?_ | refine c_draw (by exact rfl) (by decide +kernel) (by exact rfl) ?_ | refine c_drawT (by exact rfl) (by decide +kernel) (by exact rfl) ?_ | refine c_scope ?_ | refine c_label ?_)
      | (show Br _ _ _; first | refine Br.t rfl ?_ | refine Br.f rfl ?_ | refine Br.t (beq_self_eq_true _) ?_ | refine Br.f (not_beq_self _) ?_ | refine Br.t (by assumption) ?_ | refine Br.f (by assumption) ?_ | refine Br.t (nb_f (by assumption)) ?_ | refine Br.f (nb_t (by assumption)) ?_ | (refine Br.mk (fun h => ?_) (fun h => ?_) <;> (try simp only [Bool.and_eq_true, Bool.or_eq_true, Bool.and_eq_false_iff, Bool.or_eq_false_iff, decide_eq_true_eq, decide_eq_false_iff_not, beq_iff_eq, bne_iff_ne, beq_eq_false_iff_ne, bne_eq_false_iff_eq, ne_eq, Bool.not_eq_true', Bool.not_eq_false', not_true_eq_false, not_false_eq_true, Int.not_lt, Int.not_le, gt_iff_lt, ge_iff_le] at h) <;> (try (first | contradiction | (exfalso; omega)))))
      | (show thenC _ _ _ _ _; first | refine t_n ?_ | refine t_r ?_ | refine t_e ?_)
      | (show inBlockC _ _ _ _ _; first | refine b_n ?_ | refine b_r ?_ | refine b_hit rfl ?_ | refine b_miss rfl ?_)
      | (show noGotoC _ _ _ _; first | refine g_n ?_ | refine g_r ?_ | refine g_e ?_)
      | (show CallT _ 22 _ _ _; refine CA (h := txIoff_ok (by omega) (fun v e l2 ac2 dr2 hO hac2 hT2 => ?_)))
      | (show evG _ _ _ _ _ _ _; refine G_fieldV ?_)
      | (show CallT _ 24 _ _ _; refine CA (h := txItold_ok ?_))
      | (show CallT _ 25 _ _ _; refine CA (h := waiting_ok (by obtain ⟨g1, g2, g3, g4, g5, g6, g7, g8, g9⟩ := hT2; omega) ?_)))
    all_goals first
      | (exfalso; obtain ⟨g1, g2, g3, g4, g5, g6, g7, g8, g9⟩ := hT2; omega)
      | (show TurnG _ _ _ _; exact turn (n1 - 1) ⟨j + 1, l2, w, en, ou, ac2, se, dr2, wa, by omega, by omega, by omega, offR_mem hO hsz, hw0, hwa, hwm, rfl, rfl, rfl, rfl, rfl, rfl, rfl, trivial⟩)
  · repeat' (first
      | (show evG _ _ _ _ _ _ _; first | refine G_andNot0 ?_ | refine G_andNot1 ?_ | refine G_add64 ?_ | refine G_sub64 ?_ | refine G_mul64 ?_ | refine G_quo ?_ | refine G_rem ?_ | refine G_shl8 ?_ | refine G_orb ?_ | refine G_shr ?_ | refine G_pure0 ?_ | refine G_load ?_ | refine evG_nil ?_ | refine G_br ?_ ?_ | refine G_field ?_ | refine G_pure ?_ | refine G_store ?_ | refine G_loadV ?_ | refine G_loadV0 ?_ | refine G_loadV2 ?_ | (refine G_append ?_; intro _ _) | (refine G_appendN ?_; intro _ _) | refine G_not ?_ | refine G_index ?_ | refine G_indexA ?_ | refine G_indexS ?_ | refine G_conv64 ?_ | refine G_conv8 ?_ | refine G_convu ?_ | refine G_conv ?_ | refine G_build ?_ | refine G_slh ?_ | refine G_slo ?_ | refine G_shi ?_ | refine G_cat ?_ | refine G_min ?_ | refine G_max ?_ | refine G_neg64 ?_ | refine G_eql_agg ?_ | refine G_neq_agg ?_ | refine G_bytesP ?_ | refine G_bytesstr ?_ | refine G_call ?_ | refine G_call0 ?_ | refine G_callv ?_ | refine G_callv0 ?_ | (refine G_box ?_; intro _) | (refine G_alloc ?_; intro _) | (refine G_buildSlice ?_; intro _) | (refine G_strrow ?_; intro _ _) | (refine G_indexV ?_; intro _ _ hA; subst hA) | (refine G_sliceR ?_; intro _) | (refine G_sliceO ?_; intro _) | refine G_skip ?_ | refine G_skip0 ?_)
      | (show spl _ _ _; first | refine spl_no rfl ?_ | refine spl_yes rfl ?_)
      | (show evC _ _ _ _ _; first | refine c_seq ?_ | refine c_region (by exact rfl) ?_ | refine c_cond (by exact rfl) ?_ | refine c_ret ?_ | refine c_skip ?_ | refine c_block ?_ | refine c_exit ?_  | refine c_draw (l := [(0, 0), (1, 0), (2, 0), (3, 0), (4, 0), (5, 1), (6, 0), (7, 1), (8, 0), (9, 0), (10, 0), (11, 0), (12, 1), (13, 1), (14, 0), (15, 0), (16, 0), (17, 0), (18, 1), (19, 1), (20, 2), (21, 2), (22, 0), (23, 0)]) (by decide +kernel) (by decide +kernel) (by exact rfl) ?_ | refine c_draw (by exact rfl) (by decide +kernel) (by exact rfl) ?_ | refine c_drawT (by exact rfl) (by decide +kernel) (by exact rfl) ?_ | refine c_scope ?_ | refine c_label ?_)
      | (show Br _ _ _; first | refine Br.t rfl ?_ | refine Br.f rfl ?_ | refine Br.t (beq_self_eq_true _) ?_ | refine Br.f (not_beq_self _) ?_ | refine Br.t (by assumption) ?_ | refine Br.f (by assumption) ?_ | refine Br.t (nb_f (by assumption)) ?_ | refine Br.f (nb_t (by assumption)) ?_ | (refine Br.mk (fun h => ?_) (fun h => ?_) <;> (try simp only [Bool.and_eq_true, Bool.or_eq_true, Bool.and_eq_false_iff, Bool.or_eq_false_iff, decide_eq_true_eq, decide_eq_false_iff_not, beq_iff_eq, bne_iff_ne, beq_eq_false_iff_ne, bne_eq_false_iff_eq, ne_eq, Bool.not_eq_true', Bool.not_eq_false', not_true_eq_false, not_false_eq_true, Int.not_lt, Int.not_le, gt_iff_lt, ge_iff_le] at h) <;> (try (first | contradiction | (exfalso; omega)))))
      | (show thenC _ _ _ _ _; first | refine t_n ?_ | refine t_r ?_ | refine t_e ?_)
      | (show inBlockC _ _ _ _ _; first | refine b_n ?_ | refine b_r ?_ | refine b_hit rfl ?_ | refine b_miss rfl ?_)
      | (show noGotoC _ _ _ _; first | refine g_n ?_ | refine g_r ?_ | refine g_e ?_))
    all_goals (show retC _ _ _ _ _ _; refine RETC ?_; exact ret_done (hK _))
end
end Go.Proofs.Ytbmkghbjooobeaa
