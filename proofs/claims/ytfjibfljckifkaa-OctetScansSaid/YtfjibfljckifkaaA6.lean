/- The laws of octet, one by one: lemmas; each with the conditions that it states. -/
import Derived.Test.YtfjibfljckifkaaA10
namespace Go.Proofs.Ytfjibfljckifkaa
open Go Go.Proofs Go.Sl
set_option maxRecDepth 100000
set_option maxHeartbeats 4000000
set_option linter.unusedSimpArgs false
set_option linter.unusedVariables false
attribute [local irreducible] evG evC spl thenC inBlockC noGotoC CallT retC RetG TurnG CutG pt ro exP star sep pureP
variable {R C : List HP} {K : Value → List HP → Prop}
structure Part where
  n : Int
  num : Bool
  all : Bool
def partD : List Value → Option Part
  | [.int .i64 n, .bool b, .bool c] => some ⟨n, b, c⟩
  | _ => none
theorem partD_ok (cs : List Value) (y : Part) (h : partD cs = some y) : [.int .i64 y.n, .bool y.num, .bool y.all] = cs := by
  unfold partD at h
  split at h
  · cases h; rfl
  · cases h
def partC : Cod Part := { enc := fun p => [.int .i64 p.n, .bool p.num, .bool p.all], sz := 3, dec := partD, len := fun _ => rfl, one := fun _ => rfl, ok := partD_ok }
theorem takeX_ok {p : Nat} {n : Int} {s : ByteArray} {bad : Bool} (h : takeOk n s bad = false) (hK : K (.string ⟨#[]⟩) (scanP p s true :: R)) : CallT Try.prog 26 #[.pointer (some ⟨p, 0, none⟩), .int .i64 n] (scanP p s bad :: R) K := by
  refine take_ok ?_
  unfold takeS takeR
  rw [h]; exact hK
theorem restX_ok {p : Nat} {s : ByteArray} {bad : Bool} (h : takeOk s.size s bad = false) (hK : K (.string ⟨#[]⟩) (scanP p s true :: R)) : CallT Try.prog 23 #[.pointer (some ⟨p, 0, none⟩)] (scanP p s bad :: R) K := by
  refine rest_ok ?_
  unfold takeS takeR
  rw [h]; exact hK
theorem UX_ok {p : Nat} {n : Int} {s : ByteArray} {bad : Bool} (h : takeOk (uW n) s bad = false) (hK : K (.int .i64 0) (scanP p s true :: R)) : CallT Try.prog 24 #[.pointer (some ⟨p, 0, none⟩), .int .i64 n] (scanP p s bad :: R) K := by
  refine U_ok ?_
  unfold uN takeS takeR
  rw [h]; exact hK
theorem sc_take {s : ByteArray} {at_ n : Int} (h0 : 0 ≤ at_) (h1 : 0 ≤ n) (h2 : at_ + n ≤ s.size) : takeOk n (s.extract at_.toNat s.size) false = true ∧ takeS n (s.extract at_.toNat s.size) false = s.extract at_.toNat (at_ + n).toNat ∧ takeR n (s.extract at_.toNat s.size) false = s.extract (at_ + n).toNat s.size := by
  have hok : takeOk n (s.extract at_.toNat s.size) false = true := by
    unfold takeOk
    simp
    omega
  refine ⟨hok, ?_, ?_⟩
  · unfold takeS
    rw [hok]
    apply ba_ext
    simp
    congr 1
    omega
  · unfold takeR
    rw [hok]
    apply ba_ext
    simp
    have e : at_.toNat + n.toNat = (at_ + n).toNat := by omega
    rw [e]
    congr 1
    omega
theorem sc_no {u : ByteArray} {n : Int} {bad : Bool} (h : bad = true ∨ n < 0 ∨ u.size < n) : takeOk n u bad = false := by
  unfold takeOk
  rcases h with rfl | h | h
  · rfl
  · simp; intro; omega
  · simp; intro; omega
theorem octetScans_ok {s : ByteArray} {A : Option Addr} {n c : Nat} {ps : List Part} (hn : ps.length = n) (hn2 : n < 1000000000000000) (hs : s.size < 1000000000000000) (hr : ∀ p ∈ ps, -9223372036854775808 ≤ p.n ∧ p.n ≤ 9223372036854775807) :
    CallT Try.prog 6 #[.string s, .slice A n c] (rrow A partC ps :: R) (fun v _ => v = .bool true) := by
  refine callT_intro mixed Try.func6 rfl (by decide) (by decide +kernel) (by exact Nat.le_of_ble_eq_true rfl) ?_
  repeat' (first
    | (show evG _ _ _ _ _ _ _; first | refine G_add64 ?_ | refine G_sub64 ?_ | refine G_mul64 ?_ | refine G_quo ?_ | refine G_rem ?_ | refine G_shl8 ?_ | refine G_orb ?_ | refine G_shr ?_ | refine G_pure0 ?_ | refine G_load ?_ | refine evG_nil ?_ | refine G_field ?_ | refine G_pure ?_ | refine G_store ?_ | refine G_loadV ?_ | refine G_loadV0 ?_ | refine G_loadV2 ?_ | (refine G_append ?_; intro _ _) | (refine G_appendN ?_; intro _ _) | refine G_not ?_ | refine G_index ?_ | refine G_indexA ?_ | refine G_indexS ?_ | refine G_conv64 ?_ | refine G_conv8 ?_ | refine G_convu ?_ | refine G_conv ?_ | refine G_build ?_ | refine G_slh ?_ | refine G_slo ?_ | refine G_shi ?_ | refine G_cat ?_ | refine G_min ?_ | refine G_max ?_ | refine G_neg64 ?_ | refine G_eql_agg ?_ | refine G_neq_agg ?_ | refine G_bytesP ?_ | refine G_bytesstr ?_ | refine G_call ?_ | refine G_call0 ?_ | refine G_callv ?_ | refine G_callv0 ?_ | (refine G_box ?_; intro _) | (refine G_alloc ?_; intro _) | (refine G_buildSlice ?_; intro _) | (refine G_strrow ?_; intro _ _) | (refine G_indexV ?_; intro _ _ hA; subst hA) | (refine G_sliceR ?_; intro _) | (refine G_sliceO ?_; intro _) | refine G_skip ?_ | refine G_skip0 ?_)
    | (show spl _ _ _; first | refine spl_no rfl ?_ | refine spl_yes rfl ?_)
    | (show evC _ _ _ _ _; first | refine c_seq ?_ | refine c_region (by exact rfl) ?_ | refine c_cond (by exact rfl) ?_ | refine c_ret ?_ | refine c_skip ?_ | refine c_block ?_ | refine c_exit ?_ | refine c_draw (by exact rfl) (by decide +kernel) (by exact rfl) ?_ | refine c_scope ?_ | refine c_label ?_)
    | (show Br _ _ _; first | refine Br.t rfl ?_ | refine Br.f rfl ?_ | refine Br.t (beq_self_eq_true _) ?_ | refine Br.f (not_beq_self _) ?_ | refine Br.t (by assumption) ?_ | refine Br.f (by assumption) ?_ | (refine Br.mk (fun h => ?_) (fun h => ?_) <;> (try simp only [decide_eq_true_eq, decide_eq_false_iff_not, beq_iff_eq, bne_iff_ne, beq_eq_false_iff_ne, bne_eq_false_iff_eq, ne_eq, Bool.not_eq_true', Bool.not_eq_false', not_true_eq_false, not_false_eq_true, Int.not_lt, Int.not_le, gt_iff_lt, ge_iff_le] at h) <;> (try (first | contradiction | (exfalso; omega)))))
    | (show thenC _ _ _ _ _; first | refine t_n ?_ | refine t_r ?_ | refine t_e ?_)
    | (show inBlockC _ _ _ _ _; first | refine b_n ?_ | refine b_r ?_ | refine b_hit rfl ?_ | refine b_miss rfl ?_)
    | (show noGotoC _ _ _ _; first | refine g_n ?_ | refine g_r ?_ | refine g_e ?_)
    | (show CallT _ 22 _ _ _; refine CA (h := over_ok _ (fun p => ?_))))
  refine LOOP (fun m a C' => ∃ (j : Nat) (at_ : Int) (bad : Bool) (u : ByteArray), j + m = n ∧ 0 ≤ at_ ∧ at_ ≤ s.size ∧ u = s.extract at_.toNat s.size ∧ C' = scanP p u bad :: rrow A partC ps :: R ∧ Agree a [(0, .string s), (1, .slice A n c), (5, .pointer (some ⟨p, 0, none⟩)), (6, .int .i64 at_), (7, .bool bad), (8, .int .i64 j)]) n
    (turn n ⟨0, 0, false, s, by omega, by omega, by omega, ba_ext (by simp), rfl, rfl, rfl, rfl, rfl, rfl, rfl, trivial⟩) ?_
  rintro n1 a C' ⟨j, at_, bad, u, hj, h0, h1, hu, rfl, ha⟩
  refine c_fr _ ha ?_
  simp only [updL]
  have hus : u.size = s.size - at_.toNat := by rw [hu]; simp
  by_cases hlt : j < n
  · obtain ⟨q, hp, _⟩ := at_drop (l := ps) (j := j) (by omega)
    have hq := hr q (List.mem_of_getElem? hp)
    cases bad with
    | true =>
      have t1 : ∀ k, takeOk k u true = false := fun k => sc_no (.inl rfl)
      repeat' (first
        | (show evG _ _ _ _ _ _ _; first | refine G_add64 ?_ | refine G_sub64 ?_ | refine G_mul64 ?_ | refine G_quo ?_ | refine G_rem ?_ | refine G_shl8 ?_ | refine G_orb ?_ | refine G_shr ?_ | refine G_pure0 ?_ | refine G_load ?_ | refine evG_nil ?_ | refine G_field ?_ | refine G_pure ?_ | refine G_store ?_ | refine G_loadV ?_ | refine G_loadV0 ?_ | refine G_loadV2 ?_ | (refine G_append ?_; intro _ _) | (refine G_appendN ?_; intro _ _) | refine G_not ?_ | refine G_index ?_ | refine G_indexA ?_ | refine G_indexS ?_ | refine G_conv64 ?_ | refine G_conv8 ?_ | refine G_convu ?_ | refine G_conv ?_ | refine G_build ?_ | refine G_slh ?_ | refine G_slo ?_ | refine G_shi ?_ | refine G_cat ?_ | refine G_min ?_ | refine G_max ?_ | refine G_neg64 ?_ | refine G_eql_agg ?_ | refine G_neq_agg ?_ | refine G_bytesP ?_ | refine G_bytesstr ?_ | refine G_call ?_ | refine G_call0 ?_ | refine G_callv ?_ | refine G_callv0 ?_ | (refine G_box ?_; intro _) | (refine G_alloc ?_; intro _) | (refine G_buildSlice ?_; intro _) | (refine G_strrow ?_; intro _ _) | (refine G_indexV ?_; intro _ _ hA; subst hA) | (refine G_sliceR ?_; intro _) | (refine G_sliceO ?_; intro _) | refine G_skip ?_ | refine G_skip0 ?_)
        | (show spl _ _ _; first | refine spl_no rfl ?_ | refine spl_yes rfl ?_)
        | (show evC _ _ _ _ _; first | refine c_seq ?_ | refine c_region (by exact rfl) ?_ | refine c_cond (by exact rfl) ?_ | refine c_ret ?_ | refine c_skip ?_ | refine c_block ?_ | refine c_exit ?_ | refine c_draw (by exact rfl) (by decide +kernel) (by exact rfl) ?_ | refine c_scope ?_ | refine c_label ?_)
        | (show Br _ _ _; first | refine Br.t rfl ?_ | refine Br.f rfl ?_ | refine Br.t (beq_self_eq_true _) ?_ | refine Br.f (not_beq_self _) ?_ | refine Br.t (by assumption) ?_ | refine Br.f (by assumption) ?_ | (refine Br.mk (fun h => ?_) (fun h => ?_) <;> (try simp only [decide_eq_true_eq, decide_eq_false_iff_not, beq_iff_eq, bne_iff_ne, beq_eq_false_iff_ne, bne_eq_false_iff_eq, ne_eq, Bool.not_eq_true', Bool.not_eq_false', not_true_eq_false, not_false_eq_true, Int.not_lt, Int.not_le, gt_iff_lt, ge_iff_le] at h) <;> (try (first | contradiction | (exfalso; omega)))))
        | (show thenC _ _ _ _ _; first | refine t_n ?_ | refine t_r ?_ | refine t_e ?_)
        | (show inBlockC _ _ _ _ _; first | refine b_n ?_ | refine b_r ?_ | refine b_hit rfl ?_ | refine b_miss rfl ?_)
        | (show noGotoC _ _ _ _; first | refine g_n ?_ | refine g_r ?_ | refine g_e ?_)
        | (show CallT _ 23 _ _ _; refine CA (h := restX_ok (t1 _) ?_))
        | (show CallT _ 24 _ _ _; refine CA (h := UX_ok (t1 _) ?_))
        | (show CallT _ 26 _ _ _; refine CA (h := takeX_ok (t1 _) ?_))
        | (show CallT _ 27 _ _ _; refine CA (h := bad_ok _ _ _ ?_))
        | (show CallT _ 28 _ _ _; refine CA (h := left_ok _ _ _ ?_))
        | (show CallT _ 30 _ _ _; refine CA (h := end_ok ?_))
        | (show CallT _ 29 _ _ _; refine CA (h := awake1_ok ?_)))
      all_goals first
        | exact turn (n1 - 1) ⟨j + 1, at_, true, u, by omega, h0, h1, hu, rfl, rfl, rfl, rfl, rfl, rfl, rfl, trivial⟩
        | (refine RETC ?_; exact ret_done (congrArg Value.bool (by rw [beq_iff_eq]; unfold endE; (repeat' split) <;> first | rfl | omega | (exfalso; omega) | simp_all)))
    | false =>
      by_cases hall : q.all = true
      · obtain ⟨t1, t2, t3⟩ := sc_take (s := s) (at_ := at_) (n := u.size) h0 (by omega) (by omega)
        rw [← hu] at t1 t2 t3
        have e1 : (at_ + (u.size : Int)).toNat = s.size := by omega
        rw [e1] at t2 t3
        have t4 : (takeS (u.size : Int) u false).toList = (s.extract at_.toNat s.size).toList := by rw [t2]
        have t5 : (takeR (u.size : Int) u false).size = 0 := by rw [t3]; simp
        repeat' (first
          | (show evG _ _ _ _ _ _ _; first | refine G_add64 ?_ | refine G_sub64 ?_ | refine G_mul64 ?_ | refine G_quo ?_ | refine G_rem ?_ | refine G_shl8 ?_ | refine G_orb ?_ | refine G_shr ?_ | refine G_pure0 ?_ | refine G_load ?_ | refine evG_nil ?_ | refine G_field ?_ | refine G_pure ?_ | refine G_store ?_ | refine G_loadV ?_ | refine G_loadV0 ?_ | refine G_loadV2 ?_ | (refine G_append ?_; intro _ _) | (refine G_appendN ?_; intro _ _) | refine G_not ?_ | refine G_index ?_ | refine G_indexA ?_ | refine G_indexS ?_ | refine G_conv64 ?_ | refine G_conv8 ?_ | refine G_convu ?_ | refine G_conv ?_ | refine G_build ?_ | refine G_slh ?_ | refine G_slo ?_ | refine G_shi ?_ | refine G_cat ?_ | refine G_min ?_ | refine G_max ?_ | refine G_neg64 ?_ | refine G_eql_agg ?_ | refine G_neq_agg ?_ | refine G_bytesP ?_ | refine G_bytesstr ?_ | refine G_call ?_ | refine G_call0 ?_ | refine G_callv ?_ | refine G_callv0 ?_ | (refine G_box ?_; intro _) | (refine G_alloc ?_; intro _) | (refine G_buildSlice ?_; intro _) | (refine G_strrow ?_; intro _ _) | (refine G_indexV ?_; intro _ _ hA; subst hA) | (refine G_sliceR ?_; intro _) | (refine G_sliceO ?_; intro _) | refine G_skip ?_ | refine G_skip0 ?_)
          | (show spl _ _ _; first | refine spl_no rfl ?_ | refine spl_yes rfl ?_)
          | (show evC _ _ _ _ _; first | refine c_seq ?_ | refine c_region (by exact rfl) ?_ | refine c_cond (by exact rfl) ?_ | refine c_ret ?_ | refine c_skip ?_ | refine c_block ?_ | refine c_exit ?_ | refine c_draw (by exact rfl) (by decide +kernel) (by exact rfl) ?_ | refine c_scope ?_ | refine c_label ?_)
          | (show Br _ _ _; first | refine Br.t rfl ?_ | refine Br.f rfl ?_ | refine Br.t (beq_self_eq_true _) ?_ | refine Br.f (not_beq_self _) ?_ | refine Br.t (by assumption) ?_ | refine Br.f (by assumption) ?_ | (refine Br.mk (fun h => ?_) (fun h => ?_) <;> (try simp only [decide_eq_true_eq, decide_eq_false_iff_not, beq_iff_eq, bne_iff_ne, beq_eq_false_iff_ne, bne_eq_false_iff_eq, ne_eq, Bool.not_eq_true', Bool.not_eq_false', not_true_eq_false, not_false_eq_true, Int.not_lt, Int.not_le, gt_iff_lt, ge_iff_le] at h) <;> (try (first | contradiction | (exfalso; omega)))))
          | (show thenC _ _ _ _ _; first | refine t_n ?_ | refine t_r ?_ | refine t_e ?_)
          | (show inBlockC _ _ _ _ _; first | refine b_n ?_ | refine b_r ?_ | refine b_hit rfl ?_ | refine b_miss rfl ?_)
          | (show noGotoC _ _ _ _; first | refine g_n ?_ | refine g_r ?_ | refine g_e ?_)
          | (show CallT _ 23 _ _ _; refine CA (h := restY_ok (by assumption) ?_))
          | (show CallT _ 27 _ _ _; refine CA (h := bad_ok _ _ _ ?_))
          | (show CallT _ 28 _ _ _; refine CA (h := left_ok _ _ _ ?_))
          | (show CallT _ 30 _ _ _; refine CA (h := end_ok ?_))
          | (show CallT _ 29 _ _ _; refine CA (h := awake1_ok ?_)))
        all_goals first
          | exact turn (n1 - 1) ⟨j + 1, s.size, false, _, by omega, by omega, by omega, t3, rfl, rfl, rfl, rfl, rfl, rfl, rfl, trivial⟩
          | (refine RETC ?_; exact ret_done (congrArg Value.bool (by rw [beq_iff_eq]; unfold endE; (repeat' split) <;> first | rfl | omega | (exfalso; omega) | simp_all)))
      · have hall : q.all = false := by simpa using hall
        by_cases hnum : q.num = true
        · by_cases hc : 1 ≤ q.n ∧ q.n ≤ 4 ∧ at_ + q.n ≤ s.size
          · have hW : uW q.n = q.n := by unfold uW; rw [if_neg (by omega)]
            obtain ⟨t1, t2, t3⟩ := sc_take (s := s) (at_ := at_) (n := q.n) h0 (by omega) (by omega)
            rw [← hu] at t1 t2 t3
            have t0 : takeOk (uW q.n) u false = true := by rw [hW]; exact t1
            have t3' : takeR (uW q.n) u false = s.extract (at_ + q.n).toNat s.size := by rw [hW]; exact t3
            have t4 : uN q.n u false = numB (s.extract at_.toNat (at_ + q.n).toNat).data.toList := by unfold uN; rw [hW, t2]
            have t5 : ((takeR (uW q.n) u false).size : Int) = s.size - (at_ + q.n) := by rw [t3']; simp; omega
            have t6 : (s.extract at_.toNat (at_ + q.n).toNat).size ≤ 4 := by simp; omega
            repeat' (first
              | (show evG _ _ _ _ _ _ _; first | refine G_add64 ?_ | refine G_sub64 ?_ | refine G_mul64 ?_ | refine G_quo ?_ | refine G_rem ?_ | refine G_shl8 ?_ | refine G_orb ?_ | refine G_shr ?_ | refine G_pure0 ?_ | refine G_load ?_ | refine evG_nil ?_ | refine G_field ?_ | refine G_pure ?_ | refine G_store ?_ | refine G_loadV ?_ | refine G_loadV0 ?_ | refine G_loadV2 ?_ | (refine G_append ?_; intro _ _) | (refine G_appendN ?_; intro _ _) | refine G_not ?_ | refine G_index ?_ | refine G_indexA ?_ | refine G_indexS ?_ | refine G_conv64 ?_ | refine G_conv8 ?_ | refine G_convu ?_ | refine G_conv ?_ | refine G_build ?_ | refine G_slh ?_ | refine G_slo ?_ | refine G_shi ?_ | refine G_cat ?_ | refine G_min ?_ | refine G_max ?_ | refine G_neg64 ?_ | refine G_eql_agg ?_ | refine G_neq_agg ?_ | refine G_bytesP ?_ | refine G_bytesstr ?_ | refine G_call ?_ | refine G_call0 ?_ | refine G_callv ?_ | refine G_callv0 ?_ | (refine G_box ?_; intro _) | (refine G_alloc ?_; intro _) | (refine G_buildSlice ?_; intro _) | (refine G_strrow ?_; intro _ _) | (refine G_indexV ?_; intro _ _ hA; subst hA) | (refine G_sliceR ?_; intro _) | (refine G_sliceO ?_; intro _) | refine G_skip ?_ | refine G_skip0 ?_)
              | (show spl _ _ _; first | refine spl_no rfl ?_ | refine spl_yes rfl ?_)
              | (show evC _ _ _ _ _; first | refine c_seq ?_ | refine c_region (by exact rfl) ?_ | refine c_cond (by exact rfl) ?_ | refine c_ret ?_ | refine c_skip ?_ | refine c_block ?_ | refine c_exit ?_ | refine c_draw (by exact rfl) (by decide +kernel) (by exact rfl) ?_ | refine c_scope ?_ | refine c_label ?_)
              | (show Br _ _ _; first | refine Br.t rfl ?_ | refine Br.f rfl ?_ | refine Br.t (beq_self_eq_true _) ?_ | refine Br.f (not_beq_self _) ?_ | refine Br.t (by assumption) ?_ | refine Br.f (by assumption) ?_ | (refine Br.mk (fun h => ?_) (fun h => ?_) <;> (try simp only [decide_eq_true_eq, decide_eq_false_iff_not, beq_iff_eq, bne_iff_ne, beq_eq_false_iff_ne, bne_eq_false_iff_eq, ne_eq, Bool.not_eq_true', Bool.not_eq_false', not_true_eq_false, not_false_eq_true, Int.not_lt, Int.not_le, gt_iff_lt, ge_iff_le] at h) <;> (try (first | contradiction | (exfalso; omega)))))
              | (show thenC _ _ _ _ _; first | refine t_n ?_ | refine t_r ?_ | refine t_e ?_)
              | (show inBlockC _ _ _ _ _; first | refine b_n ?_ | refine b_r ?_ | refine b_hit rfl ?_ | refine b_miss rfl ?_)
              | (show noGotoC _ _ _ _; first | refine g_n ?_ | refine g_r ?_ | refine g_e ?_)
              | (show CallT _ 24 _ _ _; refine CA (h := UY_ok (by assumption) ?_))
              | (show CallT _ 25 _ _ _; refine CA (h := N_ok (by assumption) ?_))
              | (show CallT _ 27 _ _ _; refine CA (h := bad_ok _ _ _ ?_))
              | (show CallT _ 28 _ _ _; refine CA (h := left_ok _ _ _ ?_))
              | (show CallT _ 30 _ _ _; refine CA (h := end_ok ?_))
              | (show CallT _ 29 _ _ _; refine CA (h := awake1_ok ?_)))
            all_goals first
              | exact turn (n1 - 1) ⟨j + 1, at_ + q.n, false, _, by omega, by omega, by omega, t3', rfl, rfl, rfl, rfl, rfl, rfl, rfl, trivial⟩
              | (refine RETC ?_; exact ret_done (congrArg Value.bool (by rw [beq_iff_eq]; unfold endE; (repeat' split) <;> first | rfl | omega | (exfalso; omega) | simp_all)))
          · have t1 : takeOk (uW q.n) u false = false := by
              unfold uW
              split
              · exact sc_no (.inr (.inl (by omega)))
              · exact sc_no (.inr (.inr (by omega)))
            repeat' (first
              | (show evG _ _ _ _ _ _ _; first | refine G_add64 ?_ | refine G_sub64 ?_ | refine G_mul64 ?_ | refine G_quo ?_ | refine G_rem ?_ | refine G_shl8 ?_ | refine G_orb ?_ | refine G_shr ?_ | refine G_pure0 ?_ | refine G_load ?_ | refine evG_nil ?_ | refine G_field ?_ | refine G_pure ?_ | refine G_store ?_ | refine G_loadV ?_ | refine G_loadV0 ?_ | refine G_loadV2 ?_ | (refine G_append ?_; intro _ _) | (refine G_appendN ?_; intro _ _) | refine G_not ?_ | refine G_index ?_ | refine G_indexA ?_ | refine G_indexS ?_ | refine G_conv64 ?_ | refine G_conv8 ?_ | refine G_convu ?_ | refine G_conv ?_ | refine G_build ?_ | refine G_slh ?_ | refine G_slo ?_ | refine G_shi ?_ | refine G_cat ?_ | refine G_min ?_ | refine G_max ?_ | refine G_neg64 ?_ | refine G_eql_agg ?_ | refine G_neq_agg ?_ | refine G_bytesP ?_ | refine G_bytesstr ?_ | refine G_call ?_ | refine G_call0 ?_ | refine G_callv ?_ | refine G_callv0 ?_ | (refine G_box ?_; intro _) | (refine G_alloc ?_; intro _) | (refine G_buildSlice ?_; intro _) | (refine G_strrow ?_; intro _ _) | (refine G_indexV ?_; intro _ _ hA; subst hA) | (refine G_sliceR ?_; intro _) | (refine G_sliceO ?_; intro _) | refine G_skip ?_ | refine G_skip0 ?_)
              | (show spl _ _ _; first | refine spl_no rfl ?_ | refine spl_yes rfl ?_)
              | (show evC _ _ _ _ _; first | refine c_seq ?_ | refine c_region (by exact rfl) ?_ | refine c_cond (by exact rfl) ?_ | refine c_ret ?_ | refine c_skip ?_ | refine c_block ?_ | refine c_exit ?_ | refine c_draw (by exact rfl) (by decide +kernel) (by exact rfl) ?_ | refine c_scope ?_ | refine c_label ?_)
              | (show Br _ _ _; first | refine Br.t rfl ?_ | refine Br.f rfl ?_ | refine Br.t (beq_self_eq_true _) ?_ | refine Br.f (not_beq_self _) ?_ | refine Br.t (by assumption) ?_ | refine Br.f (by assumption) ?_ | (refine Br.mk (fun h => ?_) (fun h => ?_) <;> (try simp only [decide_eq_true_eq, decide_eq_false_iff_not, beq_iff_eq, bne_iff_ne, beq_eq_false_iff_ne, bne_eq_false_iff_eq, ne_eq, Bool.not_eq_true', Bool.not_eq_false', not_true_eq_false, not_false_eq_true, Int.not_lt, Int.not_le, gt_iff_lt, ge_iff_le] at h) <;> (try (first | contradiction | (exfalso; omega)))))
              | (show thenC _ _ _ _ _; first | refine t_n ?_ | refine t_r ?_ | refine t_e ?_)
              | (show inBlockC _ _ _ _ _; first | refine b_n ?_ | refine b_r ?_ | refine b_hit rfl ?_ | refine b_miss rfl ?_)
              | (show noGotoC _ _ _ _; first | refine g_n ?_ | refine g_r ?_ | refine g_e ?_)
              | (show CallT _ 24 _ _ _; refine CA (h := UX_ok (by assumption) ?_))
              | (show CallT _ 27 _ _ _; refine CA (h := bad_ok _ _ _ ?_))
              | (show CallT _ 28 _ _ _; refine CA (h := left_ok _ _ _ ?_))
              | (show CallT _ 30 _ _ _; refine CA (h := end_ok ?_))
              | (show CallT _ 29 _ _ _; refine CA (h := awake1_ok ?_)))
            all_goals first
              | exact turn (n1 - 1) ⟨j + 1, at_, true, u, by omega, h0, h1, hu, rfl, rfl, rfl, rfl, rfl, rfl, rfl, trivial⟩
              | (refine RETC ?_; exact ret_done (congrArg Value.bool (by rw [beq_iff_eq]; unfold endE; (repeat' split) <;> first | rfl | omega | (exfalso; omega) | simp_all)))
        · have hnum : q.num = false := by simpa using hnum
          by_cases hc : 0 ≤ q.n ∧ at_ + q.n ≤ s.size
          · obtain ⟨t1, t2, t3⟩ := sc_take (s := s) (at_ := at_) (n := q.n) h0 (by omega) (by omega)
            rw [← hu] at t1 t2 t3
            have t4 : (takeS q.n u false).toList = (s.extract at_.toNat (at_ + q.n).toNat).toList := by rw [t2]
            have t5 : ((takeR q.n u false).size : Int) = s.size - (at_ + q.n) := by rw [t3]; simp; omega
            repeat' (first
              | (show evG _ _ _ _ _ _ _; first | refine G_add64 ?_ | refine G_sub64 ?_ | refine G_mul64 ?_ | refine G_quo ?_ | refine G_rem ?_ | refine G_shl8 ?_ | refine G_orb ?_ | refine G_shr ?_ | refine G_pure0 ?_ | refine G_load ?_ | refine evG_nil ?_ | refine G_field ?_ | refine G_pure ?_ | refine G_store ?_ | refine G_loadV ?_ | refine G_loadV0 ?_ | refine G_loadV2 ?_ | (refine G_append ?_; intro _ _) | (refine G_appendN ?_; intro _ _) | refine G_not ?_ | refine G_index ?_ | refine G_indexA ?_ | refine G_indexS ?_ | refine G_conv64 ?_ | refine G_conv8 ?_ | refine G_convu ?_ | refine G_conv ?_ | refine G_build ?_ | refine G_slh ?_ | refine G_slo ?_ | refine G_shi ?_ | refine G_cat ?_ | refine G_min ?_ | refine G_max ?_ | refine G_neg64 ?_ | refine G_eql_agg ?_ | refine G_neq_agg ?_ | refine G_bytesP ?_ | refine G_bytesstr ?_ | refine G_call ?_ | refine G_call0 ?_ | refine G_callv ?_ | refine G_callv0 ?_ | (refine G_box ?_; intro _) | (refine G_alloc ?_; intro _) | (refine G_buildSlice ?_; intro _) | (refine G_strrow ?_; intro _ _) | (refine G_indexV ?_; intro _ _ hA; subst hA) | (refine G_sliceR ?_; intro _) | (refine G_sliceO ?_; intro _) | refine G_skip ?_ | refine G_skip0 ?_)
              | (show spl _ _ _; first | refine spl_no rfl ?_ | refine spl_yes rfl ?_)
              | (show evC _ _ _ _ _; first | refine c_seq ?_ | refine c_region (by exact rfl) ?_ | refine c_cond (by exact rfl) ?_ | refine c_ret ?_ | refine c_skip ?_ | refine c_block ?_ | refine c_exit ?_ | refine c_draw (by exact rfl) (by decide +kernel) (by exact rfl) ?_ | refine c_scope ?_ | refine c_label ?_)
              | (show Br _ _ _; first | refine Br.t rfl ?_ | refine Br.f rfl ?_ | refine Br.t (beq_self_eq_true _) ?_ | refine Br.f (not_beq_self _) ?_ | refine Br.t (by assumption) ?_ | refine Br.f (by assumption) ?_ | (refine Br.mk (fun h => ?_) (fun h => ?_) <;> (try simp only [decide_eq_true_eq, decide_eq_false_iff_not, beq_iff_eq, bne_iff_ne, beq_eq_false_iff_ne, bne_eq_false_iff_eq, ne_eq, Bool.not_eq_true', Bool.not_eq_false', not_true_eq_false, not_false_eq_true, Int.not_lt, Int.not_le, gt_iff_lt, ge_iff_le] at h) <;> (try (first | contradiction | (exfalso; omega)))))
              | (show thenC _ _ _ _ _; first | refine t_n ?_ | refine t_r ?_ | refine t_e ?_)
              | (show inBlockC _ _ _ _ _; first | refine b_n ?_ | refine b_r ?_ | refine b_hit rfl ?_ | refine b_miss rfl ?_)
              | (show noGotoC _ _ _ _; first | refine g_n ?_ | refine g_r ?_ | refine g_e ?_)
              | (show CallT _ 26 _ _ _; refine CA (h := takeY_ok (by assumption) ?_))
              | (show CallT _ 27 _ _ _; refine CA (h := bad_ok _ _ _ ?_))
              | (show CallT _ 28 _ _ _; refine CA (h := left_ok _ _ _ ?_))
              | (show CallT _ 30 _ _ _; refine CA (h := end_ok ?_))
              | (show CallT _ 29 _ _ _; refine CA (h := awake1_ok ?_)))
            all_goals first
              | exact turn (n1 - 1) ⟨j + 1, at_ + q.n, false, _, by omega, by omega, by omega, t3, rfl, rfl, rfl, rfl, rfl, rfl, rfl, trivial⟩
              | (refine RETC ?_; exact ret_done (congrArg Value.bool (by rw [beq_iff_eq]; unfold endE; (repeat' split) <;> first | rfl | omega | (exfalso; omega) | simp_all)))
          · have t1 : takeOk q.n u false = false := by
              rcases (by omega : q.n < 0 ∨ (u.size : Int) < q.n) with h | h
              · exact sc_no (.inr (.inl h))
              · exact sc_no (.inr (.inr h))
            repeat' (first
              | (show evG _ _ _ _ _ _ _; first | refine G_add64 ?_ | refine G_sub64 ?_ | refine G_mul64 ?_ | refine G_quo ?_ | refine G_rem ?_ | refine G_shl8 ?_ | refine G_orb ?_ | refine G_shr ?_ | refine G_pure0 ?_ | refine G_load ?_ | refine evG_nil ?_ | refine G_field ?_ | refine G_pure ?_ | refine G_store ?_ | refine G_loadV ?_ | refine G_loadV0 ?_ | refine G_loadV2 ?_ | (refine G_append ?_; intro _ _) | (refine G_appendN ?_; intro _ _) | refine G_not ?_ | refine G_index ?_ | refine G_indexA ?_ | refine G_indexS ?_ | refine G_conv64 ?_ | refine G_conv8 ?_ | refine G_convu ?_ | refine G_conv ?_ | refine G_build ?_ | refine G_slh ?_ | refine G_slo ?_ | refine G_shi ?_ | refine G_cat ?_ | refine G_min ?_ | refine G_max ?_ | refine G_neg64 ?_ | refine G_eql_agg ?_ | refine G_neq_agg ?_ | refine G_bytesP ?_ | refine G_bytesstr ?_ | refine G_call ?_ | refine G_call0 ?_ | refine G_callv ?_ | refine G_callv0 ?_ | (refine G_box ?_; intro _) | (refine G_alloc ?_; intro _) | (refine G_buildSlice ?_; intro _) | (refine G_strrow ?_; intro _ _) | (refine G_indexV ?_; intro _ _ hA; subst hA) | (refine G_sliceR ?_; intro _) | (refine G_sliceO ?_; intro _) | refine G_skip ?_ | refine G_skip0 ?_)
              | (show spl _ _ _; first | refine spl_no rfl ?_ | refine spl_yes rfl ?_)
              | (show evC _ _ _ _ _; first | refine c_seq ?_ | refine c_region (by exact rfl) ?_ | refine c_cond (by exact rfl) ?_ | refine c_ret ?_ | refine c_skip ?_ | refine c_block ?_ | refine c_exit ?_ | refine c_draw (by exact rfl) (by decide +kernel) (by exact rfl) ?_ | refine c_scope ?_ | refine c_label ?_)
              | (show Br _ _ _; first | refine Br.t rfl ?_ | refine Br.f rfl ?_ | refine Br.t (beq_self_eq_true _) ?_ | refine Br.f (not_beq_self _) ?_ | refine Br.t (by assumption) ?_ | refine Br.f (by assumption) ?_ | (refine Br.mk (fun h => ?_) (fun h => ?_) <;> (try simp only [decide_eq_true_eq, decide_eq_false_iff_not, beq_iff_eq, bne_iff_ne, beq_eq_false_iff_ne, bne_eq_false_iff_eq, ne_eq, Bool.not_eq_true', Bool.not_eq_false', not_true_eq_false, not_false_eq_true, Int.not_lt, Int.not_le, gt_iff_lt, ge_iff_le] at h) <;> (try (first | contradiction | (exfalso; omega)))))
              | (show thenC _ _ _ _ _; first | refine t_n ?_ | refine t_r ?_ | refine t_e ?_)
              | (show inBlockC _ _ _ _ _; first | refine b_n ?_ | refine b_r ?_ | refine b_hit rfl ?_ | refine b_miss rfl ?_)
              | (show noGotoC _ _ _ _; first | refine g_n ?_ | refine g_r ?_ | refine g_e ?_)
              | (show CallT _ 26 _ _ _; refine CA (h := takeX_ok (by assumption) ?_))
              | (show CallT _ 27 _ _ _; refine CA (h := bad_ok _ _ _ ?_))
              | (show CallT _ 28 _ _ _; refine CA (h := left_ok _ _ _ ?_))
              | (show CallT _ 30 _ _ _; refine CA (h := end_ok ?_))
              | (show CallT _ 29 _ _ _; refine CA (h := awake1_ok ?_)))
            all_goals first
              | exact turn (n1 - 1) ⟨j + 1, at_, true, u, by omega, h0, h1, hu, rfl, rfl, rfl, rfl, rfl, rfl, rfl, trivial⟩
              | (refine RETC ?_; exact ret_done (congrArg Value.bool (by rw [beq_iff_eq]; unfold endE; (repeat' split) <;> first | rfl | omega | (exfalso; omega) | simp_all)))
  · obtain rfl : j = n := by omega
    cases bad
    · repeat' (first
        | (show evG _ _ _ _ _ _ _; first | refine G_add64 ?_ | refine G_sub64 ?_ | refine G_mul64 ?_ | refine G_quo ?_ | refine G_rem ?_ | refine G_shl8 ?_ | refine G_orb ?_ | refine G_shr ?_ | refine G_pure0 ?_ | refine G_load ?_ | refine evG_nil ?_ | refine G_field ?_ | refine G_pure ?_ | refine G_store ?_ | refine G_loadV ?_ | refine G_loadV0 ?_ | refine G_loadV2 ?_ | (refine G_append ?_; intro _ _) | (refine G_appendN ?_; intro _ _) | refine G_not ?_ | refine G_index ?_ | refine G_indexA ?_ | refine G_indexS ?_ | refine G_conv64 ?_ | refine G_conv8 ?_ | refine G_convu ?_ | refine G_conv ?_ | refine G_build ?_ | refine G_slh ?_ | refine G_slo ?_ | refine G_shi ?_ | refine G_cat ?_ | refine G_min ?_ | refine G_max ?_ | refine G_neg64 ?_ | refine G_eql_agg ?_ | refine G_neq_agg ?_ | refine G_bytesP ?_ | refine G_bytesstr ?_ | refine G_call ?_ | refine G_call0 ?_ | refine G_callv ?_ | refine G_callv0 ?_ | (refine G_box ?_; intro _) | (refine G_alloc ?_; intro _) | (refine G_buildSlice ?_; intro _) | (refine G_strrow ?_; intro _ _) | (refine G_indexV ?_; intro _ _ hA; subst hA) | (refine G_sliceR ?_; intro _) | (refine G_sliceO ?_; intro _) | refine G_skip ?_ | refine G_skip0 ?_)
        | (show spl _ _ _; first | refine spl_no rfl ?_ | refine spl_yes rfl ?_)
        | (show evC _ _ _ _ _; first | refine c_seq ?_ | refine c_region (by exact rfl) ?_ | refine c_cond (by exact rfl) ?_ | refine c_ret ?_ | refine c_skip ?_ | refine c_block ?_ | refine c_exit ?_ | refine c_draw (by exact rfl) (by decide +kernel) (by exact rfl) ?_ | refine c_scope ?_ | refine c_label ?_)
        | (show Br _ _ _; first | refine Br.t rfl ?_ | refine Br.f rfl ?_ | refine Br.t (beq_self_eq_true _) ?_ | refine Br.f (not_beq_self _) ?_ | refine Br.t (by assumption) ?_ | refine Br.f (by assumption) ?_ | (refine Br.mk (fun h => ?_) (fun h => ?_) <;> (try simp only [decide_eq_true_eq, decide_eq_false_iff_not, beq_iff_eq, bne_iff_ne, beq_eq_false_iff_ne, bne_eq_false_iff_eq, ne_eq, Bool.not_eq_true', Bool.not_eq_false', not_true_eq_false, not_false_eq_true, Int.not_lt, Int.not_le, gt_iff_lt, ge_iff_le] at h) <;> (try (first | contradiction | (exfalso; omega)))))
        | (show thenC _ _ _ _ _; first | refine t_n ?_ | refine t_r ?_ | refine t_e ?_)
        | (show inBlockC _ _ _ _ _; first | refine b_n ?_ | refine b_r ?_ | refine b_hit rfl ?_ | refine b_miss rfl ?_)
        | (show noGotoC _ _ _ _; first | refine g_n ?_ | refine g_r ?_ | refine g_e ?_)
        | (show CallT _ 30 _ _ _; refine CA (h := end_ok ?_))
        | (show CallT _ 29 _ _ _; refine CA (h := awake1_ok ?_)))
      all_goals (refine RETC ?_; exact ret_done (congrArg Value.bool (by rw [beq_iff_eq]; unfold endE; (repeat' split) <;> first | rfl | omega | (exfalso; omega) | simp_all)))
    · repeat' (first
        | (show evG _ _ _ _ _ _ _; first | refine G_add64 ?_ | refine G_sub64 ?_ | refine G_mul64 ?_ | refine G_quo ?_ | refine G_rem ?_ | refine G_shl8 ?_ | refine G_orb ?_ | refine G_shr ?_ | refine G_pure0 ?_ | refine G_load ?_ | refine evG_nil ?_ | refine G_field ?_ | refine G_pure ?_ | refine G_store ?_ | refine G_loadV ?_ | refine G_loadV0 ?_ | refine G_loadV2 ?_ | (refine G_append ?_; intro _ _) | (refine G_appendN ?_; intro _ _) | refine G_not ?_ | refine G_index ?_ | refine G_indexA ?_ | refine G_indexS ?_ | refine G_conv64 ?_ | refine G_conv8 ?_ | refine G_convu ?_ | refine G_conv ?_ | refine G_build ?_ | refine G_slh ?_ | refine G_slo ?_ | refine G_shi ?_ | refine G_cat ?_ | refine G_min ?_ | refine G_max ?_ | refine G_neg64 ?_ | refine G_eql_agg ?_ | refine G_neq_agg ?_ | refine G_bytesP ?_ | refine G_bytesstr ?_ | refine G_call ?_ | refine G_call0 ?_ | refine G_callv ?_ | refine G_callv0 ?_ | (refine G_box ?_; intro _) | (refine G_alloc ?_; intro _) | (refine G_buildSlice ?_; intro _) | (refine G_strrow ?_; intro _ _) | (refine G_indexV ?_; intro _ _ hA; subst hA) | (refine G_sliceR ?_; intro _) | (refine G_sliceO ?_; intro _) | refine G_skip ?_ | refine G_skip0 ?_)
        | (show spl _ _ _; first | refine spl_no rfl ?_ | refine spl_yes rfl ?_)
        | (show evC _ _ _ _ _; first | refine c_seq ?_ | refine c_region (by exact rfl) ?_ | refine c_cond (by exact rfl) ?_ | refine c_ret ?_ | refine c_skip ?_ | refine c_block ?_ | refine c_exit ?_ | refine c_draw (by exact rfl) (by decide +kernel) (by exact rfl) ?_ | refine c_scope ?_ | refine c_label ?_)
        | (show Br _ _ _; first | refine Br.t rfl ?_ | refine Br.f rfl ?_ | refine Br.t (beq_self_eq_true _) ?_ | refine Br.f (not_beq_self _) ?_ | refine Br.t (by assumption) ?_ | refine Br.f (by assumption) ?_ | (refine Br.mk (fun h => ?_) (fun h => ?_) <;> (try simp only [decide_eq_true_eq, decide_eq_false_iff_not, beq_iff_eq, bne_iff_ne, beq_eq_false_iff_ne, bne_eq_false_iff_eq, ne_eq, Bool.not_eq_true', Bool.not_eq_false', not_true_eq_false, not_false_eq_true, Int.not_lt, Int.not_le, gt_iff_lt, ge_iff_le] at h) <;> (try (first | contradiction | (exfalso; omega)))))
        | (show thenC _ _ _ _ _; first | refine t_n ?_ | refine t_r ?_ | refine t_e ?_)
        | (show inBlockC _ _ _ _ _; first | refine b_n ?_ | refine b_r ?_ | refine b_hit rfl ?_ | refine b_miss rfl ?_)
        | (show noGotoC _ _ _ _; first | refine g_n ?_ | refine g_r ?_ | refine g_e ?_)
        | (show CallT _ 30 _ _ _; refine CA (h := end_ok ?_))
        | (show CallT _ 29 _ _ _; refine CA (h := awake1_ok ?_)))
      all_goals (refine RETC ?_; exact ret_done (congrArg Value.bool (by rw [beq_iff_eq]; unfold endE; (repeat' split) <;> first | rfl | omega | (exfalso; omega) | simp_all)))
end Go.Proofs.Ytfjibfljckifkaa
