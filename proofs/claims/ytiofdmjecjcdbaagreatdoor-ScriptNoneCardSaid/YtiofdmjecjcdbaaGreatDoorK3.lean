/- Frame: Same and Check: lemmas; each with the conditions that it states. -/
import Derived.Test.YtiofdmjecjcdbaaGreatDoorFh
import Derived.Test.YtiofdmjecjcdbaaGreatDoorK2

namespace Go.Proofs.YtiofdmjecjcdbaaGreatDoor
open Go Go.Proofs Go.Sl
set_option maxRecDepth 100000
set_option maxHeartbeats 4000000
set_option linter.unusedSimpArgs false
set_option linter.unusedVariables false
attribute [local irreducible] evG evC spl thenC inBlockC noGotoC CallT retC RetG TurnG CutG pt ro exP star sep pureP
variable {R C : List HP} {K : Value → List HP → Prop}
theorem str_eq {s t : ByteArray} : s.toList = t.toList ↔ s = t := by
  constructor
  · intro h; rw [toList_data, toList_data] at h; exact ba_ext h
  · rintro rfl; rfl
theorem bared_ok {t st : Int} {e : Bool} {d : ByteArray} {k on w : Int} {x : Bool} {c la n : Int} {pa : Option Addr} {pn pc : Nat} (hK : K (.agg #[.int .i64 t, .int .i64 st, .bool e, .string d, .int .i64 k, .int .i64 on, .int .i64 w, .bool x, .int .i64 c, .int .i64 la, .int .i64 n]) R) : CallT Tryz.prog 307 #[.agg #[.int .i64 t, .int .i64 st, .bool e, .string d, .int .i64 k, .int .i64 on, .int .i64 w, .bool x, .int .i64 c, .int .i64 la, .int .i64 n, .slice pa pn pc]] R K := by
  refine callT_intro mixed Tryz.func307 rfl (by decide) (by decide +kernel) (by exact Nat.le_of_ble_eq_true rfl) ?_
  repeat' (first
    | (show evG _ _ _ _ _ _ _; first | refine G_pure0 ?_ | refine G_load ?_ | refine evG_nil ?_ | refine G_br ?_ ?_ | refine G_field ?_ | refine G_pure ?_ | refine G_store ?_ | refine G_loadV ?_ | refine G_loadV0 ?_ | refine G_loadV2 ?_ | refine G_build ?_ | (refine G_box ?_; intro _) | (refine G_alloc ?_; intro _))
    | (show spl _ _ _; first | refine spl_no rfl ?_ | refine spl_yes rfl ?_)
    | (show evC _ _ _ _ _; first | refine c_seq ?_ | refine c_region (by exact rfl) ?_ | refine c_cond (by exact rfl) ?_ | refine c_ret ?_ | refine c_skip ?_ | refine c_block ?_ | refine c_exit ?_ | refine std ?_)
    | (show Br _ _ _; first | refine Br.t rfl ?_ | refine Br.f rfl ?_ | refine brs ?_ | (first | refine Br.mkN (fun h => ?_) (fun h => ?_) | refine Br.mk (fun h => ?_) (fun h => ?_)) <;> (try (first | contradiction | (exfalso; omega) | (exfalso; simp at h; done))))
    | refine stp ?_)
  (show retC _ _ _ _ _ _; refine RETC ?_; exact ret_done (hK))
def SameP (t st : Int) (e : Bool) (d : ByteArray) (k on w : Int) (x : Bool) (c la n t1 st1 : Int) (e1 : Bool) (d1 : ByteArray) (k1 on1 w1 : Int) (x1 : Bool) (c1 la1 n1 : Int) : Prop := t = t1 ∧ st = st1 ∧ e = e1 ∧ d = d1 ∧ k = k1 ∧ on = on1 ∧ w = w1 ∧ x = x1 ∧ c = c1 ∧ la = la1 ∧ n = n1
instance (t st : Int) (e : Bool) (d : ByteArray) (k on w : Int) (x : Bool) (c la n t1 st1 : Int) (e1 : Bool) (d1 : ByteArray) (k1 on1 w1 : Int) (x1 : Bool) (c1 la1 n1 : Int) : Decidable (SameP t st e d k on w x c la n t1 st1 e1 d1 k1 on1 w1 x1 c1 la1 n1) := by unfold SameP; infer_instance
theorem fsame_ok {t st : Int} {e : Bool} {d : ByteArray} {k on w : Int} {x : Bool} {c la n : Int} {pa : Option Addr} {pn pc : Nat} {t1 st1 : Int} {e1 : Bool} {d1 : ByteArray} {k1 on1 w1 : Int} {x1 : Bool} {c1 la1 n1 : Int} {pa1 : Option Addr} {pn1 pc1 : Nat} {ps ps1 : List Pr} (hv : View C pa prC ps) (hw : View C pa1 prC ps1) (hn : ps.length = pn) (hn' : ps1.length = pn1) (hn2 : pn < 1000000000000000)
    (hK : K (.bool (decide (SameP t st e d k on w x c la n t1 st1 e1 d1 k1 on1 w1 x1 c1 la1 n1) && peq ps ps1)) C) : CallT Tryz.prog 231 #[.agg #[.int .i64 t, .int .i64 st, .bool e, .string d, .int .i64 k, .int .i64 on, .int .i64 w, .bool x, .int .i64 c, .int .i64 la, .int .i64 n, .slice pa pn pc], .agg #[.int .i64 t1, .int .i64 st1, .bool e1, .string d1, .int .i64 k1, .int .i64 on1, .int .i64 w1, .bool x1, .int .i64 c1, .int .i64 la1, .int .i64 n1, .slice pa1 pn1 pc1]] C K := by
  refine callT_intro mixed Tryz.func231 rfl (by decide) (by decide +kernel) (by exact Nat.le_of_ble_eq_true rfl) ?_
  repeat' (first
    | (show evG _ _ _ _ _ _ _; first | refine G_pure0 ?_ | refine G_load ?_ | refine evG_nil ?_ | refine G_br ?_ ?_ | refine G_field ?_ | refine G_pure ?_ | refine G_loadV ?_ | refine G_loadV0 ?_ | refine G_loadV2 ?_ | refine G_eql_agg ?_ | refine G_call ?_ | refine G_call0 ?_ | (refine G_box ?_; intro _) | refine G_skip ?_ | refine G_skip0 ?_)
    | (show spl _ _ _; first | refine spl_no rfl ?_ | refine spl_yes rfl ?_)
    | (show evC _ _ _ _ _; first | refine c_seq ?_ | refine c_region (by exact rfl) ?_ | refine c_cond (by exact rfl) ?_ | refine c_ret ?_ | refine c_skip ?_ | refine c_block ?_ | refine c_exit ?_ | (show evC _ (.region 1 _ true) _ _ _; refine c_draw (l := [(0, 0), (1, 1), (2, 1), (3, 1), (4, 0), (5, 0), (6, 0), (7, 0), (8, 0), (9, 0), (10, 1), (11, 0), (12, 0)]) (by decide +kernel) (by decide +kernel) (by exact rfl) ?_) | refine std ?_)
    | (show Br _ _ _; first | refine Br.t rfl ?_ | refine Br.f rfl ?_ | refine brs ?_ | (first | refine Br.mkN (fun h => ?_) (fun h => ?_) | refine Br.mk (fun h => ?_) (fun h => ?_)) <;> (try (first | contradiction | (exfalso; omega) | (exfalso; simp at h; done))))
    | refine stp ?_
    | (show CallT _ 307 _ _ _; refine CA (h := bared_ok ?_))
    | (show CallT _ 308 _ _ _; refine CA (h := equal_ok (xs := ps) (ys := ps1) (by exact viewA) (by exact viewA) hn hn' hn2 ?_)))
  · rename_i h
    have hd : decide (SameP t st e d k on w x c la n t1 st1 e1 d1 k1 on1 w1 x1 c1 la1 n1) = true := decide_eq_true (by obtain ⟨a1, a2, a3, a4, a5, ⟨a6, a7, a8⟩, a9, a10, a11⟩ := h; exact ⟨a1, a2, a3, str_eq.1 a4, a5, a6, a7, a8, a9, a10, a11⟩)
    rw [hd, Bool.true_and] at hK
    (show retC _ _ _ _ _ _; refine RETC ?_; exact ret_done (hK))
  · rename_i h
    have hd : decide (SameP t st e d k on w x c la n t1 st1 e1 d1 k1 on1 w1 x1 c1 la1 n1) = false := decide_eq_false (by
      rintro ⟨a1, a2, a3, a4, a5, a6, a7, a8, a9, a10, a11⟩
      rw [← str_eq] at a4
      rcases h with h | h | h | h | h | (h | h | h) | h | h | h <;> exact h (by assumption))
    rw [hd, Bool.false_and] at hK
    (show retC _ _ _ _ _ _; refine RETC ?_; exact ret_done (hK))
def streamB (t st : Int) : Bool := n31 st && ((decide (st = 0) && (decide (5 ≤ t) && decide (t ≤ 10))) || (decide (0 < st) && (decide (t ≤ 4) || decide (10 ≤ t))))
def chkB (t st : Int) (e : Bool) (d : ByteArray) (k on w : Int) (x : Bool) (c la n : Int) (ps : List Pr) : Bool := decide (0 ≤ t) && decide (t ≤ 11) && streamB t st && (decide (SameP t st e d k on w x c la n t st (oE t e) (oD t d) (oK t k) (oO t on) (oO t w) (oX t x) (oC t c) (oL t la) (oN t n)) && peq ps (oPs t ps)) && fieldsB t d k on w c la n ps
def chkI (t st : Int) (e : Bool) (d : ByteArray) (k on w : Int) (x : Bool) (c la n : Int) (ps : List Pr) : Int := if chkB t st e d k on w x c la n ps = true then 0 else 2
theorem needsIn_ok {k : Int} (h0 : 0 ≤ k) (h1 : k ≤ 11) (hK : K (.tuple #[.bool (decide (5 ≤ k) && decide (k ≤ 10)), .bool (decide (k ≤ 4) || decide (10 ≤ k)), .int .i64 0]) R) : CallT Tryz.prog 229 #[.int .i64 k] R K := by
  obtain ⟨e1, e2, e3, e4, e5⟩ := rules_facts k h0 h1
  refine needs_ok ?_
  rw [e1, e2, e4]; exact hK
theorem needsOut_ok {k : Int} (h0 : k < 0 ∨ 11 < k) (hK : K (.tuple #[.bool false, .bool false, .int .i64 3]) R) : CallT Tryz.prog 229 #[.int .i64 k] R K := by
  have e1 : ruleOf k = (false, false, 0, 0) := by unfold ruleOf; rw [if_pos (by omega)]
  have e2 : ruleE k = 3 := by unfold ruleE; rw [if_pos (by omega)]
  refine needs_ok ?_
  rw [e1, e2]; exact hK
theorem view_o {C : List HP} {pa : Option Addr} {ps : List Pr} {t : Int} (hv : View C pa prC ps) : View C (oPa t pa) prC (oPs t ps) := by
  unfold oPa oPs
  split
  · exact hv
  · exact view_nil
theorem len_o {ps : List Pr} {t : Int} {pn : Nat} (hn : ps.length = pn) : (oPs t ps).length = oPn t pn := by
  unfold oPn oPs
  split
  · exact hn
  · rfl
theorem fcheck_ok {t st : Int} {e : Bool} {d : ByteArray} {k on w : Int} {x : Bool} {c la n : Int} {pa : Option Addr} {pn pc : Nat} {ps : List Pr} (hv : View C pa prC ps) (hn : ps.length = pn) (hn2 : pn < 1000000000000000) (hK : K (.int .i64 (chkI t st e d k on w x c la n ps)) C) : CallT Tryz.prog 165 #[.agg #[.int .i64 t, .int .i64 st, .bool e, .string d, .int .i64 k, .int .i64 on, .int .i64 w, .bool x, .int .i64 c, .int .i64 la, .int .i64 n, .slice pa pn pc]] C K := by
  by_cases ht : 0 ≤ t ∧ t ≤ 11
  · obtain ⟨h0, h1⟩ := ht
    have d0 : decide (0 ≤ t) = true := decide_eq_true h0
    have d1 : decide (t ≤ 11) = true := decide_eq_true h1
    unfold chkI chkB at hK
    rw [d0, d1, Bool.true_and, Bool.true_and] at hK
    cases hs : streamB t st
    · rw [hs] at hK
      simp only [Bool.false_and, Bool.false_eq_true, if_false] at hK
      cases h3 : n31 st
      · refine callT_intro mixed Tryz.func165 rfl (by decide) (by decide +kernel) (by exact Nat.le_of_ble_eq_true rfl) ?_
        repeat' (first
          | (show evG _ _ _ _ _ _ _; first | refine G_pure0 ?_ | refine G_load ?_ | refine evG_nil ?_ | refine G_br ?_ ?_ | refine G_field ?_ | refine G_pure ?_ | refine G_loadV ?_ | refine G_loadV0 ?_ | refine G_loadV2 ?_ | refine G_not ?_ | refine G_eql_agg ?_ | refine G_neq_agg ?_ | refine G_call ?_ | refine G_call0 ?_ | (refine G_box ?_; intro _) | refine G_skip ?_ | refine G_skip0 ?_)
          | (show spl _ _ _; first | refine spl_no rfl ?_ | refine spl_yes rfl ?_)
          | (show evC _ _ _ _ _; first | refine c_seq ?_ | refine c_region (by exact rfl) ?_ | refine c_cond (by exact rfl) ?_ | refine c_ret ?_ | refine c_skip ?_ | refine c_block ?_ | refine c_exit ?_ | (show evC _ (.region 3 _ true) _ _ _; refine c_draw (l := [(0, 0), (1, 0), (2, 0), (3, 0), (4, 0), (5, 0), (6, 0), (8, 0), (9, 1), (7, 1), (10, 1), (11, 0), (12, 0), (13, 0), (14, 0), (15, 1), (16, 0), (17, 0)]) (by decide +kernel) (by decide +kernel) (by exact rfl) ?_) | refine std ?_)
          | (show Br _ _ _; first | refine Br.t rfl ?_ | refine Br.f rfl ?_ | refine brs ?_ | (first | refine Br.mkN (fun h => ?_) (fun h => ?_) | refine Br.mk (fun h => ?_) (fun h => ?_)) <;> (try (first | contradiction | (exfalso; omega) | (exfalso; simp at h; done))))
          | refine stp ?_
          | (show CallT _ 229 _ _ _; refine CA (h := needsIn_ok (by assumption) (by assumption) ?_))
          | (show CallT _ 230 _ _ _; refine CA (h := fnum_ok ?_)))
        all_goals (show retC _ _ _ _ _ _; refine RETC ?_; exact ret_done (hK))
      · have h4 := (n31_iff st).1 h3
        unfold streamB at hs
        rw [h3, Bool.true_and] at hs
        simp only [Bool.and_eq_false_iff, Bool.or_eq_false_iff, decide_eq_false_iff_not] at hs
        refine callT_intro mixed Tryz.func165 rfl (by decide) (by decide +kernel) (by exact Nat.le_of_ble_eq_true rfl) ?_
        repeat' (first
          | (show evG _ _ _ _ _ _ _; first | refine G_pure0 ?_ | refine G_load ?_ | refine evG_nil ?_ | refine G_br ?_ ?_ | refine G_field ?_ | refine G_pure ?_ | refine G_loadV ?_ | refine G_loadV0 ?_ | refine G_loadV2 ?_ | refine G_not ?_ | refine G_eql_agg ?_ | refine G_neq_agg ?_ | refine G_call ?_ | refine G_call0 ?_ | (refine G_box ?_; intro _) | refine G_skip ?_ | refine G_skip0 ?_)
          | (show spl _ _ _; first | refine spl_no rfl ?_ | refine spl_yes rfl ?_)
          | (show evC _ _ _ _ _; first | refine c_seq ?_ | refine c_region (by exact rfl) ?_ | refine c_cond (by exact rfl) ?_ | refine c_ret ?_ | refine c_skip ?_ | refine c_block ?_ | refine c_exit ?_ | (show evC _ (.region 3 _ true) _ _ _; refine c_draw (l := [(0, 0), (1, 0), (2, 0), (3, 0), (4, 0), (5, 0), (6, 0), (8, 0), (9, 1), (7, 1), (10, 1), (11, 0), (12, 0), (13, 0), (14, 0), (15, 1), (16, 0), (17, 0)]) (by decide +kernel) (by decide +kernel) (by exact rfl) ?_) | refine std ?_)
          | (show Br _ _ _; first | refine Br.t rfl ?_ | refine Br.f rfl ?_ | refine brs ?_ | (first | refine Br.mkN (fun h => ?_) (fun h => ?_) | refine Br.mk (fun h => ?_) (fun h => ?_)) <;> (try (first | contradiction | (exfalso; omega) | (exfalso; simp at h; done))))
          | refine stp ?_
          | (show CallT _ 229 _ _ _; refine CA (h := needsIn_ok (by assumption) (by assumption) ?_))
          | (show CallT _ 230 _ _ _; refine CA (h := fnum_ok ?_)))
        all_goals (show retC _ _ _ _ _ _; refine RETC ?_; exact ret_done (hK))
    · rw [hs, Bool.true_and] at hK
      have h3 : n31 st = true := by unfold streamB at hs; rw [Bool.and_eq_true] at hs; exact hs.1
      have h4 := (n31_iff st).1 h3
      unfold streamB at hs
      rw [h3, Bool.true_and] at hs
      simp only [Bool.and_eq_true, Bool.or_eq_true, decide_eq_true_eq] at hs
      cases hq : (decide (SameP t st e d k on w x c la n t st (oE t e) (oD t d) (oK t k) (oO t on) (oO t w) (oX t x) (oC t c) (oL t la) (oN t n)) && peq ps (oPs t ps))
      · rw [hq] at hK
        simp only [Bool.false_and, Bool.false_eq_true, if_false] at hK
        refine callT_intro mixed Tryz.func165 rfl (by decide) (by decide +kernel) (by exact Nat.le_of_ble_eq_true rfl) ?_
        repeat' (first
          | (show evG _ _ _ _ _ _ _; first | refine G_pure0 ?_ | refine G_load ?_ | refine evG_nil ?_ | refine G_br ?_ ?_ | refine G_field ?_ | refine G_pure ?_ | refine G_loadV ?_ | refine G_loadV0 ?_ | refine G_loadV2 ?_ | refine G_not ?_ | refine G_eql_agg ?_ | refine G_neq_agg ?_ | refine G_call ?_ | refine G_call0 ?_ | (refine G_box ?_; intro _) | refine G_skip ?_ | refine G_skip0 ?_)
          | (show spl _ _ _; first | refine spl_no rfl ?_ | refine spl_yes rfl ?_)
          | (show evC _ _ _ _ _; first | refine c_seq ?_ | refine c_region (by exact rfl) ?_ | refine c_cond (by exact rfl) ?_ | refine c_ret ?_ | refine c_skip ?_ | refine c_block ?_ | refine c_exit ?_ | (show evC _ (.region 3 _ true) _ _ _; refine c_draw (l := [(0, 0), (1, 0), (2, 0), (3, 0), (4, 0), (5, 0), (6, 0), (8, 0), (9, 1), (7, 1), (10, 1), (11, 0), (12, 0), (13, 0), (14, 0), (15, 1), (16, 0), (17, 0)]) (by decide +kernel) (by decide +kernel) (by exact rfl) ?_) | refine std ?_)
          | (show Br _ _ _; first | refine Br.t rfl ?_ | refine Br.f rfl ?_ | refine brs ?_ | (first | refine Br.mkN (fun h => ?_) (fun h => ?_) | refine Br.mk (fun h => ?_) (fun h => ?_)) <;> (try (first | contradiction | (exfalso; omega) | (exfalso; simp at h; done))))
          | refine stp ?_
          | (show CallT _ 229 _ _ _; refine CA (h := needsIn_ok (by assumption) (by assumption) ?_))
          | (show CallT _ 230 _ _ _; refine CA (h := fnum_ok ?_))
          | (show CallT _ 232 _ _ _; refine CA (h := only_ok ?_))
          | (show CallT _ 231 _ _ _; refine CA (h := fsame_ok (ps := ps) (ps1 := oPs t ps) (view_there hv) (view_o (view_there hv)) hn (len_o hn) hn2 ?_)))
        all_goals (show retC _ _ _ _ _ _; refine RETC ?_; exact ret_done (hK))
      · rw [hq, Bool.true_and] at hK
        cases hf : fieldsB t d k on w c la n ps
        · rw [hf] at hK
          simp only [Bool.false_eq_true, if_false] at hK
          refine callT_intro mixed Tryz.func165 rfl (by decide) (by decide +kernel) (by exact Nat.le_of_ble_eq_true rfl) ?_
          repeat' (first
            | (show evG _ _ _ _ _ _ _; first | refine G_pure0 ?_ | refine G_load ?_ | refine evG_nil ?_ | refine G_br ?_ ?_ | refine G_field ?_ | refine G_pure ?_ | refine G_loadV ?_ | refine G_loadV0 ?_ | refine G_loadV2 ?_ | refine G_not ?_ | refine G_eql_agg ?_ | refine G_neq_agg ?_ | refine G_call ?_ | refine G_call0 ?_ | (refine G_box ?_; intro _) | refine G_skip ?_ | refine G_skip0 ?_)
            | (show spl _ _ _; first | refine spl_no rfl ?_ | refine spl_yes rfl ?_)
            | (show evC _ _ _ _ _; first | refine c_seq ?_ | refine c_region (by exact rfl) ?_ | refine c_cond (by exact rfl) ?_ | refine c_ret ?_ | refine c_skip ?_ | refine c_block ?_ | refine c_exit ?_ | (show evC _ (.region 3 _ true) _ _ _; refine c_draw (l := [(0, 0), (1, 0), (2, 0), (3, 0), (4, 0), (5, 0), (6, 0), (8, 0), (9, 1), (7, 1), (10, 1), (11, 0), (12, 0), (13, 0), (14, 0), (15, 1), (16, 0), (17, 0)]) (by decide +kernel) (by decide +kernel) (by exact rfl) ?_) | refine std ?_)
            | (show Br _ _ _; first | refine Br.t rfl ?_ | refine Br.f rfl ?_ | refine brs ?_ | (first | refine Br.mkN (fun h => ?_) (fun h => ?_) | refine Br.mk (fun h => ?_) (fun h => ?_)) <;> (try (first | contradiction | (exfalso; omega) | (exfalso; simp at h; done))))
            | refine stp ?_
            | (show CallT _ 229 _ _ _; refine CA (h := needsIn_ok (by assumption) (by assumption) ?_))
            | (show CallT _ 230 _ _ _; refine CA (h := fnum_ok ?_))
            | (show CallT _ 232 _ _ _; refine CA (h := only_ok ?_))
            | (show CallT _ 231 _ _ _; refine CA (h := fsame_ok (ps := ps) (ps1 := oPs t ps) (view_there hv) (view_o (view_there hv)) hn (len_o hn) hn2 ?_))
            | (show CallT _ 233 _ _ _; refine CA (h := fields_ok (ps := ps) (view_there hv) hn hn2 ?_)))
          all_goals (show retC _ _ _ _ _ _; refine RETC ?_; exact ret_done (hK))
        · rw [hf] at hK
          simp only [if_true] at hK
          refine callT_intro mixed Tryz.func165 rfl (by decide) (by decide +kernel) (by exact Nat.le_of_ble_eq_true rfl) ?_
          repeat' (first
            | (show evG _ _ _ _ _ _ _; first | refine G_pure0 ?_ | refine G_load ?_ | refine evG_nil ?_ | refine G_br ?_ ?_ | refine G_field ?_ | refine G_pure ?_ | refine G_loadV ?_ | refine G_loadV0 ?_ | refine G_loadV2 ?_ | refine G_not ?_ | refine G_eql_agg ?_ | refine G_neq_agg ?_ | refine G_call ?_ | refine G_call0 ?_ | (refine G_box ?_; intro _) | refine G_skip ?_ | refine G_skip0 ?_)
            | (show spl _ _ _; first | refine spl_no rfl ?_ | refine spl_yes rfl ?_)
            | (show evC _ _ _ _ _; first | refine c_seq ?_ | refine c_region (by exact rfl) ?_ | refine c_cond (by exact rfl) ?_ | refine c_ret ?_ | refine c_skip ?_ | refine c_block ?_ | refine c_exit ?_ | (show evC _ (.region 3 _ true) _ _ _; refine c_draw (l := [(0, 0), (1, 0), (2, 0), (3, 0), (4, 0), (5, 0), (6, 0), (8, 0), (9, 1), (7, 1), (10, 1), (11, 0), (12, 0), (13, 0), (14, 0), (15, 1), (16, 0), (17, 0)]) (by decide +kernel) (by decide +kernel) (by exact rfl) ?_) | refine std ?_)
            | (show Br _ _ _; first | refine Br.t rfl ?_ | refine Br.f rfl ?_ | refine brs ?_ | (first | refine Br.mkN (fun h => ?_) (fun h => ?_) | refine Br.mk (fun h => ?_) (fun h => ?_)) <;> (try (first | contradiction | (exfalso; omega) | (exfalso; simp at h; done))))
            | refine stp ?_
            | (show CallT _ 229 _ _ _; refine CA (h := needsIn_ok (by assumption) (by assumption) ?_))
            | (show CallT _ 230 _ _ _; refine CA (h := fnum_ok ?_))
            | (show CallT _ 232 _ _ _; refine CA (h := only_ok ?_))
            | (show CallT _ 231 _ _ _; refine CA (h := fsame_ok (ps := ps) (ps1 := oPs t ps) (view_there hv) (view_o (view_there hv)) hn (len_o hn) hn2 ?_))
            | (show CallT _ 233 _ _ _; refine CA (h := fields_ok (ps := ps) (view_there hv) hn hn2 ?_)))
          all_goals (show retC _ _ _ _ _ _; refine RETC ?_; exact ret_done (hK))
  · have d0 : (decide (0 ≤ t) && decide (t ≤ 11)) = false := by rw [Bool.and_eq_false_iff]; simp; omega
    unfold chkI chkB at hK
    rw [d0] at hK
    simp only [Bool.false_and, Bool.false_eq_true, if_false] at hK
    refine callT_intro mixed Tryz.func165 rfl (by decide) (by decide +kernel) (by exact Nat.le_of_ble_eq_true rfl) ?_
    repeat' (first
      | (show evG _ _ _ _ _ _ _; first | refine G_pure0 ?_ | refine G_load ?_ | refine evG_nil ?_ | refine G_br ?_ ?_ | refine G_field ?_ | refine G_pure ?_ | refine G_loadV ?_ | refine G_loadV0 ?_ | refine G_loadV2 ?_ | refine G_not ?_ | refine G_eql_agg ?_ | refine G_neq_agg ?_ | refine G_call ?_ | refine G_call0 ?_ | (refine G_box ?_; intro _) | refine G_skip ?_ | refine G_skip0 ?_)
      | (show spl _ _ _; first | refine spl_no rfl ?_ | refine spl_yes rfl ?_)
      | (show evC _ _ _ _ _; first | refine c_seq ?_ | refine c_region (by exact rfl) ?_ | refine c_cond (by exact rfl) ?_ | refine c_ret ?_ | refine c_skip ?_ | refine c_block ?_ | refine c_exit ?_ | (show evC _ (.region 3 _ true) _ _ _; refine c_draw (l := [(0, 0), (1, 0), (2, 0), (3, 0), (4, 0), (5, 0), (6, 0), (8, 0), (9, 1), (7, 1), (10, 1), (11, 0), (12, 0), (13, 0), (14, 0), (15, 1), (16, 0), (17, 0)]) (by decide +kernel) (by decide +kernel) (by exact rfl) ?_) | refine std ?_)
      | (show Br _ _ _; first | refine Br.t rfl ?_ | refine Br.f rfl ?_ | refine brs ?_ | (first | refine Br.mkN (fun h => ?_) (fun h => ?_) | refine Br.mk (fun h => ?_) (fun h => ?_)) <;> (try (first | contradiction | (exfalso; omega) | (exfalso; simp at h; done))))
      | refine stp ?_
      | (show CallT _ 229 _ _ _; refine CA (h := needsOut_ok (by omega) ?_))
      | (show CallT _ 230 _ _ _; refine CA (h := fnum_ok ?_)))
    all_goals (show retC _ _ _ _ _ _; refine RETC ?_; exact ret_done (hK))
end Go.Proofs.YtiofdmjecjcdbaaGreatDoor

