/- Frame: what a type has, and whether it may be: lemmas; each with the conditions that it states. -/
import Derived.Test.YtiofdmjecjcdbaaGreatDoorFh
import Derived.Test.YtiofdmjecjcdbaaGreatDoorK1

namespace Go.Proofs.YtiofdmjecjcdbaaGreatDoor
open Go Go.Proofs Go.Sl
set_option maxRecDepth 100000
set_option maxHeartbeats 4000000
set_option linter.unusedSimpArgs false
set_option linter.unusedVariables false
attribute [local irreducible] evG evC spl thenC inBlockC noGotoC CallT retC RetG TurnG CutG pt ro exP star sep pureP
variable {R C : List HP} {K : Value → List HP → Prop}
def oE (t : Int) (e : Bool) : Bool := if t = 0 ∨ t = 1 then e else false
def oD (t : Int) (d : ByteArray) : ByteArray := if t = 0 ∨ t = 1 ∨ t = 7 ∨ t = 8 then d else ⟨#[]⟩
def oK (t k : Int) : Int := if t = 2 then k else 0
def oO (t on : Int) : Int := if t = 2 ∨ t = 3 then on else 0
def oX (t : Int) (x : Bool) : Bool := if t = 2 ∨ t = 3 then x else false
def oC (t c : Int) : Int := if t = 4 ∨ t = 9 then c else 0
def oL (t l : Int) : Int := if t = 9 then l else 0
def oN (t n : Int) : Int := if t = 10 ∨ t = 11 then n else 0
def oPa (t : Int) (p : Option Addr) : Option Addr := if t = 5 then p else none
def oPn (t : Int) (n : Nat) : Nat := if t = 5 then n else 0
def oPs (t : Int) (l : List Pr) : List Pr := if t = 5 then l else []
theorem only_ok {t st : Int} {e : Bool} {d : ByteArray} {k on w : Int} {x : Bool} {c la n : Int} {pa : Option Addr} {pn pc : Nat} (hK : K (.agg #[.int .i64 t, .int .i64 st, .bool (oE t e), .string (oD t d), .int .i64 (oK t k), .int .i64 (oO t on), .int .i64 (oO t w), .bool (oX t x), .int .i64 (oC t c), .int .i64 (oL t la), .int .i64 (oN t n), .slice (oPa t pa) (oPn t pn) (oPn t pc)]) R) : CallT Tryz.prog 232 #[.agg #[.int .i64 t, .int .i64 st, .bool e, .string d, .int .i64 k, .int .i64 on, .int .i64 w, .bool x, .int .i64 c, .int .i64 la, .int .i64 n, .slice pa pn pc]] R K := by
  rcases (by omega : (t < 0 ∨ 11 < t ∨ t = 6) ∨ t = 0 ∨ t = 1 ∨ t = 2 ∨ t = 3 ∨ t = 4 ∨ t = 5 ∨ t = 7 ∨ t = 8 ∨ t = 9 ∨ t = 10 ∨ t = 11) with h | h | h | h | h | h | h | h | h | h | h | h
  · have q0 : ¬ t = 0 := by omega
    have q1 : ¬ t = 1 := by omega
    have q2 : ¬ t = 2 := by omega
    have q3 : ¬ t = 3 := by omega
    have q4 : ¬ t = 4 := by omega
    have q5 : ¬ t = 5 := by omega
    have q7 : ¬ t = 7 := by omega
    have q8 : ¬ t = 8 := by omega
    have q9 : ¬ t = 9 := by omega
    have q10 : ¬ t = 10 := by omega
    have q11 : ¬ t = 11 := by omega
    simp only [oE, oD, oK, oO, oX, oC, oL, oN, oPa, oPn, q0, q1, q2, q3, q4, q5, q7, q8, q9, q10, q11, or_self, if_false] at hK
    refine callT_intro mixed Tryz.func232 rfl (by decide) (by decide +kernel) (by exact Nat.le_of_ble_eq_true rfl) ?_
    repeat' (first
      | (show evG _ _ _ _ _ _ _; first | refine G_pure0 ?_ | refine G_load ?_ | refine evG_nil ?_ | refine G_br ?_ ?_ | refine G_field ?_ | refine G_pure ?_ | refine G_store ?_ | refine G_loadV ?_ | refine G_loadV0 ?_ | refine G_loadV2 ?_ | refine G_build ?_ | refine G_eql_agg ?_ | (refine G_box ?_; intro _) | (refine G_alloc ?_; intro _))
      | (show spl _ _ _; first | refine spl_no rfl ?_ | refine spl_yes rfl ?_)
      | (show evC _ _ _ _ _; first | refine c_seq ?_ | refine c_region (by exact rfl) ?_ | refine c_cond (by exact rfl) ?_ | refine c_ret ?_ | refine c_skip ?_ | refine c_block ?_ | refine c_exit ?_ | (show evC _ (.region 5 _ true) _ _ _; refine c_draw (l := [(0, 0), (1, 0), (4, 0), (5, 1), (2, 1), (3, 1), (6, 0), (7, 1)]) (by decide +kernel) (by decide +kernel) (by exact rfl) ?_) | (show evC _ (.region 7 _ true) _ _ _; refine c_draw (l := [(0, 0), (1, 0), (4, 0), (5, 1), (2, 1), (3, 1), (6, 0), (7, 1)]) (by decide +kernel) (by decide +kernel) (by exact rfl) ?_) | (show evC _ (.region 18 _ true) _ _ _; refine c_draw (l := [(0, 0), (1, 0), (4, 0), (5, 1), (2, 1), (3, 1), (6, 0), (7, 1)]) (by decide +kernel) (by decide +kernel) (by exact rfl) ?_) | refine std ?_)
      | (show Br _ _ _; first | refine Br.t rfl ?_ | refine Br.f rfl ?_ | refine brs ?_ | (first | refine Br.mkN (fun h => ?_) (fun h => ?_) | refine Br.mk (fun h => ?_) (fun h => ?_)) <;> (try (first | contradiction | (exfalso; omega) | (exfalso; simp at h; done))))
      | refine stp ?_)
    all_goals (show retC _ _ _ _ _ _; refine RETC ?_; exact ret_done (hK))
  all_goals
    subst h
    simp [oE, oD, oK, oO, oX, oC, oL, oN, oPa, oPn] at hK
    refine callT_intro mixed Tryz.func232 rfl (by decide) (by decide +kernel) (by exact Nat.le_of_ble_eq_true rfl) ?_
    repeat' (first
      | (show evG _ _ _ _ _ _ _; first | refine G_pure0 ?_ | refine G_load ?_ | refine evG_nil ?_ | refine G_br ?_ ?_ | refine G_field ?_ | refine G_pure ?_ | refine G_store ?_ | refine G_loadV ?_ | refine G_loadV0 ?_ | refine G_loadV2 ?_ | refine G_build ?_ | refine G_eql_agg ?_ | (refine G_box ?_; intro _) | (refine G_alloc ?_; intro _))
      | (show spl _ _ _; first | refine spl_no rfl ?_ | refine spl_yes rfl ?_)
      | (show evC _ _ _ _ _; first | refine c_seq ?_ | refine c_region (by exact rfl) ?_ | refine c_cond (by exact rfl) ?_ | refine c_ret ?_ | refine c_skip ?_ | refine c_block ?_ | refine c_exit ?_ | (show evC _ (.region 5 _ true) _ _ _; refine c_draw (l := [(0, 0), (1, 0), (4, 0), (5, 1), (2, 1), (3, 1), (6, 0), (7, 1)]) (by decide +kernel) (by decide +kernel) (by exact rfl) ?_) | (show evC _ (.region 7 _ true) _ _ _; refine c_draw (l := [(0, 0), (1, 0), (4, 0), (5, 1), (2, 1), (3, 1), (6, 0), (7, 1)]) (by decide +kernel) (by decide +kernel) (by exact rfl) ?_) | (show evC _ (.region 18 _ true) _ _ _; refine c_draw (l := [(0, 0), (1, 0), (4, 0), (5, 1), (2, 1), (3, 1), (6, 0), (7, 1)]) (by decide +kernel) (by decide +kernel) (by exact rfl) ?_) | refine std ?_)
      | (show Br _ _ _; first | refine Br.t rfl ?_ | refine Br.f rfl ?_ | refine brs ?_ | (first | refine Br.mkN (fun h => ?_) (fun h => ?_) | refine Br.mk (fun h => ?_) (fun h => ?_)) <;> (try (first | contradiction | (exfalso; omega) | (exfalso; simp at h; done))))
      | refine stp ?_)
    all_goals (show retC _ _ _ _ _ _; refine RETC ?_; exact ret_done (hK))
def psB (l : List Pr) : Bool := l.all fun p => decide (0 ≤ p.i) && decide (p.i ≤ 65535) && n31 p.v
def fieldsB (t : Int) (d : ByteArray) (k on w c la n : Int) (ps : List Pr) : Bool := if t = 0 ∨ t = 1 then decide (d.size ≤ 256) else if t = 2 then (decide (k = 1) || decide (k = 2)) && depB on w else if t = 3 then depB on w else if t = 7 ∨ t = 8 then decide (d.size = 8) else if t = 5 then psB ps && decide (ps.length ≤ 8) else n31 c && n31 la && n31 n
theorem fields_ok {t st : Int} {e : Bool} {d : ByteArray} {k on w : Int} {x : Bool} {c la n : Int} {pa : Option Addr} {pn pc : Nat} {ps : List Pr} (hv : View C pa prC ps) (hn : ps.length = pn) (hn2 : pn < 1000000000000000) (hK : K (.bool (fieldsB t d k on w c la n ps)) C) : CallT Tryz.prog 233 #[.agg #[.int .i64 t, .int .i64 st, .bool e, .string d, .int .i64 k, .int .i64 on, .int .i64 w, .bool x, .int .i64 c, .int .i64 la, .int .i64 n, .slice pa pn pc]] C K := by
  subst hn
  by_cases h5 : t = 5
  · subst h5
    simp [fieldsB] at hK
    refine callT_intro mixed Tryz.func233 rfl (by decide) (by decide +kernel) (by exact Nat.le_of_ble_eq_true rfl) ?_
    repeat' (first
      | (show evG _ _ _ _ _ _ _; first | refine G_add64 ?_ | refine G_pure0 ?_ | refine G_load ?_ | refine evG_nil ?_ | refine G_br ?_ ?_ | refine G_field ?_ | refine G_pure ?_ | refine G_store ?_ | refine G_loadV ?_ | refine G_loadV0 ?_ | refine G_loadV2 ?_ | refine G_not ?_ | refine G_index ?_ | refine G_indexA ?_ | refine G_cat ?_ | refine G_eql_agg ?_ | refine G_call ?_ | refine G_call0 ?_ | (refine G_box ?_; intro _) | (refine G_alloc ?_; intro _) | (refine G_indexV ?_; intro _ _ hA; subst hA) | refine G_skip ?_ | refine G_skip0 ?_)
      | (show spl _ _ _; first | refine spl_no rfl ?_ | refine spl_yes rfl ?_)
      | (show evC _ _ _ _ _; first | refine c_seq ?_ | refine c_region (by exact rfl) ?_ | refine c_cond (by exact rfl) ?_ | refine c_ret ?_ | refine c_skip ?_ | refine c_block ?_ | refine c_exit ?_ | refine std ?_)
      | (show Br _ _ _; first | refine Br.t rfl ?_ | refine Br.f rfl ?_ | refine brs ?_ | (first | refine Br.mkN (fun h => ?_) (fun h => ?_) | refine Br.mk (fun h => ?_) (fun h => ?_)) <;> (try (first | contradiction | (exfalso; omega) | (exfalso; simp at h; done))))
      | refine stp ?_)
    rename_i r
    have hv2 : View (pt r [.int .i64 5, .int .i64 st, .bool e, .string d, .int .i64 k, .int .i64 on, .int .i64 w, .bool x, .int .i64 c, .int .i64 la, .int .i64 n, .slice pa ps.length pc] 214 :: C) pa prC ps := view_there hv
    refine LOOP (fun m a C' => ∃ j : Nat, j + m = ps.length ∧ C' = pt r [.int .i64 5, .int .i64 st, .bool e, .string d, .int .i64 k, .int .i64 on, .int .i64 w, .bool x, .int .i64 c, .int .i64 la, .int .i64 n, .slice pa ps.length pc] 214 :: C ∧ psB ps = psB (ps.drop j) ∧ Agree a [(1, .pointer (some ⟨r, 0, none⟩)), (44, .slice pa ps.length pc), (45, .int .i64 ps.length), (46, .int .i64 j)]) ps.length (turn ps.length ⟨0, by omega, rfl, rfl, rfl, rfl, rfl, rfl, trivial⟩) ?_
    rintro n1 a C' ⟨j, hj, rfl, hp, ha⟩
    refine c_fr _ ha ?_
    simp only [updL]
    by_cases hlt : j < ps.length
    · obtain ⟨y, hy, hd⟩ := at_drop (l := ps) (j := j) (by omega)
      rw [hd] at hp
      simp only [psB, List.all_cons] at hp
      by_cases hok : (decide (0 ≤ y.i) && decide (y.i ≤ 65535) && n31 y.v) = true
      · rw [hok, Bool.true_and] at hp
        simp only [Bool.and_eq_true, decide_eq_true_eq] at hok
        obtain ⟨⟨o1, o2⟩, o3⟩ := hok
        repeat' (first
          | (show evG _ _ _ _ _ _ _; first | refine G_add64 ?_ | refine G_pure0 ?_ | refine G_load ?_ | refine evG_nil ?_ | refine G_br ?_ ?_ | refine G_field ?_ | refine G_pure ?_ | refine G_store ?_ | refine G_loadV ?_ | refine G_loadV0 ?_ | refine G_loadV2 ?_ | refine G_not ?_ | refine G_index ?_ | refine G_indexA ?_ | refine G_cat ?_ | refine G_eql_agg ?_ | refine G_call ?_ | refine G_call0 ?_ | (refine G_box ?_; intro _) | (refine G_alloc ?_; intro _) | (refine G_indexV ?_; intro _ _ hA; subst hA) | refine G_skip ?_ | refine G_skip0 ?_)
          | (show spl _ _ _; first | refine spl_no rfl ?_ | refine spl_yes rfl ?_)
          | (show evC _ _ _ _ _; first | refine c_seq ?_ | refine c_region (by exact rfl) ?_ | refine c_cond (by exact rfl) ?_ | refine c_ret ?_ | refine c_skip ?_ | refine c_block ?_ | refine c_exit ?_ | refine std ?_)
          | (show Br _ _ _; first | refine Br.t rfl ?_ | refine Br.f rfl ?_ | refine brs ?_ | (first | refine Br.mkN (fun h => ?_) (fun h => ?_) | refine Br.mk (fun h => ?_) (fun h => ?_)) <;> (try (first | contradiction | (exfalso; omega) | (exfalso; simp at h; done))))
          | refine stp ?_
          | (show CallT _ 306 _ _ _; refine CA (h := fwith_ok ?_))
          | (show CallT _ 230 _ _ _; refine CA (h := fnum_ok ?_)))
        exact turn (n1 - 1) ⟨j + 1, by omega, rfl, hp, rfl, rfl, rfl, rfl, trivial⟩
      · have hok' : (decide (0 ≤ y.i) && decide (y.i ≤ 65535) && n31 y.v) = false := by simpa using hok
        rw [hok', Bool.false_and] at hp
        have hps : psB ps = false := hp
        rw [hps, Bool.false_and] at hK
        have h3 : (y.i < 0 ∨ 65535 < y.i) ∨ n31 y.v = false := by
          simp only [Bool.and_eq_false_iff, decide_eq_false_iff_not] at hok'
          rcases hok' with (h | h) | h
          · exact .inl (.inl (by omega))
          · exact .inl (.inr (by omega))
          · exact .inr h
        rcases h3 with h3 | h3
        · repeat' (first
            | (show evG _ _ _ _ _ _ _; first | refine G_add64 ?_ | refine G_pure0 ?_ | refine G_load ?_ | refine evG_nil ?_ | refine G_br ?_ ?_ | refine G_field ?_ | refine G_pure ?_ | refine G_store ?_ | refine G_loadV ?_ | refine G_loadV0 ?_ | refine G_loadV2 ?_ | refine G_not ?_ | refine G_index ?_ | refine G_indexA ?_ | refine G_cat ?_ | refine G_eql_agg ?_ | refine G_call ?_ | refine G_call0 ?_ | (refine G_box ?_; intro _) | (refine G_alloc ?_; intro _) | (refine G_indexV ?_; intro _ _ hA; subst hA) | refine G_skip ?_ | refine G_skip0 ?_)
            | (show spl _ _ _; first | refine spl_no rfl ?_ | refine spl_yes rfl ?_)
            | (show evC _ _ _ _ _; first | refine c_seq ?_ | refine c_region (by exact rfl) ?_ | refine c_cond (by exact rfl) ?_ | refine c_ret ?_ | refine c_skip ?_ | refine c_block ?_ | refine c_exit ?_ | refine std ?_)
            | (show Br _ _ _; first | refine Br.t rfl ?_ | refine Br.f rfl ?_ | refine brs ?_ | (first | refine Br.mkN (fun h => ?_) (fun h => ?_) | refine Br.mk (fun h => ?_) (fun h => ?_)) <;> (try (first | contradiction | (exfalso; omega) | (exfalso; simp at h; done))))
            | refine stp ?_
            | (show CallT _ 306 _ _ _; refine CA (h := fwith_ok ?_))
            | (show CallT _ 230 _ _ _; refine CA (h := fnum_ok ?_)))
          all_goals (show retC _ _ _ _ _ _; refine RETC ?_; exact ret_done (hK))
        · repeat' (first
            | (show evG _ _ _ _ _ _ _; first | refine G_add64 ?_ | refine G_pure0 ?_ | refine G_load ?_ | refine evG_nil ?_ | refine G_br ?_ ?_ | refine G_field ?_ | refine G_pure ?_ | refine G_store ?_ | refine G_loadV ?_ | refine G_loadV0 ?_ | refine G_loadV2 ?_ | refine G_not ?_ | refine G_index ?_ | refine G_indexA ?_ | refine G_cat ?_ | refine G_eql_agg ?_ | refine G_call ?_ | refine G_call0 ?_ | (refine G_box ?_; intro _) | (refine G_alloc ?_; intro _) | (refine G_indexV ?_; intro _ _ hA; subst hA) | refine G_skip ?_ | refine G_skip0 ?_)
            | (show spl _ _ _; first | refine spl_no rfl ?_ | refine spl_yes rfl ?_)
            | (show evC _ _ _ _ _; first | refine c_seq ?_ | refine c_region (by exact rfl) ?_ | refine c_cond (by exact rfl) ?_ | refine c_ret ?_ | refine c_skip ?_ | refine c_block ?_ | refine c_exit ?_ | refine std ?_)
            | (show Br _ _ _; first | refine Br.t rfl ?_ | refine Br.f rfl ?_ | refine brs ?_ | (first | refine Br.mkN (fun h => ?_) (fun h => ?_) | refine Br.mk (fun h => ?_) (fun h => ?_)) <;> (try (first | contradiction | (exfalso; omega) | (exfalso; simp at h; done))))
            | refine stp ?_
            | (show CallT _ 306 _ _ _; refine CA (h := fwith_ok ?_))
            | (show CallT _ 230 _ _ _; refine CA (h := fnum_ok ?_)))
          all_goals (show retC _ _ _ _ _ _; refine RETC ?_; exact ret_done (hK))
    · obtain rfl : j = ps.length := by omega
      rw [List.drop_eq_nil_of_le (by omega)] at hp
      have hps : psB ps = true := hp
      rw [hps, Bool.true_and] at hK
      repeat' (first
        | (show evG _ _ _ _ _ _ _; first | refine G_add64 ?_ | refine G_pure0 ?_ | refine G_load ?_ | refine evG_nil ?_ | refine G_br ?_ ?_ | refine G_field ?_ | refine G_pure ?_ | refine G_store ?_ | refine G_loadV ?_ | refine G_loadV0 ?_ | refine G_loadV2 ?_ | refine G_not ?_ | refine G_index ?_ | refine G_indexA ?_ | refine G_cat ?_ | refine G_eql_agg ?_ | refine G_call ?_ | refine G_call0 ?_ | (refine G_box ?_; intro _) | (refine G_alloc ?_; intro _) | (refine G_indexV ?_; intro _ _ hA; subst hA) | refine G_skip ?_ | refine G_skip0 ?_)
        | (show spl _ _ _; first | refine spl_no rfl ?_ | refine spl_yes rfl ?_)
        | (show evC _ _ _ _ _; first | refine c_seq ?_ | refine c_region (by exact rfl) ?_ | refine c_cond (by exact rfl) ?_ | refine c_ret ?_ | refine c_skip ?_ | refine c_block ?_ | refine c_exit ?_ | refine std ?_)
        | (show Br _ _ _; first | refine Br.t rfl ?_ | refine Br.f rfl ?_ | refine brs ?_ | (first | refine Br.mkN (fun h => ?_) (fun h => ?_) | refine Br.mk (fun h => ?_) (fun h => ?_)) <;> (try (first | contradiction | (exfalso; omega) | (exfalso; simp at h; done))))
        | refine stp ?_)
      (show retC _ _ _ _ _ _; refine RETC ?_; exact ret_done (kb hK (by simp <;> omega)))
  · rcases (by omega : (t < 0 ∨ 11 < t ∨ t = 6 ∨ t = 4 ∨ t = 9 ∨ t = 10 ∨ t = 11) ∨ t = 0 ∨ t = 1 ∨ t = 2 ∨ t = 3 ∨ t = 7 ∨ t = 8) with h | h | h | h | h | h | h
    · have q0 : ¬ t = 0 := by omega
      have q1 : ¬ t = 1 := by omega
      have q2 : ¬ t = 2 := by omega
      have q3 : ¬ t = 3 := by omega
      have q7 : ¬ t = 7 := by omega
      have q8 : ¬ t = 8 := by omega
      simp only [fieldsB, q0, q1, q2, q3, h5, q7, q8, or_self, if_false] at hK
      refine callT_intro mixed Tryz.func233 rfl (by decide) (by decide +kernel) (by exact Nat.le_of_ble_eq_true rfl) ?_
      repeat' (first
        | (show evG _ _ _ _ _ _ _; first | refine G_add64 ?_ | refine G_pure0 ?_ | refine G_load ?_ | refine evG_nil ?_ | refine G_br ?_ ?_ | refine G_field ?_ | refine G_pure ?_ | refine G_store ?_ | refine G_loadV ?_ | refine G_loadV0 ?_ | refine G_loadV2 ?_ | refine G_not ?_ | refine G_index ?_ | refine G_indexA ?_ | refine G_cat ?_ | refine G_eql_agg ?_ | refine G_call ?_ | refine G_call0 ?_ | (refine G_box ?_; intro _) | (refine G_alloc ?_; intro _) | (refine G_indexV ?_; intro _ _ hA; subst hA) | refine G_skip ?_ | refine G_skip0 ?_)
        | (show spl _ _ _; first | refine spl_no rfl ?_ | refine spl_yes rfl ?_)
        | (show evC _ _ _ _ _; first | refine c_seq ?_ | refine c_region (by exact rfl) ?_ | refine c_cond (by exact rfl) ?_ | refine c_ret ?_ | refine c_skip ?_ | refine c_block ?_ | refine c_exit ?_ | refine std ?_)
        | (show Br _ _ _; first | refine Br.t rfl ?_ | refine Br.f rfl ?_ | refine brs ?_ | (first | refine Br.mkN (fun h => ?_) (fun h => ?_) | refine Br.mk (fun h => ?_) (fun h => ?_)) <;> (try (first | contradiction | (exfalso; omega) | (exfalso; simp at h; done))))
        | refine stp ?_
        | (show CallT _ 230 _ _ _; refine CA (h := fnum_ok ?_))
        | (show CallT _ 309 _ _ _; refine CA (h := fdep_ok ?_)))
      all_goals (show retC _ _ _ _ _ _; refine RETC ?_; exact ret_done (kb hK (by simp [*])))
    all_goals
      subst h
      simp [fieldsB] at hK
      refine callT_intro mixed Tryz.func233 rfl (by decide) (by decide +kernel) (by exact Nat.le_of_ble_eq_true rfl) ?_
      repeat' (first
        | (show evG _ _ _ _ _ _ _; first | refine G_add64 ?_ | refine G_pure0 ?_ | refine G_load ?_ | refine evG_nil ?_ | refine G_br ?_ ?_ | refine G_field ?_ | refine G_pure ?_ | refine G_store ?_ | refine G_loadV ?_ | refine G_loadV0 ?_ | refine G_loadV2 ?_ | refine G_not ?_ | refine G_index ?_ | refine G_indexA ?_ | refine G_cat ?_ | refine G_eql_agg ?_ | refine G_call ?_ | refine G_call0 ?_ | (refine G_box ?_; intro _) | (refine G_alloc ?_; intro _) | (refine G_indexV ?_; intro _ _ hA; subst hA) | refine G_skip ?_ | refine G_skip0 ?_)
        | (show spl _ _ _; first | refine spl_no rfl ?_ | refine spl_yes rfl ?_)
        | (show evC _ _ _ _ _; first | refine c_seq ?_ | refine c_region (by exact rfl) ?_ | refine c_cond (by exact rfl) ?_ | refine c_ret ?_ | refine c_skip ?_ | refine c_block ?_ | refine c_exit ?_ | refine std ?_)
        | (show Br _ _ _; first | refine Br.t rfl ?_ | refine Br.f rfl ?_ | refine brs ?_ | (first | refine Br.mkN (fun h => ?_) (fun h => ?_) | refine Br.mk (fun h => ?_) (fun h => ?_)) <;> (try (first | contradiction | (exfalso; omega) | (exfalso; simp at h; done))))
        | refine stp ?_
        | (show CallT _ 230 _ _ _; refine CA (h := fnum_ok ?_))
        | (show CallT _ 309 _ _ _; refine CA (h := fdep_ok ?_)))
      all_goals (show retC _ _ _ _ _ _; refine RETC ?_; exact ret_done (kb hK (by simp [*] <;> omega)))
end Go.Proofs.YtiofdmjecjcdbaaGreatDoor

