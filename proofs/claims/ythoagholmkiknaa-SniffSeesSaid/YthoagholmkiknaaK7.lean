/- Frame: the document's Right is Check: lemmas; each with the conditions that it states. -/
import Derived.Test.YthoagholmkiknaaFh
import Derived.Test.YthoagholmkiknaaKb

namespace Go.Proofs.Ythoagholmkiknaa
open Go Go.Proofs Go.Sl
set_option maxRecDepth 100000
set_option maxHeartbeats 4000000
set_option linter.unusedSimpArgs false
set_option linter.unusedVariables false
attribute [local irreducible] evG evC spl thenC inBlockC noGotoC CallT retC RetG TurnG CutG pt ro exP star sep pureP
variable {R C : List HP} {K : Value → List HP → Prop}
theorem chk_of {t st : Int} {e : Bool} {d : ByteArray} {k on w : Int} {x : Bool} {c la n : Int} (ps : List Pr) (h2 : b2 t st = false) (h4 : b4 t e k c la n ps.length = false) (h6 : b6 t d on w x = false) (h8 : b8 t d k on w = false) : chkB t st e d k on w x c la n ps = (psB ps && (n31 c && n31 la && n31 n && decide (ps.length ≤ 8))) := by
  rw [Bool.eq_iff_iff, chk_iff]
  have hst := n31_iff st
  have hd := @size0 d
  have hd2 : d = ByteArray.empty ↔ d = ⟨#[]⟩ := Iff.rfl
  have hno := n31_no st
  unfold b2 streamB at h2
  unfold b4 at h4
  unfold b6 at h6
  unfold b8 at h8
  have ht : 0 ≤ t ∧ t ≤ 11 := by simp only [Bool.not_eq_false', Bool.and_eq_true, decide_eq_true_eq] at h2; exact h2.1
  rcases (by omega : t = 0 ∨ t = 1 ∨ t = 2 ∨ t = 3 ∨ t = 4 ∨ t = 5 ∨ t = 6 ∨ t = 7 ∨ t = 8 ∨ t = 9 ∨ t = 10 ∨ t = 11) with h | h | h | h | h | h | h | h | h | h | h | h
  all_goals
    subst h
    unfold RightP
    simp at h2 h4 h6 h8 ⊢
    grind
theorem no_2 {t st : Int} {e : Bool} {d : ByteArray} {k on w : Int} {x : Bool} {c la n : Int} (ps : List Pr) (h2 : b2 t st = true) : chkB t st e d k on w x c la n ps = false := by
  rw [Bool.eq_false_iff, ne_eq, chk_iff]
  have hst := n31_iff st
  unfold b2 streamB at h2
  unfold RightP
  grind
theorem no_4 {t st : Int} {e : Bool} {d : ByteArray} {k on w : Int} {x : Bool} {c la n : Int} (ps : List Pr) (h4 : b4 t e k c la n ps.length = true) : chkB t st e d k on w x c la n ps = false := by
  rw [Bool.eq_false_iff, ne_eq, chk_iff]
  unfold b4 at h4
  unfold RightP
  grind
theorem no_6 {t st : Int} {e : Bool} {d : ByteArray} {k on w : Int} {x : Bool} {c la n : Int} (ps : List Pr) (h6 : b6 t d on w x = true) : chkB t st e d k on w x c la n ps = false := by
  rw [Bool.eq_false_iff, ne_eq, chk_iff]
  have hd := @size0 d
  unfold b6 at h6
  unfold RightP
  grind
theorem no_8 {t st : Int} {e : Bool} {d : ByteArray} {k on w : Int} {x : Bool} {c la n : Int} (ps : List Pr) (h8 : b8 t d k on w = true) : chkB t st e d k on w x c la n ps = false := by
  rw [Bool.eq_false_iff, ne_eq, chk_iff]
  unfold b8 at h8
  unfold RightP
  grind
theorem rright3_ok {t st : Int} {e : Bool} {d : ByteArray} {k on w : Int} {x : Bool} {c la n : Int} {pa : Option Addr} {pn pc : Nat} {ps : List Pr} (hv : View C pa prC ps) (hn : ps.length = pn) (hn2 : pn < 1000000000000000) (hK : K (.bool (chkB t st e d k on w x c la n ps)) C) : CallT Try.prog 14 #[.agg #[.int .i64 t, .int .i64 st, .bool e, .string d, .int .i64 k, .int .i64 on, .int .i64 w, .bool x, .int .i64 c, .int .i64 la, .int .i64 n, .slice pa pn pc]] C K := by
  subst hn
  refine callT_intro mixed Try.func14 rfl (by decide) (by decide +kernel) (by exact Nat.le_of_ble_eq_true rfl) ?_
  repeat' (first
    | (show evC _ (.region 2 _ _) _ _ _; refine rreg2 ⟨rfl, rfl, rfl, trivial⟩ (fun a => ?_))
    | (show evC _ (.region 4 _ _) _ _ _; refine rreg4 ⟨rfl, rfl, rfl, trivial⟩ (fun a => ?_))
    | (show evC _ (.region 6 _ _) _ _ _; refine rreg6 ⟨rfl, rfl, rfl, trivial⟩ (fun a => ?_))
    | (show evC _ (.region 8 _ _) _ _ _; refine rreg8 ⟨rfl, rfl, rfl, trivial⟩ (fun a => ?_))
    | (show evG _ _ _ _ _ _ _; first | refine G_add64 ?_ | refine G_pure0 ?_ | refine G_load ?_ | refine evG_nil ?_ | refine G_br ?_ ?_ | refine G_field ?_ | refine G_pure ?_ | refine G_loadV ?_ | refine G_loadV0 ?_ | refine G_loadV2 ?_ | refine G_not ?_ | refine G_index ?_ | refine G_indexA ?_ | refine G_cat ?_ | refine G_eql_agg ?_ | refine G_neq_agg ?_ | refine G_call ?_ | refine G_call0 ?_ | (refine G_box ?_; intro _) | (refine G_indexV ?_; intro _ _ hA; subst hA) | refine G_skip ?_ | refine G_skip0 ?_)
    | (show spl _ _ _; first | refine spl_no rfl ?_ | refine spl_yes rfl ?_)
    | (show evC _ _ _ _ _; first | refine c_seq ?_ | refine c_region (by exact rfl) ?_ | refine c_cond (by exact rfl) ?_ | refine c_ret ?_ | refine c_skip ?_ | refine c_block ?_ | refine c_exit ?_ | refine std ?_)
    | (show Br _ _ _; first | refine Br.t rfl ?_ | refine Br.f rfl ?_ | refine brs ?_ | (first | refine Br.mkN (fun h => ?_) (fun h => ?_) | refine Br.mk (fun h => ?_) (fun h => ?_)) <;> (try (first | contradiction | (exfalso; omega) | (exfalso; simp at h; done))))
    | refine stp ?_)
  all_goals first
    | (rw [no_2 ps (by assumption)] at hK; (show retC _ _ _ _ _ _; refine RETC ?_; exact ret_done (hK)))
    | (rw [no_4 ps (by assumption)] at hK; (show retC _ _ _ _ _ _; refine RETC ?_; exact ret_done (hK)))
    | (rw [no_6 ps (by assumption)] at hK; (show retC _ _ _ _ _ _; refine RETC ?_; exact ret_done (hK)))
    | (rw [no_8 ps (by assumption)] at hK; (show retC _ _ _ _ _ _; refine RETC ?_; exact ret_done (hK)))
    | skip
  rw [chk_of ps (by assumption) (by assumption) (by assumption) (by assumption)] at hK
  rename_i r _ _ _ _ _ _
  have hv2 : View (pt r [.int .i64 t, .int .i64 st, .bool e, .string d, .int .i64 k, .int .i64 on, .int .i64 w, .bool x, .int .i64 c, .int .i64 la, .int .i64 n, .slice pa ps.length pc] 38 :: C) pa prC ps := view_there hv
  refine LOOP (fun m a C' => ∃ j : Nat, j + m = ps.length ∧ C' = pt r [.int .i64 t, .int .i64 st, .bool e, .string d, .int .i64 k, .int .i64 on, .int .i64 w, .bool x, .int .i64 c, .int .i64 la, .int .i64 n, .slice pa ps.length pc] 38 :: C ∧ psB ps = psB (ps.drop j) ∧ Agree a [(1, .pointer (some ⟨r, 0, none⟩)), (2, .bool false), (4, .int .i64 j)]) ps.length (turn ps.length ⟨0, by omega, rfl, rfl, rfl, rfl, rfl, trivial⟩) ?_
  rintro n1 a C' ⟨j, hj, rfl, hp, ha⟩
  refine c_fr _ ha ?_
  simp only [updL]
  by_cases hlt : j < ps.length
  · obtain ⟨y, hy, hd⟩ := at_drop (l := ps) (j := j) (by omega)
    rw [hd] at hp
    simp only [psB, List.all_cons] at hp
    by_cases hok : (decide (0 ≤ y.i) && decide (y.i ≤ 65535) && n31 y.v) = true
    · rw [hok, Bool.true_and] at hp
      simp only [Bool.and_eq_true, decide_eq_true_eq] at hok
      obtain ⟨⟨o1, o2⟩, o3⟩ := hok
      repeat' (first
        | (show evG _ _ _ _ _ _ _; first | refine G_add64 ?_ | refine G_pure0 ?_ | refine G_load ?_ | refine evG_nil ?_ | refine G_br ?_ ?_ | refine G_field ?_ | refine G_pure ?_ | refine G_loadV ?_ | refine G_loadV0 ?_ | refine G_loadV2 ?_ | refine G_not ?_ | refine G_index ?_ | refine G_indexA ?_ | refine G_cat ?_ | refine G_eql_agg ?_ | refine G_neq_agg ?_ | refine G_call ?_ | refine G_call0 ?_ | (refine G_box ?_; intro _) | (refine G_indexV ?_; intro _ _ hA; subst hA) | refine G_skip ?_ | refine G_skip0 ?_)
        | (show spl _ _ _; first | refine spl_no rfl ?_ | refine spl_yes rfl ?_)
        | (show evC _ _ _ _ _; first | refine c_seq ?_ | refine c_region (by exact rfl) ?_ | refine c_cond (by exact rfl) ?_ | refine c_ret ?_ | refine c_skip ?_ | refine c_block ?_ | refine c_exit ?_ | refine std ?_)
        | (show Br _ _ _; first | refine Br.t rfl ?_ | refine Br.f rfl ?_ | refine brs ?_ | (first | refine Br.mkN (fun h => ?_) (fun h => ?_) | refine Br.mk (fun h => ?_) (fun h => ?_)) <;> (try (first | contradiction | (exfalso; omega) | (exfalso; simp at h; done))))
        | refine stp ?_
        | (show CallT _ 28 _ _ _; refine CA (h := rfour_ok ?_)))
      exact turn (n1 - 1) ⟨j + 1, by omega, rfl, hp, rfl, rfl, rfl, trivial⟩
    · have hok' : (decide (0 ≤ y.i) && decide (y.i ≤ 65535) && n31 y.v) = false := by simpa using hok
      rw [hok', Bool.false_and] at hp
      have hps : psB ps = false := hp
      rw [hps, Bool.false_and] at hK
      simp only [Bool.and_eq_false_iff, decide_eq_false_iff_not, Int.not_le] at hok'
      rcases hok' with hok' | hok'
      · have h3 : y.i < 0 ∨ 65535 < y.i := by omega
        repeat' (first
          | (show evG _ _ _ _ _ _ _; first | refine G_add64 ?_ | refine G_pure0 ?_ | refine G_load ?_ | refine evG_nil ?_ | refine G_br ?_ ?_ | refine G_field ?_ | refine G_pure ?_ | refine G_loadV ?_ | refine G_loadV0 ?_ | refine G_loadV2 ?_ | refine G_not ?_ | refine G_index ?_ | refine G_indexA ?_ | refine G_cat ?_ | refine G_eql_agg ?_ | refine G_neq_agg ?_ | refine G_call ?_ | refine G_call0 ?_ | (refine G_box ?_; intro _) | (refine G_indexV ?_; intro _ _ hA; subst hA) | refine G_skip ?_ | refine G_skip0 ?_)
          | (show spl _ _ _; first | refine spl_no rfl ?_ | refine spl_yes rfl ?_)
          | (show evC _ _ _ _ _; first | refine c_seq ?_ | refine c_region (by exact rfl) ?_ | refine c_cond (by exact rfl) ?_ | refine c_ret ?_ | refine c_skip ?_ | refine c_block ?_ | refine c_exit ?_ | refine std ?_)
          | (show Br _ _ _; first | refine Br.t rfl ?_ | refine Br.f rfl ?_ | refine brs ?_ | (first | refine Br.mkN (fun h => ?_) (fun h => ?_) | refine Br.mk (fun h => ?_) (fun h => ?_)) <;> (try (first | contradiction | (exfalso; omega) | (exfalso; simp at h; done))))
          | refine stp ?_
          | (show CallT _ 28 _ _ _; refine CA (h := rfour_ok ?_)))
        all_goals (show retC _ _ _ _ _ _; refine RETC ?_; exact ret_done (hK))
      · repeat' (first
          | (show evG _ _ _ _ _ _ _; first | refine G_add64 ?_ | refine G_pure0 ?_ | refine G_load ?_ | refine evG_nil ?_ | refine G_br ?_ ?_ | refine G_field ?_ | refine G_pure ?_ | refine G_loadV ?_ | refine G_loadV0 ?_ | refine G_loadV2 ?_ | refine G_not ?_ | refine G_index ?_ | refine G_indexA ?_ | refine G_cat ?_ | refine G_eql_agg ?_ | refine G_neq_agg ?_ | refine G_call ?_ | refine G_call0 ?_ | (refine G_box ?_; intro _) | (refine G_indexV ?_; intro _ _ hA; subst hA) | refine G_skip ?_ | refine G_skip0 ?_)
          | (show spl _ _ _; first | refine spl_no rfl ?_ | refine spl_yes rfl ?_)
          | (show evC _ _ _ _ _; first | refine c_seq ?_ | refine c_region (by exact rfl) ?_ | refine c_cond (by exact rfl) ?_ | refine c_ret ?_ | refine c_skip ?_ | refine c_block ?_ | refine c_exit ?_ | refine std ?_)
          | (show Br _ _ _; first | refine Br.t rfl ?_ | refine Br.f rfl ?_ | refine brs ?_ | (first | refine Br.mkN (fun h => ?_) (fun h => ?_) | refine Br.mk (fun h => ?_) (fun h => ?_)) <;> (try (first | contradiction | (exfalso; omega) | (exfalso; simp at h; done))))
          | refine stp ?_
          | (show CallT _ 28 _ _ _; refine CA (h := rfour_ok ?_)))
        all_goals (show retC _ _ _ _ _ _; refine RETC ?_; exact ret_done (hK))
  · obtain rfl : j = ps.length := by omega
    rw [List.drop_eq_nil_of_le (by omega)] at hp
    have hps : psB ps = true := hp
    rw [hps, Bool.true_and] at hK
    repeat' (first
      | (show evG _ _ _ _ _ _ _; first | refine G_add64 ?_ | refine G_pure0 ?_ | refine G_load ?_ | refine evG_nil ?_ | refine G_br ?_ ?_ | refine G_field ?_ | refine G_pure ?_ | refine G_loadV ?_ | refine G_loadV0 ?_ | refine G_loadV2 ?_ | refine G_not ?_ | refine G_index ?_ | refine G_indexA ?_ | refine G_cat ?_ | refine G_eql_agg ?_ | refine G_neq_agg ?_ | refine G_call ?_ | refine G_call0 ?_ | (refine G_box ?_; intro _) | (refine G_indexV ?_; intro _ _ hA; subst hA) | refine G_skip ?_ | refine G_skip0 ?_)
      | (show spl _ _ _; first | refine spl_no rfl ?_ | refine spl_yes rfl ?_)
      | (show evC _ _ _ _ _; first | refine c_seq ?_ | refine c_region (by exact rfl) ?_ | refine c_cond (by exact rfl) ?_ | refine c_ret ?_ | refine c_skip ?_ | refine c_block ?_ | refine c_exit ?_ | refine std ?_)
      | (show Br _ _ _; first | refine Br.t rfl ?_ | refine Br.f rfl ?_ | refine brs ?_ | (first | refine Br.mkN (fun h => ?_) (fun h => ?_) | refine Br.mk (fun h => ?_) (fun h => ?_)) <;> (try (first | contradiction | (exfalso; omega) | (exfalso; simp at h; done))))
      | refine stp ?_
      | (show CallT _ 28 _ _ _; refine CA (h := rfour_ok ?_)))
    all_goals (show retC _ _ _ _ _ _; refine RETC ?_; exact ret_done (kb hK (by simp [*] <;> omega)))
end Go.Proofs.Ythoagholmkiknaa

