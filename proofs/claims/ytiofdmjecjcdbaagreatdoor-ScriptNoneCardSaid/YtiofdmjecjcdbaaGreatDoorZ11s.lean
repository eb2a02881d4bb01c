/- Duplex: two endpoints are made: lemmas; each with the conditions that it states. -/
import Derived.Test.YtiofdmjecjcdbaaGreatDoorFh
import Derived.Test.YtiofdmjecjcdbaaGreatDoorZz

namespace Go.Proofs.YtiofdmjecjcdbaaGreatDoor
open Go Go.Proofs Go.Sl
set_option maxRecDepth 100000
set_option maxHeartbeats 4000000
set_option linter.unusedSimpArgs false
set_option linter.unusedVariables false
attribute [local irreducible] evG evC spl thenC inBlockC noGotoC CallT retC RetG TurnG CutG pt ro exP star sep pureP
attribute [local irreducible] mp mit
variable {R C : List HP} {K : Value → List HP → Prop}
section
variable {side w st it sb si stg ev wa stl : Int}
/-- what is wrong with a Conf -/
def cE (w st it sb si stg ev wa stl : Int) : Int := if mayE w st it sb si stg = 0 then (if (0 ≤ ev ∧ ev ≤ 1048576) ∧ (0 ≤ wa ∧ wa ≤ 1048576) ∧ (0 ≤ stl ∧ stl ≤ 1048576) then 0 else 3) else mayE w st it sb si stg
theorem cnewO_ok (hs : side = 0 ∨ side = 1) (h : cE w st it sb si stg ev wa stl = 0) (hK : ∀ x, K (.tuple #[.pointer (some ⟨x, 0, none⟩), .int .i64 0]) R) : CallT Tryz.prog 66 #[.int .i64 side, .agg #[.int .i64 w, .int .i64 st, .int .i64 it, .int .i64 sb, .int .i64 si, .int .i64 stg, .int .i64 ev, .int .i64 wa, .int .i64 stl]] R K := by
  unfold cE at h
  by_cases hm : mayE w st it sb si stg = 0
  · rw [if_pos hm] at h
    by_cases hb : (0 ≤ ev ∧ ev ≤ 1048576) ∧ (0 ≤ wa ∧ wa ≤ 1048576) ∧ (0 ≤ stl ∧ stl ≤ 1048576)
    · obtain ⟨g1, g2, g3, g4⟩ := mayE_ok hm
      exact cnewGood_ok (cOK_iff.2 ⟨hs, g3, g4, g1, g2, hb.1, hb.2.1, hb.2.2⟩) hK
    · rw [if_neg hb] at h; cases h
  · rw [if_neg hm] at h; exact absurd h hm
theorem cnewE1_ok {e : Int} (hs : side = 0 ∨ side = 1) (h : cE w st it sb si stg ev wa stl = e) (he : e ≠ 0) (hK : K (.tuple #[.pointer none, .int .i64 e]) R) : CallT Tryz.prog 66 #[.int .i64 side, .agg #[.int .i64 w, .int .i64 st, .int .i64 it, .int .i64 sb, .int .i64 si, .int .i64 stg, .int .i64 ev, .int .i64 wa, .int .i64 stl]] R K := by
  unfold cE at h
  by_cases hm : mayE w st it sb si stg = 0
  · rw [if_pos hm] at h
    by_cases hb : (0 ≤ ev ∧ ev ≤ 1048576) ∧ (0 ≤ wa ∧ wa ≤ 1048576) ∧ (0 ≤ stl ∧ stl ≤ 1048576)
    · rw [if_pos hb] at h; exact absurd h.symm he
    · rw [if_neg hb] at h
      subst h
      by_cases hb1 : (0 ≤ ev ∧ ev ≤ 1048576) ∧ (0 ≤ wa ∧ wa ≤ 1048576)
      · exact cnewE_ok hs hm hb1 (by omega) hK
      · by_cases hst : 0 ≤ stl ∧ stl ≤ 1048576
        · exact cnewC_ok hs hm hb1 hst hK
        · exact cnewD_ok hs hm hb1 (by omega) hK
  · rw [if_neg hm] at h
    exact cnewB_ok hs h he hK
end
theorem linknew_ok (hK : ∀ p, K (.tuple #[.pointer (some ⟨p, 0, none⟩), .int .i64 0]) R) : CallT Tryz.prog 67 #[.int .i64 1048576] R K := by
  refine callT_intro mixed Tryz.func67 rfl (by decide) (by decide +kernel) (by exact Nat.le_of_ble_eq_true rfl) ?_
  repeat' (first
    | (show evG _ _ _ _ _ _ _; first | refine G_pure0 ?_ | refine evG_nil ?_ | refine G_br ?_ ?_ | refine G_pure ?_ | refine G_build ?_ | (refine G_box ?_; intro _) | refine G_skip ?_ | refine G_skip0 ?_)
    | (show spl _ _ _; first | refine spl_no rfl ?_ | refine spl_yes rfl ?_)
    | (show evC _ _ _ _ _; first | refine c_seq ?_ | refine c_region (by exact rfl) ?_ | refine c_cond (by exact rfl) ?_ | refine c_ret ?_ | refine c_skip ?_ | refine c_block ?_ | refine c_exit ?_ | refine std ?_)
    | (show Br _ _ _; first | refine Br.t (by decide +kernel) ?_ | refine Br.f (by decide +kernel) ?_ | refine Br.t rfl ?_ | refine Br.f rfl ?_ | refine brs ?_ | (first | refine Br.mkN (fun h => ?_) (fun h => ?_) | refine Br.mk (fun h => ?_) (fun h => ?_)) <;> (try (first | contradiction | (exfalso; omega) | (exfalso; simp at h; done))))
    | refine stp ?_)
  all_goals (show retC _ _ _ _ _ _; refine RETC ?_; exact ret_done (hK _))
section
variable {w st it sb si stg ev wa stl w2 st2 it2 sb2 si2 stg2 ev2 wa2 stl2 : Int}
set_option maxHeartbeats 40000000 in
theorem dnewA_ok {e : Int} (h0 : cE w st it sb si stg ev wa stl = e) (he : e ≠ 0) (hK : K (.tuple #[.pointer none, .int .i64 e]) R) : CallT Tryz.prog 39 #[.agg #[.int .i64 w, .int .i64 st, .int .i64 it, .int .i64 sb, .int .i64 si, .int .i64 stg, .int .i64 ev, .int .i64 wa, .int .i64 stl], .agg #[.int .i64 w2, .int .i64 st2, .int .i64 it2, .int .i64 sb2, .int .i64 si2, .int .i64 stg2, .int .i64 ev2, .int .i64 wa2, .int .i64 stl2]] R K := by
  refine callT_intro mixed Tryz.func39 rfl (by decide) (by decide +kernel) (by exact Nat.le_of_ble_eq_true rfl) ?_
  repeat' (first
    | (show evG _ _ _ _ _ _ _; first | refine G_add64 ?_ | refine G_pure0 ?_ | refine G_load ?_ | refine evG_nil ?_ | refine G_br ?_ ?_ | refine G_field ?_ | refine G_pure ?_ | refine G_store ?_ | refine G_loadV ?_ | refine G_loadV0 ?_ | refine G_loadV2 ?_ | refine G_index ?_ | refine G_indexA ?_ | refine G_indexS ?_ | refine G_build ?_ | refine G_cat ?_ | refine G_neq_agg ?_ | refine G_call ?_ | refine G_call0 ?_ | (refine G_box ?_; intro _) | (refine G_alloc ?_; intro _) | (refine G_indexV ?_; intro _ _ hA; subst hA))
    | (show spl _ _ _; first | refine spl_no rfl ?_ | refine spl_yes rfl ?_)
    | (show evC _ _ _ _ _; first | refine c_seq ?_ | refine c_region (by exact rfl) ?_ | refine c_cond (by exact rfl) ?_ | refine c_ret ?_ | refine c_skip ?_ | refine c_block ?_ | refine c_exit ?_ | (show evC _ (.region 6 _ true) _ _ _; refine c_draw (l := [(2, 0), (3, 0), (4, 1), (0, 1), (1, 1), (5, 0), (6, 0), (8, 1), (9, 1), (10, 0), (11, 1), (7, 1), (12, 0)]) (by decide +kernel) (by decide +kernel) (by exact rfl) ?_) | (show evC _ (.region 9 _ true) _ _ _; refine c_draw (l := [(2, 1), (0, 1), (1, 1), (3, 0), (4, 0), (6, 1), (7, 1), (8, 0), (9, 1), (5, 1)]) (by decide +kernel) (by decide +kernel) (by exact rfl) ?_) | refine std ?_)
    | (show Br _ _ _; first | refine Br.t rfl ?_ | refine Br.f rfl ?_ | refine brs ?_ | (first | refine Br.mkN (fun h => ?_) (fun h => ?_) | refine Br.mk (fun h => ?_) (fun h => ?_)) <;> (try (first | contradiction | (exfalso; omega) | (exfalso; simp at h; done))))
    | refine stp ?_)
  rename_i x
  refine LOOP (fun kk a C' => ∃ j : Nat, j + kk = 2 ∧ j = 0 ∧ Agree a [(6, .pointer (some ⟨x, 0, none⟩)), (14, .agg #[.int .i64 w, .int .i64 st, .int .i64 it, .int .i64 sb, .int .i64 si, .int .i64 stg, .int .i64 ev, .int .i64 wa, .int .i64 stl, .int .i64 w2, .int .i64 st2, .int .i64 it2, .int .i64 sb2, .int .i64 si2, .int .i64 stg2, .int .i64 ev2, .int .i64 wa2, .int .i64 stl2]), (15, .int .i64 0)] ∧ C' = pt x [.pointer none, .pointer none, .pointer none, .pointer none, .bool false, .bool false] 129 :: R) 2 (turn 2 ⟨0, by omega, ⟨rfl, ⟨rfl, rfl, rfl, trivial⟩, rfl⟩⟩ (by omega)) ?_
  rintro kk a C' ⟨j, hj, hc⟩
  obtain ⟨rfl, ha, rfl⟩ := hc
  refine c_fr _ ha ?_
  simp only [updL]
  repeat' (first
    | (show evG _ _ _ _ _ _ _; first | refine G_add64 ?_ | refine G_pure0 ?_ | refine G_load ?_ | refine evG_nil ?_ | refine G_br ?_ ?_ | refine G_field ?_ | refine G_pure ?_ | refine G_store ?_ | refine G_loadV ?_ | refine G_loadV0 ?_ | refine G_loadV2 ?_ | refine G_index ?_ | refine G_indexA ?_ | refine G_indexS ?_ | refine G_build ?_ | refine G_cat ?_ | refine G_neq_agg ?_ | refine G_call ?_ | refine G_call0 ?_ | (refine G_box ?_; intro _) | (refine G_alloc ?_; intro _) | (refine G_indexV ?_; intro _ _ hA; subst hA))
    | (show spl _ _ _; first | refine spl_no rfl ?_ | refine spl_yes rfl ?_)
    | (show evC _ _ _ _ _; first | refine c_seq ?_ | refine c_region (by exact rfl) ?_ | refine c_cond (by exact rfl) ?_ | refine c_ret ?_ | refine c_skip ?_ | refine c_block ?_ | refine c_exit ?_ | (show evC _ (.region 6 _ true) _ _ _; refine c_draw (l := [(2, 0), (3, 0), (4, 1), (0, 1), (1, 1), (5, 0), (6, 0), (8, 1), (9, 1), (10, 0), (11, 1), (7, 1), (12, 0)]) (by decide +kernel) (by decide +kernel) (by exact rfl) ?_) | (show evC _ (.region 9 _ true) _ _ _; refine c_draw (l := [(2, 1), (0, 1), (1, 1), (3, 0), (4, 0), (6, 1), (7, 1), (8, 0), (9, 1), (5, 1)]) (by decide +kernel) (by decide +kernel) (by exact rfl) ?_) | refine std ?_)
    | (show Br _ _ _; first | refine Br.t rfl ?_ | refine Br.f rfl ?_ | refine brs ?_ | (first | refine Br.mkN (fun h => ?_) (fun h => ?_) | refine Br.mk (fun h => ?_) (fun h => ?_)) <;> (try (first | contradiction | (exfalso; omega) | (exfalso; simp at h; done))))
    | refine stp ?_
    | (show CallT _ 66 _ _ _; refine CA (h := cnewE1_ok (.inl rfl) h0 he ?_))
    | (show evG _ _ _ _ _ _ _; refine G_indexArr ?_))
  all_goals (show retC _ _ _ _ _ _; refine RETC ?_; exact ret_done (hK))
set_option maxHeartbeats 40000000 in
theorem dnewC_ok (h0 : cE w st it sb si stg ev wa stl = 0) (h1 : cE w2 st2 it2 sb2 si2 stg2 ev2 wa2 stl2 = 0) (hK : ∀ x, K (.tuple #[.pointer (some ⟨x, 0, none⟩), .int .i64 0]) R) : CallT Tryz.prog 39 #[.agg #[.int .i64 w, .int .i64 st, .int .i64 it, .int .i64 sb, .int .i64 si, .int .i64 stg, .int .i64 ev, .int .i64 wa, .int .i64 stl], .agg #[.int .i64 w2, .int .i64 st2, .int .i64 it2, .int .i64 sb2, .int .i64 si2, .int .i64 stg2, .int .i64 ev2, .int .i64 wa2, .int .i64 stl2]] R K := by
  refine callT_intro mixed Tryz.func39 rfl (by decide) (by decide +kernel) (by exact Nat.le_of_ble_eq_true rfl) ?_
  repeat' (first
    | (show evG _ _ _ _ _ _ _; first | refine G_add64 ?_ | refine G_pure0 ?_ | refine G_load ?_ | refine evG_nil ?_ | refine G_br ?_ ?_ | refine G_field ?_ | refine G_pure ?_ | refine G_store ?_ | refine G_loadV ?_ | refine G_loadV0 ?_ | refine G_loadV2 ?_ | refine G_index ?_ | refine G_indexA ?_ | refine G_indexS ?_ | refine G_build ?_ | refine G_cat ?_ | refine G_neq_agg ?_ | refine G_call ?_ | refine G_call0 ?_ | (refine G_box ?_; intro _) | (refine G_alloc ?_; intro _) | (refine G_indexV ?_; intro _ _ hA; subst hA))
    | (show spl _ _ _; first | refine spl_no rfl ?_ | refine spl_yes rfl ?_)
    | (show evC _ _ _ _ _; first | refine c_seq ?_ | refine c_region (by exact rfl) ?_ | refine c_cond (by exact rfl) ?_ | refine c_ret ?_ | refine c_skip ?_ | refine c_block ?_ | refine c_exit ?_ | (show evC _ (.region 6 _ true) _ _ _; refine c_draw (l := [(2, 0), (3, 0), (4, 1), (0, 1), (1, 1), (5, 0), (6, 0), (8, 1), (9, 1), (10, 0), (11, 1), (7, 1), (12, 0)]) (by decide +kernel) (by decide +kernel) (by exact rfl) ?_) | (show evC _ (.region 9 _ true) _ _ _; refine c_draw (l := [(2, 1), (0, 1), (1, 1), (3, 0), (4, 0), (6, 1), (7, 1), (8, 0), (9, 1), (5, 1)]) (by decide +kernel) (by decide +kernel) (by exact rfl) ?_) | refine std ?_)
    | (show Br _ _ _; first | refine Br.t rfl ?_ | refine Br.f rfl ?_ | refine brs ?_ | (first | refine Br.mkN (fun h => ?_) (fun h => ?_) | refine Br.mk (fun h => ?_) (fun h => ?_)) <;> (try (first | contradiction | (exfalso; omega) | (exfalso; simp at h; done))))
    | refine stp ?_)
  rename_i x
  refine LOOP (fun kk a C' => ∃ j : Nat, j + kk = 2 ∧ ((j = 0 ∧ Agree a [(6, .pointer (some ⟨x, 0, none⟩)), (14, .agg #[.int .i64 w, .int .i64 st, .int .i64 it, .int .i64 sb, .int .i64 si, .int .i64 stg, .int .i64 ev, .int .i64 wa, .int .i64 stl, .int .i64 w2, .int .i64 st2, .int .i64 it2, .int .i64 sb2, .int .i64 si2, .int .i64 stg2, .int .i64 ev2, .int .i64 wa2, .int .i64 stl2]), (15, .int .i64 0)] ∧ C' = pt x [.pointer none, .pointer none, .pointer none, .pointer none, .bool false, .bool false] 129 :: R) ∨ (j = 1 ∧ ∃ c0 l0 : Nat, Agree a [(6, .pointer (some ⟨x, 0, none⟩)), (14, .agg #[.int .i64 w, .int .i64 st, .int .i64 it, .int .i64 sb, .int .i64 si, .int .i64 stg, .int .i64 ev, .int .i64 wa, .int .i64 stl, .int .i64 w2, .int .i64 st2, .int .i64 it2, .int .i64 sb2, .int .i64 si2, .int .i64 stg2, .int .i64 ev2, .int .i64 wa2, .int .i64 stl2]), (15, .int .i64 1)] ∧ C' = pt x [.pointer (some ⟨c0, 0, none⟩), .pointer none, .pointer (some ⟨l0, 0, none⟩), .pointer none, .bool false, .bool false] 129 :: R) ∨ (j = 2 ∧ Agree a [(6, .pointer (some ⟨x, 0, none⟩)), (14, .agg #[.int .i64 w, .int .i64 st, .int .i64 it, .int .i64 sb, .int .i64 si, .int .i64 stg, .int .i64 ev, .int .i64 wa, .int .i64 stl, .int .i64 w2, .int .i64 st2, .int .i64 it2, .int .i64 sb2, .int .i64 si2, .int .i64 stg2, .int .i64 ev2, .int .i64 wa2, .int .i64 stl2]), (15, .int .i64 2)] ∧ ∃ c0 l0 c1 l1 : Nat, C' = pt x [.pointer (some ⟨c0, 0, none⟩), .pointer (some ⟨c1, 0, none⟩), .pointer (some ⟨l0, 0, none⟩), .pointer (some ⟨l1, 0, none⟩), .bool false, .bool false] 129 :: R))) 2 (turn 2 ⟨0, by omega, .inl ⟨rfl, ⟨rfl, rfl, rfl, trivial⟩, rfl⟩⟩ (by omega)) ?_
  rintro kk a C' ⟨j, hj, hc⟩
  rcases hc with ⟨rfl, ha, rfl⟩ | ⟨rfl, c0, l0, ha, rfl⟩ | ⟨rfl, ha, c0, l0, c1, l1, rfl⟩
  · refine c_fr _ ha ?_
    simp only [updL]
    repeat' (first
      | (show evG _ _ _ _ _ _ _; first | refine G_add64 ?_ | refine G_pure0 ?_ | refine G_load ?_ | refine evG_nil ?_ | refine G_br ?_ ?_ | refine G_field ?_ | refine G_pure ?_ | refine G_store ?_ | refine G_loadV ?_ | refine G_loadV0 ?_ | refine G_loadV2 ?_ | refine G_index ?_ | refine G_indexA ?_ | refine G_indexS ?_ | refine G_build ?_ | refine G_cat ?_ | refine G_neq_agg ?_ | refine G_call ?_ | refine G_call0 ?_ | (refine G_box ?_; intro _) | (refine G_alloc ?_; intro _) | (refine G_indexV ?_; intro _ _ hA; subst hA))
      | (show spl _ _ _; first | refine spl_no rfl ?_ | refine spl_yes rfl ?_)
      | (show evC _ _ _ _ _; first | refine c_seq ?_ | refine c_region (by exact rfl) ?_ | refine c_cond (by exact rfl) ?_ | refine c_ret ?_ | refine c_skip ?_ | refine c_block ?_ | refine c_exit ?_ | (show evC _ (.region 6 _ true) _ _ _; refine c_draw (l := [(2, 0), (3, 0), (4, 1), (0, 1), (1, 1), (5, 0), (6, 0), (8, 1), (9, 1), (10, 0), (11, 1), (7, 1), (12, 0)]) (by decide +kernel) (by decide +kernel) (by exact rfl) ?_) | (show evC _ (.region 9 _ true) _ _ _; refine c_draw (l := [(2, 1), (0, 1), (1, 1), (3, 0), (4, 0), (6, 1), (7, 1), (8, 0), (9, 1), (5, 1)]) (by decide +kernel) (by decide +kernel) (by exact rfl) ?_) | refine std ?_)
      | (show Br _ _ _; first | refine Br.t rfl ?_ | refine Br.f rfl ?_ | refine brs ?_ | (first | refine Br.mkN (fun h => ?_) (fun h => ?_) | refine Br.mk (fun h => ?_) (fun h => ?_)) <;> (try (first | contradiction | (exfalso; omega) | (exfalso; simp at h; done))))
      | refine stp ?_
      | (show CallT _ 66 _ _ _; refine CA (h := cnewO_ok (.inl rfl) h0 (fun _ => ?_)))
      | (show CallT _ 67 _ _ _; refine CA (h := linknew_ok (fun _ => ?_)))
      | (show evG _ _ _ _ _ _ _; refine G_indexArr ?_))
    all_goals (show TurnG _ _ _ _; exact turn (kk - 1) ⟨1, by omega, .inr (.inl ⟨rfl, _, _, ⟨rfl, rfl, rfl, trivial⟩, rfl⟩)⟩)
  · refine c_fr _ ha ?_
    simp only [updL]
    repeat' (first
      | (show evG _ _ _ _ _ _ _; first | refine G_add64 ?_ | refine G_pure0 ?_ | refine G_load ?_ | refine evG_nil ?_ | refine G_br ?_ ?_ | refine G_field ?_ | refine G_pure ?_ | refine G_store ?_ | refine G_loadV ?_ | refine G_loadV0 ?_ | refine G_loadV2 ?_ | refine G_index ?_ | refine G_indexA ?_ | refine G_indexS ?_ | refine G_build ?_ | refine G_cat ?_ | refine G_neq_agg ?_ | refine G_call ?_ | refine G_call0 ?_ | (refine G_box ?_; intro _) | (refine G_alloc ?_; intro _) | (refine G_indexV ?_; intro _ _ hA; subst hA))
      | (show spl _ _ _; first | refine spl_no rfl ?_ | refine spl_yes rfl ?_)
      | (show evC _ _ _ _ _; first | refine c_seq ?_ | refine c_region (by exact rfl) ?_ | refine c_cond (by exact rfl) ?_ | refine c_ret ?_ | refine c_skip ?_ | refine c_block ?_ | refine c_exit ?_ | (show evC _ (.region 6 _ true) _ _ _; refine c_draw (l := [(2, 0), (3, 0), (4, 1), (0, 1), (1, 1), (5, 0), (6, 0), (8, 1), (9, 1), (10, 0), (11, 1), (7, 1), (12, 0)]) (by decide +kernel) (by decide +kernel) (by exact rfl) ?_) | (show evC _ (.region 9 _ true) _ _ _; refine c_draw (l := [(2, 1), (0, 1), (1, 1), (3, 0), (4, 0), (6, 1), (7, 1), (8, 0), (9, 1), (5, 1)]) (by decide +kernel) (by decide +kernel) (by exact rfl) ?_) | refine std ?_)
      | (show Br _ _ _; first | refine Br.t rfl ?_ | refine Br.f rfl ?_ | refine brs ?_ | (first | refine Br.mkN (fun h => ?_) (fun h => ?_) | refine Br.mk (fun h => ?_) (fun h => ?_)) <;> (try (first | contradiction | (exfalso; omega) | (exfalso; simp at h; done))))
      | refine stp ?_
      | (show CallT _ 66 _ _ _; refine CA (h := cnewO_ok (.inr rfl) h1 (fun _ => ?_)))
      | (show CallT _ 67 _ _ _; refine CA (h := linknew_ok (fun _ => ?_)))
      | (show evG _ _ _ _ _ _ _; refine G_indexArr ?_))
    all_goals (show TurnG _ _ _ _; exact turn (kk - 1) ⟨2, by omega, .inr (.inr ⟨rfl, ⟨rfl, rfl, rfl, trivial⟩, _, _, _, _, rfl⟩)⟩)
  · refine c_fr _ ha ?_
    simp only [updL]
    repeat' (first
      | (show evG _ _ _ _ _ _ _; first | refine G_add64 ?_ | refine G_pure0 ?_ | refine G_load ?_ | refine evG_nil ?_ | refine G_br ?_ ?_ | refine G_field ?_ | refine G_pure ?_ | refine G_store ?_ | refine G_loadV ?_ | refine G_loadV0 ?_ | refine G_loadV2 ?_ | refine G_index ?_ | refine G_indexA ?_ | refine G_indexS ?_ | refine G_build ?_ | refine G_cat ?_ | refine G_neq_agg ?_ | refine G_call ?_ | refine G_call0 ?_ | (refine G_box ?_; intro _) | (refine G_alloc ?_; intro _) | (refine G_indexV ?_; intro _ _ hA; subst hA))
      | (show spl _ _ _; first | refine spl_no rfl ?_ | refine spl_yes rfl ?_)
      | (show evC _ _ _ _ _; first | refine c_seq ?_ | refine c_region (by exact rfl) ?_ | refine c_cond (by exact rfl) ?_ | refine c_ret ?_ | refine c_skip ?_ | refine c_block ?_ | refine c_exit ?_ | (show evC _ (.region 6 _ true) _ _ _; refine c_draw (l := [(2, 0), (3, 0), (4, 1), (0, 1), (1, 1), (5, 0), (6, 0), (8, 1), (9, 1), (10, 0), (11, 1), (7, 1), (12, 0)]) (by decide +kernel) (by decide +kernel) (by exact rfl) ?_) | (show evC _ (.region 9 _ true) _ _ _; refine c_draw (l := [(2, 1), (0, 1), (1, 1), (3, 0), (4, 0), (6, 1), (7, 1), (8, 0), (9, 1), (5, 1)]) (by decide +kernel) (by decide +kernel) (by exact rfl) ?_) | refine std ?_)
      | (show Br _ _ _; first | refine Br.t rfl ?_ | refine Br.f rfl ?_ | refine brs ?_ | (first | refine Br.mkN (fun h => ?_) (fun h => ?_) | refine Br.mk (fun h => ?_) (fun h => ?_)) <;> (try (first | contradiction | (exfalso; omega) | (exfalso; simp at h; done))))
      | refine stp ?_
      | (show evG _ _ _ _ _ _ _; refine G_indexArr ?_))
    all_goals (show retC _ _ _ _ _ _; refine RETC ?_; exact ret_done (hK _))
end
end Go.Proofs.YtiofdmjecjcdbaaGreatDoor

