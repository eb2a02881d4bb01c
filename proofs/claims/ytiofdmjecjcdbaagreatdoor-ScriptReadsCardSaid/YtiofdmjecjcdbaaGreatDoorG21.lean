/- Script: Read of what is no script: lemmas; each with the conditions that it states. -/
import Derived.Test.YtiofdmjecjcdbaaGreatDoorFh
import Derived.Test.YtiofdmjecjcdbaaGreatDoorG20

namespace Go.Proofs.YtiofdmjecjcdbaaGreatDoor
open Go Go.Proofs Go.Sl
set_option maxRecDepth 100000
set_option maxHeartbeats 4000000
set_option linter.unusedSimpArgs false
set_option linter.unusedVariables false
attribute [local irreducible] evG evC spl thenC inBlockC noGotoC CallT retC RetG TurnG CutG pt ro exP star sep pureP
variable {R C : List HP} {K : Value → List HP → Prop}
set_option maxHeartbeats 8000000 in
theorem readSN_ok {l : List UInt8} {k0 : Nat} {e0 : Int} (hs0 : l.length ≤ 1000000) (h : rdScr 0 PL0 (spl1 10 l) = (PL0, k0, e0)) (he0 : e0 ≠ 0) (hK : K (.tuple #[.agg #[.int .i64 0, .int .i64 0, .int .i64 0, .int .i64 0, .int .i64 0, .int .i64 0, .int .i64 0, .int .i64 0, .int .i64 0, .int .i64 0, .int .i64 0, .int .i64 0, .int .i64 0, .int .i64 0, .int .i64 0, .int .i64 0, .int .i64 0, .int .i64 0, .slice none 0 0], .int .i64 k0, .int .i64 e0]) R) : CallT Tryz.prog 12 #[.string (bq l)] R K := by
  have hsz : (bq l).size ≤ 1100000 := by rw [bq_size]; omega
  have hszI : ((bq l).size : Int) ≤ 1000000 := by rw [bq_size]; omega
  have hdl : (bq l).data.toList = l := data_bq l
  have hmem : ∀ p ∈ spl1 10 l, p.length ≤ 1000000 := fun p hp => Nat.le_trans (spl1_mem hp) hs0
  have hple := spl1_le (c := 10) l
  have hpos : 0 < (spl1 10 l).length := List.length_pos_iff.2 (spl1_ne 10 l)
  have hpI : (((spl1 10 l).length : Nat) : Int) ≤ 1000001 := by omega
  have hal : ((aftL 10 (spl1 10 l)).map bq).length = (spl1 10 l).length := by simp [aftL_len]
  have hfd : rdScr 0 PL0 ((spl1 10 l).drop 0) = (PL0, k0, e0) := h
  clear hs0 hple h
  refine callT_intro mixed Tryz.func12 rfl (by decide) (by decide +kernel) (by exact Nat.le_of_ble_eq_true rfl) ?_
  repeat' (first
    | (show evG _ _ _ _ _ _ _; first | refine G_add64 ?_ | refine G_sub64 ?_ | refine G_pure0 ?_ | refine G_load ?_ | refine evG_nil ?_ | refine G_br ?_ ?_ | refine G_field ?_ | refine G_pure ?_ | refine G_store ?_ | refine G_loadV ?_ | refine G_loadV0 ?_ | refine G_loadV2 ?_ | (refine G_append ?_; intro _ _) | (refine G_appendN ?_; intro _ _) | refine G_not ?_ | refine G_index ?_ | refine G_indexA ?_ | refine G_build ?_ | refine G_cat ?_ | refine G_eql_agg ?_ | refine G_call ?_ | refine G_call0 ?_ | (refine G_alloc ?_; intro _) | (refine G_buildSlice ?_; intro _) | (refine G_indexV ?_; intro _ _ hA; subst hA) | refine G_skip ?_ | refine G_skip0 ?_)
    | (show spl _ _ _; first | refine spl_no rfl ?_ | refine spl_yes rfl ?_)
    | (show evC _ _ _ _ _; first | refine c_seq ?_ | refine c_region (by exact rfl) ?_ | refine c_cond (by exact rfl) ?_ | refine c_ret ?_ | refine c_skip ?_ | refine c_block ?_ | refine c_exit ?_ | refine std ?_)
    | (show Br _ _ _; first | refine Br.t rfl ?_ | refine Br.f rfl ?_ | refine brs ?_ | (first | refine Br.mkN (fun h => ?_) (fun h => ?_) | refine Br.mk (fun h => ?_) (fun h => ?_)) <;> (try (first | contradiction | (exfalso; omega) | (exfalso; simp at h; done))))
    | refine stp ?_
    | (show CallT _ 30 _ _ _; refine CA (h := splita_ok hsz (fun r => ?_)); rw [hdl]))
  all_goals first | (exfalso; omega) | skip
  rename_i q p
  refine LOOP (fun m f C' => ∃ j : Nat, j + m = (spl1 10 l).length ∧ j < (spl1 10 l).length ∧ ((j = 0 ∧ C' = pt q [.int .i64 0, .int .i64 0, .int .i64 0, .int .i64 0, .int .i64 0, .int .i64 0, .int .i64 0, .int .i64 0, .int .i64 0, .int .i64 0, .int .i64 0, .int .i64 0, .int .i64 0, .int .i64 0, .int .i64 0, .int .i64 0, .int .i64 0, .int .i64 0, .slice none 0 0] 39 :: pt p [.int .i64 0, .int .i64 0, .int .i64 0, .int .i64 0, .int .i64 0, .int .i64 0, .int .i64 0, .int .i64 0, .int .i64 0, .int .i64 0, .int .i64 0, .int .i64 0, .int .i64 0, .int .i64 0, .int .i64 0, .int .i64 0, .int .i64 0, .int .i64 0, .slice none 0 0] 39 :: row (some ⟨r, 0, none⟩) (spl1 10 l).length 9 sgC ((aftL 10 (spl1 10 l)).map bq) :: R) ∨ (1 ≤ j ∧ ∃ (m0 m1 m2 m3 m4 m5 m6 m7 m8 m9 m10 m11 m12 m13 m14 m15 m16 m17 : Int) (L1 : List AC) (nn c1 : Nat) (A1 : Option Addr), nn = L1.length ∧ nn + 1 = j ∧ rdScr j ⟨[m0, m1, m2, m3, m4, m5, m6, m7, m8, m9, m10, m11, m12, m13, m14, m15, m16, m17], L1⟩ ((spl1 10 l).drop j) = (PL0, k0, e0) ∧ C' = pt q [.int .i64 0, .int .i64 0, .int .i64 0, .int .i64 0, .int .i64 0, .int .i64 0, .int .i64 0, .int .i64 0, .int .i64 0, .int .i64 0, .int .i64 0, .int .i64 0, .int .i64 0, .int .i64 0, .int .i64 0, .int .i64 0, .int .i64 0, .int .i64 0, .slice none 0 0] 39 :: pt p [.int .i64 m0, .int .i64 m1, .int .i64 m2, .int .i64 m3, .int .i64 m4, .int .i64 m5, .int .i64 m6, .int .i64 m7, .int .i64 m8, .int .i64 m9, .int .i64 m10, .int .i64 m11, .int .i64 m12, .int .i64 m13, .int .i64 m14, .int .i64 m15, .int .i64 m16, .int .i64 m17, .slice A1 nn c1] 39 :: row A1 c1 28 acC31 L1 :: row (some ⟨r, 0, none⟩) (spl1 10 l).length 9 sgC ((aftL 10 (spl1 10 l)).map bq) :: R)) ∧ Agree f [(2, .pointer (some ⟨q, 0, none⟩)), (5, .slice (some ⟨r, 0, none⟩) (spl1 10 l).length (spl1 10 l).length), (6, .pointer (some ⟨p, 0, none⟩)), (21, .slice (some ⟨r, 0, none⟩) (spl1 10 l).length (spl1 10 l).length), (22, .int .i64 (spl1 10 l).length), (23, .int .i64 j)]) (spl1 10 l).length (turn (spl1 10 l).length ⟨0, by omega, hpos, .inl ⟨rfl, rfl⟩, rfl, rfl, rfl, rfl, rfl, rfl, trivial⟩) ?_
  rintro nk f C' ⟨j, hj, hjl, hC, hA⟩
  skip
  · obtain ⟨x, hx⟩ : ∃ x, (spl1 10 l)[j]? = some x := ⟨_, List.getElem?_eq_getElem hjl⟩
    have hxm : x.length ≤ 1000000 := hmem x (List.mem_of_getElem? hx)
    have hx10 := spl_no10 hx
    have hat := aft_at (c := 10) hx
    have hxb := bq_size x
    rcases hC with ⟨rfl, rfl⟩ | ⟨hj1, m0, m1, m2, m3, m4, m5, m6, m7, m8, m9, m10, m11, m12, m13, m14, m15, m16, m17, L1, nn, c1, A1, hn1, hnj, hrd, rfl⟩
    · refine c_fr _ hA ?_
      simp only [updL]
      by_cases hlast : 0 + 1 = (spl1 10 l).length
      · rw [rd_at_last hx hlast, if_neg (by omega)] at hfd
        cases hfd
        rw [if_pos hlast] at hat
        have x2 : ((aftL 10 (spl1 10 l)).map bq)[((0 : Nat) : Int).toNat]? = some (bq x) := map_at hat
        repeat' (first
          | (show evG _ _ _ _ _ _ _; first | refine G_add64 ?_ | refine G_sub64 ?_ | refine G_pure0 ?_ | refine G_load ?_ | refine evG_nil ?_ | refine G_br ?_ ?_ | refine G_field ?_ | refine G_pure ?_ | refine G_store ?_ | refine G_loadV ?_ | refine G_loadV0 ?_ | refine G_loadV2 ?_ | (refine G_append ?_; intro _ _) | (refine G_appendN ?_; intro _ _) | refine G_not ?_ | refine G_index ?_ | refine G_indexA ?_ | refine G_build ?_ | refine G_cat ?_ | refine G_eql_agg ?_ | refine G_call ?_ | refine G_call0 ?_ | (refine G_alloc ?_; intro _) | (refine G_buildSlice ?_; intro _) | (refine G_indexV ?_; intro _ _ hA; subst hA) | refine G_skip ?_ | refine G_skip0 ?_)
          | (show spl _ _ _; first | refine spl_no rfl ?_ | refine spl_yes rfl ?_)
          | (show evC _ _ _ _ _; first | refine c_seq ?_ | refine c_region (by exact rfl) ?_ | refine c_cond (by exact rfl) ?_ | refine c_ret ?_ | refine c_skip ?_ | refine c_block ?_ | refine c_exit ?_ | refine std ?_)
          | (show Br _ _ _; first | refine Br.t rfl ?_ | refine Br.f rfl ?_ | refine brs ?_ | (first | refine Br.mkN (fun h => ?_) (fun h => ?_) | refine Br.mk (fun h => ?_) (fun h => ?_)) <;> (try (first | contradiction | (exfalso; omega) | (exfalso; simp at h; done))))
          | refine stp ?_
          | (show CallT _ 31 _ _ _; refine CA (h := cutsufN_ok (l := x) (by omega) hx10 ?_)))
        all_goals first
          | (show retC _ _ _ _ _ _; refine RETC ?_; exact ret_done (hK))
          | (exfalso; omega)
      · rw [rd_at_next hx (by omega), if_neg (by omega), if_pos rfl] at hfd
        rw [if_neg hlast] at hat
        have x2 : ((aftL 10 (spl1 10 l)).map bq)[((0 : Nat) : Int).toNat]? = some (bq (x ++ [10])) := map_at hat
        cases hh : rdHd x with
        | none =>
          rw [hh] at hfd
          cases hfd
          repeat' (first
            | (show evG _ _ _ _ _ _ _; first | refine G_add64 ?_ | refine G_sub64 ?_ | refine G_pure0 ?_ | refine G_load ?_ | refine evG_nil ?_ | refine G_br ?_ ?_ | refine G_field ?_ | refine G_pure ?_ | refine G_store ?_ | refine G_loadV ?_ | refine G_loadV0 ?_ | refine G_loadV2 ?_ | (refine G_append ?_; intro _ _) | (refine G_appendN ?_; intro _ _) | refine G_not ?_ | refine G_index ?_ | refine G_indexA ?_ | refine G_build ?_ | refine G_cat ?_ | refine G_eql_agg ?_ | refine G_call ?_ | refine G_call0 ?_ | (refine G_alloc ?_; intro _) | (refine G_buildSlice ?_; intro _) | (refine G_indexV ?_; intro _ _ hA; subst hA) | refine G_skip ?_ | refine G_skip0 ?_)
            | (show spl _ _ _; first | refine spl_no rfl ?_ | refine spl_yes rfl ?_)
            | (show evC _ _ _ _ _; first | refine c_seq ?_ | refine c_region (by exact rfl) ?_ | refine c_cond (by exact rfl) ?_ | refine c_ret ?_ | refine c_skip ?_ | refine c_block ?_ | refine c_exit ?_ | refine std ?_)
            | (show Br _ _ _; first | refine Br.t rfl ?_ | refine Br.f rfl ?_ | refine brs ?_ | (first | refine Br.mkN (fun h => ?_) (fun h => ?_) | refine Br.mk (fun h => ?_) (fun h => ?_)) <;> (try (first | contradiction | (exfalso; omega) | (exfalso; simp at h; done))))
            | refine stp ?_
            | (show CallT _ 31 _ _ _; refine CA (h := cutsufY_ok (l := x) (by omega) ?_))
            | (show CallT _ 32 _ _ _; refine CA (h := headN_ok hxm hh ?_)))
          all_goals first
            | (show retC _ _ _ _ _ _; refine RETC ?_; exact ret_done (hK))
            | (exfalso; omega)
        | some ns =>
          rw [hh] at hfd
          have h18 := (rdHd_some.1 hh).1.1
          obtain ⟨k0, k1, k2, k3, k4, k5, k6, k7, k8, k9, k10, k11, k12, k13, k14, k15, k16, k17, rfl⟩ := l18 h18
          repeat' (first
            | (show evG _ _ _ _ _ _ _; first | refine G_add64 ?_ | refine G_sub64 ?_ | refine G_pure0 ?_ | refine G_load ?_ | refine evG_nil ?_ | refine G_br ?_ ?_ | refine G_field ?_ | refine G_pure ?_ | refine G_store ?_ | refine G_loadV ?_ | refine G_loadV0 ?_ | refine G_loadV2 ?_ | (refine G_append ?_; intro _ _) | (refine G_appendN ?_; intro _ _) | refine G_not ?_ | refine G_index ?_ | refine G_indexA ?_ | refine G_build ?_ | refine G_cat ?_ | refine G_eql_agg ?_ | refine G_call ?_ | refine G_call0 ?_ | (refine G_alloc ?_; intro _) | (refine G_buildSlice ?_; intro _) | (refine G_indexV ?_; intro _ _ hA; subst hA) | refine G_skip ?_ | refine G_skip0 ?_)
            | (show spl _ _ _; first | refine spl_no rfl ?_ | refine spl_yes rfl ?_)
            | (show evC _ _ _ _ _; first | refine c_seq ?_ | refine c_region (by exact rfl) ?_ | refine c_cond (by exact rfl) ?_ | refine c_ret ?_ | refine c_skip ?_ | refine c_block ?_ | refine c_exit ?_ | refine std ?_)
            | (show Br _ _ _; first | refine Br.t rfl ?_ | refine Br.f rfl ?_ | refine brs ?_ | (first | refine Br.mkN (fun h => ?_) (fun h => ?_) | refine Br.mk (fun h => ?_) (fun h => ?_)) <;> (try (first | contradiction | (exfalso; omega) | (exfalso; simp at h; done))))
            | refine stp ?_
            | (show CallT _ 31 _ _ _; refine CA (h := cutsufY_ok (l := x) (by omega) ?_))
            | (show CallT _ 32 _ _ _; refine CA (h := headY_ok hxm hh ?_)))
          all_goals first
            | (show TurnG _ _ _ _; exact turn (nk - 1) ⟨1, by omega, by omega, .inr ⟨by omega, _, _, _, _, _, _, _, _, _, _, _, _, _, _, _, _, _, _, [], 0, 0, none, rfl, rfl, hfd, rfl⟩, rfl, rfl, rfl, rfl, rfl, rfl, trivial⟩)
            | (exfalso; omega)
    · refine c_fr _ hA ?_
      simp only [updL]
      have hjI : (1 : Int) ≤ j := by omega
      by_cases hlast : j + 1 = (spl1 10 l).length
      · rw [rd_at_last hx hlast] at hrd
        rw [if_pos hlast] at hat
        have x2 : ((aftL 10 (spl1 10 l)).map bq)[((j : Nat) : Int).toNat]? = some (bq x) := map_at hat
        by_cases hx0 : x = []
        · rw [if_pos ⟨hx0, by omega⟩] at hrd
          subst hx0
          exact absurd (congrArg (fun z => z.2.2) hrd).symm he0
        · rw [if_neg (fun hc => hx0 hc.1)] at hrd
          have hrd2 := hrd
          cases hrd2
          have he : ((bq x).toList == (⟨#[]⟩ : ByteArray).toList) = false := by
            rw [show (⟨#[]⟩ : ByteArray) = bq [] from rfl, bq_beq]
            exact decide_eq_false hx0
          repeat' (first
            | (show evG _ _ _ _ _ _ _; first | refine G_add64 ?_ | refine G_sub64 ?_ | refine G_pure0 ?_ | refine G_load ?_ | refine evG_nil ?_ | refine G_br ?_ ?_ | refine G_field ?_ | refine G_pure ?_ | refine G_store ?_ | refine G_loadV ?_ | refine G_loadV0 ?_ | refine G_loadV2 ?_ | (refine G_append ?_; intro _ _) | (refine G_appendN ?_; intro _ _) | refine G_not ?_ | refine G_index ?_ | refine G_indexA ?_ | refine G_build ?_ | refine G_cat ?_ | refine G_eql_agg ?_ | refine G_call ?_ | refine G_call0 ?_ | (refine G_alloc ?_; intro _) | (refine G_buildSlice ?_; intro _) | (refine G_indexV ?_; intro _ _ hA; subst hA) | refine G_skip ?_ | refine G_skip0 ?_)
            | (show spl _ _ _; first | refine spl_no rfl ?_ | refine spl_yes rfl ?_)
            | (show evC _ _ _ _ _; first | refine c_seq ?_ | refine c_region (by exact rfl) ?_ | refine c_cond (by exact rfl) ?_ | refine c_ret ?_ | refine c_skip ?_ | refine c_block ?_ | refine c_exit ?_ | refine std ?_)
            | (show Br _ _ _; first | refine Br.t rfl ?_ | refine Br.f rfl ?_ | refine brs ?_ | (first | refine Br.mkN (fun h => ?_) (fun h => ?_) | refine Br.mk (fun h => ?_) (fun h => ?_)) <;> (try (first | contradiction | (exfalso; omega) | (exfalso; simp at h; done))))
            | refine stp ?_
            | (show CallT _ 31 _ _ _; refine CA (h := cutsufN_ok (l := x) (by omega) hx10 ?_)))
          all_goals first
            | (show retC _ _ _ _ _ _; refine RETC ?_; exact ret_done (hK))
            | (exfalso; omega)
      · rw [rd_at_next hx (by omega)] at hrd
        rw [if_neg hlast] at hat
        have x2 : ((aftL 10 (spl1 10 l)).map bq)[((j : Nat) : Int).toNat]? = some (bq (x ++ [10])) := map_at hat
        by_cases h512 : 512 < j
        · rw [if_pos h512] at hrd
          cases hrd
          repeat' (first
            | (show evG _ _ _ _ _ _ _; first | refine G_add64 ?_ | refine G_sub64 ?_ | refine G_pure0 ?_ | refine G_load ?_ | refine evG_nil ?_ | refine G_br ?_ ?_ | refine G_field ?_ | refine G_pure ?_ | refine G_store ?_ | refine G_loadV ?_ | refine G_loadV0 ?_ | refine G_loadV2 ?_ | (refine G_append ?_; intro _ _) | (refine G_appendN ?_; intro _ _) | refine G_not ?_ | refine G_index ?_ | refine G_indexA ?_ | refine G_build ?_ | refine G_cat ?_ | refine G_eql_agg ?_ | refine G_call ?_ | refine G_call0 ?_ | (refine G_alloc ?_; intro _) | (refine G_buildSlice ?_; intro _) | (refine G_indexV ?_; intro _ _ hA; subst hA) | refine G_skip ?_ | refine G_skip0 ?_)
            | (show spl _ _ _; first | refine spl_no rfl ?_ | refine spl_yes rfl ?_)
            | (show evC _ _ _ _ _; first | refine c_seq ?_ | refine c_region (by exact rfl) ?_ | refine c_cond (by exact rfl) ?_ | refine c_ret ?_ | refine c_skip ?_ | refine c_block ?_ | refine c_exit ?_ | refine std ?_)
            | (show Br _ _ _; first | refine Br.t rfl ?_ | refine Br.f rfl ?_ | refine brs ?_ | (first | refine Br.mkN (fun h => ?_) (fun h => ?_) | refine Br.mk (fun h => ?_) (fun h => ?_)) <;> (try (first | contradiction | (exfalso; omega) | (exfalso; simp at h; done))))
            | refine stp ?_
            | (show CallT _ 31 _ _ _; refine CA (h := cutsufY_ok (l := x) (by omega) ?_)))
          all_goals first
            | (show retC _ _ _ _ _ _; refine RETC ?_; exact ret_done (hK))
            | (exfalso; omega)
        · rw [if_neg h512, if_neg (by omega)] at hrd
          cases hh : prs x with
          | none =>
            rw [hh] at hrd
            cases hrd
            repeat' (first
              | (show evG _ _ _ _ _ _ _; (refine G_appendU ?_; intro _ _))
              | (show evG _ _ _ _ _ _ _; first | refine G_add64 ?_ | refine G_sub64 ?_ | refine G_pure0 ?_ | refine G_load ?_ | refine evG_nil ?_ | refine G_br ?_ ?_ | refine G_field ?_ | refine G_pure ?_ | refine G_store ?_ | refine G_loadV ?_ | refine G_loadV0 ?_ | refine G_loadV2 ?_ | (refine G_append ?_; intro _ _) | (refine G_appendN ?_; intro _ _) | refine G_not ?_ | refine G_index ?_ | refine G_indexA ?_ | refine G_build ?_ | refine G_cat ?_ | refine G_eql_agg ?_ | refine G_call ?_ | refine G_call0 ?_ | (refine G_alloc ?_; intro _) | (refine G_buildSlice ?_; intro _) | (refine G_indexV ?_; intro _ _ hA; subst hA) | refine G_skip ?_ | refine G_skip0 ?_)
              | (show spl _ _ _; first | refine spl_no rfl ?_ | refine spl_yes rfl ?_)
              | (show evC _ _ _ _ _; first | refine c_seq ?_ | refine c_region (by exact rfl) ?_ | refine c_cond (by exact rfl) ?_ | refine c_ret ?_ | refine c_skip ?_ | refine c_block ?_ | refine c_exit ?_ | refine std ?_)
              | (show Br _ _ _; first | refine Br.t rfl ?_ | refine Br.f rfl ?_ | refine brs ?_ | (first | refine Br.mkN (fun h => ?_) (fun h => ?_) | refine Br.mk (fun h => ?_) (fun h => ?_)) <;> (try (first | contradiction | (exfalso; omega) | (exfalso; simp at h; done))))
              | refine stp ?_
              | (show CallT _ 31 _ _ _; refine CA (h := cutsufY_ok (l := x) (by omega) ?_))
              | (show CallT _ 10 _ _ _; refine CA (h := parseN_ok hxm hh ?_)))
            all_goals first
              | (show retC _ _ _ _ _ _; refine RETC ?_; exact ret_done (hK))
              | (exfalso; omega)
          | some a =>
            rw [hh] at hrd
            have hns := hn1.symm
            repeat' (first
              | (show evG _ _ _ _ _ _ _; (refine G_appendU ?_; intro _ _))
              | (show evG _ _ _ _ _ _ _; first | refine G_add64 ?_ | refine G_sub64 ?_ | refine G_pure0 ?_ | refine G_load ?_ | refine evG_nil ?_ | refine G_br ?_ ?_ | refine G_field ?_ | refine G_pure ?_ | refine G_store ?_ | refine G_loadV ?_ | refine G_loadV0 ?_ | refine G_loadV2 ?_ | (refine G_append ?_; intro _ _) | (refine G_appendN ?_; intro _ _) | refine G_not ?_ | refine G_index ?_ | refine G_indexA ?_ | refine G_build ?_ | refine G_cat ?_ | refine G_eql_agg ?_ | refine G_call ?_ | refine G_call0 ?_ | (refine G_alloc ?_; intro _) | (refine G_buildSlice ?_; intro _) | (refine G_indexV ?_; intro _ _ hA; subst hA) | refine G_skip ?_ | refine G_skip0 ?_)
              | (show spl _ _ _; first | refine spl_no rfl ?_ | refine spl_yes rfl ?_)
              | (show evC _ _ _ _ _; first | refine c_seq ?_ | refine c_region (by exact rfl) ?_ | refine c_cond (by exact rfl) ?_ | refine c_ret ?_ | refine c_skip ?_ | refine c_block ?_ | refine c_exit ?_ | refine std ?_)
              | (show Br _ _ _; first | refine Br.t rfl ?_ | refine Br.f rfl ?_ | refine brs ?_ | (first | refine Br.mkN (fun h => ?_) (fun h => ?_) | refine Br.mk (fun h => ?_) (fun h => ?_)) <;> (try (first | contradiction | (exfalso; omega) | (exfalso; simp at h; done))))
              | refine stp ?_
              | (show CallT _ 31 _ _ _; refine CA (h := cutsufY_ok (l := x) (by omega) ?_))
              | (show CallT _ 10 _ _ _; refine CA (h := parseY_ok hxm hh ?_)))
            all_goals first
              | (show TurnG _ _ _ _; exact turn (nk - 1) ⟨j + 1, by omega, by omega, .inr ⟨by omega, m0, m1, m2, m3, m4, m5, m6, m7, m8, m9, m10, m11, m12, m13, m14, m15, m16, m17, L1 ++ [a], _, _, _, rfl, (by simp; omega), hrd, rfl⟩, rfl, rfl, rfl, rfl, rfl, rfl, trivial⟩)
              | (exfalso; omega)
end Go.Proofs.YtiofdmjecjcdbaaGreatDoor

