/- Script: the document's Parse and Line: lemmas; each with the conditions that it states. -/
import Derived.Test.YtiofdmjecjcdbaaGreatDoorFh
import Derived.Test.YtiofdmjecjcdbaaGreatDoorG13

namespace Go.Proofs.YtiofdmjecjcdbaaGreatDoor
open Go Go.Proofs Go.Sl
set_option maxRecDepth 100000
set_option maxHeartbeats 4000000
set_option linter.unusedSimpArgs false
set_option linter.unusedVariables false
attribute [local irreducible] evG evC spl thenC inBlockC noGotoC CallT retC RetG TurnG CutG pt ro exP star sep pureP
variable {R C : List HP} {K : Value → List HP → Prop}
theorem view_tail {A A' : Option Addr} {w : List UInt8} {ps : List (List UInt8)} {m : Nat} (hv : View C A sgC ((w :: ps).map bq)) (hs : SubA A A' 1 m 1) (hm : ps.length + 1 ≤ m) : View C A' sgC (ps.map bq) := by
  have := view_subA (k := ps.length) hv hs (by simp) (.inl (by simpa using hm))
  rw [List.map_cons, List.drop_succ_cons, List.drop_zero, List.take_of_length_le (by simp)] at this
  exact this
set_option maxHeartbeats 40000000 in
theorem rparseY_ok {l : List UInt8} {af : AC} (hs0 : l.length ≤ 1000000) (h : prs l = some af) (hK : K (.tuple #[.agg #[.int .i64 af.kd, .int .i64 af.sd, .int .i64 af.id, .int .i64 af.n, .int .i64 af.cd, .string af.s, .int .i64 af.on, .int .i64 af.ww, .bool af.xx, .int .i64 af.xw, .int .i64 af.xs, .int .i64 af.xi], .bool true]) R) : CallT Tryz.prog 11 #[.string (bq l)] R K := by
  have hsz : (bq l).size ≤ 1000000 := by rw [bq_size]; exact hs0
  have hdl : (bq l).data.toList = l := data_bq l
  unfold prs at h
  have hmem : ∀ p ∈ spl1 32 l, p.length ≤ 1000000 := fun p hp => Nat.le_trans (spl1_mem hp) hs0
  generalize hP : spl1 32 l = P at h hmem
  match P, h with
  | [], h => cases h
  | w :: ps, h =>
    simp only [prsP] at h
    cases hk : kin w with
    | none => rw [hk] at h; cases h
    | some j0 =>
      rw [hk] at h
      simp only at h
      obtain ⟨g1, g2, g3⟩ := kin_some hk
      have hlen := fold_len h
      have hfd : foldA (AC0 ((j0 : Nat) : Int)) (wdF ((j0 : Nat) : Int).toNat) ps = some af := h
      have hps : ∀ p ∈ ps, p.length ≤ 1000000 := fun p hp => hmem p (List.mem_cons_of_mem _ hp)
      have hw0 : ((w :: ps).map bq)[((0 : Int)).toNat]? = some (bq w) := rfl
      have hml : ((w :: ps).map bq).length = ps.length + 1 := by simp
      clear hs0
      refine callT_intro mixed Tryz.func11 rfl (by decide) (by decide +kernel) (by exact Nat.le_of_ble_eq_true rfl) ?_
      repeat' (first
        | (show evG _ _ _ _ _ _ _; first | refine G_add64 ?_ | refine G_pure0 ?_ | refine G_load ?_ | refine evG_nil ?_ | refine G_br ?_ ?_ | refine G_pure ?_ | refine G_store ?_ | refine G_loadV ?_ | refine G_loadV0 ?_ | refine G_loadV2 ?_ | refine G_not ?_ | refine G_index ?_ | refine G_indexA ?_ | refine G_build ?_ | refine G_slh ?_ | refine G_slo ?_ | refine G_shi ?_ | refine G_cat ?_ | refine G_eql_agg ?_ | refine G_call ?_ | refine G_call0 ?_ | (refine G_alloc ?_; intro _) | (refine G_indexV ?_; intro _ _ hA; subst hA) | (refine G_sliceR ?_; intro _) | (refine G_sliceO ?_; intro _))
        | (show spl _ _ _; first | refine spl_no rfl ?_ | refine spl_yes rfl ?_)
        | (show evC _ _ _ _ _; first | refine c_seq ?_ | refine c_region (by exact rfl) ?_ | refine c_cond (by exact rfl) ?_ | refine c_ret ?_ | refine c_skip ?_ | refine c_block ?_ | refine c_exit ?_ | (show evC _ (.region 5 _ true) _ _ _; refine c_draw (l := [(0, 0), (1, 1), (2, 1), (3, 1), (4, 1), (5, 0)]) (by decide +kernel) (by decide +kernel) (by exact rfl) ?_) | refine std ?_)
        | (show Br _ _ _; first | refine Br.t rfl ?_ | refine Br.f rfl ?_ | refine brs ?_ | (first | refine Br.mkN (fun h => ?_) (fun h => ?_) | refine Br.mk (fun h => ?_) (fun h => ?_)) <;> (try (first | contradiction | (exfalso; omega) | (exfalso; simp at h; done))))
        | refine stp ?_
        | (show CallT _ 27 _ _ _; refine CA (h := rsplit_ok (c := 32) hsz (fun A cp => ?_)); rw [hdl, hP, List.length_cons]))
      rename_i q
      refine LOOP (fun m a C' => ∃ j : Nat, j + m = 15 ∧ 1 ≤ j ∧ j ≤ j0 ∧ C' = pt q [.int .i64 0, .int .i64 0, .int .i64 0, .int .i64 0, .int .i64 0, .string ⟨#[]⟩, .int .i64 0, .int .i64 0, .bool false, .int .i64 0, .int .i64 0, .int .i64 0] 28 :: row A cp 9 sgC ((w :: ps).map bq) :: R ∧ Agree a [(2, .pointer (some ⟨q, 0, none⟩)), (4, .slice A (ps.length + 1) cp), (5, .int .i64 j)]) 15 (turn 14 ⟨1, by omega, by omega, by omega, rfl, rfl, rfl, rfl, trivial⟩) ?_
      rintro n1 a C' ⟨j, hj, hj1, hjj, rfl, ha⟩
      refine c_fr _ ha ?_
      simp only [updL]
      refine evC_rowfact (Pick.there Pick.here) fun hcp => ?_
      have hcp2 : ps.length + 1 ≤ cp := by simpa using hcp
      have hkk : 1 ≤ ((j : Nat) : Int) ∧ ((j : Nat) : Int) ≤ 14 := ⟨by omega, by omega⟩
      by_cases he : j = j0
      · subst he
        have hcmp : ((bq (wdN ((j : Nat) : Int).toNat)).toList == (bq w).toList) = true := by rw [bq_beq, Int.toNat_natCast, g1]; exact decide_eq_true rfl
        repeat' (first
          | (show evG _ _ _ _ _ _ _; refine G_sliceV (fun A' hA' => ?_))
          | (show evG _ _ _ _ _ _ _; first | refine G_add64 ?_ | refine G_pure0 ?_ | refine G_load ?_ | refine evG_nil ?_ | refine G_br ?_ ?_ | refine G_pure ?_ | refine G_store ?_ | refine G_loadV ?_ | refine G_loadV0 ?_ | refine G_loadV2 ?_ | refine G_not ?_ | refine G_index ?_ | refine G_indexA ?_ | refine G_build ?_ | refine G_slh ?_ | refine G_slo ?_ | refine G_shi ?_ | refine G_cat ?_ | refine G_eql_agg ?_ | refine G_call ?_ | refine G_call0 ?_ | (refine G_alloc ?_; intro _) | (refine G_indexV ?_; intro _ _ hA; subst hA) | (refine G_sliceR ?_; intro _) | (refine G_sliceO ?_; intro _))
          | (show spl _ _ _; first | refine spl_no rfl ?_ | refine spl_yes rfl ?_)
          | (show evC _ _ _ _ _; first | refine c_seq ?_ | refine c_region (by exact rfl) ?_ | refine c_cond (by exact rfl) ?_ | refine c_ret ?_ | refine c_skip ?_ | refine c_block ?_ | refine c_exit ?_ | (show evC _ (.region 5 _ true) _ _ _; refine c_draw (l := [(0, 0), (1, 1), (2, 1), (3, 1), (4, 1), (5, 0)]) (by decide +kernel) (by decide +kernel) (by exact rfl) ?_) | refine std ?_)
          | (show Br _ _ _; first | refine Br.t rfl ?_ | refine Br.f rfl ?_ | refine brs ?_ | (first | refine Br.mkN (fun h => ?_) (fun h => ?_) | refine Br.mk (fun h => ?_) (fun h => ?_)) <;> (try (first | contradiction | (exfalso; omega) | (exfalso; simp at h; done))))
          | refine stp ?_
          | (show CallT _ 28 _ _ _; refine CA (h := rname_ok hkk ?_))
          | (show CallT _ 29 _ _ _; refine CA (h := rfieldsY_ok (ps := ps) hkk (view_tail (by exact viewA) hA' hcp2) rfl hps hfd ?_)))
        all_goals (show retC _ _ _ _ _ _; refine RETC ?_; exact ret_done (hK))
      · have hcmp : ((bq (wdN ((j : Nat) : Int).toNat)).toList == (bq w).toList) = false := by
          rw [bq_beq, Int.toNat_natCast]
          exact decide_eq_false fun e => he (wd_inj j (by omega) j0 g3 (by omega) (e.trans g1.symm))
        repeat' (first
          | (show evG _ _ _ _ _ _ _; first | refine G_add64 ?_ | refine G_pure0 ?_ | refine G_load ?_ | refine evG_nil ?_ | refine G_br ?_ ?_ | refine G_pure ?_ | refine G_store ?_ | refine G_loadV ?_ | refine G_loadV0 ?_ | refine G_loadV2 ?_ | refine G_not ?_ | refine G_index ?_ | refine G_indexA ?_ | refine G_build ?_ | refine G_slh ?_ | refine G_slo ?_ | refine G_shi ?_ | refine G_cat ?_ | refine G_eql_agg ?_ | refine G_call ?_ | refine G_call0 ?_ | (refine G_alloc ?_; intro _) | (refine G_indexV ?_; intro _ _ hA; subst hA) | (refine G_sliceR ?_; intro _) | (refine G_sliceO ?_; intro _))
          | (show spl _ _ _; first | refine spl_no rfl ?_ | refine spl_yes rfl ?_)
          | (show evC _ _ _ _ _; first | refine c_seq ?_ | refine c_region (by exact rfl) ?_ | refine c_cond (by exact rfl) ?_ | refine c_ret ?_ | refine c_skip ?_ | refine c_block ?_ | refine c_exit ?_ | (show evC _ (.region 5 _ true) _ _ _; refine c_draw (l := [(0, 0), (1, 1), (2, 1), (3, 1), (4, 1), (5, 0)]) (by decide +kernel) (by decide +kernel) (by exact rfl) ?_) | refine std ?_)
          | (show Br _ _ _; first | refine Br.t rfl ?_ | refine Br.f rfl ?_ | refine brs ?_ | (first | refine Br.mkN (fun h => ?_) (fun h => ?_) | refine Br.mk (fun h => ?_) (fun h => ?_)) <;> (try (first | contradiction | (exfalso; omega) | (exfalso; simp at h; done))))
          | refine stp ?_
          | (show CallT _ 28 _ _ _; refine CA (h := rname_ok hkk ?_)))
        all_goals (show TurnG _ _ _ _; exact turn (n1 - 1) ⟨j + 1, by omega, by omega, by omega, rfl, rfl, rfl, rfl, trivial⟩)
set_option maxHeartbeats 40000000 in
theorem rparseN_ok {l : List UInt8} (hs0 : l.length ≤ 1000000) (h : prs l = none) (hK : K (.tuple #[.agg #[.int .i64 0, .int .i64 0, .int .i64 0, .int .i64 0, .int .i64 0, .string ⟨#[]⟩, .int .i64 0, .int .i64 0, .bool false, .int .i64 0, .int .i64 0, .int .i64 0], .bool false]) R) : CallT Tryz.prog 11 #[.string (bq l)] R K := by
  have hsz : (bq l).size ≤ 1000000 := by rw [bq_size]; exact hs0
  have hdl : (bq l).data.toList = l := data_bq l
  unfold prs at h
  have hmem : ∀ p ∈ spl1 32 l, p.length ≤ 1000000 := fun p hp => Nat.le_trans (spl1_mem hp) hs0
  have hple := spl1_le (c := 32) l
  have hPn := spl1_ne 32 l
  generalize hP : spl1 32 l = P at h hmem hple hPn
  match P, h, hPn with
  | [], h, hPn => exact absurd rfl hPn
  | w :: ps, h, _ =>
    simp only [prsP] at h
    have hps : ∀ p ∈ ps, p.length ≤ 1000000 := fun p hp => hmem p (List.mem_cons_of_mem _ hp)
    have hw0 : ((w :: ps).map bq)[((0 : Int)).toNat]? = some (bq w) := rfl
    have hml : ((w :: ps).map bq).length = ps.length + 1 := by simp
    have hpl : ps.length ≤ 2000000 := by rw [List.length_cons] at hple; omega
    clear hs0 hple
    refine callT_intro mixed Tryz.func11 rfl (by decide) (by decide +kernel) (by exact Nat.le_of_ble_eq_true rfl) ?_
    repeat' (first
      | (show evG _ _ _ _ _ _ _; first | refine G_add64 ?_ | refine G_pure0 ?_ | refine G_load ?_ | refine evG_nil ?_ | refine G_br ?_ ?_ | refine G_pure ?_ | refine G_store ?_ | refine G_loadV ?_ | refine G_loadV0 ?_ | refine G_loadV2 ?_ | refine G_not ?_ | refine G_index ?_ | refine G_indexA ?_ | refine G_build ?_ | refine G_slh ?_ | refine G_slo ?_ | refine G_shi ?_ | refine G_cat ?_ | refine G_eql_agg ?_ | refine G_call ?_ | refine G_call0 ?_ | (refine G_alloc ?_; intro _) | (refine G_indexV ?_; intro _ _ hA; subst hA) | (refine G_sliceR ?_; intro _) | (refine G_sliceO ?_; intro _))
      | (show spl _ _ _; first | refine spl_no rfl ?_ | refine spl_yes rfl ?_)
      | (show evC _ _ _ _ _; first | refine c_seq ?_ | refine c_region (by exact rfl) ?_ | refine c_cond (by exact rfl) ?_ | refine c_ret ?_ | refine c_skip ?_ | refine c_block ?_ | refine c_exit ?_ | (show evC _ (.region 5 _ true) _ _ _; refine c_draw (l := [(0, 0), (1, 1), (2, 1), (3, 1), (4, 1), (5, 0)]) (by decide +kernel) (by decide +kernel) (by exact rfl) ?_) | refine std ?_)
      | (show Br _ _ _; first | refine Br.t rfl ?_ | refine Br.f rfl ?_ | refine brs ?_ | (first | refine Br.mkN (fun h => ?_) (fun h => ?_) | refine Br.mk (fun h => ?_) (fun h => ?_)) <;> (try (first | contradiction | (exfalso; omega) | (exfalso; simp at h; done))))
      | refine stp ?_
      | (show CallT _ 27 _ _ _; refine CA (h := rsplit_ok (c := 32) hsz (fun A cp => ?_)); rw [hdl, hP, List.length_cons]))
    rename_i q
    refine LOOP (fun m a C' => ∃ j : Nat, j + m = 15 ∧ 1 ≤ j ∧ C' = pt q [.int .i64 0, .int .i64 0, .int .i64 0, .int .i64 0, .int .i64 0, .string ⟨#[]⟩, .int .i64 0, .int .i64 0, .bool false, .int .i64 0, .int .i64 0, .int .i64 0] 28 :: row A cp 9 sgC ((w :: ps).map bq) :: R ∧ Agree a [(2, .pointer (some ⟨q, 0, none⟩)), (4, .slice A (ps.length + 1) cp), (5, .int .i64 j)]) 15 (turn 14 ⟨1, by omega, by omega, rfl, rfl, rfl, rfl, trivial⟩) ?_
    rintro n1 a C' ⟨j, hj, hj1, rfl, ha⟩
    refine c_fr _ ha ?_
    simp only [updL]
    by_cases hj15 : j < 15
    · refine evC_rowfact (Pick.there Pick.here) fun hcp => ?_
      have hcp2 : ps.length + 1 ≤ cp := by simpa using hcp
      have hkk : 1 ≤ ((j : Nat) : Int) ∧ ((j : Nat) : Int) ≤ 14 := ⟨by omega, by omega⟩
      by_cases he : wdN j = w
      · have hcmp : ((bq (wdN ((j : Nat) : Int).toNat)).toList == (bq w).toList) = true := by rw [bq_beq, Int.toNat_natCast, he]; exact decide_eq_true rfl
        rw [← he, kin_of (by omega) hj15] at h
        simp only at h
        have hfd : foldA (AC0 ((j : Nat) : Int)) (wdF ((j : Nat) : Int).toNat) ps = none := h
        repeat' (first
          | (show evG _ _ _ _ _ _ _; refine G_sliceV (fun A' hA' => ?_))
          | (show evG _ _ _ _ _ _ _; first | refine G_add64 ?_ | refine G_pure0 ?_ | refine G_load ?_ | refine evG_nil ?_ | refine G_br ?_ ?_ | refine G_pure ?_ | refine G_store ?_ | refine G_loadV ?_ | refine G_loadV0 ?_ | refine G_loadV2 ?_ | refine G_not ?_ | refine G_index ?_ | refine G_indexA ?_ | refine G_build ?_ | refine G_slh ?_ | refine G_slo ?_ | refine G_shi ?_ | refine G_cat ?_ | refine G_eql_agg ?_ | refine G_call ?_ | refine G_call0 ?_ | (refine G_alloc ?_; intro _) | (refine G_indexV ?_; intro _ _ hA; subst hA) | (refine G_sliceR ?_; intro _) | (refine G_sliceO ?_; intro _))
          | (show spl _ _ _; first | refine spl_no rfl ?_ | refine spl_yes rfl ?_)
          | (show evC _ _ _ _ _; first | refine c_seq ?_ | refine c_region (by exact rfl) ?_ | refine c_cond (by exact rfl) ?_ | refine c_ret ?_ | refine c_skip ?_ | refine c_block ?_ | refine c_exit ?_ | (show evC _ (.region 5 _ true) _ _ _; refine c_draw (l := [(0, 0), (1, 1), (2, 1), (3, 1), (4, 1), (5, 0)]) (by decide +kernel) (by decide +kernel) (by exact rfl) ?_) | refine std ?_)
          | (show Br _ _ _; first | refine Br.t rfl ?_ | refine Br.f rfl ?_ | refine brs ?_ | (first | refine Br.mkN (fun h => ?_) (fun h => ?_) | refine Br.mk (fun h => ?_) (fun h => ?_)) <;> (try (first | contradiction | (exfalso; omega) | (exfalso; simp at h; done))))
          | refine stp ?_
          | (show CallT _ 28 _ _ _; refine CA (h := rname_ok hkk ?_))
          | (show CallT _ 29 _ _ _; refine CA (h := rfieldsN_ok (ps := ps) hkk (view_tail (by exact viewA) hA' hcp2) rfl hpl hps hfd (fun _ _ _ _ _ _ _ _ _ _ _ _ => ?_))))
        all_goals (show retC _ _ _ _ _ _; refine RETC ?_; exact ret_done (hK))
      · have hcmp : ((bq (wdN ((j : Nat) : Int).toNat)).toList == (bq w).toList) = false := by rw [bq_beq, Int.toNat_natCast]; exact decide_eq_false he
        repeat' (first
          | (show evG _ _ _ _ _ _ _; first | refine G_add64 ?_ | refine G_pure0 ?_ | refine G_load ?_ | refine evG_nil ?_ | refine G_br ?_ ?_ | refine G_pure ?_ | refine G_store ?_ | refine G_loadV ?_ | refine G_loadV0 ?_ | refine G_loadV2 ?_ | refine G_not ?_ | refine G_index ?_ | refine G_indexA ?_ | refine G_build ?_ | refine G_slh ?_ | refine G_slo ?_ | refine G_shi ?_ | refine G_cat ?_ | refine G_eql_agg ?_ | refine G_call ?_ | refine G_call0 ?_ | (refine G_alloc ?_; intro _) | (refine G_indexV ?_; intro _ _ hA; subst hA) | (refine G_sliceR ?_; intro _) | (refine G_sliceO ?_; intro _))
          | (show spl _ _ _; first | refine spl_no rfl ?_ | refine spl_yes rfl ?_)
          | (show evC _ _ _ _ _; first | refine c_seq ?_ | refine c_region (by exact rfl) ?_ | refine c_cond (by exact rfl) ?_ | refine c_ret ?_ | refine c_skip ?_ | refine c_block ?_ | refine c_exit ?_ | (show evC _ (.region 5 _ true) _ _ _; refine c_draw (l := [(0, 0), (1, 1), (2, 1), (3, 1), (4, 1), (5, 0)]) (by decide +kernel) (by decide +kernel) (by exact rfl) ?_) | refine std ?_)
          | (show Br _ _ _; first | refine Br.t rfl ?_ | refine Br.f rfl ?_ | refine brs ?_ | (first | refine Br.mkN (fun h => ?_) (fun h => ?_) | refine Br.mk (fun h => ?_) (fun h => ?_)) <;> (try (first | contradiction | (exfalso; omega) | (exfalso; simp at h; done))))
          | refine stp ?_
          | (show CallT _ 28 _ _ _; refine CA (h := rname_ok hkk ?_)))
        all_goals (show TurnG _ _ _ _; exact turn (n1 - 1) ⟨j + 1, by omega, by omega, rfl, rfl, rfl, rfl, trivial⟩)
    · obtain rfl : j = 15 := by omega
      repeat' (first
        | (show evG _ _ _ _ _ _ _; first | refine G_add64 ?_ | refine G_pure0 ?_ | refine G_load ?_ | refine evG_nil ?_ | refine G_br ?_ ?_ | refine G_pure ?_ | refine G_store ?_ | refine G_loadV ?_ | refine G_loadV0 ?_ | refine G_loadV2 ?_ | refine G_not ?_ | refine G_index ?_ | refine G_indexA ?_ | refine G_build ?_ | refine G_slh ?_ | refine G_slo ?_ | refine G_shi ?_ | refine G_cat ?_ | refine G_eql_agg ?_ | refine G_call ?_ | refine G_call0 ?_ | (refine G_alloc ?_; intro _) | (refine G_indexV ?_; intro _ _ hA; subst hA) | (refine G_sliceR ?_; intro _) | (refine G_sliceO ?_; intro _))
        | (show spl _ _ _; first | refine spl_no rfl ?_ | refine spl_yes rfl ?_)
        | (show evC _ _ _ _ _; first | refine c_seq ?_ | refine c_region (by exact rfl) ?_ | refine c_cond (by exact rfl) ?_ | refine c_ret ?_ | refine c_skip ?_ | refine c_block ?_ | refine c_exit ?_ | (show evC _ (.region 5 _ true) _ _ _; refine c_draw (l := [(0, 0), (1, 1), (2, 1), (3, 1), (4, 1), (5, 0)]) (by decide +kernel) (by decide +kernel) (by exact rfl) ?_) | refine std ?_)
        | (show Br _ _ _; first | refine Br.t rfl ?_ | refine Br.f rfl ?_ | refine brs ?_ | (first | refine Br.mkN (fun h => ?_) (fun h => ?_) | refine Br.mk (fun h => ?_) (fun h => ?_)) <;> (try (first | contradiction | (exfalso; omega) | (exfalso; simp at h; done))))
        | refine stp ?_)
      all_goals (show retC _ _ _ _ _ _; refine RETC ?_; exact ret_done (hK))
end Go.Proofs.YtiofdmjecjcdbaaGreatDoor

