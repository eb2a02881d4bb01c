/- Script: Parse: lemmas; each with the conditions that it states. -/
import Derived.Test.YtiofdmjecjcdbaaGreatDoorFh
import Derived.Test.YtiofdmjecjcdbaaGreatDoorG8

namespace Go.Proofs.YtiofdmjecjcdbaaGreatDoor
open Go Go.Proofs Go.Sl
set_option maxRecDepth 100000
set_option maxHeartbeats 4000000
set_option linter.unusedSimpArgs false
set_option linter.unusedVariables false
attribute [local irreducible] evG evC spl thenC inBlockC noGotoC CallT retC RetG TurnG CutG pt ro exP star sep pureP
variable {R C : List HP} {K : Value → List HP → Prop}
theorem spl1_mem {c : UInt8} : ∀ {l p : List UInt8}, p ∈ spl1 c l → p.length ≤ l.length
  | [], p, h => by
    rw [show spl1 c [] = [[]] from rfl, List.mem_singleton] at h
    subst h; simp
  | x :: l, p, h => by
    unfold spl1 at h
    rw [List.length_cons]
    split at h
    · rcases List.mem_cons.1 h with rfl | h
      · simp
      · have := spl1_mem h; omega
    · split at h
      · rename_i u v he
        rcases List.mem_cons.1 h with rfl | h
        · have := spl1_mem (c := c) (l := l) (p := u) (by rw [he]; simp)
          rw [List.length_cons]; omega
        · have := spl1_mem (c := c) (l := l) (p := p) (by rw [he]; exact List.mem_cons_of_mem _ h)
          omega
      · rw [List.mem_singleton] at h; subst h; simp
theorem wdN_ne : ∀ j < 15, 1 ≤ j → wdN j ≠ [] := by decide
theorem drop_at {α : Type} {l : List α} {i : Nat} {x : α} (h : l[i]? = some x) : l.drop i = x :: l.drop (i + 1) := by
  obtain ⟨h1, h2⟩ := List.getElem?_eq_some_iff.1 h
  rw [← h2]
  exact List.drop_eq_getElem_cons h1
theorem fold_at {a : AC} {cs : List UInt8} {ls : List (List UInt8)} {i : Nat} {c : UInt8} {l : List UInt8} (h1 : cs[i]? = some c) (h2 : ls[i]? = some l) : foldA a (cs.drop i) (ls.drop i) = (setA a c l).bind fun a' => foldA a' (cs.drop (i + 1)) (ls.drop (i + 1)) := by
  rw [drop_at h1, drop_at h2]
  rfl
theorem fold_end {a : AC} {cs : List UInt8} {ls : List (List UInt8)} {i : Nat} (h1 : i = cs.length) (h2 : i = ls.length) : foldA a (cs.drop i) (ls.drop i) = some a := by
  rw [List.drop_eq_nil_of_le (by omega), List.drop_eq_nil_of_le (by omega)]
  rfl
theorem map_at {l : List (List UInt8)} {i : Nat} {x : List UInt8} (h : l[i]? = some x) : (l.map bq)[i]? = some (bq x) := by rw [List.getElem?_map, h]; rfl
set_option maxHeartbeats 40000000 in
theorem parseY_ok {l : List UInt8} {af : AC} (hs : l.length ≤ 1000000) (h : prs l = some af) (hK : K (.tuple #[.agg #[.int .i64 af.kd, .int .i64 af.sd, .int .i64 af.id, .int .i64 af.n, .int .i64 af.cd, .string af.s, .int .i64 af.on, .int .i64 af.ww, .bool af.xx, .int .i64 af.xw, .int .i64 af.xs, .int .i64 af.xi], .int .i64 0]) R) : CallT Tryz.prog 10 #[.string (bq l)] R K := by
  have hsz : (bq l).size ≤ 1100000 := by rw [bq_size]; omega
  have hdl : (bq l).data.toList = l := data_bq l
  unfold prs at h
  have hmem : ∀ p ∈ spl1 32 l, p.length ≤ 1000000 := fun p hp => Nat.le_trans (spl1_mem hp) hs
  have hple := spl1_le (c := 32) l
  generalize hP : spl1 32 l = P at h hmem hple
  match P, h with
  | [], h => cases h
  | w :: ps, h =>
    simp only [prsP] at h
    cases hk : kin w with
    | none => rw [hk] at h; cases h
    | some j0 =>
      rw [hk] at h
      simp only at h
      obtain ⟨g1, g2, g3⟩ := kin_some hk
      have hlen := fold_len h
      have hfd := h
      have hw6 := wdF_len j0 g3
      have hfs := bq_size (wdF j0)
      have hw0 : ((w :: ps).map bq)[((0 : Int)).toNat]? = some (bq w) := rfl
      rw [List.length_cons] at hple
      refine callT_intro mixed Tryz.func10 rfl (by decide) (by decide +kernel) (by exact Nat.le_of_ble_eq_true rfl) ?_
      repeat' (first
        | (show evG _ _ _ _ _ _ _; first | refine G_add64 ?_ | refine G_pure0 ?_ | refine G_load ?_ | refine evG_nil ?_ | refine G_br ?_ ?_ | refine G_field ?_ | refine G_pure ?_ | refine G_store ?_ | refine G_loadV ?_ | refine G_loadV0 ?_ | refine G_loadV2 ?_ | refine G_index ?_ | refine G_indexA ?_ | refine G_indexS ?_ | refine G_build ?_ | refine G_cat ?_ | refine G_eql_agg ?_ | refine G_neq_agg ?_ | refine G_call ?_ | refine G_call0 ?_ | (refine G_alloc ?_; intro _) | (refine G_indexV ?_; intro _ _ hA; subst hA) | refine G_skip ?_ | refine G_skip0 ?_)
        | (show spl _ _ _; first | refine spl_no rfl ?_ | refine spl_yes rfl ?_)
        | (show evC _ _ _ _ _; first | refine c_seq ?_ | refine c_region (by exact rfl) ?_ | refine c_cond (by exact rfl) ?_ | refine c_ret ?_ | refine c_skip ?_ | refine c_block ?_ | refine c_exit ?_ | (show evC _ (.region 6 _ true) _ _ _; refine c_draw (l := [(0, 0), (1, 0), (2, 0), (3, 0), (4, 0), (5, 0), (6, 0), (7, 0), (8, 0), (9, 0), (10, 0)]) (by decide +kernel) (by decide +kernel) (by exact rfl) ?_) | (show evC _ (.region 12 _ true) _ _ _; refine c_draw (l := [(0, 0), (1, 0), (2, 0), (3, 0), (4, 0), (5, 0), (6, 0), (7, 0), (8, 1), (9, 0)]) (by decide +kernel) (by decide +kernel) (by exact rfl) ?_) | refine std ?_)
        | (show Br _ _ _; first | refine Br.t rfl ?_ | refine Br.f rfl ?_ | refine brs ?_ | (first | refine Br.mkN (fun h => ?_) (fun h => ?_) | refine Br.mk (fun h => ?_) (fun h => ?_)) <;> (try (first | contradiction | (exfalso; omega) | (exfalso; simp at h; done))))
        | refine stp ?_
        | (show CallT _ 24 _ _ _; refine CA (h := splits_ok hsz (fun r => ?_)); rw [hdl, hP, List.length_cons])
        | (show CallT _ 25 _ _ _; refine CA (h := words_ok ?_)))
      rename_i q
      refine LOOP (fun m a C' => ∃ j : Nat, j + m = 15 ∧ j ≤ j0 ∧ C' = pt q [.int .i64 0, .int .i64 0, .int .i64 0, .int .i64 0, .int .i64 0, .string ⟨#[]⟩, .int .i64 0, .int .i64 0, .bool false, .int .i64 0, .int .i64 0, .int .i64 0] 28 :: row (some ⟨r, 0, none⟩) (ps.length + 1) 9 sgC ((w :: ps).map bq) :: R ∧ Agree a [(2, .pointer (some ⟨q, 0, none⟩)), (4, .slice (some ⟨r, 0, none⟩) (ps.length + 1) (ps.length + 1)), (13, .agg wordsL.toArray), (14, .int .i64 j)]) 15 (turn 15 ⟨0, by omega, by omega, rfl, rfl, rfl, rfl, rfl, trivial⟩) ?_
      rintro n1 a C' ⟨j, hj, hjj, rfl, ha⟩
      refine c_fr _ ha ?_
      simp only [updL]
      have hj15 : j < 15 := by omega
      have hwp := wpart hj15
      by_cases h0 : j = 0
      · subst h0
        repeat' (first
          | (show evG _ _ _ _ _ _ _; refine G_indexArr (hv := hwp) ?_)
          | (show evG _ _ _ _ _ _ _; first | refine G_add64 ?_ | refine G_pure0 ?_ | refine G_load ?_ | refine evG_nil ?_ | refine G_br ?_ ?_ | refine G_field ?_ | refine G_pure ?_ | refine G_store ?_ | refine G_loadV ?_ | refine G_loadV0 ?_ | refine G_loadV2 ?_ | refine G_index ?_ | refine G_indexA ?_ | refine G_indexS ?_ | refine G_build ?_ | refine G_cat ?_ | refine G_eql_agg ?_ | refine G_neq_agg ?_ | refine G_call ?_ | refine G_call0 ?_ | (refine G_alloc ?_; intro _) | (refine G_indexV ?_; intro _ _ hA; subst hA) | refine G_skip ?_ | refine G_skip0 ?_)
          | (show spl _ _ _; first | refine spl_no rfl ?_ | refine spl_yes rfl ?_)
          | (show evC _ _ _ _ _; first | refine c_seq ?_ | refine c_region (by exact rfl) ?_ | refine c_cond (by exact rfl) ?_ | refine c_ret ?_ | refine c_skip ?_ | refine c_block ?_ | refine c_exit ?_ | (show evC _ (.region 6 _ true) _ _ _; refine c_draw (l := [(0, 0), (1, 0), (2, 0), (3, 0), (4, 0), (5, 0), (6, 0), (7, 0), (8, 0), (9, 0), (10, 0)]) (by decide +kernel) (by decide +kernel) (by exact rfl) ?_) | (show evC _ (.region 12 _ true) _ _ _; refine c_draw (l := [(0, 0), (1, 0), (2, 0), (3, 0), (4, 0), (5, 0), (6, 0), (7, 0), (8, 1), (9, 0)]) (by decide +kernel) (by decide +kernel) (by exact rfl) ?_) | refine std ?_)
          | (show Br _ _ _; first | refine Br.t (by decide +kernel) ?_ | refine Br.f (by decide +kernel) ?_ | refine Br.t rfl ?_ | refine Br.f rfl ?_ | refine brs ?_ | (first | refine Br.mkN (fun h => ?_) (fun h => ?_) | refine Br.mk (fun h => ?_) (fun h => ?_)) <;> (try (first | contradiction | (exfalso; omega) | (exfalso; simp at h; done))))
          | refine stp ?_)
        all_goals (show TurnG _ _ _ _; exact turn (n1 - 1) ⟨1, by omega, by omega, rfl, rfl, rfl, rfl, rfl, trivial⟩)
      have hne : ((bq (wdN j)).toList == (⟨#[]⟩ : ByteArray).toList) = false := by
        rw [show (⟨#[]⟩ : ByteArray) = bq [] from rfl, bq_beq]
        exact decide_eq_false (wdN_ne j hj15 (by omega))
      by_cases he : j = j0
      · subst he
        have hcmp : ((bq (wdN j)).toList == (bq w).toList) = true := by rw [bq_beq, g1]; exact decide_eq_true rfl
        repeat' (first
          | (show evG _ _ _ _ _ _ _; refine G_indexArr (hv := hwp) ?_)
          | (show evG _ _ _ _ _ _ _; first | refine G_add64 ?_ | refine G_pure0 ?_ | refine G_load ?_ | refine evG_nil ?_ | refine G_br ?_ ?_ | refine G_field ?_ | refine G_pure ?_ | refine G_store ?_ | refine G_loadV ?_ | refine G_loadV0 ?_ | refine G_loadV2 ?_ | refine G_index ?_ | refine G_indexA ?_ | refine G_indexS ?_ | refine G_build ?_ | refine G_cat ?_ | refine G_eql_agg ?_ | refine G_neq_agg ?_ | refine G_call ?_ | refine G_call0 ?_ | (refine G_alloc ?_; intro _) | (refine G_indexV ?_; intro _ _ hA; subst hA) | refine G_skip ?_ | refine G_skip0 ?_)
          | (show spl _ _ _; first | refine spl_no rfl ?_ | refine spl_yes rfl ?_)
          | (show evC _ _ _ _ _; first | refine c_seq ?_ | refine c_region (by exact rfl) ?_ | refine c_cond (by exact rfl) ?_ | refine c_ret ?_ | refine c_skip ?_ | refine c_block ?_ | refine c_exit ?_ | (show evC _ (.region 6 _ true) _ _ _; refine c_draw (l := [(0, 0), (1, 0), (2, 0), (3, 0), (4, 0), (5, 0), (6, 0), (7, 0), (8, 0), (9, 0), (10, 0)]) (by decide +kernel) (by decide +kernel) (by exact rfl) ?_) | (show evC _ (.region 12 _ true) _ _ _; refine c_draw (l := [(0, 0), (1, 0), (2, 0), (3, 0), (4, 0), (5, 0), (6, 0), (7, 0), (8, 1), (9, 0)]) (by decide +kernel) (by decide +kernel) (by exact rfl) ?_) | refine std ?_)
          | (show Br _ _ _; first | refine Br.t rfl ?_ | refine Br.f rfl ?_ | refine brs ?_ | (first | refine Br.mkN (fun h => ?_) (fun h => ?_) | refine Br.mk (fun h => ?_) (fun h => ?_)) <;> (try (first | contradiction | (exfalso; omega) | (exfalso; simp at h; done))))
          | refine stp ?_)
        rename_i b6 b8
        refine LOOP (fun m a C' => ∃ (i : Nat) (ai : AC) (ok : Bool), i + m = (wdF j).length ∧ ok = true ∧ foldA ai ((wdF j).drop i) (ps.drop i) = some af ∧ C' = pt b8 [.int .i64 ai.kd, .int .i64 ai.sd, .int .i64 ai.id, .int .i64 ai.n, .int .i64 ai.cd, .string ai.s, .int .i64 ai.on, .int .i64 ai.ww, .bool ai.xx, .int .i64 ai.xw, .int .i64 ai.xs, .int .i64 ai.xi] 28 :: pt q [.int .i64 0, .int .i64 0, .int .i64 0, .int .i64 0, .int .i64 0, .string ⟨#[]⟩, .int .i64 0, .int .i64 0, .bool false, .int .i64 0, .int .i64 0, .int .i64 0] 28 :: row (some ⟨r, 0, none⟩) (ps.length + 1) 9 sgC ((w :: ps).map bq) :: R ∧ Agree a [(2, .pointer (some ⟨q, 0, none⟩)), (4, .slice (some ⟨r, 0, none⟩) (ps.length + 1) (ps.length + 1)), (7, .string (bq (wdF j))), (8, .pointer (some ⟨b8, 0, none⟩)), (9, .bool ok), (10, .int .i64 i)]) (wdF j).length (turn (wdF j).length ⟨0, AC0 j, _, by omega, ?_, hfd, rfl, rfl, rfl, rfl, rfl, rfl, rfl, trivial⟩) ?_
        · simp <;> omega
        rintro n2 a C' ⟨i, ai, ok, hi, rfl, hf, rfl, ha⟩
        refine c_fr _ ha ?_
        simp only [updL]
        by_cases hlt : i < (wdF j).length
        · obtain ⟨c, hc⟩ : ∃ c, (wdF j)[i]? = some c := ⟨_, List.getElem?_eq_getElem hlt⟩
          obtain ⟨l', hl'⟩ : ∃ c, ps[i]? = some c := ⟨_, List.getElem?_eq_getElem (by omega)⟩
          rw [fold_at hc hl'] at hf
          obtain ⟨a', hs1, hs2⟩ := Option.bind_eq_some_iff.1 hf
          have hcL : isL c := wdF_L j hj15 c (List.mem_of_getElem? hc)
          have hll : l'.length ≤ 1000000 := hmem l' (List.mem_cons_of_mem _ (List.mem_of_getElem? hl'))
          have x1 : (bq (wdF j))[((i : Nat) : Int).toNat]? = some c := by rw [bget_bq]; exact hc
          have x2 : ((w :: ps).map bq)[(1 + ((i : Nat) : Int)).toNat]? = some (bq l') := by
            rw [show (1 + ((i : Nat) : Int)).toNat = i + 1 by omega]
            exact map_at (by simpa using hl')
          repeat' (first
            | (show evG _ _ _ _ _ _ _; first | refine G_add64 ?_ | refine G_pure0 ?_ | refine G_load ?_ | refine evG_nil ?_ | refine G_br ?_ ?_ | refine G_field ?_ | refine G_pure ?_ | refine G_store ?_ | refine G_loadV ?_ | refine G_loadV0 ?_ | refine G_loadV2 ?_ | refine G_index ?_ | refine G_indexA ?_ | refine G_indexS ?_ | refine G_build ?_ | refine G_cat ?_ | refine G_eql_agg ?_ | refine G_neq_agg ?_ | refine G_call ?_ | refine G_call0 ?_ | (refine G_alloc ?_; intro _) | (refine G_indexV ?_; intro _ _ hA; subst hA) | refine G_skip ?_ | refine G_skip0 ?_)
            | (show spl _ _ _; first | refine spl_no rfl ?_ | refine spl_yes rfl ?_)
            | (show evC _ _ _ _ _; first | refine c_seq ?_ | refine c_region (by exact rfl) ?_ | refine c_cond (by exact rfl) ?_ | refine c_ret ?_ | refine c_skip ?_ | refine c_block ?_ | refine c_exit ?_ | (show evC _ (.region 6 _ true) _ _ _; refine c_draw (l := [(0, 0), (1, 0), (2, 0), (3, 0), (4, 0), (5, 0), (6, 0), (7, 0), (8, 0), (9, 0), (10, 0)]) (by decide +kernel) (by decide +kernel) (by exact rfl) ?_) | (show evC _ (.region 12 _ true) _ _ _; refine c_draw (l := [(0, 0), (1, 0), (2, 0), (3, 0), (4, 0), (5, 0), (6, 0), (7, 0), (8, 1), (9, 0)]) (by decide +kernel) (by decide +kernel) (by exact rfl) ?_) | refine std ?_)
            | (show Br _ _ _; first | refine Br.t rfl ?_ | refine Br.f rfl ?_ | refine brs ?_ | (first | refine Br.mkN (fun h => ?_) (fun h => ?_) | refine Br.mk (fun h => ?_) (fun h => ?_)) <;> (try (first | contradiction | (exfalso; omega) | (exfalso; simp at h; done))))
            | refine stp ?_
            | (show CallT _ 26 _ _ _; refine CA (h := setY_ok hcL hll hs1 ?_)))
          all_goals (show TurnG _ _ _ _; exact turn (n2 - 1) ⟨i + 1, a', true, by omega, rfl, hs2, rfl, rfl, rfl, rfl, rfl, rfl, rfl, trivial⟩)
        · have hi2 : i = (wdF j).length := by omega
          rw [fold_end hi2 (by omega)] at hf
          cases hf
          repeat' (first
            | (show evG _ _ _ _ _ _ _; first | refine G_add64 ?_ | refine G_pure0 ?_ | refine G_load ?_ | refine evG_nil ?_ | refine G_br ?_ ?_ | refine G_field ?_ | refine G_pure ?_ | refine G_store ?_ | refine G_loadV ?_ | refine G_loadV0 ?_ | refine G_loadV2 ?_ | refine G_index ?_ | refine G_indexA ?_ | refine G_indexS ?_ | refine G_build ?_ | refine G_cat ?_ | refine G_eql_agg ?_ | refine G_neq_agg ?_ | refine G_call ?_ | refine G_call0 ?_ | (refine G_alloc ?_; intro _) | (refine G_indexV ?_; intro _ _ hA; subst hA) | refine G_skip ?_ | refine G_skip0 ?_)
            | (show spl _ _ _; first | refine spl_no rfl ?_ | refine spl_yes rfl ?_)
            | (show evC _ _ _ _ _; first | refine c_seq ?_ | refine c_region (by exact rfl) ?_ | refine c_cond (by exact rfl) ?_ | refine c_ret ?_ | refine c_skip ?_ | refine c_block ?_ | refine c_exit ?_ | (show evC _ (.region 6 _ true) _ _ _; refine c_draw (l := [(0, 0), (1, 0), (2, 0), (3, 0), (4, 0), (5, 0), (6, 0), (7, 0), (8, 0), (9, 0), (10, 0)]) (by decide +kernel) (by decide +kernel) (by exact rfl) ?_) | (show evC _ (.region 12 _ true) _ _ _; refine c_draw (l := [(0, 0), (1, 0), (2, 0), (3, 0), (4, 0), (5, 0), (6, 0), (7, 0), (8, 1), (9, 0)]) (by decide +kernel) (by decide +kernel) (by exact rfl) ?_) | refine std ?_)
            | (show Br _ _ _; first | refine Br.t rfl ?_ | refine Br.f rfl ?_ | refine brs ?_ | (first | refine Br.mkN (fun h => ?_) (fun h => ?_) | refine Br.mk (fun h => ?_) (fun h => ?_)) <;> (try (first | contradiction | (exfalso; omega) | (exfalso; simp at h; done))))
            | refine stp ?_)
          all_goals (show retC _ _ _ _ _ _; refine RETC ?_; exact ret_done (hK))
      · have hcmp : ((bq (wdN j)).toList == (bq w).toList) = false := by
          rw [bq_beq]
          exact decide_eq_false fun e => he (wd_inj j hj15 j0 g3 (by omega) (e.trans g1.symm))
        repeat' (first
          | (show evG _ _ _ _ _ _ _; refine G_indexArr (hv := hwp) ?_)
          | (show evG _ _ _ _ _ _ _; first | refine G_add64 ?_ | refine G_pure0 ?_ | refine G_load ?_ | refine evG_nil ?_ | refine G_br ?_ ?_ | refine G_field ?_ | refine G_pure ?_ | refine G_store ?_ | refine G_loadV ?_ | refine G_loadV0 ?_ | refine G_loadV2 ?_ | refine G_index ?_ | refine G_indexA ?_ | refine G_indexS ?_ | refine G_build ?_ | refine G_cat ?_ | refine G_eql_agg ?_ | refine G_neq_agg ?_ | refine G_call ?_ | refine G_call0 ?_ | (refine G_alloc ?_; intro _) | (refine G_indexV ?_; intro _ _ hA; subst hA) | refine G_skip ?_ | refine G_skip0 ?_)
          | (show spl _ _ _; first | refine spl_no rfl ?_ | refine spl_yes rfl ?_)
          | (show evC _ _ _ _ _; first | refine c_seq ?_ | refine c_region (by exact rfl) ?_ | refine c_cond (by exact rfl) ?_ | refine c_ret ?_ | refine c_skip ?_ | refine c_block ?_ | refine c_exit ?_ | (show evC _ (.region 6 _ true) _ _ _; refine c_draw (l := [(0, 0), (1, 0), (2, 0), (3, 0), (4, 0), (5, 0), (6, 0), (7, 0), (8, 0), (9, 0), (10, 0)]) (by decide +kernel) (by decide +kernel) (by exact rfl) ?_) | (show evC _ (.region 12 _ true) _ _ _; refine c_draw (l := [(0, 0), (1, 0), (2, 0), (3, 0), (4, 0), (5, 0), (6, 0), (7, 0), (8, 1), (9, 0)]) (by decide +kernel) (by decide +kernel) (by exact rfl) ?_) | refine std ?_)
          | (show Br _ _ _; first | refine Br.t rfl ?_ | refine Br.f rfl ?_ | refine brs ?_ | (first | refine Br.mkN (fun h => ?_) (fun h => ?_) | refine Br.mk (fun h => ?_) (fun h => ?_)) <;> (try (first | contradiction | (exfalso; omega) | (exfalso; simp at h; done))))
          | refine stp ?_)
        all_goals (show TurnG _ _ _ _; exact turn (n1 - 1) ⟨j + 1, by omega, by omega, rfl, rfl, rfl, rfl, rfl, trivial⟩)
set_option maxHeartbeats 40000000 in
theorem parseN_ok {l : List UInt8} (hs : l.length ≤ 1000000) (h : prs l = none) (hK : K (.tuple #[.agg #[.int .i64 0, .int .i64 0, .int .i64 0, .int .i64 0, .int .i64 0, .string ⟨#[]⟩, .int .i64 0, .int .i64 0, .bool false, .int .i64 0, .int .i64 0, .int .i64 0], .int .i64 30]) R) : CallT Tryz.prog 10 #[.string (bq l)] R K := by
  have hsz : (bq l).size ≤ 1100000 := by rw [bq_size]; omega
  have hdl : (bq l).data.toList = l := data_bq l
  unfold prs at h
  have hmem : ∀ p ∈ spl1 32 l, p.length ≤ 1000000 := fun p hp => Nat.le_trans (spl1_mem hp) hs
  have hple := spl1_le (c := 32) l
  have hPn := spl1_ne 32 l
  generalize hP : spl1 32 l = P at h hmem hple hPn
  match P, h, hPn with
  | [], h, hPn => exact absurd rfl hPn
  | w :: ps, h, _ =>
    simp only [prsP] at h
    have hw0 : ((w :: ps).map bq)[((0 : Int)).toNat]? = some (bq w) := rfl
    rw [List.length_cons] at hple
    refine callT_intro mixed Tryz.func10 rfl (by decide) (by decide +kernel) (by exact Nat.le_of_ble_eq_true rfl) ?_
    repeat' (first
      | (show evG _ _ _ _ _ _ _; first | refine G_add64 ?_ | refine G_pure0 ?_ | refine G_load ?_ | refine evG_nil ?_ | refine G_br ?_ ?_ | refine G_field ?_ | refine G_pure ?_ | refine G_store ?_ | refine G_loadV ?_ | refine G_loadV0 ?_ | refine G_loadV2 ?_ | refine G_index ?_ | refine G_indexA ?_ | refine G_indexS ?_ | refine G_build ?_ | refine G_cat ?_ | refine G_eql_agg ?_ | refine G_neq_agg ?_ | refine G_call ?_ | refine G_call0 ?_ | (refine G_alloc ?_; intro _) | (refine G_indexV ?_; intro _ _ hA; subst hA) | refine G_skip ?_ | refine G_skip0 ?_)
      | (show spl _ _ _; first | refine spl_no rfl ?_ | refine spl_yes rfl ?_)
      | (show evC _ _ _ _ _; first | refine c_seq ?_ | refine c_region (by exact rfl) ?_ | refine c_cond (by exact rfl) ?_ | refine c_ret ?_ | refine c_skip ?_ | refine c_block ?_ | refine c_exit ?_ | (show evC _ (.region 6 _ true) _ _ _; refine c_draw (l := [(0, 0), (1, 0), (2, 0), (3, 0), (4, 0), (5, 0), (6, 0), (7, 0), (8, 0), (9, 0), (10, 0)]) (by decide +kernel) (by decide +kernel) (by exact rfl) ?_) | (show evC _ (.region 12 _ true) _ _ _; refine c_draw (l := [(0, 0), (1, 0), (2, 0), (3, 0), (4, 0), (5, 0), (6, 0), (7, 0), (8, 1), (9, 0)]) (by decide +kernel) (by decide +kernel) (by exact rfl) ?_) | refine std ?_)
      | (show Br _ _ _; first | refine Br.t rfl ?_ | refine Br.f rfl ?_ | refine brs ?_ | (first | refine Br.mkN (fun h => ?_) (fun h => ?_) | refine Br.mk (fun h => ?_) (fun h => ?_)) <;> (try (first | contradiction | (exfalso; omega) | (exfalso; simp at h; done))))
      | refine stp ?_
      | (show CallT _ 24 _ _ _; refine CA (h := splits_ok hsz (fun r => ?_)); rw [hdl, hP, List.length_cons])
      | (show CallT _ 25 _ _ _; refine CA (h := words_ok ?_)))
    rename_i q
    refine LOOP (fun m a C' => ∃ j : Nat, j + m = 15 ∧ C' = pt q [.int .i64 0, .int .i64 0, .int .i64 0, .int .i64 0, .int .i64 0, .string ⟨#[]⟩, .int .i64 0, .int .i64 0, .bool false, .int .i64 0, .int .i64 0, .int .i64 0] 28 :: row (some ⟨r, 0, none⟩) (ps.length + 1) 9 sgC ((w :: ps).map bq) :: R ∧ Agree a [(2, .pointer (some ⟨q, 0, none⟩)), (4, .slice (some ⟨r, 0, none⟩) (ps.length + 1) (ps.length + 1)), (13, .agg wordsL.toArray), (14, .int .i64 j)]) 15 (turn 15 ⟨0, by omega, rfl, rfl, rfl, rfl, rfl, trivial⟩) ?_
    rintro n1 a C' ⟨j, hj, rfl, ha⟩
    refine c_fr _ ha ?_
    simp only [updL]
    by_cases hj15 : j < 15
    · have hwp := wpart hj15
      have hw6 := wdF_len j hj15
      have hfs := bq_size (wdF j)
      by_cases h0 : j = 0
      · subst h0
        repeat' (first
          | (show evG _ _ _ _ _ _ _; refine G_indexArr (hv := hwp) ?_)
          | (show evG _ _ _ _ _ _ _; first | refine G_add64 ?_ | refine G_pure0 ?_ | refine G_load ?_ | refine evG_nil ?_ | refine G_br ?_ ?_ | refine G_field ?_ | refine G_pure ?_ | refine G_store ?_ | refine G_loadV ?_ | refine G_loadV0 ?_ | refine G_loadV2 ?_ | refine G_index ?_ | refine G_indexA ?_ | refine G_indexS ?_ | refine G_build ?_ | refine G_cat ?_ | refine G_eql_agg ?_ | refine G_neq_agg ?_ | refine G_call ?_ | refine G_call0 ?_ | (refine G_alloc ?_; intro _) | (refine G_indexV ?_; intro _ _ hA; subst hA) | refine G_skip ?_ | refine G_skip0 ?_)
          | (show spl _ _ _; first | refine spl_no rfl ?_ | refine spl_yes rfl ?_)
          | (show evC _ _ _ _ _; first | refine c_seq ?_ | refine c_region (by exact rfl) ?_ | refine c_cond (by exact rfl) ?_ | refine c_ret ?_ | refine c_skip ?_ | refine c_block ?_ | refine c_exit ?_ | (show evC _ (.region 6 _ true) _ _ _; refine c_draw (l := [(0, 0), (1, 0), (2, 0), (3, 0), (4, 0), (5, 0), (6, 0), (7, 0), (8, 0), (9, 0), (10, 0)]) (by decide +kernel) (by decide +kernel) (by exact rfl) ?_) | (show evC _ (.region 12 _ true) _ _ _; refine c_draw (l := [(0, 0), (1, 0), (2, 0), (3, 0), (4, 0), (5, 0), (6, 0), (7, 0), (8, 1), (9, 0)]) (by decide +kernel) (by decide +kernel) (by exact rfl) ?_) | refine std ?_)
          | (show Br _ _ _; first | refine Br.t (by decide +kernel) ?_ | refine Br.f (by decide +kernel) ?_ | refine Br.t rfl ?_ | refine Br.f rfl ?_ | refine brs ?_ | (first | refine Br.mkN (fun h => ?_) (fun h => ?_) | refine Br.mk (fun h => ?_) (fun h => ?_)) <;> (try (first | contradiction | (exfalso; omega) | (exfalso; simp at h; done))))
          | refine stp ?_)
        all_goals (show TurnG _ _ _ _; exact turn (n1 - 1) ⟨1, by omega, rfl, rfl, rfl, rfl, rfl, trivial⟩)
      have hne : ((bq (wdN j)).toList == (⟨#[]⟩ : ByteArray).toList) = false := by
        rw [show (⟨#[]⟩ : ByteArray) = bq [] from rfl, bq_beq]
        exact decide_eq_false (wdN_ne j hj15 (by omega))
      by_cases he : wdN j = w
      · have hcmp : ((bq (wdN j)).toList == (bq w).toList) = true := by rw [bq_beq, he]; exact decide_eq_true rfl
        rw [← he, kin_of (by omega) hj15] at h
        simp only at h
        have hfd := h
        repeat' (first
          | (show evG _ _ _ _ _ _ _; refine G_indexArr (hv := hwp) ?_)
          | (show evG _ _ _ _ _ _ _; first | refine G_add64 ?_ | refine G_pure0 ?_ | refine G_load ?_ | refine evG_nil ?_ | refine G_br ?_ ?_ | refine G_field ?_ | refine G_pure ?_ | refine G_store ?_ | refine G_loadV ?_ | refine G_loadV0 ?_ | refine G_loadV2 ?_ | refine G_index ?_ | refine G_indexA ?_ | refine G_indexS ?_ | refine G_build ?_ | refine G_cat ?_ | refine G_eql_agg ?_ | refine G_neq_agg ?_ | refine G_call ?_ | refine G_call0 ?_ | (refine G_alloc ?_; intro _) | (refine G_indexV ?_; intro _ _ hA; subst hA) | refine G_skip ?_ | refine G_skip0 ?_)
          | (show spl _ _ _; first | refine spl_no rfl ?_ | refine spl_yes rfl ?_)
          | (show evC _ _ _ _ _; first | refine c_seq ?_ | refine c_region (by exact rfl) ?_ | refine c_cond (by exact rfl) ?_ | refine c_ret ?_ | refine c_skip ?_ | refine c_block ?_ | refine c_exit ?_ | (show evC _ (.region 6 _ true) _ _ _; refine c_draw (l := [(0, 0), (1, 0), (2, 0), (3, 0), (4, 0), (5, 0), (6, 0), (7, 0), (8, 0), (9, 0), (10, 0)]) (by decide +kernel) (by decide +kernel) (by exact rfl) ?_) | (show evC _ (.region 12 _ true) _ _ _; refine c_draw (l := [(0, 0), (1, 0), (2, 0), (3, 0), (4, 0), (5, 0), (6, 0), (7, 0), (8, 1), (9, 0)]) (by decide +kernel) (by decide +kernel) (by exact rfl) ?_) | refine std ?_)
          | (show Br _ _ _; first | refine Br.t rfl ?_ | refine Br.f rfl ?_ | refine brs ?_ | (first | refine Br.mkN (fun h => ?_) (fun h => ?_) | refine Br.mk (fun h => ?_) (fun h => ?_)) <;> (try (first | contradiction | (exfalso; omega) | (exfalso; simp at h; done))))
          | refine stp ?_)
        rename_i b6 b8
        refine LOOP (fun m a C' => ∃ (i : Nat) (ai : AC) (ok : Bool), i + m = (wdF j).length + 1 ∧ (ok = true → i ≤ (wdF j).length ∧ ps.length = (wdF j).length ∧ foldA ai ((wdF j).drop i) (ps.drop i) = none) ∧ C' = pt b8 [.int .i64 ai.kd, .int .i64 ai.sd, .int .i64 ai.id, .int .i64 ai.n, .int .i64 ai.cd, .string ai.s, .int .i64 ai.on, .int .i64 ai.ww, .bool ai.xx, .int .i64 ai.xw, .int .i64 ai.xs, .int .i64 ai.xi] 28 :: pt q [.int .i64 0, .int .i64 0, .int .i64 0, .int .i64 0, .int .i64 0, .string ⟨#[]⟩, .int .i64 0, .int .i64 0, .bool false, .int .i64 0, .int .i64 0, .int .i64 0] 28 :: row (some ⟨r, 0, none⟩) (ps.length + 1) 9 sgC ((w :: ps).map bq) :: R ∧ Agree a [(2, .pointer (some ⟨q, 0, none⟩)), (4, .slice (some ⟨r, 0, none⟩) (ps.length + 1) (ps.length + 1)), (7, .string (bq (wdF j))), (8, .pointer (some ⟨b8, 0, none⟩)), (9, .bool ok), (10, .int .i64 i), (13, .agg wordsL.toArray), (14, .int .i64 j)]) ((wdF j).length + 1) (turn ((wdF j).length + 1) ⟨0, AC0 j, _, by omega, ?_, rfl, rfl, rfl, rfl, rfl, rfl, rfl, rfl, rfl, trivial⟩) ?_
        · intro hb
          exact ⟨by omega, by simp at hb; omega, hfd⟩
        rintro n2 a C' ⟨i, ai, ok, hi, hf, rfl, ha⟩
        refine c_fr _ ha ?_
        simp only [updL]
        cases ok
        · repeat' (first
            | (show evG _ _ _ _ _ _ _; first | refine G_add64 ?_ | refine G_pure0 ?_ | refine G_load ?_ | refine evG_nil ?_ | refine G_br ?_ ?_ | refine G_field ?_ | refine G_pure ?_ | refine G_store ?_ | refine G_loadV ?_ | refine G_loadV0 ?_ | refine G_loadV2 ?_ | refine G_index ?_ | refine G_indexA ?_ | refine G_indexS ?_ | refine G_build ?_ | refine G_cat ?_ | refine G_eql_agg ?_ | refine G_neq_agg ?_ | refine G_call ?_ | refine G_call0 ?_ | (refine G_alloc ?_; intro _) | (refine G_indexV ?_; intro _ _ hA; subst hA) | refine G_skip ?_ | refine G_skip0 ?_)
            | (show spl _ _ _; first | refine spl_no rfl ?_ | refine spl_yes rfl ?_)
            | (show evC _ _ _ _ _; first | refine c_seq ?_ | refine c_region (by exact rfl) ?_ | refine c_cond (by exact rfl) ?_ | refine c_ret ?_ | refine c_skip ?_ | refine c_block ?_ | refine c_exit ?_ | (show evC _ (.region 6 _ true) _ _ _; refine c_draw (l := [(0, 0), (1, 0), (2, 0), (3, 0), (4, 0), (5, 0), (6, 0), (7, 0), (8, 0), (9, 0), (10, 0)]) (by decide +kernel) (by decide +kernel) (by exact rfl) ?_) | (show evC _ (.region 12 _ true) _ _ _; refine c_draw (l := [(0, 0), (1, 0), (2, 0), (3, 0), (4, 0), (5, 0), (6, 0), (7, 0), (8, 1), (9, 0)]) (by decide +kernel) (by decide +kernel) (by exact rfl) ?_) | refine std ?_)
            | (show Br _ _ _; first | refine Br.t rfl ?_ | refine Br.f rfl ?_ | refine brs ?_ | (first | refine Br.mkN (fun h => ?_) (fun h => ?_) | refine Br.mk (fun h => ?_) (fun h => ?_)) <;> (try (first | contradiction | (exfalso; omega) | (exfalso; simp at h; done))))
            | refine stp ?_)
          all_goals (show TurnG _ _ _ _; exact turn (n1 - 1) ⟨j + 1, by omega, rfl, rfl, rfl, rfl, rfl, trivial⟩)
        · obtain ⟨hi2, hlen, hf⟩ := hf rfl
          by_cases hlt : i < (wdF j).length
          · obtain ⟨c, hc⟩ : ∃ c, (wdF j)[i]? = some c := ⟨_, List.getElem?_eq_getElem hlt⟩
            obtain ⟨l', hl'⟩ : ∃ c, ps[i]? = some c := ⟨_, List.getElem?_eq_getElem (by omega)⟩
            rw [fold_at hc hl'] at hf
            have hcL : isL c := wdF_L j hj15 c (List.mem_of_getElem? hc)
            have hll : l'.length ≤ 1000000 := hmem l' (List.mem_cons_of_mem _ (List.mem_of_getElem? hl'))
            have x1 : (bq (wdF j))[((i : Nat) : Int).toNat]? = some c := by rw [bget_bq]; exact hc
            have x2 : ((w :: ps).map bq)[(1 + ((i : Nat) : Int)).toNat]? = some (bq l') := by
              rw [show (1 + ((i : Nat) : Int)).toNat = i + 1 by omega]
              exact map_at (by simpa using hl')
            cases hsA : setA ai c l' with
            | none =>
              repeat' (first
                | (show evG _ _ _ _ _ _ _; first | refine G_add64 ?_ | refine G_pure0 ?_ | refine G_load ?_ | refine evG_nil ?_ | refine G_br ?_ ?_ | refine G_field ?_ | refine G_pure ?_ | refine G_store ?_ | refine G_loadV ?_ | refine G_loadV0 ?_ | refine G_loadV2 ?_ | refine G_index ?_ | refine G_indexA ?_ | refine G_indexS ?_ | refine G_build ?_ | refine G_cat ?_ | refine G_eql_agg ?_ | refine G_neq_agg ?_ | refine G_call ?_ | refine G_call0 ?_ | (refine G_alloc ?_; intro _) | (refine G_indexV ?_; intro _ _ hA; subst hA) | refine G_skip ?_ | refine G_skip0 ?_)
                | (show spl _ _ _; first | refine spl_no rfl ?_ | refine spl_yes rfl ?_)
                | (show evC _ _ _ _ _; first | refine c_seq ?_ | refine c_region (by exact rfl) ?_ | refine c_cond (by exact rfl) ?_ | refine c_ret ?_ | refine c_skip ?_ | refine c_block ?_ | refine c_exit ?_ | (show evC _ (.region 6 _ true) _ _ _; refine c_draw (l := [(0, 0), (1, 0), (2, 0), (3, 0), (4, 0), (5, 0), (6, 0), (7, 0), (8, 0), (9, 0), (10, 0)]) (by decide +kernel) (by decide +kernel) (by exact rfl) ?_) | (show evC _ (.region 12 _ true) _ _ _; refine c_draw (l := [(0, 0), (1, 0), (2, 0), (3, 0), (4, 0), (5, 0), (6, 0), (7, 0), (8, 1), (9, 0)]) (by decide +kernel) (by decide +kernel) (by exact rfl) ?_) | refine std ?_)
                | (show Br _ _ _; first | refine Br.t rfl ?_ | refine Br.f rfl ?_ | refine brs ?_ | (first | refine Br.mkN (fun h => ?_) (fun h => ?_) | refine Br.mk (fun h => ?_) (fun h => ?_)) <;> (try (first | contradiction | (exfalso; omega) | (exfalso; simp at h; done))))
                | refine stp ?_
                | (show CallT _ 26 _ _ _; refine CA (h := setN_ok hcL hll hsA (fun kd' sd' id' n' cd' s' on' ww' xx' xw' xs' xi' => ?_))))
              all_goals (show TurnG _ _ _ _; exact turn (n2 - 1) ⟨i + 1, ⟨kd', sd', id', n', cd', s', on', ww', xx', xw', xs', xi'⟩, false, by omega, (fun h => by cases h), rfl, rfl, rfl, rfl, rfl, rfl, rfl, rfl, rfl, trivial⟩)
            | some a' =>
              rw [hsA] at hf
              repeat' (first
                | (show evG _ _ _ _ _ _ _; first | refine G_add64 ?_ | refine G_pure0 ?_ | refine G_load ?_ | refine evG_nil ?_ | refine G_br ?_ ?_ | refine G_field ?_ | refine G_pure ?_ | refine G_store ?_ | refine G_loadV ?_ | refine G_loadV0 ?_ | refine G_loadV2 ?_ | refine G_index ?_ | refine G_indexA ?_ | refine G_indexS ?_ | refine G_build ?_ | refine G_cat ?_ | refine G_eql_agg ?_ | refine G_neq_agg ?_ | refine G_call ?_ | refine G_call0 ?_ | (refine G_alloc ?_; intro _) | (refine G_indexV ?_; intro _ _ hA; subst hA) | refine G_skip ?_ | refine G_skip0 ?_)
                | (show spl _ _ _; first | refine spl_no rfl ?_ | refine spl_yes rfl ?_)
                | (show evC _ _ _ _ _; first | refine c_seq ?_ | refine c_region (by exact rfl) ?_ | refine c_cond (by exact rfl) ?_ | refine c_ret ?_ | refine c_skip ?_ | refine c_block ?_ | refine c_exit ?_ | (show evC _ (.region 6 _ true) _ _ _; refine c_draw (l := [(0, 0), (1, 0), (2, 0), (3, 0), (4, 0), (5, 0), (6, 0), (7, 0), (8, 0), (9, 0), (10, 0)]) (by decide +kernel) (by decide +kernel) (by exact rfl) ?_) | (show evC _ (.region 12 _ true) _ _ _; refine c_draw (l := [(0, 0), (1, 0), (2, 0), (3, 0), (4, 0), (5, 0), (6, 0), (7, 0), (8, 1), (9, 0)]) (by decide +kernel) (by decide +kernel) (by exact rfl) ?_) | refine std ?_)
                | (show Br _ _ _; first | refine Br.t rfl ?_ | refine Br.f rfl ?_ | refine brs ?_ | (first | refine Br.mkN (fun h => ?_) (fun h => ?_) | refine Br.mk (fun h => ?_) (fun h => ?_)) <;> (try (first | contradiction | (exfalso; omega) | (exfalso; simp at h; done))))
                | refine stp ?_
                | (show CallT _ 26 _ _ _; refine CA (h := setY_ok hcL hll hsA ?_)))
              all_goals (show TurnG _ _ _ _; exact turn (n2 - 1) ⟨i + 1, a', true, by omega, (fun _ => ⟨by omega, hlen, hf⟩), rfl, rfl, rfl, rfl, rfl, rfl, rfl, rfl, rfl, trivial⟩)
          · have hi2 : i = (wdF j).length := by omega
            rw [fold_end hi2 (by omega)] at hf
            cases hf
      · have hcmp : ((bq (wdN j)).toList == (bq w).toList) = false := by rw [bq_beq]; exact decide_eq_false he
        repeat' (first
          | (show evG _ _ _ _ _ _ _; refine G_indexArr (hv := hwp) ?_)
          | (show evG _ _ _ _ _ _ _; first | refine G_add64 ?_ | refine G_pure0 ?_ | refine G_load ?_ | refine evG_nil ?_ | refine G_br ?_ ?_ | refine G_field ?_ | refine G_pure ?_ | refine G_store ?_ | refine G_loadV ?_ | refine G_loadV0 ?_ | refine G_loadV2 ?_ | refine G_index ?_ | refine G_indexA ?_ | refine G_indexS ?_ | refine G_build ?_ | refine G_cat ?_ | refine G_eql_agg ?_ | refine G_neq_agg ?_ | refine G_call ?_ | refine G_call0 ?_ | (refine G_alloc ?_; intro _) | (refine G_indexV ?_; intro _ _ hA; subst hA) | refine G_skip ?_ | refine G_skip0 ?_)
          | (show spl _ _ _; first | refine spl_no rfl ?_ | refine spl_yes rfl ?_)
          | (show evC _ _ _ _ _; first | refine c_seq ?_ | refine c_region (by exact rfl) ?_ | refine c_cond (by exact rfl) ?_ | refine c_ret ?_ | refine c_skip ?_ | refine c_block ?_ | refine c_exit ?_ | (show evC _ (.region 6 _ true) _ _ _; refine c_draw (l := [(0, 0), (1, 0), (2, 0), (3, 0), (4, 0), (5, 0), (6, 0), (7, 0), (8, 0), (9, 0), (10, 0)]) (by decide +kernel) (by decide +kernel) (by exact rfl) ?_) | (show evC _ (.region 12 _ true) _ _ _; refine c_draw (l := [(0, 0), (1, 0), (2, 0), (3, 0), (4, 0), (5, 0), (6, 0), (7, 0), (8, 1), (9, 0)]) (by decide +kernel) (by decide +kernel) (by exact rfl) ?_) | refine std ?_)
          | (show Br _ _ _; first | refine Br.t rfl ?_ | refine Br.f rfl ?_ | refine brs ?_ | (first | refine Br.mkN (fun h => ?_) (fun h => ?_) | refine Br.mk (fun h => ?_) (fun h => ?_)) <;> (try (first | contradiction | (exfalso; omega) | (exfalso; simp at h; done))))
          | refine stp ?_)
        all_goals (show TurnG _ _ _ _; exact turn (n1 - 1) ⟨j + 1, by omega, rfl, rfl, rfl, rfl, rfl, trivial⟩)
    · obtain rfl : j = 15 := by omega
      repeat' (first
        | (show evG _ _ _ _ _ _ _; first | refine G_add64 ?_ | refine G_pure0 ?_ | refine G_load ?_ | refine evG_nil ?_ | refine G_br ?_ ?_ | refine G_field ?_ | refine G_pure ?_ | refine G_store ?_ | refine G_loadV ?_ | refine G_loadV0 ?_ | refine G_loadV2 ?_ | refine G_index ?_ | refine G_indexA ?_ | refine G_indexS ?_ | refine G_build ?_ | refine G_cat ?_ | refine G_eql_agg ?_ | refine G_neq_agg ?_ | refine G_call ?_ | refine G_call0 ?_ | (refine G_alloc ?_; intro _) | (refine G_indexV ?_; intro _ _ hA; subst hA) | refine G_skip ?_ | refine G_skip0 ?_)
        | (show spl _ _ _; first | refine spl_no rfl ?_ | refine spl_yes rfl ?_)
        | (show evC _ _ _ _ _; first | refine c_seq ?_ | refine c_region (by exact rfl) ?_ | refine c_cond (by exact rfl) ?_ | refine c_ret ?_ | refine c_skip ?_ | refine c_block ?_ | refine c_exit ?_ | (show evC _ (.region 6 _ true) _ _ _; refine c_draw (l := [(0, 0), (1, 0), (2, 0), (3, 0), (4, 0), (5, 0), (6, 0), (7, 0), (8, 0), (9, 0), (10, 0)]) (by decide +kernel) (by decide +kernel) (by exact rfl) ?_) | (show evC _ (.region 12 _ true) _ _ _; refine c_draw (l := [(0, 0), (1, 0), (2, 0), (3, 0), (4, 0), (5, 0), (6, 0), (7, 0), (8, 1), (9, 0)]) (by decide +kernel) (by decide +kernel) (by exact rfl) ?_) | refine std ?_)
        | (show Br _ _ _; first | refine Br.t rfl ?_ | refine Br.f rfl ?_ | refine brs ?_ | (first | refine Br.mkN (fun h => ?_) (fun h => ?_) | refine Br.mk (fun h => ?_) (fun h => ?_)) <;> (try (first | contradiction | (exfalso; omega) | (exfalso; simp at h; done))))
        | refine stp ?_)
      all_goals (show retC _ _ _ _ _ _; refine RETC ?_; exact ret_done (hK))
end Go.Proofs.YtiofdmjecjcdbaaGreatDoor

