/- Sniff: what a side sends. Sniff: credits told; the law's book: lemmas; each with the conditions that it states. -/
import Derived.Test.YthoagholmkiknaaFh
import Derived.Test.YthoagholmkiknaaS4

namespace Go.Proofs.Ythoagholmkiknaa
open Go Go.Proofs Go.Sl
set_option maxRecDepth 100000
set_option maxHeartbeats 4000000
set_option linter.unusedSimpArgs false
set_option linter.unusedVariables false
attribute [local irreducible] evG evC spl thenC inBlockC noGotoC CallT retC RetG TurnG CutG pt ro exP star sep pureP
attribute [local irreducible] mp mit
variable {R C : List HP} {K : Value → List HP → Prop}
section
variable {x q i0 i1 s0 s1 m : Nat} {cn0 cn1 b0 b1 it0 it1 n : Int} {t st k on w c la : Int} {e xx : Bool} {d : ByteArray} {ps : List Pr}
theorem feedS_ok {y : Nat} (h : RightP t st e d k on w xx c la n ps) (ht : dataT t) (hK : ∀ F cF pa pc, K (.tuple #[.slice F 1 cF, .int .i64 0]) (row F cF 38 fmC [⟨t, st, e, d, 0, 0, 0, false, 0, 0, n, pa, 0, pc, []⟩] :: spP y [] 0 :: R)) : CallT Try.prog 22 #[.pointer (some ⟨y, 0, none⟩), .string (frB t st e d k on w xx c la n ps)] (spP y [] 0 :: R) K := by
  have hz : (frB t st e d k on w xx c la n ps).size ≤ 265 := fr_le (y := ⟨t, st, e, d, k, on, w, xx, c, la, n, none, ps.length, 0, ps⟩) h
  obtain ⟨h1, h2⟩ := pF_fr h ht
  have h3 : (pF (frB t st e d k on w xx c la n ps).data.toList).2.1 = [] := by rw [h2]
  have h4 : (pF (frB t st e d k on w xx c la n ps).data.toList).2.2 = 0 := by rw [h2]
  refine CallT.entK (feed_ok (ks := []) (by simp; omega) fun F cF fs hfs => ?_)
  rw [List.nil_append] at hfs ⊢
  rw [h1] at hfs
  rw [h3, h4]
  match fs, hfs with
  | [⟨t', st', e', d', k', on', w', x', c', la', n', pa, pn, pc, ps'⟩], hfs =>
    simp only [List.map_cons, List.map_nil, coreF, List.cons.injEq, Fm.mk.injEq, and_true, true_and] at hfs
    obtain ⟨rfl, rfl, rfl, rfl, rfl, rfl, rfl, rfl, rfl, rfl, rfl, rfl, rfl⟩ := hfs
    exact ⟨_, Ent.pick Pick.here (Ent.drop (Ent.refl _)), hK F cF pa pc⟩
theorem see0_ok (h : RightP 0 1 e d k on w xx c la n ps) (hn : 0 ≤ n ∧ n ≤ 2147483647) (hd : d.size ≤ 10000) (hc0 : -1000000000000 ≤ cn0 ∧ cn0 ≤ 1000000000000) (hb0 : -1000000000000 ≤ b0 ∧ b0 ≤ 1000000000000) (hi0 : -1000000000000 ≤ it0 ∧ it0 ≤ 1000000000000) (hK : ∀ A c, K (.slice A (outW 0 e d cn0 b0 it0).length c) (pt x [.pointer (some ⟨i0, 0, none⟩), .pointer (some ⟨i1, 0, none⟩), .slice (some ⟨s0, 0, none⟩) 1 1, .slice (some ⟨s1, 0, none⟩) 1 1, .int .i64 0, .int .i64 0, .int .i64 (nC 0 1 d n cn0), .int .i64 cn1, .map (some m)] 55 :: spP i0 [] 0 :: mp m [⟨1, .pointer (some ⟨q, 0, none⟩), 0⟩] 1 :: pt q [.int .i64 (nB 0 1 d n b0), .int .i64 b1, .int .i64 (nI 0 e d n it0), .int .i64 it1, .int .i64 1, .int .i64 1] 70 :: row A c 3 siC (outW 0 e d cn0 b0 it0) :: R)) : CallT Try.prog 8 #[.pointer (some ⟨x, 0, none⟩), .int .i64 0, .string (frB 0 1 e d k on w xx c la n ps)] (pt x [.pointer (some ⟨i0, 0, none⟩), .pointer (some ⟨i1, 0, none⟩), .slice (some ⟨s0, 0, none⟩) 1 1, .slice (some ⟨s1, 0, none⟩) 1 1, .int .i64 0, .int .i64 0, .int .i64 cn0, .int .i64 cn1, .map (some m)] 55 :: spP i0 [] 0 :: mp m [⟨1, .pointer (some ⟨q, 0, none⟩), 0⟩] 1 :: pt q [.int .i64 b0, .int .i64 b1, .int .i64 it0, .int .i64 it1, .int .i64 1, .int .i64 1] 70 :: R) K := by
  have ho2 : (outW 0 e d cn0 b0 it0).length ≤ 2 := outW_len _ _ _ _ _ _
  refine callT_intro mixed Try.func8 rfl (by decide) (by decide +kernel) (by exact Nat.le_of_ble_eq_true rfl) ?_
  repeat' (first
    | (show evG _ _ _ _ _ _ _; first | refine G_add64 ?_ | refine G_pure0 ?_ | refine G_load ?_ | refine evG_nil ?_ | refine G_br ?_ ?_ | refine G_field ?_ | refine G_pure ?_ | refine G_store ?_ | refine G_loadV ?_ | refine G_loadV0 ?_ | refine G_loadV2 ?_ | (refine G_append ?_; intro _ _) | (refine G_appendN ?_; intro _ _) | refine G_not ?_ | refine G_index ?_ | refine G_indexA ?_ | refine G_cat ?_ | refine G_eql_agg ?_ | refine G_neq_agg ?_ | refine G_call ?_ | refine G_call0 ?_ | (refine G_alloc ?_; intro _) | (refine G_buildSlice ?_; intro _) | (refine G_indexV ?_; intro _ _ hA; subst hA) | refine G_skip ?_ | refine G_skip0 ?_)
    | (show spl _ _ _; first | refine spl_no rfl ?_ | refine spl_yes rfl ?_)
    | (show evC _ _ _ _ _; first | refine c_seq ?_ | refine c_region (by exact rfl) ?_ | refine c_cond (by exact rfl) ?_ | refine c_ret ?_ | refine c_skip ?_ | refine c_block ?_ | refine c_exit ?_ | refine std ?_)
    | (show Br _ _ _; first | refine Br.t rfl ?_ | refine Br.f rfl ?_ | refine brs ?_ | (first | refine Br.mkN (fun h => ?_) (fun h => ?_) | refine Br.mk (fun h => ?_) (fun h => ?_)) <;> (try (first | contradiction | (exfalso; omega) | (exfalso; simp at h; done))))
    | refine stp ?_
    | (show CallT _ 20 _ _ _; refine CA (h := sright_ok ?_))
    | (show CallT _ 21 _ _ _; refine CA (h := broken_ok ?_))
    | (show CallT _ 22 _ _ _; refine CA (h := feedS_ok h (by unfold dataT; omega) (fun F cF pa pc => ?_))))
  refine LOOP (fun kk a C' => ∃ j : Nat, j + kk = 1 ∧ ((j = 0 ∧ Agree a [(0, .pointer (some ⟨x, 0, none⟩)), (1, .int .i64 0), (7, .slice none 0 0), (9, .int .i64 0), (40, .slice F 1 cF), (41, .int .i64 1), (42, .int .i64 j)] ∧ C' = pt x [.pointer (some ⟨i0, 0, none⟩), .pointer (some ⟨i1, 0, none⟩), .slice (some ⟨s0, 0, none⟩) 1 1, .slice (some ⟨s1, 0, none⟩) 1 1, .int .i64 0, .int .i64 0, .int .i64 cn0, .int .i64 cn1, .map (some m)] 55 :: spP i0 [] 0 :: mp m [⟨1, .pointer (some ⟨q, 0, none⟩), 0⟩] 1 :: pt q [.int .i64 b0, .int .i64 b1, .int .i64 it0, .int .i64 it1, .int .i64 1, .int .i64 1] 70 :: row F cF 38 fmC [⟨0, 1, e, d, 0, 0, 0, false, 0, 0, n, pa, 0, pc, []⟩] :: R) ∨ (j = 1 ∧ ∃ A c, Agree a [(0, .pointer (some ⟨x, 0, none⟩)), (1, .int .i64 0), (7, .slice A (outW 0 e d cn0 b0 it0).length c), (9, .int .i64 0), (40, .slice F 1 cF), (41, .int .i64 1), (42, .int .i64 j)] ∧ C' = pt x [.pointer (some ⟨i0, 0, none⟩), .pointer (some ⟨i1, 0, none⟩), .slice (some ⟨s0, 0, none⟩) 1 1, .slice (some ⟨s1, 0, none⟩) 1 1, .int .i64 0, .int .i64 0, .int .i64 (nC 0 1 d n cn0), .int .i64 cn1, .map (some m)] 55 :: spP i0 [] 0 :: mp m [⟨1, .pointer (some ⟨q, 0, none⟩), 0⟩] 1 :: pt q [.int .i64 (nB 0 1 d n b0), .int .i64 b1, .int .i64 (nI 0 e d n it0), .int .i64 it1, .int .i64 1, .int .i64 1] 70 :: row A c 3 siC (outW 0 e d cn0 b0 it0) :: R))) 1 (turn 1 ⟨0, by omega, .inl ⟨rfl, ⟨rfl, rfl, rfl, rfl, rfl, rfl, rfl, trivial⟩, rfl⟩⟩ (by omega)) ?_
  rintro kk a C' ⟨j, hj, hc⟩
  rcases hc with ⟨rfl, ha, rfl⟩ | ⟨rfl, A, c, ha, rfl⟩
  · refine c_fr _ ha ?_
    simp only [updL]
    repeat' (first
      | (show evG _ _ _ _ _ _ _; first | refine G_add64 ?_ | refine G_pure0 ?_ | refine G_load ?_ | refine evG_nil ?_ | refine G_br ?_ ?_ | refine G_field ?_ | refine G_pure ?_ | refine G_store ?_ | refine G_loadV ?_ | refine G_loadV0 ?_ | refine G_loadV2 ?_ | (refine G_append ?_; intro _ _) | (refine G_appendN ?_; intro _ _) | refine G_not ?_ | refine G_index ?_ | refine G_indexA ?_ | refine G_cat ?_ | refine G_eql_agg ?_ | refine G_neq_agg ?_ | refine G_call ?_ | refine G_call0 ?_ | (refine G_alloc ?_; intro _) | (refine G_buildSlice ?_; intro _) | (refine G_indexV ?_; intro _ _ hA; subst hA) | refine G_skip ?_ | refine G_skip0 ?_)
      | (show spl _ _ _; first | refine spl_no rfl ?_ | refine spl_yes rfl ?_)
      | (show evC _ _ _ _ _; first | refine c_seq ?_ | refine c_region (by exact rfl) ?_ | refine c_cond (by exact rfl) ?_ | refine c_ret ?_ | refine c_skip ?_ | refine c_block ?_ | refine c_exit ?_ | refine std ?_)
      | (show Br _ _ _; first | refine Br.t rfl ?_ | refine Br.f rfl ?_ | refine brs ?_ | (first | refine Br.mkN (fun h => ?_) (fun h => ?_) | refine Br.mk (fun h => ?_) (fun h => ?_)) <;> (try (first | contradiction | (exfalso; omega) | (exfalso; simp at h; done))))
      | refine stp ?_
      | (show CallT _ 23 _ _ _; refine CA (h := sfr0_ok hn hd hc0 hb0 hi0 (fun _ _ => ?_))))
    all_goals (show TurnG _ _ _ _; exact turn 0 ⟨1, by omega, .inr ⟨rfl, _, _, ⟨rfl, rfl, rfl, rfl, rfl, rfl, rfl, trivial⟩, rfl⟩⟩)
  · refine c_fr _ ha ?_
    simp only [updL]
    repeat' (first
      | (show evG _ _ _ _ _ _ _; first | refine G_add64 ?_ | refine G_pure0 ?_ | refine G_load ?_ | refine evG_nil ?_ | refine G_br ?_ ?_ | refine G_field ?_ | refine G_pure ?_ | refine G_store ?_ | refine G_loadV ?_ | refine G_loadV0 ?_ | refine G_loadV2 ?_ | (refine G_append ?_; intro _ _) | (refine G_appendN ?_; intro _ _) | refine G_not ?_ | refine G_index ?_ | refine G_indexA ?_ | refine G_cat ?_ | refine G_eql_agg ?_ | refine G_neq_agg ?_ | refine G_call ?_ | refine G_call0 ?_ | (refine G_alloc ?_; intro _) | (refine G_buildSlice ?_; intro _) | (refine G_indexV ?_; intro _ _ hA; subst hA) | refine G_skip ?_ | refine G_skip0 ?_)
      | (show spl _ _ _; first | refine spl_no rfl ?_ | refine spl_yes rfl ?_)
      | (show evC _ _ _ _ _; first | refine c_seq ?_ | refine c_region (by exact rfl) ?_ | refine c_cond (by exact rfl) ?_ | refine c_ret ?_ | refine c_skip ?_ | refine c_block ?_ | refine c_exit ?_ | refine std ?_)
      | (show Br _ _ _; first | refine Br.t rfl ?_ | refine Br.f rfl ?_ | refine brs ?_ | (first | refine Br.mkN (fun h => ?_) (fun h => ?_) | refine Br.mk (fun h => ?_) (fun h => ?_)) <;> (try (first | contradiction | (exfalso; omega) | (exfalso; simp at h; done))))
      | refine stp ?_)
    all_goals (show retC _ _ _ _ _ _; refine RETC ?_; exact ret_done (hK _ _))
theorem see1_ok (h : RightP 1 1 e d k on w xx c la n ps) (hn : 0 ≤ n ∧ n ≤ 2147483647) (hd : d.size ≤ 10000) (hc0 : -1000000000000 ≤ cn0 ∧ cn0 ≤ 1000000000000) (hb0 : -1000000000000 ≤ b0 ∧ b0 ≤ 1000000000000) (hi0 : -1000000000000 ≤ it0 ∧ it0 ≤ 1000000000000) (hK : ∀ A c, K (.slice A (outW 1 e d cn0 b0 it0).length c) (pt x [.pointer (some ⟨i0, 0, none⟩), .pointer (some ⟨i1, 0, none⟩), .slice (some ⟨s0, 0, none⟩) 1 1, .slice (some ⟨s1, 0, none⟩) 1 1, .int .i64 0, .int .i64 0, .int .i64 (nC 1 1 d n cn0), .int .i64 cn1, .map (some m)] 55 :: spP i0 [] 0 :: mp m [⟨1, .pointer (some ⟨q, 0, none⟩), 0⟩] 1 :: pt q [.int .i64 (nB 1 1 d n b0), .int .i64 b1, .int .i64 (nI 1 e d n it0), .int .i64 it1, .int .i64 1, .int .i64 1] 70 :: row A c 3 siC (outW 1 e d cn0 b0 it0) :: R)) : CallT Try.prog 8 #[.pointer (some ⟨x, 0, none⟩), .int .i64 0, .string (frB 1 1 e d k on w xx c la n ps)] (pt x [.pointer (some ⟨i0, 0, none⟩), .pointer (some ⟨i1, 0, none⟩), .slice (some ⟨s0, 0, none⟩) 1 1, .slice (some ⟨s1, 0, none⟩) 1 1, .int .i64 0, .int .i64 0, .int .i64 cn0, .int .i64 cn1, .map (some m)] 55 :: spP i0 [] 0 :: mp m [⟨1, .pointer (some ⟨q, 0, none⟩), 0⟩] 1 :: pt q [.int .i64 b0, .int .i64 b1, .int .i64 it0, .int .i64 it1, .int .i64 1, .int .i64 1] 70 :: R) K := by
  have ho2 : (outW 1 e d cn0 b0 it0).length ≤ 2 := outW_len _ _ _ _ _ _
  refine callT_intro mixed Try.func8 rfl (by decide) (by decide +kernel) (by exact Nat.le_of_ble_eq_true rfl) ?_
  repeat' (first
    | (show evG _ _ _ _ _ _ _; first | refine G_add64 ?_ | refine G_pure0 ?_ | refine G_load ?_ | refine evG_nil ?_ | refine G_br ?_ ?_ | refine G_field ?_ | refine G_pure ?_ | refine G_store ?_ | refine G_loadV ?_ | refine G_loadV0 ?_ | refine G_loadV2 ?_ | (refine G_append ?_; intro _ _) | (refine G_appendN ?_; intro _ _) | refine G_not ?_ | refine G_index ?_ | refine G_indexA ?_ | refine G_cat ?_ | refine G_eql_agg ?_ | refine G_neq_agg ?_ | refine G_call ?_ | refine G_call0 ?_ | (refine G_alloc ?_; intro _) | (refine G_buildSlice ?_; intro _) | (refine G_indexV ?_; intro _ _ hA; subst hA) | refine G_skip ?_ | refine G_skip0 ?_)
    | (show spl _ _ _; first | refine spl_no rfl ?_ | refine spl_yes rfl ?_)
    | (show evC _ _ _ _ _; first | refine c_seq ?_ | refine c_region (by exact rfl) ?_ | refine c_cond (by exact rfl) ?_ | refine c_ret ?_ | refine c_skip ?_ | refine c_block ?_ | refine c_exit ?_ | refine std ?_)
    | (show Br _ _ _; first | refine Br.t rfl ?_ | refine Br.f rfl ?_ | refine brs ?_ | (first | refine Br.mkN (fun h => ?_) (fun h => ?_) | refine Br.mk (fun h => ?_) (fun h => ?_)) <;> (try (first | contradiction | (exfalso; omega) | (exfalso; simp at h; done))))
    | refine stp ?_
    | (show CallT _ 20 _ _ _; refine CA (h := sright_ok ?_))
    | (show CallT _ 21 _ _ _; refine CA (h := broken_ok ?_))
    | (show CallT _ 22 _ _ _; refine CA (h := feedS_ok h (by unfold dataT; omega) (fun F cF pa pc => ?_))))
  refine LOOP (fun kk a C' => ∃ j : Nat, j + kk = 1 ∧ ((j = 0 ∧ Agree a [(0, .pointer (some ⟨x, 0, none⟩)), (1, .int .i64 0), (7, .slice none 0 0), (9, .int .i64 0), (40, .slice F 1 cF), (41, .int .i64 1), (42, .int .i64 j)] ∧ C' = pt x [.pointer (some ⟨i0, 0, none⟩), .pointer (some ⟨i1, 0, none⟩), .slice (some ⟨s0, 0, none⟩) 1 1, .slice (some ⟨s1, 0, none⟩) 1 1, .int .i64 0, .int .i64 0, .int .i64 cn0, .int .i64 cn1, .map (some m)] 55 :: spP i0 [] 0 :: mp m [⟨1, .pointer (some ⟨q, 0, none⟩), 0⟩] 1 :: pt q [.int .i64 b0, .int .i64 b1, .int .i64 it0, .int .i64 it1, .int .i64 1, .int .i64 1] 70 :: row F cF 38 fmC [⟨1, 1, e, d, 0, 0, 0, false, 0, 0, n, pa, 0, pc, []⟩] :: R) ∨ (j = 1 ∧ ∃ A c, Agree a [(0, .pointer (some ⟨x, 0, none⟩)), (1, .int .i64 0), (7, .slice A (outW 1 e d cn0 b0 it0).length c), (9, .int .i64 0), (40, .slice F 1 cF), (41, .int .i64 1), (42, .int .i64 j)] ∧ C' = pt x [.pointer (some ⟨i0, 0, none⟩), .pointer (some ⟨i1, 0, none⟩), .slice (some ⟨s0, 0, none⟩) 1 1, .slice (some ⟨s1, 0, none⟩) 1 1, .int .i64 0, .int .i64 0, .int .i64 (nC 1 1 d n cn0), .int .i64 cn1, .map (some m)] 55 :: spP i0 [] 0 :: mp m [⟨1, .pointer (some ⟨q, 0, none⟩), 0⟩] 1 :: pt q [.int .i64 (nB 1 1 d n b0), .int .i64 b1, .int .i64 (nI 1 e d n it0), .int .i64 it1, .int .i64 1, .int .i64 1] 70 :: row A c 3 siC (outW 1 e d cn0 b0 it0) :: R))) 1 (turn 1 ⟨0, by omega, .inl ⟨rfl, ⟨rfl, rfl, rfl, rfl, rfl, rfl, rfl, trivial⟩, rfl⟩⟩ (by omega)) ?_
  rintro kk a C' ⟨j, hj, hc⟩
  rcases hc with ⟨rfl, ha, rfl⟩ | ⟨rfl, A, c, ha, rfl⟩
  · refine c_fr _ ha ?_
    simp only [updL]
    repeat' (first
      | (show evG _ _ _ _ _ _ _; first | refine G_add64 ?_ | refine G_pure0 ?_ | refine G_load ?_ | refine evG_nil ?_ | refine G_br ?_ ?_ | refine G_field ?_ | refine G_pure ?_ | refine G_store ?_ | refine G_loadV ?_ | refine G_loadV0 ?_ | refine G_loadV2 ?_ | (refine G_append ?_; intro _ _) | (refine G_appendN ?_; intro _ _) | refine G_not ?_ | refine G_index ?_ | refine G_indexA ?_ | refine G_cat ?_ | refine G_eql_agg ?_ | refine G_neq_agg ?_ | refine G_call ?_ | refine G_call0 ?_ | (refine G_alloc ?_; intro _) | (refine G_buildSlice ?_; intro _) | (refine G_indexV ?_; intro _ _ hA; subst hA) | refine G_skip ?_ | refine G_skip0 ?_)
      | (show spl _ _ _; first | refine spl_no rfl ?_ | refine spl_yes rfl ?_)
      | (show evC _ _ _ _ _; first | refine c_seq ?_ | refine c_region (by exact rfl) ?_ | refine c_cond (by exact rfl) ?_ | refine c_ret ?_ | refine c_skip ?_ | refine c_block ?_ | refine c_exit ?_ | refine std ?_)
      | (show Br _ _ _; first | refine Br.t rfl ?_ | refine Br.f rfl ?_ | refine brs ?_ | (first | refine Br.mkN (fun h => ?_) (fun h => ?_) | refine Br.mk (fun h => ?_) (fun h => ?_)) <;> (try (first | contradiction | (exfalso; omega) | (exfalso; simp at h; done))))
      | refine stp ?_
      | (show CallT _ 23 _ _ _; refine CA (h := sfr1_ok hn hd hc0 hb0 hi0 (fun _ _ => ?_))))
    all_goals (show TurnG _ _ _ _; exact turn 0 ⟨1, by omega, .inr ⟨rfl, _, _, ⟨rfl, rfl, rfl, rfl, rfl, rfl, rfl, trivial⟩, rfl⟩⟩)
  · refine c_fr _ ha ?_
    simp only [updL]
    repeat' (first
      | (show evG _ _ _ _ _ _ _; first | refine G_add64 ?_ | refine G_pure0 ?_ | refine G_load ?_ | refine evG_nil ?_ | refine G_br ?_ ?_ | refine G_field ?_ | refine G_pure ?_ | refine G_store ?_ | refine G_loadV ?_ | refine G_loadV0 ?_ | refine G_loadV2 ?_ | (refine G_append ?_; intro _ _) | (refine G_appendN ?_; intro _ _) | refine G_not ?_ | refine G_index ?_ | refine G_indexA ?_ | refine G_cat ?_ | refine G_eql_agg ?_ | refine G_neq_agg ?_ | refine G_call ?_ | refine G_call0 ?_ | (refine G_alloc ?_; intro _) | (refine G_buildSlice ?_; intro _) | (refine G_indexV ?_; intro _ _ hA; subst hA) | refine G_skip ?_ | refine G_skip0 ?_)
      | (show spl _ _ _; first | refine spl_no rfl ?_ | refine spl_yes rfl ?_)
      | (show evC _ _ _ _ _; first | refine c_seq ?_ | refine c_region (by exact rfl) ?_ | refine c_cond (by exact rfl) ?_ | refine c_ret ?_ | refine c_skip ?_ | refine c_block ?_ | refine c_exit ?_ | refine std ?_)
      | (show Br _ _ _; first | refine Br.t rfl ?_ | refine Br.f rfl ?_ | refine brs ?_ | (first | refine Br.mkN (fun h => ?_) (fun h => ?_) | refine Br.mk (fun h => ?_) (fun h => ?_)) <;> (try (first | contradiction | (exfalso; omega) | (exfalso; simp at h; done))))
      | refine stp ?_)
    all_goals (show retC _ _ _ _ _ _; refine RETC ?_; exact ret_done (hK _ _))
theorem see10_ok (h : RightP 10 0 e d k on w xx c la n ps) (hn : 0 ≤ n ∧ n ≤ 2147483647) (hd : d.size ≤ 10000) (hc0 : -1000000000000 ≤ cn0 ∧ cn0 ≤ 1000000000000) (hb0 : -1000000000000 ≤ b0 ∧ b0 ≤ 1000000000000) (hi0 : -1000000000000 ≤ it0 ∧ it0 ≤ 1000000000000) (hK : ∀ A c, K (.slice A (outW 10 e d cn0 b0 it0).length c) (pt x [.pointer (some ⟨i0, 0, none⟩), .pointer (some ⟨i1, 0, none⟩), .slice (some ⟨s0, 0, none⟩) 1 1, .slice (some ⟨s1, 0, none⟩) 1 1, .int .i64 0, .int .i64 0, .int .i64 (nC 10 0 d n cn0), .int .i64 cn1, .map (some m)] 55 :: spP i1 [] 0 :: mp m [⟨1, .pointer (some ⟨q, 0, none⟩), 0⟩] 1 :: pt q [.int .i64 (nB 10 0 d n b0), .int .i64 b1, .int .i64 (nI 10 e d n it0), .int .i64 it1, .int .i64 1, .int .i64 1] 70 :: row A c 3 siC (outW 10 e d cn0 b0 it0) :: R)) : CallT Try.prog 8 #[.pointer (some ⟨x, 0, none⟩), .int .i64 1, .string (frB 10 0 e d k on w xx c la n ps)] (pt x [.pointer (some ⟨i0, 0, none⟩), .pointer (some ⟨i1, 0, none⟩), .slice (some ⟨s0, 0, none⟩) 1 1, .slice (some ⟨s1, 0, none⟩) 1 1, .int .i64 0, .int .i64 0, .int .i64 cn0, .int .i64 cn1, .map (some m)] 55 :: spP i1 [] 0 :: mp m [⟨1, .pointer (some ⟨q, 0, none⟩), 0⟩] 1 :: pt q [.int .i64 b0, .int .i64 b1, .int .i64 it0, .int .i64 it1, .int .i64 1, .int .i64 1] 70 :: R) K := by
  have ho2 : (outW 10 e d cn0 b0 it0).length ≤ 2 := outW_len _ _ _ _ _ _
  refine callT_intro mixed Try.func8 rfl (by decide) (by decide +kernel) (by exact Nat.le_of_ble_eq_true rfl) ?_
  repeat' (first
    | (show evG _ _ _ _ _ _ _; first | refine G_add64 ?_ | refine G_pure0 ?_ | refine G_load ?_ | refine evG_nil ?_ | refine G_br ?_ ?_ | refine G_field ?_ | refine G_pure ?_ | refine G_store ?_ | refine G_loadV ?_ | refine G_loadV0 ?_ | refine G_loadV2 ?_ | (refine G_append ?_; intro _ _) | (refine G_appendN ?_; intro _ _) | refine G_not ?_ | refine G_index ?_ | refine G_indexA ?_ | refine G_cat ?_ | refine G_eql_agg ?_ | refine G_neq_agg ?_ | refine G_call ?_ | refine G_call0 ?_ | (refine G_alloc ?_; intro _) | (refine G_buildSlice ?_; intro _) | (refine G_indexV ?_; intro _ _ hA; subst hA) | refine G_skip ?_ | refine G_skip0 ?_)
    | (show spl _ _ _; first | refine spl_no rfl ?_ | refine spl_yes rfl ?_)
    | (show evC _ _ _ _ _; first | refine c_seq ?_ | refine c_region (by exact rfl) ?_ | refine c_cond (by exact rfl) ?_ | refine c_ret ?_ | refine c_skip ?_ | refine c_block ?_ | refine c_exit ?_ | refine std ?_)
    | (show Br _ _ _; first | refine Br.t rfl ?_ | refine Br.f rfl ?_ | refine brs ?_ | (first | refine Br.mkN (fun h => ?_) (fun h => ?_) | refine Br.mk (fun h => ?_) (fun h => ?_)) <;> (try (first | contradiction | (exfalso; omega) | (exfalso; simp at h; done))))
    | refine stp ?_
    | (show CallT _ 20 _ _ _; refine CA (h := sright_ok ?_))
    | (show CallT _ 21 _ _ _; refine CA (h := broken_ok ?_))
    | (show CallT _ 22 _ _ _; refine CA (h := feedS_ok h (by unfold dataT; omega) (fun F cF pa pc => ?_))))
  refine LOOP (fun kk a C' => ∃ j : Nat, j + kk = 1 ∧ ((j = 0 ∧ Agree a [(0, .pointer (some ⟨x, 0, none⟩)), (1, .int .i64 1), (7, .slice none 0 0), (9, .int .i64 0), (40, .slice F 1 cF), (41, .int .i64 1), (42, .int .i64 j)] ∧ C' = pt x [.pointer (some ⟨i0, 0, none⟩), .pointer (some ⟨i1, 0, none⟩), .slice (some ⟨s0, 0, none⟩) 1 1, .slice (some ⟨s1, 0, none⟩) 1 1, .int .i64 0, .int .i64 0, .int .i64 cn0, .int .i64 cn1, .map (some m)] 55 :: spP i1 [] 0 :: mp m [⟨1, .pointer (some ⟨q, 0, none⟩), 0⟩] 1 :: pt q [.int .i64 b0, .int .i64 b1, .int .i64 it0, .int .i64 it1, .int .i64 1, .int .i64 1] 70 :: row F cF 38 fmC [⟨10, 0, e, d, 0, 0, 0, false, 0, 0, n, pa, 0, pc, []⟩] :: R) ∨ (j = 1 ∧ ∃ A c, Agree a [(0, .pointer (some ⟨x, 0, none⟩)), (1, .int .i64 1), (7, .slice A (outW 10 e d cn0 b0 it0).length c), (9, .int .i64 0), (40, .slice F 1 cF), (41, .int .i64 1), (42, .int .i64 j)] ∧ C' = pt x [.pointer (some ⟨i0, 0, none⟩), .pointer (some ⟨i1, 0, none⟩), .slice (some ⟨s0, 0, none⟩) 1 1, .slice (some ⟨s1, 0, none⟩) 1 1, .int .i64 0, .int .i64 0, .int .i64 (nC 10 0 d n cn0), .int .i64 cn1, .map (some m)] 55 :: spP i1 [] 0 :: mp m [⟨1, .pointer (some ⟨q, 0, none⟩), 0⟩] 1 :: pt q [.int .i64 (nB 10 0 d n b0), .int .i64 b1, .int .i64 (nI 10 e d n it0), .int .i64 it1, .int .i64 1, .int .i64 1] 70 :: row A c 3 siC (outW 10 e d cn0 b0 it0) :: R))) 1 (turn 1 ⟨0, by omega, .inl ⟨rfl, ⟨rfl, rfl, rfl, rfl, rfl, rfl, rfl, trivial⟩, rfl⟩⟩ (by omega)) ?_
  rintro kk a C' ⟨j, hj, hc⟩
  rcases hc with ⟨rfl, ha, rfl⟩ | ⟨rfl, A, c, ha, rfl⟩
  · refine c_fr _ ha ?_
    simp only [updL]
    repeat' (first
      | (show evG _ _ _ _ _ _ _; first | refine G_add64 ?_ | refine G_pure0 ?_ | refine G_load ?_ | refine evG_nil ?_ | refine G_br ?_ ?_ | refine G_field ?_ | refine G_pure ?_ | refine G_store ?_ | refine G_loadV ?_ | refine G_loadV0 ?_ | refine G_loadV2 ?_ | (refine G_append ?_; intro _ _) | (refine G_appendN ?_; intro _ _) | refine G_not ?_ | refine G_index ?_ | refine G_indexA ?_ | refine G_cat ?_ | refine G_eql_agg ?_ | refine G_neq_agg ?_ | refine G_call ?_ | refine G_call0 ?_ | (refine G_alloc ?_; intro _) | (refine G_buildSlice ?_; intro _) | (refine G_indexV ?_; intro _ _ hA; subst hA) | refine G_skip ?_ | refine G_skip0 ?_)
      | (show spl _ _ _; first | refine spl_no rfl ?_ | refine spl_yes rfl ?_)
      | (show evC _ _ _ _ _; first | refine c_seq ?_ | refine c_region (by exact rfl) ?_ | refine c_cond (by exact rfl) ?_ | refine c_ret ?_ | refine c_skip ?_ | refine c_block ?_ | refine c_exit ?_ | refine std ?_)
      | (show Br _ _ _; first | refine Br.t rfl ?_ | refine Br.f rfl ?_ | refine brs ?_ | (first | refine Br.mkN (fun h => ?_) (fun h => ?_) | refine Br.mk (fun h => ?_) (fun h => ?_)) <;> (try (first | contradiction | (exfalso; omega) | (exfalso; simp at h; done))))
      | refine stp ?_
      | (show CallT _ 23 _ _ _; refine CA (h := sfr10_ok hn hd hc0 hb0 hi0 (fun _ _ => ?_))))
    all_goals (show TurnG _ _ _ _; exact turn 0 ⟨1, by omega, .inr ⟨rfl, _, _, ⟨rfl, rfl, rfl, rfl, rfl, rfl, rfl, trivial⟩, rfl⟩⟩)
  · refine c_fr _ ha ?_
    simp only [updL]
    repeat' (first
      | (show evG _ _ _ _ _ _ _; first | refine G_add64 ?_ | refine G_pure0 ?_ | refine G_load ?_ | refine evG_nil ?_ | refine G_br ?_ ?_ | refine G_field ?_ | refine G_pure ?_ | refine G_store ?_ | refine G_loadV ?_ | refine G_loadV0 ?_ | refine G_loadV2 ?_ | (refine G_append ?_; intro _ _) | (refine G_appendN ?_; intro _ _) | refine G_not ?_ | refine G_index ?_ | refine G_indexA ?_ | refine G_cat ?_ | refine G_eql_agg ?_ | refine G_neq_agg ?_ | refine G_call ?_ | refine G_call0 ?_ | (refine G_alloc ?_; intro _) | (refine G_buildSlice ?_; intro _) | (refine G_indexV ?_; intro _ _ hA; subst hA) | refine G_skip ?_ | refine G_skip0 ?_)
      | (show spl _ _ _; first | refine spl_no rfl ?_ | refine spl_yes rfl ?_)
      | (show evC _ _ _ _ _; first | refine c_seq ?_ | refine c_region (by exact rfl) ?_ | refine c_cond (by exact rfl) ?_ | refine c_ret ?_ | refine c_skip ?_ | refine c_block ?_ | refine c_exit ?_ | refine std ?_)
      | (show Br _ _ _; first | refine Br.t rfl ?_ | refine Br.f rfl ?_ | refine brs ?_ | (first | refine Br.mkN (fun h => ?_) (fun h => ?_) | refine Br.mk (fun h => ?_) (fun h => ?_)) <;> (try (first | contradiction | (exfalso; omega) | (exfalso; simp at h; done))))
      | refine stp ?_)
    all_goals (show retC _ _ _ _ _ _; refine RETC ?_; exact ret_done (hK _ _))
theorem see10b_ok (h : RightP 10 1 e d k on w xx c la n ps) (hn : 0 ≤ n ∧ n ≤ 2147483647) (hd : d.size ≤ 10000) (hc0 : -1000000000000 ≤ cn0 ∧ cn0 ≤ 1000000000000) (hb0 : -1000000000000 ≤ b0 ∧ b0 ≤ 1000000000000) (hi0 : -1000000000000 ≤ it0 ∧ it0 ≤ 1000000000000) (hK : ∀ A c, K (.slice A (outW 10 e d cn0 b0 it0).length c) (pt x [.pointer (some ⟨i0, 0, none⟩), .pointer (some ⟨i1, 0, none⟩), .slice (some ⟨s0, 0, none⟩) 1 1, .slice (some ⟨s1, 0, none⟩) 1 1, .int .i64 0, .int .i64 0, .int .i64 (nC 10 1 d n cn0), .int .i64 cn1, .map (some m)] 55 :: spP i1 [] 0 :: mp m [⟨1, .pointer (some ⟨q, 0, none⟩), 0⟩] 1 :: pt q [.int .i64 (nB 10 1 d n b0), .int .i64 b1, .int .i64 (nI 10 e d n it0), .int .i64 it1, .int .i64 1, .int .i64 1] 70 :: row A c 3 siC (outW 10 e d cn0 b0 it0) :: R)) : CallT Try.prog 8 #[.pointer (some ⟨x, 0, none⟩), .int .i64 1, .string (frB 10 1 e d k on w xx c la n ps)] (pt x [.pointer (some ⟨i0, 0, none⟩), .pointer (some ⟨i1, 0, none⟩), .slice (some ⟨s0, 0, none⟩) 1 1, .slice (some ⟨s1, 0, none⟩) 1 1, .int .i64 0, .int .i64 0, .int .i64 cn0, .int .i64 cn1, .map (some m)] 55 :: spP i1 [] 0 :: mp m [⟨1, .pointer (some ⟨q, 0, none⟩), 0⟩] 1 :: pt q [.int .i64 b0, .int .i64 b1, .int .i64 it0, .int .i64 it1, .int .i64 1, .int .i64 1] 70 :: R) K := by
  have ho2 : (outW 10 e d cn0 b0 it0).length ≤ 2 := outW_len _ _ _ _ _ _
  refine callT_intro mixed Try.func8 rfl (by decide) (by decide +kernel) (by exact Nat.le_of_ble_eq_true rfl) ?_
  repeat' (first
    | (show evG _ _ _ _ _ _ _; first | refine G_add64 ?_ | refine G_pure0 ?_ | refine G_load ?_ | refine evG_nil ?_ | refine G_br ?_ ?_ | refine G_field ?_ | refine G_pure ?_ | refine G_store ?_ | refine G_loadV ?_ | refine G_loadV0 ?_ | refine G_loadV2 ?_ | (refine G_append ?_; intro _ _) | (refine G_appendN ?_; intro _ _) | refine G_not ?_ | refine G_index ?_ | refine G_indexA ?_ | refine G_cat ?_ | refine G_eql_agg ?_ | refine G_neq_agg ?_ | refine G_call ?_ | refine G_call0 ?_ | (refine G_alloc ?_; intro _) | (refine G_buildSlice ?_; intro _) | (refine G_indexV ?_; intro _ _ hA; subst hA) | refine G_skip ?_ | refine G_skip0 ?_)
    | (show spl _ _ _; first | refine spl_no rfl ?_ | refine spl_yes rfl ?_)
    | (show evC _ _ _ _ _; first | refine c_seq ?_ | refine c_region (by exact rfl) ?_ | refine c_cond (by exact rfl) ?_ | refine c_ret ?_ | refine c_skip ?_ | refine c_block ?_ | refine c_exit ?_ | refine std ?_)
    | (show Br _ _ _; first | refine Br.t rfl ?_ | refine Br.f rfl ?_ | refine brs ?_ | (first | refine Br.mkN (fun h => ?_) (fun h => ?_) | refine Br.mk (fun h => ?_) (fun h => ?_)) <;> (try (first | contradiction | (exfalso; omega) | (exfalso; simp at h; done))))
    | refine stp ?_
    | (show CallT _ 20 _ _ _; refine CA (h := sright_ok ?_))
    | (show CallT _ 21 _ _ _; refine CA (h := broken_ok ?_))
    | (show CallT _ 22 _ _ _; refine CA (h := feedS_ok h (by unfold dataT; omega) (fun F cF pa pc => ?_))))
  refine LOOP (fun kk a C' => ∃ j : Nat, j + kk = 1 ∧ ((j = 0 ∧ Agree a [(0, .pointer (some ⟨x, 0, none⟩)), (1, .int .i64 1), (7, .slice none 0 0), (9, .int .i64 0), (40, .slice F 1 cF), (41, .int .i64 1), (42, .int .i64 j)] ∧ C' = pt x [.pointer (some ⟨i0, 0, none⟩), .pointer (some ⟨i1, 0, none⟩), .slice (some ⟨s0, 0, none⟩) 1 1, .slice (some ⟨s1, 0, none⟩) 1 1, .int .i64 0, .int .i64 0, .int .i64 cn0, .int .i64 cn1, .map (some m)] 55 :: spP i1 [] 0 :: mp m [⟨1, .pointer (some ⟨q, 0, none⟩), 0⟩] 1 :: pt q [.int .i64 b0, .int .i64 b1, .int .i64 it0, .int .i64 it1, .int .i64 1, .int .i64 1] 70 :: row F cF 38 fmC [⟨10, 1, e, d, 0, 0, 0, false, 0, 0, n, pa, 0, pc, []⟩] :: R) ∨ (j = 1 ∧ ∃ A c, Agree a [(0, .pointer (some ⟨x, 0, none⟩)), (1, .int .i64 1), (7, .slice A (outW 10 e d cn0 b0 it0).length c), (9, .int .i64 0), (40, .slice F 1 cF), (41, .int .i64 1), (42, .int .i64 j)] ∧ C' = pt x [.pointer (some ⟨i0, 0, none⟩), .pointer (some ⟨i1, 0, none⟩), .slice (some ⟨s0, 0, none⟩) 1 1, .slice (some ⟨s1, 0, none⟩) 1 1, .int .i64 0, .int .i64 0, .int .i64 (nC 10 1 d n cn0), .int .i64 cn1, .map (some m)] 55 :: spP i1 [] 0 :: mp m [⟨1, .pointer (some ⟨q, 0, none⟩), 0⟩] 1 :: pt q [.int .i64 (nB 10 1 d n b0), .int .i64 b1, .int .i64 (nI 10 e d n it0), .int .i64 it1, .int .i64 1, .int .i64 1] 70 :: row A c 3 siC (outW 10 e d cn0 b0 it0) :: R))) 1 (turn 1 ⟨0, by omega, .inl ⟨rfl, ⟨rfl, rfl, rfl, rfl, rfl, rfl, rfl, trivial⟩, rfl⟩⟩ (by omega)) ?_
  rintro kk a C' ⟨j, hj, hc⟩
  rcases hc with ⟨rfl, ha, rfl⟩ | ⟨rfl, A, c, ha, rfl⟩
  · refine c_fr _ ha ?_
    simp only [updL]
    repeat' (first
      | (show evG _ _ _ _ _ _ _; first | refine G_add64 ?_ | refine G_pure0 ?_ | refine G_load ?_ | refine evG_nil ?_ | refine G_br ?_ ?_ | refine G_field ?_ | refine G_pure ?_ | refine G_store ?_ | refine G_loadV ?_ | refine G_loadV0 ?_ | refine G_loadV2 ?_ | (refine G_append ?_; intro _ _) | (refine G_appendN ?_; intro _ _) | refine G_not ?_ | refine G_index ?_ | refine G_indexA ?_ | refine G_cat ?_ | refine G_eql_agg ?_ | refine G_neq_agg ?_ | refine G_call ?_ | refine G_call0 ?_ | (refine G_alloc ?_; intro _) | (refine G_buildSlice ?_; intro _) | (refine G_indexV ?_; intro _ _ hA; subst hA) | refine G_skip ?_ | refine G_skip0 ?_)
      | (show spl _ _ _; first | refine spl_no rfl ?_ | refine spl_yes rfl ?_)
      | (show evC _ _ _ _ _; first | refine c_seq ?_ | refine c_region (by exact rfl) ?_ | refine c_cond (by exact rfl) ?_ | refine c_ret ?_ | refine c_skip ?_ | refine c_block ?_ | refine c_exit ?_ | refine std ?_)
      | (show Br _ _ _; first | refine Br.t rfl ?_ | refine Br.f rfl ?_ | refine brs ?_ | (first | refine Br.mkN (fun h => ?_) (fun h => ?_) | refine Br.mk (fun h => ?_) (fun h => ?_)) <;> (try (first | contradiction | (exfalso; omega) | (exfalso; simp at h; done))))
      | refine stp ?_
      | (show CallT _ 23 _ _ _; refine CA (h := sfr10b_ok hn hd hc0 hb0 hi0 (fun _ _ => ?_))))
    all_goals (show TurnG _ _ _ _; exact turn 0 ⟨1, by omega, .inr ⟨rfl, _, _, ⟨rfl, rfl, rfl, rfl, rfl, rfl, rfl, trivial⟩, rfl⟩⟩)
  · refine c_fr _ ha ?_
    simp only [updL]
    repeat' (first
      | (show evG _ _ _ _ _ _ _; first | refine G_add64 ?_ | refine G_pure0 ?_ | refine G_load ?_ | refine evG_nil ?_ | refine G_br ?_ ?_ | refine G_field ?_ | refine G_pure ?_ | refine G_store ?_ | refine G_loadV ?_ | refine G_loadV0 ?_ | refine G_loadV2 ?_ | (refine G_append ?_; intro _ _) | (refine G_appendN ?_; intro _ _) | refine G_not ?_ | refine G_index ?_ | refine G_indexA ?_ | refine G_cat ?_ | refine G_eql_agg ?_ | refine G_neq_agg ?_ | refine G_call ?_ | refine G_call0 ?_ | (refine G_alloc ?_; intro _) | (refine G_buildSlice ?_; intro _) | (refine G_indexV ?_; intro _ _ hA; subst hA) | refine G_skip ?_ | refine G_skip0 ?_)
      | (show spl _ _ _; first | refine spl_no rfl ?_ | refine spl_yes rfl ?_)
      | (show evC _ _ _ _ _; first | refine c_seq ?_ | refine c_region (by exact rfl) ?_ | refine c_cond (by exact rfl) ?_ | refine c_ret ?_ | refine c_skip ?_ | refine c_block ?_ | refine c_exit ?_ | refine std ?_)
      | (show Br _ _ _; first | refine Br.t rfl ?_ | refine Br.f rfl ?_ | refine brs ?_ | (first | refine Br.mkN (fun h => ?_) (fun h => ?_) | refine Br.mk (fun h => ?_) (fun h => ?_)) <;> (try (first | contradiction | (exfalso; omega) | (exfalso; simp at h; done))))
      | refine stp ?_)
    all_goals (show retC _ _ _ _ _ _; refine RETC ?_; exact ret_done (hK _ _))
theorem see11_ok (h : RightP 11 1 e d k on w xx c la n ps) (hn : 0 ≤ n ∧ n ≤ 2147483647) (hd : d.size ≤ 10000) (hc0 : -1000000000000 ≤ cn0 ∧ cn0 ≤ 1000000000000) (hb0 : -1000000000000 ≤ b0 ∧ b0 ≤ 1000000000000) (hi0 : -1000000000000 ≤ it0 ∧ it0 ≤ 1000000000000) (hK : ∀ A c, K (.slice A (outW 11 e d cn0 b0 it0).length c) (pt x [.pointer (some ⟨i0, 0, none⟩), .pointer (some ⟨i1, 0, none⟩), .slice (some ⟨s0, 0, none⟩) 1 1, .slice (some ⟨s1, 0, none⟩) 1 1, .int .i64 0, .int .i64 0, .int .i64 (nC 11 1 d n cn0), .int .i64 cn1, .map (some m)] 55 :: spP i1 [] 0 :: mp m [⟨1, .pointer (some ⟨q, 0, none⟩), 0⟩] 1 :: pt q [.int .i64 (nB 11 1 d n b0), .int .i64 b1, .int .i64 (nI 11 e d n it0), .int .i64 it1, .int .i64 1, .int .i64 1] 70 :: row A c 3 siC (outW 11 e d cn0 b0 it0) :: R)) : CallT Try.prog 8 #[.pointer (some ⟨x, 0, none⟩), .int .i64 1, .string (frB 11 1 e d k on w xx c la n ps)] (pt x [.pointer (some ⟨i0, 0, none⟩), .pointer (some ⟨i1, 0, none⟩), .slice (some ⟨s0, 0, none⟩) 1 1, .slice (some ⟨s1, 0, none⟩) 1 1, .int .i64 0, .int .i64 0, .int .i64 cn0, .int .i64 cn1, .map (some m)] 55 :: spP i1 [] 0 :: mp m [⟨1, .pointer (some ⟨q, 0, none⟩), 0⟩] 1 :: pt q [.int .i64 b0, .int .i64 b1, .int .i64 it0, .int .i64 it1, .int .i64 1, .int .i64 1] 70 :: R) K := by
  have ho2 : (outW 11 e d cn0 b0 it0).length ≤ 2 := outW_len _ _ _ _ _ _
  refine callT_intro mixed Try.func8 rfl (by decide) (by decide +kernel) (by exact Nat.le_of_ble_eq_true rfl) ?_
  repeat' (first
    | (show evG _ _ _ _ _ _ _; first | refine G_add64 ?_ | refine G_pure0 ?_ | refine G_load ?_ | refine evG_nil ?_ | refine G_br ?_ ?_ | refine G_field ?_ | refine G_pure ?_ | refine G_store ?_ | refine G_loadV ?_ | refine G_loadV0 ?_ | refine G_loadV2 ?_ | (refine G_append ?_; intro _ _) | (refine G_appendN ?_; intro _ _) | refine G_not ?_ | refine G_index ?_ | refine G_indexA ?_ | refine G_cat ?_ | refine G_eql_agg ?_ | refine G_neq_agg ?_ | refine G_call ?_ | refine G_call0 ?_ | (refine G_alloc ?_; intro _) | (refine G_buildSlice ?_; intro _) | (refine G_indexV ?_; intro _ _ hA; subst hA) | refine G_skip ?_ | refine G_skip0 ?_)
    | (show spl _ _ _; first | refine spl_no rfl ?_ | refine spl_yes rfl ?_)
    | (show evC _ _ _ _ _; first | refine c_seq ?_ | refine c_region (by exact rfl) ?_ | refine c_cond (by exact rfl) ?_ | refine c_ret ?_ | refine c_skip ?_ | refine c_block ?_ | refine c_exit ?_ | refine std ?_)
    | (show Br _ _ _; first | refine Br.t rfl ?_ | refine Br.f rfl ?_ | refine brs ?_ | (first | refine Br.mkN (fun h => ?_) (fun h => ?_) | refine Br.mk (fun h => ?_) (fun h => ?_)) <;> (try (first | contradiction | (exfalso; omega) | (exfalso; simp at h; done))))
    | refine stp ?_
    | (show CallT _ 20 _ _ _; refine CA (h := sright_ok ?_))
    | (show CallT _ 21 _ _ _; refine CA (h := broken_ok ?_))
    | (show CallT _ 22 _ _ _; refine CA (h := feedS_ok h (by unfold dataT; omega) (fun F cF pa pc => ?_))))
  refine LOOP (fun kk a C' => ∃ j : Nat, j + kk = 1 ∧ ((j = 0 ∧ Agree a [(0, .pointer (some ⟨x, 0, none⟩)), (1, .int .i64 1), (7, .slice none 0 0), (9, .int .i64 0), (40, .slice F 1 cF), (41, .int .i64 1), (42, .int .i64 j)] ∧ C' = pt x [.pointer (some ⟨i0, 0, none⟩), .pointer (some ⟨i1, 0, none⟩), .slice (some ⟨s0, 0, none⟩) 1 1, .slice (some ⟨s1, 0, none⟩) 1 1, .int .i64 0, .int .i64 0, .int .i64 cn0, .int .i64 cn1, .map (some m)] 55 :: spP i1 [] 0 :: mp m [⟨1, .pointer (some ⟨q, 0, none⟩), 0⟩] 1 :: pt q [.int .i64 b0, .int .i64 b1, .int .i64 it0, .int .i64 it1, .int .i64 1, .int .i64 1] 70 :: row F cF 38 fmC [⟨11, 1, e, d, 0, 0, 0, false, 0, 0, n, pa, 0, pc, []⟩] :: R) ∨ (j = 1 ∧ ∃ A c, Agree a [(0, .pointer (some ⟨x, 0, none⟩)), (1, .int .i64 1), (7, .slice A (outW 11 e d cn0 b0 it0).length c), (9, .int .i64 0), (40, .slice F 1 cF), (41, .int .i64 1), (42, .int .i64 j)] ∧ C' = pt x [.pointer (some ⟨i0, 0, none⟩), .pointer (some ⟨i1, 0, none⟩), .slice (some ⟨s0, 0, none⟩) 1 1, .slice (some ⟨s1, 0, none⟩) 1 1, .int .i64 0, .int .i64 0, .int .i64 (nC 11 1 d n cn0), .int .i64 cn1, .map (some m)] 55 :: spP i1 [] 0 :: mp m [⟨1, .pointer (some ⟨q, 0, none⟩), 0⟩] 1 :: pt q [.int .i64 (nB 11 1 d n b0), .int .i64 b1, .int .i64 (nI 11 e d n it0), .int .i64 it1, .int .i64 1, .int .i64 1] 70 :: row A c 3 siC (outW 11 e d cn0 b0 it0) :: R))) 1 (turn 1 ⟨0, by omega, .inl ⟨rfl, ⟨rfl, rfl, rfl, rfl, rfl, rfl, rfl, trivial⟩, rfl⟩⟩ (by omega)) ?_
  rintro kk a C' ⟨j, hj, hc⟩
  rcases hc with ⟨rfl, ha, rfl⟩ | ⟨rfl, A, c, ha, rfl⟩
  · refine c_fr _ ha ?_
    simp only [updL]
    repeat' (first
      | (show evG _ _ _ _ _ _ _; first | refine G_add64 ?_ | refine G_pure0 ?_ | refine G_load ?_ | refine evG_nil ?_ | refine G_br ?_ ?_ | refine G_field ?_ | refine G_pure ?_ | refine G_store ?_ | refine G_loadV ?_ | refine G_loadV0 ?_ | refine G_loadV2 ?_ | (refine G_append ?_; intro _ _) | (refine G_appendN ?_; intro _ _) | refine G_not ?_ | refine G_index ?_ | refine G_indexA ?_ | refine G_cat ?_ | refine G_eql_agg ?_ | refine G_neq_agg ?_ | refine G_call ?_ | refine G_call0 ?_ | (refine G_alloc ?_; intro _) | (refine G_buildSlice ?_; intro _) | (refine G_indexV ?_; intro _ _ hA; subst hA) | refine G_skip ?_ | refine G_skip0 ?_)
      | (show spl _ _ _; first | refine spl_no rfl ?_ | refine spl_yes rfl ?_)
      | (show evC _ _ _ _ _; first | refine c_seq ?_ | refine c_region (by exact rfl) ?_ | refine c_cond (by exact rfl) ?_ | refine c_ret ?_ | refine c_skip ?_ | refine c_block ?_ | refine c_exit ?_ | refine std ?_)
      | (show Br _ _ _; first | refine Br.t rfl ?_ | refine Br.f rfl ?_ | refine brs ?_ | (first | refine Br.mkN (fun h => ?_) (fun h => ?_) | refine Br.mk (fun h => ?_) (fun h => ?_)) <;> (try (first | contradiction | (exfalso; omega) | (exfalso; simp at h; done))))
      | refine stp ?_
      | (show CallT _ 23 _ _ _; refine CA (h := sfr11_ok hn hd hc0 hb0 hi0 (fun _ _ => ?_))))
    all_goals (show TurnG _ _ _ _; exact turn 0 ⟨1, by omega, .inr ⟨rfl, _, _, ⟨rfl, rfl, rfl, rfl, rfl, rfl, rfl, trivial⟩, rfl⟩⟩)
  · refine c_fr _ ha ?_
    simp only [updL]
    repeat' (first
      | (show evG _ _ _ _ _ _ _; first | refine G_add64 ?_ | refine G_pure0 ?_ | refine G_load ?_ | refine evG_nil ?_ | refine G_br ?_ ?_ | refine G_field ?_ | refine G_pure ?_ | refine G_store ?_ | refine G_loadV ?_ | refine G_loadV0 ?_ | refine G_loadV2 ?_ | (refine G_append ?_; intro _ _) | (refine G_appendN ?_; intro _ _) | refine G_not ?_ | refine G_index ?_ | refine G_indexA ?_ | refine G_cat ?_ | refine G_eql_agg ?_ | refine G_neq_agg ?_ | refine G_call ?_ | refine G_call0 ?_ | (refine G_alloc ?_; intro _) | (refine G_buildSlice ?_; intro _) | (refine G_indexV ?_; intro _ _ hA; subst hA) | refine G_skip ?_ | refine G_skip0 ?_)
      | (show spl _ _ _; first | refine spl_no rfl ?_ | refine spl_yes rfl ?_)
      | (show evC _ _ _ _ _; first | refine c_seq ?_ | refine c_region (by exact rfl) ?_ | refine c_cond (by exact rfl) ?_ | refine c_ret ?_ | refine c_skip ?_ | refine c_block ?_ | refine c_exit ?_ | refine std ?_)
      | (show Br _ _ _; first | refine Br.t rfl ?_ | refine Br.f rfl ?_ | refine brs ?_ | (first | refine Br.mkN (fun h => ?_) (fun h => ?_) | refine Br.mk (fun h => ?_) (fun h => ?_)) <;> (try (first | contradiction | (exfalso; omega) | (exfalso; simp at h; done))))
      | refine stp ?_)
    all_goals (show retC _ _ _ _ _ _; refine RETC ?_; exact ret_done (hK _ _))
end
end Go.Proofs.Ythoagholmkiknaa


namespace Go.Proofs.Ythoagholmkiknaa
open Go Go.Proofs Go.Sl
set_option maxRecDepth 100000
set_option maxHeartbeats 4000000
set_option linter.unusedSimpArgs false
set_option linter.unusedVariables false
attribute [local irreducible] evG evC spl thenC inBlockC noGotoC CallT retC RetG TurnG CutG pt ro exP star sep pureP
attribute [local irreducible] mp mit
variable {R C : List HP} {K : Value → List HP → Prop}
section
variable {x q i0 i1 s0 s1 m : Nat} {cn0 cn1 b0 b1 it0 it1 n : Int} {t st k on w c la : Int} {e xx : Bool} {d : ByteArray} {pa : Option Addr} {pn pc : Nat}
theorem sfind_ok (hK : K (.tuple #[.pointer (some ⟨q, 0, none⟩), .bool true]) (pt x [.pointer (some ⟨i0, 0, none⟩), .pointer (some ⟨i1, 0, none⟩), .slice (some ⟨s0, 0, none⟩) 1 1, .slice (some ⟨s1, 0, none⟩) 1 1, .int .i64 0, .int .i64 0, .int .i64 cn0, .int .i64 cn1, .map (some m)] 55 :: mp m [⟨1, .pointer (some ⟨q, 0, none⟩), 0⟩] 1 :: pt q [.int .i64 b0, .int .i64 b1, .int .i64 it0, .int .i64 it1, .int .i64 1, .int .i64 1] 70 :: R)) : CallT Try.prog 25 #[.pointer (some ⟨x, 0, none⟩), .int .i64 0, .int .i64 1] (pt x [.pointer (some ⟨i0, 0, none⟩), .pointer (some ⟨i1, 0, none⟩), .slice (some ⟨s0, 0, none⟩) 1 1, .slice (some ⟨s1, 0, none⟩) 1 1, .int .i64 0, .int .i64 0, .int .i64 cn0, .int .i64 cn1, .map (some m)] 55 :: mp m [⟨1, .pointer (some ⟨q, 0, none⟩), 0⟩] 1 :: pt q [.int .i64 b0, .int .i64 b1, .int .i64 it0, .int .i64 it1, .int .i64 1, .int .i64 1] 70 :: R) K := by
  refine callT_intro mixed Try.func25 rfl (by decide) (by decide +kernel) (by exact Nat.le_of_ble_eq_true rfl) ?_
  repeat' (first
    | (show evG _ _ _ _ _ _ _; first | (refine G_makeMap ?_; intro _) | refine G_lookup ?_ | refine G_mapUpdate ?_)
    | (show evG _ _ _ _ _ _ _; first | refine G_pure0 ?_ | refine G_load ?_ | refine evG_nil ?_ | refine G_br ?_ ?_ | refine G_field ?_ | refine G_pure ?_ | refine G_loadV ?_ | refine G_loadV0 ?_ | refine G_loadV2 ?_ | refine G_not ?_ | refine G_eql_agg ?_ | refine G_call ?_ | refine G_call0 ?_ | refine G_skip ?_ | refine G_skip0 ?_)
    | (show spl _ _ _; first | refine spl_no rfl ?_ | refine spl_yes rfl ?_)
    | (show evC _ _ _ _ _; first | refine c_seq ?_ | refine c_region (by exact rfl) ?_ | refine c_cond (by exact rfl) ?_ | refine c_ret ?_ | refine c_skip ?_ | refine c_block ?_ | refine c_exit ?_ | refine std ?_)
    | (show Br _ _ _; first | refine Br.t rfl ?_ | refine Br.f rfl ?_ | refine brs ?_ | (first | refine Br.mkN (fun h => ?_) (fun h => ?_) | refine Br.mk (fun h => ?_) (fun h => ?_)) <;> (try (first | contradiction | (exfalso; omega) | (exfalso; simp at h; done))))
    | refine stp ?_
    | (show CallT _ 20 _ _ _; refine CA (h := sright_ok ?_)))
  all_goals (show retC _ _ _ _ _ _; refine RETC ?_; exact ret_done (hK))
theorem sbytes0_ok (hK : K (.int .i64 cn0) (pt x [.pointer (some ⟨i0, 0, none⟩), .pointer (some ⟨i1, 0, none⟩), .slice (some ⟨s0, 0, none⟩) 1 1, .slice (some ⟨s1, 0, none⟩) 1 1, .int .i64 0, .int .i64 0, .int .i64 cn0, .int .i64 cn1, .map (some m)] 55 :: mp m [⟨1, .pointer (some ⟨q, 0, none⟩), 0⟩] 1 :: pt q [.int .i64 b0, .int .i64 b1, .int .i64 it0, .int .i64 it1, .int .i64 1, .int .i64 1] 70 :: R)) : CallT Try.prog 11 #[.pointer (some ⟨x, 0, none⟩), .int .i64 0, .int .i64 0] (pt x [.pointer (some ⟨i0, 0, none⟩), .pointer (some ⟨i1, 0, none⟩), .slice (some ⟨s0, 0, none⟩) 1 1, .slice (some ⟨s1, 0, none⟩) 1 1, .int .i64 0, .int .i64 0, .int .i64 cn0, .int .i64 cn1, .map (some m)] 55 :: mp m [⟨1, .pointer (some ⟨q, 0, none⟩), 0⟩] 1 :: pt q [.int .i64 b0, .int .i64 b1, .int .i64 it0, .int .i64 it1, .int .i64 1, .int .i64 1] 70 :: R) K := by
  refine callT_intro mixed Try.func11 rfl (by decide) (by decide +kernel) (by exact Nat.le_of_ble_eq_true rfl) ?_
  repeat' (first
    | (show evG _ _ _ _ _ _ _; first | refine G_pure0 ?_ | refine G_load ?_ | refine evG_nil ?_ | refine G_br ?_ ?_ | refine G_field ?_ | refine G_pure ?_ | refine G_loadV ?_ | refine G_loadV0 ?_ | refine G_loadV2 ?_ | refine G_index ?_ | refine G_indexA ?_ | refine G_eql_agg ?_ | refine G_neq_agg ?_ | refine G_call ?_ | refine G_call0 ?_ | (refine G_indexV ?_; intro _ _ hA; subst hA) | refine G_skip ?_ | refine G_skip0 ?_)
    | (show spl _ _ _; first | refine spl_no rfl ?_ | refine spl_yes rfl ?_)
    | (show evC _ _ _ _ _; first | refine c_seq ?_ | refine c_region (by exact rfl) ?_ | refine c_cond (by exact rfl) ?_ | refine c_ret ?_ | refine c_skip ?_ | refine c_block ?_ | refine c_exit ?_ | refine std ?_)
    | (show Br _ _ _; first | refine Br.t rfl ?_ | refine Br.f rfl ?_ | refine brs ?_ | (first | refine Br.mkN (fun h => ?_) (fun h => ?_) | refine Br.mk (fun h => ?_) (fun h => ?_)) <;> (try (first | contradiction | (exfalso; omega) | (exfalso; simp at h; done))))
    | refine stp ?_
    | (show CallT _ 20 _ _ _; refine CA (h := sright_ok ?_)))
  all_goals (show retC _ _ _ _ _ _; refine RETC ?_; exact ret_done (hK))
theorem sbytes1_ok (hK : K (.int .i64 b0) (pt x [.pointer (some ⟨i0, 0, none⟩), .pointer (some ⟨i1, 0, none⟩), .slice (some ⟨s0, 0, none⟩) 1 1, .slice (some ⟨s1, 0, none⟩) 1 1, .int .i64 0, .int .i64 0, .int .i64 cn0, .int .i64 cn1, .map (some m)] 55 :: mp m [⟨1, .pointer (some ⟨q, 0, none⟩), 0⟩] 1 :: pt q [.int .i64 b0, .int .i64 b1, .int .i64 it0, .int .i64 it1, .int .i64 1, .int .i64 1] 70 :: R)) : CallT Try.prog 11 #[.pointer (some ⟨x, 0, none⟩), .int .i64 0, .int .i64 1] (pt x [.pointer (some ⟨i0, 0, none⟩), .pointer (some ⟨i1, 0, none⟩), .slice (some ⟨s0, 0, none⟩) 1 1, .slice (some ⟨s1, 0, none⟩) 1 1, .int .i64 0, .int .i64 0, .int .i64 cn0, .int .i64 cn1, .map (some m)] 55 :: mp m [⟨1, .pointer (some ⟨q, 0, none⟩), 0⟩] 1 :: pt q [.int .i64 b0, .int .i64 b1, .int .i64 it0, .int .i64 it1, .int .i64 1, .int .i64 1] 70 :: R) K := by
  refine callT_intro mixed Try.func11 rfl (by decide) (by decide +kernel) (by exact Nat.le_of_ble_eq_true rfl) ?_
  repeat' (first
    | (show evG _ _ _ _ _ _ _; first | refine G_pure0 ?_ | refine G_load ?_ | refine evG_nil ?_ | refine G_br ?_ ?_ | refine G_field ?_ | refine G_pure ?_ | refine G_loadV ?_ | refine G_loadV0 ?_ | refine G_loadV2 ?_ | refine G_index ?_ | refine G_indexA ?_ | refine G_eql_agg ?_ | refine G_neq_agg ?_ | refine G_call ?_ | refine G_call0 ?_ | (refine G_indexV ?_; intro _ _ hA; subst hA) | refine G_skip ?_ | refine G_skip0 ?_)
    | (show spl _ _ _; first | refine spl_no rfl ?_ | refine spl_yes rfl ?_)
    | (show evC _ _ _ _ _; first | refine c_seq ?_ | refine c_region (by exact rfl) ?_ | refine c_cond (by exact rfl) ?_ | refine c_ret ?_ | refine c_skip ?_ | refine c_block ?_ | refine c_exit ?_ | refine std ?_)
    | (show Br _ _ _; first | refine Br.t rfl ?_ | refine Br.f rfl ?_ | refine brs ?_ | (first | refine Br.mkN (fun h => ?_) (fun h => ?_) | refine Br.mk (fun h => ?_) (fun h => ?_)) <;> (try (first | contradiction | (exfalso; omega) | (exfalso; simp at h; done))))
    | refine stp ?_
    | (show CallT _ 20 _ _ _; refine CA (h := sright_ok ?_))
    | (show CallT _ 25 _ _ _; refine CA (h := sfind_ok ?_)))
  all_goals (show retC _ _ _ _ _ _; refine RETC ?_; exact ret_done (hK))
theorem sitems1_ok (hK : K (.int .i64 it0) (pt x [.pointer (some ⟨i0, 0, none⟩), .pointer (some ⟨i1, 0, none⟩), .slice (some ⟨s0, 0, none⟩) 1 1, .slice (some ⟨s1, 0, none⟩) 1 1, .int .i64 0, .int .i64 0, .int .i64 cn0, .int .i64 cn1, .map (some m)] 55 :: mp m [⟨1, .pointer (some ⟨q, 0, none⟩), 0⟩] 1 :: pt q [.int .i64 b0, .int .i64 b1, .int .i64 it0, .int .i64 it1, .int .i64 1, .int .i64 1] 70 :: R)) : CallT Try.prog 17 #[.pointer (some ⟨x, 0, none⟩), .int .i64 0, .int .i64 1] (pt x [.pointer (some ⟨i0, 0, none⟩), .pointer (some ⟨i1, 0, none⟩), .slice (some ⟨s0, 0, none⟩) 1 1, .slice (some ⟨s1, 0, none⟩) 1 1, .int .i64 0, .int .i64 0, .int .i64 cn0, .int .i64 cn1, .map (some m)] 55 :: mp m [⟨1, .pointer (some ⟨q, 0, none⟩), 0⟩] 1 :: pt q [.int .i64 b0, .int .i64 b1, .int .i64 it0, .int .i64 it1, .int .i64 1, .int .i64 1] 70 :: R) K := by
  refine callT_intro mixed Try.func17 rfl (by decide) (by decide +kernel) (by exact Nat.le_of_ble_eq_true rfl) ?_
  repeat' (first
    | (show evG _ _ _ _ _ _ _; first | refine G_pure0 ?_ | refine G_load ?_ | refine evG_nil ?_ | refine G_br ?_ ?_ | refine G_field ?_ | refine G_pure ?_ | refine G_loadV ?_ | refine G_loadV0 ?_ | refine G_loadV2 ?_ | refine G_index ?_ | refine G_indexA ?_ | refine G_call ?_ | refine G_call0 ?_ | (refine G_indexV ?_; intro _ _ hA; subst hA))
    | (show spl _ _ _; first | refine spl_no rfl ?_ | refine spl_yes rfl ?_)
    | (show evC _ _ _ _ _; first | refine c_seq ?_ | refine c_region (by exact rfl) ?_ | refine c_cond (by exact rfl) ?_ | refine c_ret ?_ | refine c_skip ?_ | refine c_block ?_ | refine c_exit ?_ | refine std ?_)
    | (show Br _ _ _; first | refine Br.t rfl ?_ | refine Br.f rfl ?_ | refine brs ?_ | (first | refine Br.mkN (fun h => ?_) (fun h => ?_) | refine Br.mk (fun h => ?_) (fun h => ?_)) <;> (try (first | contradiction | (exfalso; omega) | (exfalso; simp at h; done))))
    | refine stp ?_
    | (show CallT _ 25 _ _ _; refine CA (h := sfind_ok ?_)))
  all_goals (show retC _ _ _ _ _ _; refine RETC ?_; exact ret_done (hK))
theorem ints_ok {A B : Option Addr} {c1 c2 : Nat} {l : List Int} (hv : View C A siC l) (hw : View C B siC l) (hl : l.length ≤ 1000) (hK : K (.bool true) C) : CallT Try.prog 9 #[.slice A l.length c1, .slice B l.length c2] C K := by
  refine callT_intro mixed Try.func9 rfl (by decide) (by decide +kernel) (by exact Nat.le_of_ble_eq_true rfl) ?_
  repeat' (first
    | (show evG _ _ _ _ _ _ _; first | refine G_add64 ?_ | refine G_pure0 ?_ | refine G_load ?_ | refine evG_nil ?_ | refine G_br ?_ ?_ | refine G_pure ?_ | refine G_loadV ?_ | refine G_loadV0 ?_ | refine G_loadV2 ?_ | refine G_index ?_ | refine G_indexA ?_ | refine G_cat ?_ | refine G_neq_agg ?_ | (refine G_indexV ?_; intro _ _ hA; subst hA))
    | (show spl _ _ _; first | refine spl_no rfl ?_ | refine spl_yes rfl ?_)
    | (show evC _ _ _ _ _; first | refine c_seq ?_ | refine c_region (by exact rfl) ?_ | refine c_cond (by exact rfl) ?_ | refine c_ret ?_ | refine c_skip ?_ | refine c_block ?_ | refine c_exit ?_ | (show evC _ (.region 6 _ true) _ _ _; refine c_draw (l := [(0, 0), (1, 0), (2, 0), (3, 0), (4, 0), (5, 0), (6, 0), (7, 0), (8, 0)]) (by decide +kernel) (by decide +kernel) (by exact rfl) ?_) | refine std ?_)
    | (show Br _ _ _; first | refine Br.t rfl ?_ | refine Br.f rfl ?_ | refine brs ?_ | (first | refine Br.mkN (fun h => ?_) (fun h => ?_) | refine Br.mk (fun h => ?_) (fun h => ?_)) <;> (try (first | contradiction | (exfalso; omega) | (exfalso; simp at h; done))))
    | refine stp ?_)
  refine LOOP (fun k a C' => ∃ j : Nat, j + k = l.length ∧ C' = C ∧ Agree a [(0, .slice A l.length c1), (1, .slice B l.length c2), (4, .bool false), (5, .int .i64 j)]) l.length (turn l.length ⟨0, by omega, rfl, rfl, rfl, rfl, rfl, trivial⟩ (by omega)) ?_
  rintro k a C' ⟨j, hj, rfl, ha⟩
  refine c_fr _ ha ?_
  simp only [updL]
  by_cases hlt : j < l.length
  · obtain ⟨y, hy, _⟩ := at_drop (l := l) (j := j) hlt
    repeat' (first
      | (show evG _ _ _ _ _ _ _; first | refine G_add64 ?_ | refine G_pure0 ?_ | refine G_load ?_ | refine evG_nil ?_ | refine G_br ?_ ?_ | refine G_pure ?_ | refine G_loadV ?_ | refine G_loadV0 ?_ | refine G_loadV2 ?_ | refine G_index ?_ | refine G_indexA ?_ | refine G_cat ?_ | refine G_neq_agg ?_ | (refine G_indexV ?_; intro _ _ hA; subst hA))
      | (show spl _ _ _; first | refine spl_no rfl ?_ | refine spl_yes rfl ?_)
      | (show evC _ _ _ _ _; first | refine c_seq ?_ | refine c_region (by exact rfl) ?_ | refine c_cond (by exact rfl) ?_ | refine c_ret ?_ | refine c_skip ?_ | refine c_block ?_ | refine c_exit ?_ | (show evC _ (.region 6 _ true) _ _ _; refine c_draw (l := [(0, 0), (1, 0), (2, 0), (3, 0), (4, 0), (5, 0), (6, 0), (7, 0), (8, 0)]) (by decide +kernel) (by decide +kernel) (by exact rfl) ?_) | refine std ?_)
      | (show Br _ _ _; first | refine Br.t rfl ?_ | refine Br.f rfl ?_ | refine brs ?_ | (first | refine Br.mkN (fun h => ?_) (fun h => ?_) | refine Br.mk (fun h => ?_) (fun h => ?_)) <;> (try (first | contradiction | (exfalso; omega) | (exfalso; simp at h; done))))
      | refine stp ?_)
    all_goals (show TurnG _ _ _ _; exact turn (k - 1) ⟨j + 1, by omega, rfl, rfl, rfl, rfl, rfl, trivial⟩)
  · repeat' (first
      | (show evG _ _ _ _ _ _ _; first | refine G_add64 ?_ | refine G_pure0 ?_ | refine G_load ?_ | refine evG_nil ?_ | refine G_br ?_ ?_ | refine G_pure ?_ | refine G_loadV ?_ | refine G_loadV0 ?_ | refine G_loadV2 ?_ | refine G_index ?_ | refine G_indexA ?_ | refine G_cat ?_ | refine G_neq_agg ?_ | (refine G_indexV ?_; intro _ _ hA; subst hA))
      | (show spl _ _ _; first | refine spl_no rfl ?_ | refine spl_yes rfl ?_)
      | (show evC _ _ _ _ _; first | refine c_seq ?_ | refine c_region (by exact rfl) ?_ | refine c_cond (by exact rfl) ?_ | refine c_ret ?_ | refine c_skip ?_ | refine c_block ?_ | refine c_exit ?_ | (show evC _ (.region 6 _ true) _ _ _; refine c_draw (l := [(0, 0), (1, 0), (2, 0), (3, 0), (4, 0), (5, 0), (6, 0), (7, 0), (8, 0)]) (by decide +kernel) (by decide +kernel) (by exact rfl) ?_) | refine std ?_)
      | (show Br _ _ _; first | refine Br.t rfl ?_ | refine Br.f rfl ?_ | refine brs ?_ | (first | refine Br.mkN (fun h => ?_) (fun h => ?_) | refine Br.mk (fun h => ?_) (fun h => ?_)) <;> (try (first | contradiction | (exfalso; omega) | (exfalso; simp at h; done))))
      | refine stp ?_)
    all_goals (show retC _ _ _ _ _ _; refine RETC ?_; exact ret_done (hK))
theorem bsent0_ok (hd : d.size ≤ 10000) (hc0 : -1000000000000 ≤ cn0 ∧ cn0 ≤ 1000000000000) (hb0 : -1000000000000 ≤ b0 ∧ b0 ≤ 1000000000000) (hi0 : -1000000000000 ≤ it0 ∧ it0 ≤ 1000000000000) (hK : ∀ A c, K (.slice A (outW 0 e d cn0 b0 it0).length c) (pt x [.int .i64 (nC 0 1 d n cn0), .int .i64 (nB 0 1 d n b0), .int .i64 (nI 0 e d n it0)] 41 :: row A c 3 siC (outW 0 e d cn0 b0 it0) :: R)) : CallT Try.prog 15 #[.pointer (some ⟨x, 0, none⟩), .agg #[.int .i64 0, .int .i64 1, .bool e, .string d, .int .i64 k, .int .i64 on, .int .i64 w, .bool xx, .int .i64 c, .int .i64 la, .int .i64 n, .slice pa pn pc]] (pt x [.int .i64 cn0, .int .i64 b0, .int .i64 it0] 41 :: R) K := by
  simp only [nC, nB, nI, outW, if_true, if_neg (show ¬ (0 : Int) = 1 by decide), if_neg (show ¬ (0 : Int) = 11 by decide)] at hK
  by_cases h1 : 0 < ((d.size : Nat) : Int) ∧ cn0 < (d.size : Nat)
  · have e1 : spN cn0 (d.size : Nat) = min cn0 0 := if_pos h1
    have o1 : spO cn0 (d.size : Nat) = false := if_pos h1
    by_cases h2 : 0 < ((d.size : Nat) : Int) ∧ b0 < (d.size : Nat)
    · have e2 : spN b0 (d.size : Nat) = min b0 0 := if_pos h2
      have o2 : spO b0 (d.size : Nat) = false := if_pos h2
      simp only [e1, o1, e2, o2, Bool.false_eq_true, if_true, if_false, List.nil_append, List.append_nil, List.cons_append] at hK
      refine callT_intro mixed Try.func15 rfl (by decide) (by decide +kernel) (by exact Nat.le_of_ble_eq_true rfl) ?_
      repeat' (first
        | (show evG _ _ _ _ _ _ _; refine G_appendN (E := siC) ?_; intro _ _)
        | (show evG _ _ _ _ _ _ _; first | refine G_sub64 ?_ | refine G_pure0 ?_ | refine G_load ?_ | refine evG_nil ?_ | refine G_br ?_ ?_ | refine G_field ?_ | refine G_pure ?_ | refine G_store ?_ | refine G_loadV ?_ | refine G_loadV0 ?_ | refine G_loadV2 ?_ | (refine G_append ?_; intro _ _) | (refine G_appendN ?_; intro _ _) | refine G_not ?_ | refine G_min ?_ | refine G_eql_agg ?_ | refine G_neq_agg ?_ | (refine G_box ?_; intro _) | (refine G_buildSlice ?_; intro _) | refine G_skip ?_ | refine G_skip0 ?_)
        | (show spl _ _ _; first | refine spl_no rfl ?_ | refine spl_yes rfl ?_)
        | (show evC _ _ _ _ _; first | refine c_seq ?_ | refine c_region (by exact rfl) ?_ | refine c_cond (by exact rfl) ?_ | refine c_ret ?_ | refine c_skip ?_ | refine c_block ?_ | refine c_exit ?_ | refine std ?_)
        | (show Br _ _ _; first | refine Br.t rfl ?_ | refine Br.f rfl ?_ | refine brs ?_ | (first | refine Br.mkN (fun h => ?_) (fun h => ?_) | refine Br.mk (fun h => ?_) (fun h => ?_)) <;> (try (first | contradiction | (exfalso; omega) | (exfalso; simp at h; done))))
        | refine stp ?_)
      all_goals (show retC _ _ _ _ _ _; refine RETC ?_; exact ret_done (hK _ _))
    · have e2 : spN b0 (d.size : Nat) = b0 - (d.size : Nat) := if_neg h2
      have o2 : spO b0 (d.size : Nat) = true := if_neg h2
      simp only [e1, o1, e2, o2, Bool.false_eq_true, if_true, if_false, List.nil_append, List.append_nil, List.cons_append] at hK
      refine callT_intro mixed Try.func15 rfl (by decide) (by decide +kernel) (by exact Nat.le_of_ble_eq_true rfl) ?_
      repeat' (first
        | (show evG _ _ _ _ _ _ _; refine G_appendN (E := siC) ?_; intro _ _)
        | (show evG _ _ _ _ _ _ _; first | refine G_sub64 ?_ | refine G_pure0 ?_ | refine G_load ?_ | refine evG_nil ?_ | refine G_br ?_ ?_ | refine G_field ?_ | refine G_pure ?_ | refine G_store ?_ | refine G_loadV ?_ | refine G_loadV0 ?_ | refine G_loadV2 ?_ | (refine G_append ?_; intro _ _) | (refine G_appendN ?_; intro _ _) | refine G_not ?_ | refine G_min ?_ | refine G_eql_agg ?_ | refine G_neq_agg ?_ | (refine G_box ?_; intro _) | (refine G_buildSlice ?_; intro _) | refine G_skip ?_ | refine G_skip0 ?_)
        | (show spl _ _ _; first | refine spl_no rfl ?_ | refine spl_yes rfl ?_)
        | (show evC _ _ _ _ _; first | refine c_seq ?_ | refine c_region (by exact rfl) ?_ | refine c_cond (by exact rfl) ?_ | refine c_ret ?_ | refine c_skip ?_ | refine c_block ?_ | refine c_exit ?_ | refine std ?_)
        | (show Br _ _ _; first | refine Br.t rfl ?_ | refine Br.f rfl ?_ | refine brs ?_ | (first | refine Br.mkN (fun h => ?_) (fun h => ?_) | refine Br.mk (fun h => ?_) (fun h => ?_)) <;> (try (first | contradiction | (exfalso; omega) | (exfalso; simp at h; done))))
        | refine stp ?_)
      all_goals (show retC _ _ _ _ _ _; refine RETC ?_; exact ret_done (hK _ _))
  · have e1 : spN cn0 (d.size : Nat) = cn0 - (d.size : Nat) := if_neg h1
    have o1 : spO cn0 (d.size : Nat) = true := if_neg h1
    by_cases h2 : 0 < ((d.size : Nat) : Int) ∧ b0 < (d.size : Nat)
    · have e2 : spN b0 (d.size : Nat) = min b0 0 := if_pos h2
      have o2 : spO b0 (d.size : Nat) = false := if_pos h2
      simp only [e1, o1, e2, o2, Bool.false_eq_true, if_true, if_false, List.nil_append, List.append_nil, List.cons_append] at hK
      refine callT_intro mixed Try.func15 rfl (by decide) (by decide +kernel) (by exact Nat.le_of_ble_eq_true rfl) ?_
      repeat' (first
        | (show evG _ _ _ _ _ _ _; refine G_appendN (E := siC) ?_; intro _ _)
        | (show evG _ _ _ _ _ _ _; first | refine G_sub64 ?_ | refine G_pure0 ?_ | refine G_load ?_ | refine evG_nil ?_ | refine G_br ?_ ?_ | refine G_field ?_ | refine G_pure ?_ | refine G_store ?_ | refine G_loadV ?_ | refine G_loadV0 ?_ | refine G_loadV2 ?_ | (refine G_append ?_; intro _ _) | (refine G_appendN ?_; intro _ _) | refine G_not ?_ | refine G_min ?_ | refine G_eql_agg ?_ | refine G_neq_agg ?_ | (refine G_box ?_; intro _) | (refine G_buildSlice ?_; intro _) | refine G_skip ?_ | refine G_skip0 ?_)
        | (show spl _ _ _; first | refine spl_no rfl ?_ | refine spl_yes rfl ?_)
        | (show evC _ _ _ _ _; first | refine c_seq ?_ | refine c_region (by exact rfl) ?_ | refine c_cond (by exact rfl) ?_ | refine c_ret ?_ | refine c_skip ?_ | refine c_block ?_ | refine c_exit ?_ | refine std ?_)
        | (show Br _ _ _; first | refine Br.t rfl ?_ | refine Br.f rfl ?_ | refine brs ?_ | (first | refine Br.mkN (fun h => ?_) (fun h => ?_) | refine Br.mk (fun h => ?_) (fun h => ?_)) <;> (try (first | contradiction | (exfalso; omega) | (exfalso; simp at h; done))))
        | refine stp ?_)
      all_goals (show retC _ _ _ _ _ _; refine RETC ?_; exact ret_done (hK _ _))
    · have e2 : spN b0 (d.size : Nat) = b0 - (d.size : Nat) := if_neg h2
      have o2 : spO b0 (d.size : Nat) = true := if_neg h2
      simp only [e1, o1, e2, o2, Bool.false_eq_true, if_true, if_false, List.nil_append, List.append_nil, List.cons_append] at hK
      refine callT_intro mixed Try.func15 rfl (by decide) (by decide +kernel) (by exact Nat.le_of_ble_eq_true rfl) ?_
      repeat' (first
        | (show evG _ _ _ _ _ _ _; refine G_appendN (E := siC) ?_; intro _ _)
        | (show evG _ _ _ _ _ _ _; first | refine G_sub64 ?_ | refine G_pure0 ?_ | refine G_load ?_ | refine evG_nil ?_ | refine G_br ?_ ?_ | refine G_field ?_ | refine G_pure ?_ | refine G_store ?_ | refine G_loadV ?_ | refine G_loadV0 ?_ | refine G_loadV2 ?_ | (refine G_append ?_; intro _ _) | (refine G_appendN ?_; intro _ _) | refine G_not ?_ | refine G_min ?_ | refine G_eql_agg ?_ | refine G_neq_agg ?_ | (refine G_box ?_; intro _) | (refine G_buildSlice ?_; intro _) | refine G_skip ?_ | refine G_skip0 ?_)
        | (show spl _ _ _; first | refine spl_no rfl ?_ | refine spl_yes rfl ?_)
        | (show evC _ _ _ _ _; first | refine c_seq ?_ | refine c_region (by exact rfl) ?_ | refine c_cond (by exact rfl) ?_ | refine c_ret ?_ | refine c_skip ?_ | refine c_block ?_ | refine c_exit ?_ | refine std ?_)
        | (show Br _ _ _; first | refine Br.t rfl ?_ | refine Br.f rfl ?_ | refine brs ?_ | (first | refine Br.mkN (fun h => ?_) (fun h => ?_) | refine Br.mk (fun h => ?_) (fun h => ?_)) <;> (try (first | contradiction | (exfalso; omega) | (exfalso; simp at h; done))))
        | refine stp ?_)
      all_goals (show retC _ _ _ _ _ _; refine RETC ?_; exact ret_done (hK _ _))
theorem bsent1_ok (hd : d.size ≤ 10000) (hc0 : -1000000000000 ≤ cn0 ∧ cn0 ≤ 1000000000000) (hb0 : -1000000000000 ≤ b0 ∧ b0 ≤ 1000000000000) (hi0 : -1000000000000 ≤ it0 ∧ it0 ≤ 1000000000000) (hK : ∀ A c, K (.slice A (outW 1 e d cn0 b0 it0).length c) (pt x [.int .i64 (nC 1 1 d n cn0), .int .i64 (nB 1 1 d n b0), .int .i64 (nI 1 e d n it0)] 41 :: row A c 3 siC (outW 1 e d cn0 b0 it0) :: R)) : CallT Try.prog 15 #[.pointer (some ⟨x, 0, none⟩), .agg #[.int .i64 1, .int .i64 1, .bool e, .string d, .int .i64 k, .int .i64 on, .int .i64 w, .bool xx, .int .i64 c, .int .i64 la, .int .i64 n, .slice pa pn pc]] (pt x [.int .i64 cn0, .int .i64 b0, .int .i64 it0] 41 :: R) K := by
  simp only [nC, nB, nI, outW, if_true, if_neg (show ¬ (1 : Int) = 0 by decide), if_neg (show ¬ ((1 : Int) = 10 ∧ (1 : Int) = 0) by decide), if_neg (show ¬ ((1 : Int) = 10 ∧ (1 : Int) = 1) by decide)] at hK
  by_cases he : endO e d
  · simp only [if_pos he] at hK
    obtain ⟨rfl, rfl⟩ := he
    refine callT_intro mixed Try.func15 rfl (by decide) (by decide +kernel) (by exact Nat.le_of_ble_eq_true rfl) ?_
    repeat' (first
      | (show evG _ _ _ _ _ _ _; refine G_appendN (E := siC) ?_; intro _ _)
      | (show evG _ _ _ _ _ _ _; first | refine G_sub64 ?_ | refine G_pure0 ?_ | refine G_load ?_ | refine evG_nil ?_ | refine G_br ?_ ?_ | refine G_field ?_ | refine G_pure ?_ | refine G_store ?_ | refine G_loadV ?_ | refine G_loadV0 ?_ | refine G_loadV2 ?_ | (refine G_append ?_; intro _ _) | (refine G_appendN ?_; intro _ _) | refine G_not ?_ | refine G_min ?_ | refine G_eql_agg ?_ | refine G_neq_agg ?_ | (refine G_box ?_; intro _) | (refine G_buildSlice ?_; intro _) | refine G_skip ?_ | refine G_skip0 ?_)
      | (show spl _ _ _; first | refine spl_no rfl ?_ | refine spl_yes rfl ?_)
      | (show evC _ _ _ _ _; first | refine c_seq ?_ | refine c_region (by exact rfl) ?_ | refine c_cond (by exact rfl) ?_ | refine c_ret ?_ | refine c_skip ?_ | refine c_block ?_ | refine c_exit ?_ | refine std ?_)
      | (show Br _ _ _; first | refine Br.t rfl ?_ | refine Br.f rfl ?_ | refine brs ?_ | (first | refine Br.mkN (fun h => ?_) (fun h => ?_) | refine Br.mk (fun h => ?_) (fun h => ?_)) <;> (try (first | contradiction | (exfalso; omega) | (exfalso; simp at h; done))))
      | refine stp ?_)
    all_goals (show retC _ _ _ _ _ _; refine RETC ?_; exact ret_done (hK _ _))
  · simp only [if_neg he, spN, spO] at hK
    by_cases h1 : it0 < 1
    · have h2 : (0 : Int) < 1 ∧ it0 < 1 := ⟨by decide, h1⟩
      have h3 : min it0 0 = it0 := by omega
      simp only [if_pos h2, Bool.false_eq_true, if_false, h3] at hK
      by_cases hd : d = ⟨#[]⟩
      · subst hd
        cases e
        · refine callT_intro mixed Try.func15 rfl (by decide) (by decide +kernel) (by exact Nat.le_of_ble_eq_true rfl) ?_
          repeat' (first
            | (show evG _ _ _ _ _ _ _; refine G_appendN (E := siC) ?_; intro _ _)
            | (show evG _ _ _ _ _ _ _; first | refine G_sub64 ?_ | refine G_pure0 ?_ | refine G_load ?_ | refine evG_nil ?_ | refine G_br ?_ ?_ | refine G_field ?_ | refine G_pure ?_ | refine G_store ?_ | refine G_loadV ?_ | refine G_loadV0 ?_ | refine G_loadV2 ?_ | (refine G_append ?_; intro _ _) | (refine G_appendN ?_; intro _ _) | refine G_not ?_ | refine G_min ?_ | refine G_eql_agg ?_ | refine G_neq_agg ?_ | (refine G_box ?_; intro _) | (refine G_buildSlice ?_; intro _) | refine G_skip ?_ | refine G_skip0 ?_)
            | (show spl _ _ _; first | refine spl_no rfl ?_ | refine spl_yes rfl ?_)
            | (show evC _ _ _ _ _; first | refine c_seq ?_ | refine c_region (by exact rfl) ?_ | refine c_cond (by exact rfl) ?_ | refine c_ret ?_ | refine c_skip ?_ | refine c_block ?_ | refine c_exit ?_ | refine std ?_)
            | (show Br _ _ _; first | refine Br.t rfl ?_ | refine Br.f rfl ?_ | refine brs ?_ | (first | refine Br.mkN (fun h => ?_) (fun h => ?_) | refine Br.mk (fun h => ?_) (fun h => ?_)) <;> (try (first | contradiction | (exfalso; omega) | (exfalso; simp at h; done))))
            | refine stp ?_)
          all_goals (show retC _ _ _ _ _ _; refine RETC ?_; exact ret_done (hK _ _))
        · exact absurd ⟨rfl, rfl⟩ he
      · have hne := str_ne33 hd
        refine callT_intro mixed Try.func15 rfl (by decide) (by decide +kernel) (by exact Nat.le_of_ble_eq_true rfl) ?_
        repeat' (first
          | (show evG _ _ _ _ _ _ _; refine G_appendN (E := siC) ?_; intro _ _)
          | (show Br _ _ _; refine Br.t hne ?_)
          | (show evG _ _ _ _ _ _ _; first | refine G_sub64 ?_ | refine G_pure0 ?_ | refine G_load ?_ | refine evG_nil ?_ | refine G_br ?_ ?_ | refine G_field ?_ | refine G_pure ?_ | refine G_store ?_ | refine G_loadV ?_ | refine G_loadV0 ?_ | refine G_loadV2 ?_ | (refine G_append ?_; intro _ _) | (refine G_appendN ?_; intro _ _) | refine G_not ?_ | refine G_min ?_ | refine G_eql_agg ?_ | refine G_neq_agg ?_ | (refine G_box ?_; intro _) | (refine G_buildSlice ?_; intro _) | refine G_skip ?_ | refine G_skip0 ?_)
          | (show spl _ _ _; first | refine spl_no rfl ?_ | refine spl_yes rfl ?_)
          | (show evC _ _ _ _ _; first | refine c_seq ?_ | refine c_region (by exact rfl) ?_ | refine c_cond (by exact rfl) ?_ | refine c_ret ?_ | refine c_skip ?_ | refine c_block ?_ | refine c_exit ?_ | refine std ?_)
          | (show Br _ _ _; first | refine Br.t rfl ?_ | refine Br.f rfl ?_ | refine brs ?_ | (first | refine Br.mkN (fun h => ?_) (fun h => ?_) | refine Br.mk (fun h => ?_) (fun h => ?_)) <;> (try (first | contradiction | (exfalso; omega) | (exfalso; simp at h; done))))
          | refine stp ?_)
        all_goals (show retC _ _ _ _ _ _; refine RETC ?_; exact ret_done (hK _ _))
    · have h2 : ¬ ((0 : Int) < 1 ∧ it0 < 1) := fun h => h1 h.2
      simp only [if_neg h2, if_true] at hK
      by_cases hd : d = ⟨#[]⟩
      · subst hd
        cases e
        · refine callT_intro mixed Try.func15 rfl (by decide) (by decide +kernel) (by exact Nat.le_of_ble_eq_true rfl) ?_
          repeat' (first
            | (show evG _ _ _ _ _ _ _; refine G_appendN (E := siC) ?_; intro _ _)
            | (show evG _ _ _ _ _ _ _; first | refine G_sub64 ?_ | refine G_pure0 ?_ | refine G_load ?_ | refine evG_nil ?_ | refine G_br ?_ ?_ | refine G_field ?_ | refine G_pure ?_ | refine G_store ?_ | refine G_loadV ?_ | refine G_loadV0 ?_ | refine G_loadV2 ?_ | (refine G_append ?_; intro _ _) | (refine G_appendN ?_; intro _ _) | refine G_not ?_ | refine G_min ?_ | refine G_eql_agg ?_ | refine G_neq_agg ?_ | (refine G_box ?_; intro _) | (refine G_buildSlice ?_; intro _) | refine G_skip ?_ | refine G_skip0 ?_)
            | (show spl _ _ _; first | refine spl_no rfl ?_ | refine spl_yes rfl ?_)
            | (show evC _ _ _ _ _; first | refine c_seq ?_ | refine c_region (by exact rfl) ?_ | refine c_cond (by exact rfl) ?_ | refine c_ret ?_ | refine c_skip ?_ | refine c_block ?_ | refine c_exit ?_ | refine std ?_)
            | (show Br _ _ _; first | refine Br.t rfl ?_ | refine Br.f rfl ?_ | refine brs ?_ | (first | refine Br.mkN (fun h => ?_) (fun h => ?_) | refine Br.mk (fun h => ?_) (fun h => ?_)) <;> (try (first | contradiction | (exfalso; omega) | (exfalso; simp at h; done))))
            | refine stp ?_)
          all_goals (show retC _ _ _ _ _ _; refine RETC ?_; exact ret_done (hK _ _))
        · exact absurd ⟨rfl, rfl⟩ he
      · have hne := str_ne33 hd
        refine callT_intro mixed Try.func15 rfl (by decide) (by decide +kernel) (by exact Nat.le_of_ble_eq_true rfl) ?_
        repeat' (first
          | (show evG _ _ _ _ _ _ _; refine G_appendN (E := siC) ?_; intro _ _)
          | (show Br _ _ _; refine Br.t hne ?_)
          | (show evG _ _ _ _ _ _ _; first | refine G_sub64 ?_ | refine G_pure0 ?_ | refine G_load ?_ | refine evG_nil ?_ | refine G_br ?_ ?_ | refine G_field ?_ | refine G_pure ?_ | refine G_store ?_ | refine G_loadV ?_ | refine G_loadV0 ?_ | refine G_loadV2 ?_ | (refine G_append ?_; intro _ _) | (refine G_appendN ?_; intro _ _) | refine G_not ?_ | refine G_min ?_ | refine G_eql_agg ?_ | refine G_neq_agg ?_ | (refine G_box ?_; intro _) | (refine G_buildSlice ?_; intro _) | refine G_skip ?_ | refine G_skip0 ?_)
          | (show spl _ _ _; first | refine spl_no rfl ?_ | refine spl_yes rfl ?_)
          | (show evC _ _ _ _ _; first | refine c_seq ?_ | refine c_region (by exact rfl) ?_ | refine c_cond (by exact rfl) ?_ | refine c_ret ?_ | refine c_skip ?_ | refine c_block ?_ | refine c_exit ?_ | refine std ?_)
          | (show Br _ _ _; first | refine Br.t rfl ?_ | refine Br.f rfl ?_ | refine brs ?_ | (first | refine Br.mkN (fun h => ?_) (fun h => ?_) | refine Br.mk (fun h => ?_) (fun h => ?_)) <;> (try (first | contradiction | (exfalso; omega) | (exfalso; simp at h; done))))
          | refine stp ?_)
        all_goals (show retC _ _ _ _ _ _; refine RETC ?_; exact ret_done (hK _ _))
theorem bgrantC_ok (hn : 0 ≤ n ∧ n ≤ 2147483647) (hc0 : -1000000000000 ≤ cn0 ∧ cn0 ≤ 1000000000000) (hb0 : -1000000000000 ≤ b0 ∧ b0 ≤ 1000000000000) (hi0 : -1000000000000 ≤ it0 ∧ it0 ≤ 1000000000000) (hK : K (.tuple #[]) (pt x [.int .i64 (cn0 + n), .int .i64 b0, .int .i64 it0] 41 :: R)) : CallT Try.prog 16 #[.pointer (some ⟨x, 0, none⟩), .agg #[.int .i64 10, .int .i64 0, .bool e, .string d, .int .i64 k, .int .i64 on, .int .i64 w, .bool xx, .int .i64 c, .int .i64 la, .int .i64 n, .slice pa pn pc]] (pt x [.int .i64 cn0, .int .i64 b0, .int .i64 it0] 41 :: R) K := by
  refine callT_intro mixed Try.func16 rfl (by decide) (by decide +kernel) (by exact Nat.le_of_ble_eq_true rfl) ?_
  repeat' (first
    | (show evG _ _ _ _ _ _ _; first | refine G_add64 ?_ | refine G_pure0 ?_ | refine G_load ?_ | refine evG_nil ?_ | refine G_br ?_ ?_ | refine G_field ?_ | refine G_pure ?_ | refine G_store ?_ | refine G_loadV ?_ | refine G_loadV0 ?_ | refine G_loadV2 ?_ | refine G_cat ?_ | refine G_eql_agg ?_ | (refine G_box ?_; intro _))
    | (show spl _ _ _; first | refine spl_no rfl ?_ | refine spl_yes rfl ?_)
    | (show evC _ _ _ _ _; first | refine c_seq ?_ | refine c_region (by exact rfl) ?_ | refine c_cond (by exact rfl) ?_ | refine c_ret ?_ | refine c_skip ?_ | refine c_block ?_ | refine c_exit ?_ | (show evC _ (.region 3 _ true) _ _ _; refine c_draw (l := [(0, 0), (1, 0), (2, 0), (3, 0), (4, 0), (5, 0), (6, 0), (7, 0), (8, 0), (9, 1)]) (by decide +kernel) (by decide +kernel) (by exact rfl) ?_) | (show evC _ (.region 5 _ true) _ _ _; refine c_draw (l := [(0, 0), (1, 0), (2, 0), (3, 0), (4, 0), (5, 0), (6, 0), (7, 0), (8, 0), (9, 1)]) (by decide +kernel) (by decide +kernel) (by exact rfl) ?_) | (show evC _ (.region 1 _ true) _ _ _; refine c_draw (l := [(0, 0), (1, 0), (2, 0), (3, 0), (4, 0), (5, 0), (6, 0), (7, 0), (8, 0), (9, 1)]) (by decide +kernel) (by decide +kernel) (by exact rfl) ?_) | refine std ?_)
    | (show Br _ _ _; first | refine Br.t rfl ?_ | refine Br.f rfl ?_ | refine brs ?_ | (first | refine Br.mkN (fun h => ?_) (fun h => ?_) | refine Br.mk (fun h => ?_) (fun h => ?_)) <;> (try (first | contradiction | (exfalso; omega) | (exfalso; simp at h; done))))
    | refine stp ?_)
  all_goals (show retC _ _ _ _ _ _; refine RETC ?_; exact ret_done (hK))
theorem bgrantB_ok (hn : 0 ≤ n ∧ n ≤ 2147483647) (hc0 : -1000000000000 ≤ cn0 ∧ cn0 ≤ 1000000000000) (hb0 : -1000000000000 ≤ b0 ∧ b0 ≤ 1000000000000) (hi0 : -1000000000000 ≤ it0 ∧ it0 ≤ 1000000000000) (hK : K (.tuple #[]) (pt x [.int .i64 cn0, .int .i64 (b0 + n), .int .i64 it0] 41 :: R)) : CallT Try.prog 16 #[.pointer (some ⟨x, 0, none⟩), .agg #[.int .i64 10, .int .i64 1, .bool e, .string d, .int .i64 k, .int .i64 on, .int .i64 w, .bool xx, .int .i64 c, .int .i64 la, .int .i64 n, .slice pa pn pc]] (pt x [.int .i64 cn0, .int .i64 b0, .int .i64 it0] 41 :: R) K := by
  refine callT_intro mixed Try.func16 rfl (by decide) (by decide +kernel) (by exact Nat.le_of_ble_eq_true rfl) ?_
  repeat' (first
    | (show evG _ _ _ _ _ _ _; first | refine G_add64 ?_ | refine G_pure0 ?_ | refine G_load ?_ | refine evG_nil ?_ | refine G_br ?_ ?_ | refine G_field ?_ | refine G_pure ?_ | refine G_store ?_ | refine G_loadV ?_ | refine G_loadV0 ?_ | refine G_loadV2 ?_ | refine G_cat ?_ | refine G_eql_agg ?_ | (refine G_box ?_; intro _))
    | (show spl _ _ _; first | refine spl_no rfl ?_ | refine spl_yes rfl ?_)
    | (show evC _ _ _ _ _; first | refine c_seq ?_ | refine c_region (by exact rfl) ?_ | refine c_cond (by exact rfl) ?_ | refine c_ret ?_ | refine c_skip ?_ | refine c_block ?_ | refine c_exit ?_ | (show evC _ (.region 3 _ true) _ _ _; refine c_draw (l := [(0, 0), (1, 0), (2, 0), (3, 0), (4, 0), (5, 0), (6, 0), (7, 0), (8, 0), (9, 1)]) (by decide +kernel) (by decide +kernel) (by exact rfl) ?_) | (show evC _ (.region 5 _ true) _ _ _; refine c_draw (l := [(0, 0), (1, 0), (2, 0), (3, 0), (4, 0), (5, 0), (6, 0), (7, 0), (8, 0), (9, 1)]) (by decide +kernel) (by decide +kernel) (by exact rfl) ?_) | (show evC _ (.region 1 _ true) _ _ _; refine c_draw (l := [(0, 0), (1, 0), (2, 0), (3, 0), (4, 0), (5, 0), (6, 0), (7, 0), (8, 0), (9, 1)]) (by decide +kernel) (by decide +kernel) (by exact rfl) ?_) | refine std ?_)
    | (show Br _ _ _; first | refine Br.t rfl ?_ | refine Br.f rfl ?_ | refine brs ?_ | (first | refine Br.mkN (fun h => ?_) (fun h => ?_) | refine Br.mk (fun h => ?_) (fun h => ?_)) <;> (try (first | contradiction | (exfalso; omega) | (exfalso; simp at h; done))))
    | refine stp ?_)
  all_goals (show retC _ _ _ _ _ _; refine RETC ?_; exact ret_done (hK))
theorem bgrantI_ok (hn : 0 ≤ n ∧ n ≤ 2147483647) (hc0 : -1000000000000 ≤ cn0 ∧ cn0 ≤ 1000000000000) (hb0 : -1000000000000 ≤ b0 ∧ b0 ≤ 1000000000000) (hi0 : -1000000000000 ≤ it0 ∧ it0 ≤ 1000000000000) (hK : K (.tuple #[]) (pt x [.int .i64 cn0, .int .i64 b0, .int .i64 (it0 + n)] 41 :: R)) : CallT Try.prog 16 #[.pointer (some ⟨x, 0, none⟩), .agg #[.int .i64 11, .int .i64 1, .bool e, .string d, .int .i64 k, .int .i64 on, .int .i64 w, .bool xx, .int .i64 c, .int .i64 la, .int .i64 n, .slice pa pn pc]] (pt x [.int .i64 cn0, .int .i64 b0, .int .i64 it0] 41 :: R) K := by
  refine callT_intro mixed Try.func16 rfl (by decide) (by decide +kernel) (by exact Nat.le_of_ble_eq_true rfl) ?_
  repeat' (first
    | (show evG _ _ _ _ _ _ _; first | refine G_add64 ?_ | refine G_pure0 ?_ | refine G_load ?_ | refine evG_nil ?_ | refine G_br ?_ ?_ | refine G_field ?_ | refine G_pure ?_ | refine G_store ?_ | refine G_loadV ?_ | refine G_loadV0 ?_ | refine G_loadV2 ?_ | refine G_cat ?_ | refine G_eql_agg ?_ | (refine G_box ?_; intro _))
    | (show spl _ _ _; first | refine spl_no rfl ?_ | refine spl_yes rfl ?_)
    | (show evC _ _ _ _ _; first | refine c_seq ?_ | refine c_region (by exact rfl) ?_ | refine c_cond (by exact rfl) ?_ | refine c_ret ?_ | refine c_skip ?_ | refine c_block ?_ | refine c_exit ?_ | (show evC _ (.region 3 _ true) _ _ _; refine c_draw (l := [(0, 0), (1, 0), (2, 0), (3, 0), (4, 0), (5, 0), (6, 0), (7, 0), (8, 0), (9, 1)]) (by decide +kernel) (by decide +kernel) (by exact rfl) ?_) | (show evC _ (.region 5 _ true) _ _ _; refine c_draw (l := [(0, 0), (1, 0), (2, 0), (3, 0), (4, 0), (5, 0), (6, 0), (7, 0), (8, 0), (9, 1)]) (by decide +kernel) (by decide +kernel) (by exact rfl) ?_) | (show evC _ (.region 1 _ true) _ _ _; refine c_draw (l := [(0, 0), (1, 0), (2, 0), (3, 0), (4, 0), (5, 0), (6, 0), (7, 0), (8, 0), (9, 1)]) (by decide +kernel) (by decide +kernel) (by exact rfl) ?_) | refine std ?_)
    | (show Br _ _ _; first | refine Br.t rfl ?_ | refine Br.f rfl ?_ | refine brs ?_ | (first | refine Br.mkN (fun h => ?_) (fun h => ?_) | refine Br.mk (fun h => ?_) (fun h => ?_)) <;> (try (first | contradiction | (exfalso; omega) | (exfalso; simp at h; done))))
    | refine stp ?_)
  all_goals (show retC _ _ _ _ _ _; refine RETC ?_; exact ret_done (hK))
end
end Go.Proofs.Ythoagholmkiknaa

