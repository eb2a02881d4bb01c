/- Sniff: a stream that is opened; what must come at any rate: lemmas; each with the conditions that it states. -/
import Derived.Test.YthoagholmkiknaaFh
import Derived.Test.YthoagholmkiknaaSd
import Derived.Test.YthoagholmkiknaaS8

namespace Go.Proofs.Ythoagholmkiknaa
open Go Go.Proofs Go.Sl
set_option maxRecDepth 100000
set_option maxHeartbeats 4000000
set_option linter.unusedSimpArgs false
set_option linter.unusedVariables false
attribute [local irreducible] evG evC spl thenC inBlockC noGotoC CallT retC RetG TurnG CutG pt ro exP star sep pureP
attribute [local irreducible] mp mit
variable {R C : List HP} {K : Value → List HP → Prop}
theorem pF_op1 : (pF (frB 2 1 false ⟨#[]⟩ 1 0 1 false 0 0 0 []).data.toList).1.map cfr = [⟨2, 1, false, ⟨#[]⟩, 1, 0, 1, false, 0, 0, 0, none, 0, 0, []⟩] := by kernel_rfl
theorem pF_op2 : (pF (frB 2 1 false ⟨#[]⟩ 1 0 1 false 0 0 0 []).data.toList).2 = ([], 0) := by decide +kernel
theorem op_size : (frB 2 1 false ⟨#[]⟩ 1 0 1 false 0 0 0 []).size = 17 := by decide +kernel

section
variable {x q i0 i1 s0 s1 m : Nat} {cn0 cn1 : Int} {pa : Option Addr} {pc : Nat}
theorem feedO_ok {y : Nat} (hK : ∀ F cF pa pc, K (.tuple #[.slice F 1 cF, .int .i64 0]) (row F cF 38 fmC [⟨2, 1, false, ⟨#[]⟩, 1, 0, 1, false, 0, 0, 0, pa, 0, pc, []⟩] :: spP y [] 0 :: R)) : CallT Try.prog 22 #[.pointer (some ⟨y, 0, none⟩), .string (frB 2 1 false ⟨#[]⟩ 1 0 1 false 0 0 0 [])] (spP y [] 0 :: R) K := by
  have h1 := pF_op1
  have h2 := pF_op2
  have hz := op_size
  generalize (frB 2 1 false ⟨#[]⟩ 1 0 1 false 0 0 0 []) = B at h1 h2 hz ⊢
  have h3 : (pF B.data.toList).2.1 = [] := by rw [h2]
  have h4 : (pF B.data.toList).2.2 = 0 := by rw [h2]
  refine CallT.entK (feed_ok (ks := []) (by simp; omega) fun F cF fs hfs => ?_)
  rw [List.nil_append] at hfs ⊢
  rw [h1] at hfs
  rw [h3, h4]
  match fs, hfs with
  | [⟨t', st', e', d', k', on', w', x', c', la', n', pa, pn, pc, ps'⟩], hfs =>
    simp only [List.map_cons, List.map_nil, coreF, List.cons.injEq, Fm.mk.injEq, and_true, true_and] at hfs
    obtain ⟨rfl, rfl, rfl, rfl, rfl, rfl, rfl, rfl, rfl, rfl, rfl, rfl, rfl⟩ := hfs
    exact ⟨_, Ent.pick Pick.here (Ent.drop (Ent.refl _)), hK F cF pa pc⟩
theorem sfrO_ok (hK : ∀ q, K (.slice none 0 0) (pt x [.pointer (some ⟨i0, 0, none⟩), .pointer (some ⟨i1, 0, none⟩), .slice (some ⟨s0, 0, none⟩) 1 1, .slice (some ⟨s1, 0, none⟩) 1 1, .int .i64 0, .int .i64 0, .int .i64 cn0, .int .i64 cn1, .map (some m)] 55 :: pt s0 [.int .i64 64, .int .i64 8, .int .i64 4] 58 :: pt s1 [.int .i64 64, .int .i64 8, .int .i64 4] 58 :: mp m [⟨1, .pointer (some ⟨q, 0, none⟩), 0⟩] 1 :: pt q [.int .i64 64, .int .i64 64, .int .i64 0, .int .i64 0, .int .i64 1, .int .i64 1] 70 :: R)) : CallT Try.prog 23 #[.pointer (some ⟨x, 0, none⟩), .int .i64 0, .agg #[.int .i64 2, .int .i64 1, .bool false, .string ⟨#[]⟩, .int .i64 1, .int .i64 0, .int .i64 1, .bool false, .int .i64 0, .int .i64 0, .int .i64 0, .slice pa 0 pc]] (pt x [.pointer (some ⟨i0, 0, none⟩), .pointer (some ⟨i1, 0, none⟩), .slice (some ⟨s0, 0, none⟩) 1 1, .slice (some ⟨s1, 0, none⟩) 1 1, .int .i64 0, .int .i64 0, .int .i64 cn0, .int .i64 cn1, .map (some m)] 55 :: pt s0 [.int .i64 64, .int .i64 8, .int .i64 4] 58 :: pt s1 [.int .i64 64, .int .i64 8, .int .i64 4] 58 :: mp m [] 0 :: R) K := by
  refine callT_intro mixed Try.func23 rfl (by decide) (by decide +kernel) (by exact Nat.le_of_ble_eq_true rfl) ?_
  repeat' (first
    | (show evG _ _ _ _ _ _ _; first | refine G_pure0 ?_ | refine G_load ?_ | refine evG_nil ?_ | refine G_br ?_ ?_ | refine G_field ?_ | refine G_pure ?_ | refine G_loadV ?_ | refine G_loadV0 ?_ | refine G_loadV2 ?_ | refine G_eql_agg ?_ | refine G_call ?_ | refine G_call0 ?_ | (refine G_box ?_; intro _))
    | (show spl _ _ _; first | refine spl_no rfl ?_ | refine spl_yes rfl ?_)
    | (show evC _ _ _ _ _; first | refine c_seq ?_ | refine c_region (by exact rfl) ?_ | refine c_cond (by exact rfl) ?_ | refine c_ret ?_ | refine c_skip ?_ | refine c_block ?_ | refine c_exit ?_ | refine std ?_)
    | (show Br _ _ _; first | refine Br.t rfl ?_ | refine Br.f rfl ?_ | refine brs ?_ | (first | refine Br.mkN (fun h => ?_) (fun h => ?_) | refine Br.mk (fun h => ?_) (fun h => ?_)) <;> (try (first | contradiction | (exfalso; omega) | (exfalso; simp at h; done))))
    | refine stp ?_
    | (show CallT _ 35 _ _ _; refine CA (h := sopen_ok (fun q => ?_))))
  all_goals (show retC _ _ _ _ _ _; refine RETC ?_; exact ret_done (hK _))
theorem seeO_ok (hK : ∀ q A c, K (.slice A 0 c) (pt x [.pointer (some ⟨i0, 0, none⟩), .pointer (some ⟨i1, 0, none⟩), .slice (some ⟨s0, 0, none⟩) 1 1, .slice (some ⟨s1, 0, none⟩) 1 1, .int .i64 0, .int .i64 0, .int .i64 cn0, .int .i64 cn1, .map (some m)] 55 :: pt s0 [.int .i64 64, .int .i64 8, .int .i64 4] 58 :: pt s1 [.int .i64 64, .int .i64 8, .int .i64 4] 58 :: mp m [⟨1, .pointer (some ⟨q, 0, none⟩), 0⟩] 1 :: pt q [.int .i64 64, .int .i64 64, .int .i64 0, .int .i64 0, .int .i64 1, .int .i64 1] 70 :: spP i0 [] 0 :: R)) : CallT Try.prog 8 #[.pointer (some ⟨x, 0, none⟩), .int .i64 0, .string (frB 2 1 false ⟨#[]⟩ 1 0 1 false 0 0 0 [])] (pt x [.pointer (some ⟨i0, 0, none⟩), .pointer (some ⟨i1, 0, none⟩), .slice (some ⟨s0, 0, none⟩) 1 1, .slice (some ⟨s1, 0, none⟩) 1 1, .int .i64 0, .int .i64 0, .int .i64 cn0, .int .i64 cn1, .map (some m)] 55 :: pt s0 [.int .i64 64, .int .i64 8, .int .i64 4] 58 :: pt s1 [.int .i64 64, .int .i64 8, .int .i64 4] 58 :: mp m [] 0 :: spP i0 [] 0 :: R) K := by
  refine callT_intro mixed Try.func8 rfl (by decide) (by decide +kernel) (by exact Nat.le_of_ble_eq_true rfl) ?_
  repeat' (first
    | (show evG _ _ _ _ _ _ _; first | refine G_add64 ?_ | refine G_pure0 ?_ | refine G_load ?_ | refine evG_nil ?_ | refine G_br ?_ ?_ | refine G_field ?_ | refine G_pure ?_ | refine G_store ?_ | refine G_loadV ?_ | refine G_loadV0 ?_ | refine G_loadV2 ?_ | (refine G_append ?_; intro _ _) | (refine G_appendN ?_; intro _ _) | refine G_not ?_ | refine G_index ?_ | refine G_indexA ?_ | refine G_cat ?_ | refine G_eql_agg ?_ | refine G_neq_agg ?_ | refine G_call ?_ | refine G_call0 ?_ | (refine G_alloc ?_; intro _) | (refine G_buildSlice ?_; intro _) | (refine G_indexV ?_; intro _ _ hA; subst hA) | refine G_skip ?_ | refine G_skip0 ?_)
    | (show spl _ _ _; first | refine spl_no rfl ?_ | refine spl_yes rfl ?_)
    | (show evC _ _ _ _ _; first | refine c_seq ?_ | refine c_region (by exact rfl) ?_ | refine c_cond (by exact rfl) ?_ | refine c_ret ?_ | refine c_skip ?_ | refine c_block ?_ | refine c_exit ?_ | refine std ?_)
    | (show Br _ _ _; first | refine Br.t rfl ?_ | refine Br.f rfl ?_ | refine brs ?_ | (first | refine Br.mkN (fun h => ?_) (fun h => ?_) | refine Br.mk (fun h => ?_) (fun h => ?_)) <;> (try (first | contradiction | (exfalso; omega) | (exfalso; simp at h; done))))
    | refine stp ?_
    | (show CallT _ 20 _ _ _; refine CA (h := sright_ok ?_))
    | (show CallT _ 21 _ _ _; refine CA (h := broken_ok ?_))
    | (show CallT _ 22 _ _ _; refine CA (h := feedO_ok (fun F cF pa pc => ?_))))
  refine LOOP (fun kk a C' => ∃ j : Nat, j + kk = 1 ∧ ((j = 0 ∧ Agree a [(0, .pointer (some ⟨x, 0, none⟩)), (1, .int .i64 0), (7, .slice none 0 0), (9, .int .i64 0), (40, .slice F 1 cF), (41, .int .i64 1), (42, .int .i64 j)] ∧ C' = pt x [.pointer (some ⟨i0, 0, none⟩), .pointer (some ⟨i1, 0, none⟩), .slice (some ⟨s0, 0, none⟩) 1 1, .slice (some ⟨s1, 0, none⟩) 1 1, .int .i64 0, .int .i64 0, .int .i64 cn0, .int .i64 cn1, .map (some m)] 55 :: pt s0 [.int .i64 64, .int .i64 8, .int .i64 4] 58 :: pt s1 [.int .i64 64, .int .i64 8, .int .i64 4] 58 :: mp m [] 0 :: spP i0 [] 0 :: row F cF 38 fmC [⟨2, 1, false, ⟨#[]⟩, 1, 0, 1, false, 0, 0, 0, pa, 0, pc, []⟩] :: R) ∨ (j = 1 ∧ ∃ q A c, Agree a [(0, .pointer (some ⟨x, 0, none⟩)), (1, .int .i64 0), (7, .slice A 0 c), (9, .int .i64 0), (40, .slice F 1 cF), (41, .int .i64 1), (42, .int .i64 j)] ∧ C' = pt x [.pointer (some ⟨i0, 0, none⟩), .pointer (some ⟨i1, 0, none⟩), .slice (some ⟨s0, 0, none⟩) 1 1, .slice (some ⟨s1, 0, none⟩) 1 1, .int .i64 0, .int .i64 0, .int .i64 cn0, .int .i64 cn1, .map (some m)] 55 :: pt s0 [.int .i64 64, .int .i64 8, .int .i64 4] 58 :: pt s1 [.int .i64 64, .int .i64 8, .int .i64 4] 58 :: mp m [⟨1, .pointer (some ⟨q, 0, none⟩), 0⟩] 1 :: pt q [.int .i64 64, .int .i64 64, .int .i64 0, .int .i64 0, .int .i64 1, .int .i64 1] 70 :: spP i0 [] 0 :: R))) 1 (turn 1 ⟨0, by omega, .inl ⟨rfl, ⟨rfl, rfl, rfl, rfl, rfl, rfl, rfl, trivial⟩, rfl⟩⟩ (by omega)) ?_
  rintro kk a C' ⟨j, hj, hc⟩
  rcases hc with ⟨rfl, ha, rfl⟩ | ⟨rfl, q, A, c, ha, rfl⟩
  · refine c_fr _ ha ?_
    simp only [updL]
    repeat' (first
      | (show evG _ _ _ _ _ _ _; first | refine G_add64 ?_ | refine G_pure0 ?_ | refine G_load ?_ | refine evG_nil ?_ | refine G_br ?_ ?_ | refine G_field ?_ | refine G_pure ?_ | refine G_store ?_ | refine G_loadV ?_ | refine G_loadV0 ?_ | refine G_loadV2 ?_ | (refine G_append ?_; intro _ _) | (refine G_appendN ?_; intro _ _) | refine G_not ?_ | refine G_index ?_ | refine G_indexA ?_ | refine G_cat ?_ | refine G_eql_agg ?_ | refine G_neq_agg ?_ | refine G_call ?_ | refine G_call0 ?_ | (refine G_alloc ?_; intro _) | (refine G_buildSlice ?_; intro _) | (refine G_indexV ?_; intro _ _ hA; subst hA) | refine G_skip ?_ | refine G_skip0 ?_)
      | (show spl _ _ _; first | refine spl_no rfl ?_ | refine spl_yes rfl ?_)
      | (show evC _ _ _ _ _; first | refine c_seq ?_ | refine c_region (by exact rfl) ?_ | refine c_cond (by exact rfl) ?_ | refine c_ret ?_ | refine c_skip ?_ | refine c_block ?_ | refine c_exit ?_ | refine std ?_)
      | (show Br _ _ _; first | refine Br.t rfl ?_ | refine Br.f rfl ?_ | refine brs ?_ | (first | refine Br.mkN (fun h => ?_) (fun h => ?_) | refine Br.mk (fun h => ?_) (fun h => ?_)) <;> (try (first | contradiction | (exfalso; omega) | (exfalso; simp at h; done))))
      | refine stp ?_
      | (show CallT _ 23 _ _ _; refine CA (h := sfrO_ok (fun q => ?_)))
      | (show evG _ _ _ _ _ _ _; refine G_appendN (E := siC) (ys := []) (hsrc := src_view (fun _ _ => .inl rfl) rfl) ?_; intro _ _))
    all_goals (show TurnG _ _ _ _; exact turn 0 ⟨1, by omega, .inr ⟨rfl, _, _, _, ⟨rfl, rfl, rfl, rfl, rfl, rfl, rfl, trivial⟩, rfl⟩⟩)
  · refine c_fr _ ha ?_
    simp only [updL]
    repeat' (first
      | (show evG _ _ _ _ _ _ _; first | refine G_add64 ?_ | refine G_pure0 ?_ | refine G_load ?_ | refine evG_nil ?_ | refine G_br ?_ ?_ | refine G_field ?_ | refine G_pure ?_ | refine G_store ?_ | refine G_loadV ?_ | refine G_loadV0 ?_ | refine G_loadV2 ?_ | (refine G_append ?_; intro _ _) | (refine G_appendN ?_; intro _ _) | refine G_not ?_ | refine G_index ?_ | refine G_indexA ?_ | refine G_cat ?_ | refine G_eql_agg ?_ | refine G_neq_agg ?_ | refine G_call ?_ | refine G_call0 ?_ | (refine G_alloc ?_; intro _) | (refine G_buildSlice ?_; intro _) | (refine G_indexV ?_; intro _ _ hA; subst hA) | refine G_skip ?_ | refine G_skip0 ?_)
      | (show spl _ _ _; first | refine spl_no rfl ?_ | refine spl_yes rfl ?_)
      | (show evC _ _ _ _ _; first | refine c_seq ?_ | refine c_region (by exact rfl) ?_ | refine c_cond (by exact rfl) ?_ | refine c_ret ?_ | refine c_skip ?_ | refine c_block ?_ | refine c_exit ?_ | refine std ?_)
      | (show Br _ _ _; first | refine Br.t rfl ?_ | refine Br.f rfl ?_ | refine brs ?_ | (first | refine Br.mkN (fun h => ?_) (fun h => ?_) | refine Br.mk (fun h => ?_) (fun h => ?_)) <;> (try (first | contradiction | (exfalso; omega) | (exfalso; simp at h; done))))
      | refine stp ?_)
    all_goals (show retC _ _ _ _ _ _; refine RETC ?_; exact ret_done (hK _ _ _))
end
end Go.Proofs.Ythoagholmkiknaa

