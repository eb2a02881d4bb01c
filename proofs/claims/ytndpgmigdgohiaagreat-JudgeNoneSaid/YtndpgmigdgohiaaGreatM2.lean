/- Outq: Push: lemmas; each with the conditions that it states. -/
import Derived.Test.YtndpgmigdgohiaaGreatFh
import Derived.Test.YtndpgmigdgohiaaGreatM1

namespace Go.Proofs.YtndpgmigdgohiaaGreat
open Go Go.Proofs Go.Sl
set_option maxRecDepth 100000
set_option maxHeartbeats 4000000
set_option linter.unusedSimpArgs false
set_option linter.unusedVariables false
attribute [local irreducible] evG evC spl thenC inBlockC noGotoC CallT retC RetG TurnG CutG pt ro exP star sep pureP
variable {R C : List HP} {K : Value → List HP → Prop}
theorem right_n {f : Fm} (h : chkF f = true) : 0 ≤ f.n ∧ f.n ≤ 2147483647 := by
  have := ((chkF_iff f).1 h).2.2.2.2.2.2.2.2.2.2.2.2.2.2.2.2.2.2.2.1
  exact (n31_iff _).1 this
theorem que_foldN {q n : Nat} {xs : List Fm} {A : Option Addr} {c : Nat} (h : xs.length = n) : Ent (pt q [.slice A n c] 220 :: row A c 136 fmC xs :: allP fmP xs :: R) (queP q xs :: R) := by
  subst h; exact que_fold
theorem row_enc {A : Option Addr} {c : Nat} {e : TypeId} {xs ys : List Fm} (h : xs.flatMap fmC.enc = ys.flatMap fmC.enc) (hl : xs.length = ys.length) (H : Hp) (hr : row A c e fmC xs H) : row A c e fmC ys H := by
  rcases hr with ⟨h1, h2, h3⟩ | ⟨B, pre, post, h1, h2, h3, h4⟩
  · subst h2
    exact .inl ⟨h1, List.length_eq_zero_iff.1 hl.symm, h3⟩
  · rw [h] at h2
    rw [hl] at h3 h4
    exact .inr ⟨B, pre, post, h1, h2, h3, h4⟩
theorem push_fold {q n : Nat} {xs : List Fm} {A : Option Addr} {c : Nat} (f0 f1 : Fm) (he : fmC.enc f0 = fmC.enc f1) (hn : n = (xs ++ [f0]).length) : Ent (pt q [.slice A n c] 220 :: row A c 136 fmC (xs ++ [f0]) :: rrow f1.pa prC f1.ps :: allP fmP xs :: R) (queP q (xs ++ [f1]) :: R) :=
  Ent.trans (Ent.cons (Ent.imp (row_enc (ys := xs ++ [f1]) (by simp [he]) (by simp)) (Ent.allsnoc (P := fmP) (x := f1) pers_fmP mono_fmP))) (que_foldN (by rw [hn]; simp))
theorem qlike_no {f : Fm} {xs : List Fm} (hb : ∀ z ∈ xs, likeB f z = false) {i : Nat} {z : Fm} (h : xs[i]? = some z) : likeB f z = false := hb z (List.mem_of_getElem? h)
theorem qpushP_ok {q : Nat} {f : Fm} {xs : List Fm} (hc : chkF f = true) (ht : 2 ≤ f.t) (hb : ∀ z ∈ xs, likeB f z = false) (h64 : xs.length < 64) (hv : View R f.pa prC f.ps) (hvn : f.ps.length = f.pn) (hK : ∀ A' c', K (.int .i64 0) (queP q (xs ++ [⟨f.t, f.st, f.e, f.d, f.k, f.on, f.w, f.x, f.c, f.la, f.n, A', f.ps.length, c', f.ps⟩]) :: R)) : CallT Tryz.prog 65 #[.pointer (some ⟨q, 0, none⟩), .agg #[.int .i64 f.t, .int .i64 f.st, .bool f.e, .string f.d, .int .i64 f.k, .int .i64 f.on, .int .i64 f.w, .bool f.x, .int .i64 f.c, .int .i64 f.la, .int .i64 f.n, .slice f.pa f.pn f.pc]] (queP q xs :: R) K := by
  have hnn := right_n hc
  have hn8 : f.ps.length ≤ 8 := ((chkF_iff f).1 hc).2.2.2.2.2.2.2.2.2.2.2.2.2.2.2.2.2.2.2.2
  have hn2 : f.pn < 1000000000000000 := by omega
  unfold chkF at hc
  refine que_open fun A c => ?_
  refine callT_intro mixed Tryz.func65 rfl (by decide) (by decide +kernel) (by exact Nat.le_of_ble_eq_true rfl) ?_
  repeat' (first
    | (show evG _ _ _ _ _ _ _; first | refine G_add64 ?_ | refine G_pure0 ?_ | refine G_load ?_ | refine evG_nil ?_ | refine G_br ?_ ?_ | refine G_field ?_ | refine G_pure ?_ | refine G_store ?_ | refine G_loadV ?_ | refine G_loadV0 ?_ | refine G_loadV2 ?_ | (refine G_append ?_; intro _ _) | (refine G_appendN ?_; intro _ _) | refine G_index ?_ | refine G_indexA ?_ | refine G_cat ?_ | refine G_eql_agg ?_ | refine G_neq_agg ?_ | refine G_call ?_ | refine G_call0 ?_ | refine G_callv ?_ | refine G_callv0 ?_ | (refine G_box ?_; intro _) | (refine G_alloc ?_; intro _) | (refine G_buildSlice ?_; intro _) | (refine G_indexV ?_; intro _ _ hA; subst hA) | refine G_skip ?_ | refine G_skip0 ?_)
    | (show spl _ _ _; first | refine spl_no rfl ?_ | refine spl_yes rfl ?_)
    | (show evC _ _ _ _ _; first | refine c_seq ?_ | refine c_region (by exact rfl) ?_ | refine c_cond (by exact rfl) ?_ | refine c_ret ?_ | refine c_skip ?_ | refine c_block ?_ | refine c_exit ?_ | (show evC _ (.region 12 _ true) _ _ _; refine c_draw (l := [(0, 0), (1, 0), (2, 0), (3, 0), (4, 0), (5, 0), (6, 0), (7, 0), (8, 0), (9, 0), (10, 0), (11, 0), (12, 0), (13, 1)]) (by decide +kernel) (by decide +kernel) (by exact rfl) ?_) | (show evC _ (.region 18 _ true) _ _ _; refine c_draw (l := [(5, 0), (6, 1), (1, 1), (2, 1), (3, 1), (4, 1), (7, 1), (0, 2), (8, 0), (9, 0), (10, 1)]) (by decide +kernel) (by decide +kernel) (by exact rfl) ?_) | refine std ?_)
    | (show Br _ _ _; first | refine Br.t rfl ?_ | refine Br.f rfl ?_ | refine brs ?_ | (first | refine Br.mkN (fun h => ?_) (fun h => ?_) | refine Br.mk (fun h => ?_) (fun h => ?_)) <;> (try (first | contradiction | (exfalso; omega) | (exfalso; simp at h; done))))
    | refine stp ?_
    | (show CallT _ 70 _ _ _; refine CA (h := checkA_ok (ps := f.ps) hc (by exact viewA) hvn hn2 ?_)))
  rename_i r _
  refine LOOP (fun m a C' => ∃ i : Nat, i + m = xs.length ∧ C' = pt r [.int .i64 f.t, .int .i64 f.st, .bool f.e, .string f.d, .int .i64 f.k, .int .i64 f.on, .int .i64 f.w, .bool f.x, .int .i64 f.c, .int .i64 f.la, .int .i64 f.n, .slice f.pa f.pn f.pc] 136 :: pt q [.slice A xs.length c] 220 :: row A c 136 fmC xs :: allP fmP xs :: R ∧ Agree a [(0, .pointer (some ⟨q, 0, none⟩)), (3, .pointer (some ⟨r, 0, none⟩)), (4, .int .i64 0), (5, .func (.func 139) #[] #[.pointer (some ⟨r, 0, none⟩)]), (28, .slice A xs.length c), (29, .int .i64 xs.length), (30, .int .i64 i)]) xs.length (turn xs.length ⟨0, by omega, rfl, rfl, rfl, rfl, rfl, rfl, rfl, rfl, trivial⟩) ?_
  rintro n1 a C' ⟨i, hi, rfl, ha⟩
  refine c_fr _ ha ?_
  simp only [updL]
  by_cases hlt : i < xs.length
  · obtain ⟨z, hz, hd⟩ := at_drop (l := xs) (j := i) (by omega)
    have hzl := qlike_no hb hz
    repeat' (first
      | (show evG _ _ _ _ _ _ _; first | refine G_add64 ?_ | refine G_pure0 ?_ | refine G_load ?_ | refine evG_nil ?_ | refine G_br ?_ ?_ | refine G_field ?_ | refine G_pure ?_ | refine G_store ?_ | refine G_loadV ?_ | refine G_loadV0 ?_ | refine G_loadV2 ?_ | (refine G_append ?_; intro _ _) | (refine G_appendN ?_; intro _ _) | refine G_index ?_ | refine G_indexA ?_ | refine G_cat ?_ | refine G_eql_agg ?_ | refine G_neq_agg ?_ | refine G_call ?_ | refine G_call0 ?_ | refine G_callv ?_ | refine G_callv0 ?_ | (refine G_box ?_; intro _) | (refine G_alloc ?_; intro _) | (refine G_buildSlice ?_; intro _) | (refine G_indexV ?_; intro _ _ hA; subst hA) | refine G_skip ?_ | refine G_skip0 ?_)
      | (show spl _ _ _; first | refine spl_no rfl ?_ | refine spl_yes rfl ?_)
      | (show evC _ _ _ _ _; first | refine c_seq ?_ | refine c_region (by exact rfl) ?_ | refine c_cond (by exact rfl) ?_ | refine c_ret ?_ | refine c_skip ?_ | refine c_block ?_ | refine c_exit ?_ | (show evC _ (.region 12 _ true) _ _ _; refine c_draw (l := [(0, 0), (1, 0), (2, 0), (3, 0), (4, 0), (5, 0), (6, 0), (7, 0), (8, 0), (9, 0), (10, 0), (11, 0), (12, 0), (13, 1)]) (by decide +kernel) (by decide +kernel) (by exact rfl) ?_) | (show evC _ (.region 18 _ true) _ _ _; refine c_draw (l := [(5, 0), (6, 1), (1, 1), (2, 1), (3, 1), (4, 1), (7, 1), (0, 2), (8, 0), (9, 0), (10, 1)]) (by decide +kernel) (by decide +kernel) (by exact rfl) ?_) | refine std ?_)
      | (show Br _ _ _; first | refine Br.t rfl ?_ | refine Br.f rfl ?_ | refine brs ?_ | (first | refine Br.mkN (fun h => ?_) (fun h => ?_) | refine Br.mk (fun h => ?_) (fun h => ?_)) <;> (try (first | contradiction | (exfalso; omega) | (exfalso; simp at h; done))))
      | refine stp ?_
      | (show CallT _ 139 _ _ _; refine CA (h := qlike_ok hnn ?_)))
    all_goals exact turn (n1 - 1) ⟨i + 1, by omega, rfl, rfl, rfl, rfl, rfl, rfl, rfl, rfl, trivial⟩
  · repeat' (first
      | (show evG _ _ _ _ _ _ _; first | refine G_add64 ?_ | refine G_pure0 ?_ | refine G_load ?_ | refine evG_nil ?_ | refine G_br ?_ ?_ | refine G_field ?_ | refine G_pure ?_ | refine G_store ?_ | refine G_loadV ?_ | refine G_loadV0 ?_ | refine G_loadV2 ?_ | (refine G_append ?_; intro _ _) | (refine G_appendN ?_; intro _ _) | refine G_index ?_ | refine G_indexA ?_ | refine G_cat ?_ | refine G_eql_agg ?_ | refine G_neq_agg ?_ | refine G_call ?_ | refine G_call0 ?_ | refine G_callv ?_ | refine G_callv0 ?_ | (refine G_box ?_; intro _) | (refine G_alloc ?_; intro _) | (refine G_buildSlice ?_; intro _) | (refine G_indexV ?_; intro _ _ hA; subst hA) | refine G_skip ?_ | refine G_skip0 ?_)
      | (show spl _ _ _; first | refine spl_no rfl ?_ | refine spl_yes rfl ?_)
      | (show evC _ _ _ _ _; first | refine c_seq ?_ | refine c_region (by exact rfl) ?_ | refine c_cond (by exact rfl) ?_ | refine c_ret ?_ | refine c_skip ?_ | refine c_block ?_ | refine c_exit ?_ | (show evC _ (.region 12 _ true) _ _ _; refine c_draw (l := [(0, 0), (1, 0), (2, 0), (3, 0), (4, 0), (5, 0), (6, 0), (7, 0), (8, 0), (9, 0), (10, 0), (11, 0), (12, 0), (13, 1)]) (by decide +kernel) (by decide +kernel) (by exact rfl) ?_) | (show evC _ (.region 18 _ true) _ _ _; refine c_draw (l := [(5, 0), (6, 1), (1, 1), (2, 1), (3, 1), (4, 1), (7, 1), (0, 2), (8, 0), (9, 0), (10, 1)]) (by decide +kernel) (by decide +kernel) (by exact rfl) ?_) | refine std ?_)
      | (show Br _ _ _; first | refine Br.t rfl ?_ | refine Br.f rfl ?_ | refine brs ?_ | (first | refine Br.mkN (fun h => ?_) (fun h => ?_) | refine Br.mk (fun h => ?_) (fun h => ?_)) <;> (try (first | contradiction | (exfalso; omega) | (exfalso; simp at h; done))))
      | refine stp ?_
      | (show evG _ _ _ _ _ _ _; first | (refine G_appendU ?_; intro _ _) | (refine G_appendNU ?_; intro _ _)))
    refine RETC ?_
    exact ret_of (row_freeze (E := prC) (xs := f.ps) (by ((repeat (first | exact Pick.here | apply Pick.there)) <;> exact Pick.here)) (Ent.trans (by exact entA) (push_fold ⟨f.t, f.st, f.e, f.d, f.k, f.on, f.w, f.x, f.c, f.la, f.n, _, f.ps.length, _, []⟩ ⟨f.t, f.st, f.e, f.d, f.k, f.on, f.w, f.x, f.c, f.la, f.n, _, f.ps.length, _, f.ps⟩ rfl rfl))) (hK _ _)
end Go.Proofs.YtndpgmigdgohiaaGreat

