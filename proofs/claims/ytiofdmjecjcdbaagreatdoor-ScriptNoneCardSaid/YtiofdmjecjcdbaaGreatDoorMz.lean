/- Outq: its small functions; what waits. Outq: Push. Conn: settings that are told: lemmas; each with the conditions that it states. -/
import Derived.Test.YtiofdmjecjcdbaaGreatDoorFh
import Derived.Test.YtiofdmjecjcdbaaGreatDoorKz
import Derived.Test.YtiofdmjecjcdbaaGreatDoorFg
import Derived.Test.YtiofdmjecjcdbaaGreatDoorZ2

namespace Go.Proofs.YtiofdmjecjcdbaaGreatDoor
open Go Go.Proofs Go.Sl
set_option maxRecDepth 100000
set_option maxHeartbeats 4000000
set_option linter.unusedSimpArgs false
set_option linter.unusedVariables false
attribute [local irreducible] evG evC spl thenC inBlockC noGotoC CallT retC RetG TurnG CutG pt ro exP star sep pureP
variable {R C : List HP} {K : Value → List HP → Prop}
/-- a queue: its slice, its row, and what its frames' settings are -/
def queP (q : Nat) (xs : List Fm) : HP := exP fun A => exP fun c => sep (pt q [.slice A xs.length c] 266) (sep (row A c 214 fmC xs) (allP fmP xs))
theorem que_fold {q : Nat} {xs : List Fm} {A : Option Addr} {c : Nat} : Ent (pt q [.slice A xs.length c] 266 :: row A c 214 fmC xs :: allP fmP xs :: R) (queP q xs :: R) :=
  Ent.ex A (Ent.ex c (Ent.sep (Ent.pick Pick.here (Ent.sep (Ent.pick Pick.here (Ent.pick Pick.here (Ent.refl _)))))))
theorem que_open {f : FuncId} {args : Array Value} {q : Nat} {xs : List Fm} (h : ∀ A c, CallT Tryz.prog f args (pt q [.slice A xs.length c] 266 :: row A c 214 fmC xs :: allP fmP xs :: R) K) : CallT Tryz.prog f args (queP q xs :: R) K :=
  CallT.ex fun A => CallT.ex fun c => CallT.sep (CallT.ent (Ent.cons Ent.unsep) (h A c))
theorem qnew_ok (hK : ∀ q, K (.pointer (some ⟨q, 0, none⟩)) (queP q [] :: R)) : CallT Tryz.prog 107 #[] R K := by
  refine callT_intro mixed Tryz.func107 rfl (by decide) (by decide +kernel) (by exact Nat.le_of_ble_eq_true rfl) ?_
  repeat' (first
    | (show evG _ _ _ _ _ _ _; first | refine G_pure0 ?_ | refine evG_nil ?_ | refine G_br ?_ ?_ | refine G_pure ?_ | refine G_build ?_ | (refine G_box ?_; intro _))
    | (show spl _ _ _; first | refine spl_no rfl ?_ | refine spl_yes rfl ?_)
    | (show evC _ _ _ _ _; first | refine c_seq ?_ | refine c_region (by exact rfl) ?_ | refine c_cond (by exact rfl) ?_ | refine c_ret ?_ | refine c_skip ?_ | refine c_block ?_ | refine c_exit ?_ | refine std ?_)
    | (show Br _ _ _; first | refine Br.t rfl ?_ | refine Br.f rfl ?_ | refine brs ?_ | (first | refine Br.mkN (fun h => ?_) (fun h => ?_) | refine Br.mk (fun h => ?_) (fun h => ?_)) <;> (try (first | contradiction | (exfalso; omega) | (exfalso; simp at h; done))))
    | refine stp ?_)
  refine RETC ?_
  refine ret_of ?_ (hK _)
  exact Ent.trans (Ent.pick Pick.here (Ent.nilrow' (Ent.allnil (Ent.refl _)))) (que_fold (A := none) (c := 0) (xs := []))
theorem grants_ok {t st : Int} {e : Bool} {d : ByteArray} {k on w : Int} {x : Bool} {c la n : Int} {pa : Option Addr} {pn pc : Nat} (hK : K (.bool (decide (t = 10) || decide (t = 11))) R) : CallT Tryz.prog 167 #[.agg #[.int .i64 t, .int .i64 st, .bool e, .string d, .int .i64 k, .int .i64 on, .int .i64 w, .bool x, .int .i64 c, .int .i64 la, .int .i64 n, .slice pa pn pc]] R K := by
  refine callT_intro mixed Tryz.func167 rfl (by decide) (by decide +kernel) (by exact Nat.le_of_ble_eq_true rfl) ?_
  repeat' (first
    | (show evG _ _ _ _ _ _ _; first | refine G_pure0 ?_ | refine G_load ?_ | refine evG_nil ?_ | refine G_br ?_ ?_ | refine G_field ?_ | refine G_pure ?_ | refine G_loadV ?_ | refine G_loadV0 ?_ | refine G_loadV2 ?_ | refine G_eql_agg ?_ | (refine G_box ?_; intro _) | refine G_skip ?_ | refine G_skip0 ?_)
    | (show spl _ _ _; first | refine spl_no rfl ?_ | refine spl_yes rfl ?_)
    | (show evC _ _ _ _ _; first | refine c_seq ?_ | refine c_region (by exact rfl) ?_ | refine c_cond (by exact rfl) ?_ | refine c_ret ?_ | refine c_skip ?_ | refine c_block ?_ | refine c_exit ?_ | refine std ?_)
    | (show Br _ _ _; first | refine Br.t rfl ?_ | refine Br.f rfl ?_ | refine brs ?_ | (first | refine Br.mkN (fun h => ?_) (fun h => ?_) | refine Br.mk (fun h => ?_) (fun h => ?_)) <;> (try (first | contradiction | (exfalso; omega) | (exfalso; simp at h; done))))
    | refine stp ?_)
  all_goals (show retC _ _ _ _ _ _; refine RETC ?_; exact ret_done (kb hK (by simp [*])))
/-- may frame x take what frame f grants? -/
def likeB (f x : Fm) : Bool := (decide (f.t = 10) || decide (f.t = 11)) && decide (x.t = f.t) && decide (x.st = f.st) && decide (x.n ≤ 2147483647 - f.n)
theorem qlike_ok {f x : Fm} {r : Nat} (hf : 0 ≤ f.n ∧ f.n ≤ 2147483647) (hK : K (.bool (likeB f x)) (pt r [.int .i64 f.t, .int .i64 f.st, .bool f.e, .string f.d, .int .i64 f.k, .int .i64 f.on, .int .i64 f.w, .bool f.x, .int .i64 f.c, .int .i64 f.la, .int .i64 f.n, .slice f.pa f.pn f.pc] 214 :: R)) : CallT Tryz.prog 166 #[.agg #[.int .i64 x.t, .int .i64 x.st, .bool x.e, .string x.d, .int .i64 x.k, .int .i64 x.on, .int .i64 x.w, .bool x.x, .int .i64 x.c, .int .i64 x.la, .int .i64 x.n, .slice x.pa x.pn x.pc], .pointer (some ⟨r, 0, none⟩)] (pt r [.int .i64 f.t, .int .i64 f.st, .bool f.e, .string f.d, .int .i64 f.k, .int .i64 f.on, .int .i64 f.w, .bool f.x, .int .i64 f.c, .int .i64 f.la, .int .i64 f.n, .slice f.pa f.pn f.pc] 214 :: R) K := by
  refine callT_intro mixed Tryz.func166 rfl (by decide) (by decide +kernel) (by exact Nat.le_of_ble_eq_true rfl) ?_
  repeat' (first
    | (show evG _ _ _ _ _ _ _; first | refine G_sub64 ?_ | refine G_pure0 ?_ | refine G_load ?_ | refine evG_nil ?_ | refine G_br ?_ ?_ | refine G_field ?_ | refine G_pure ?_ | refine G_loadV ?_ | refine G_loadV0 ?_ | refine G_loadV2 ?_ | refine G_eql_agg ?_ | refine G_call ?_ | refine G_call0 ?_ | (refine G_box ?_; intro _) | refine G_skip ?_ | refine G_skip0 ?_)
    | (show spl _ _ _; first | refine spl_no rfl ?_ | refine spl_yes rfl ?_)
    | (show evC _ _ _ _ _; first | refine c_seq ?_ | refine c_region (by exact rfl) ?_ | refine c_cond (by exact rfl) ?_ | refine c_ret ?_ | refine c_skip ?_ | refine c_block ?_ | refine c_exit ?_ | refine std ?_)
    | (show Br _ _ _; first | refine Br.t rfl ?_ | refine Br.f rfl ?_ | refine brs ?_ | (first | refine Br.mkN (fun h => ?_) (fun h => ?_) | refine Br.mk (fun h => ?_) (fun h => ?_)) <;> (try (first | contradiction | (exfalso; omega) | (exfalso; simp at h; done))))
    | refine stp ?_
    | (show CallT _ 167 _ _ _; refine CA (h := grants_ok ?_)))
  all_goals (show retC _ _ _ _ _ _; refine RETC ?_; exact ret_done (kb hK (by unfold likeB; simp [*])))
theorem all_cons {y : Fm} {xs : List Fm} : Ent (allP fmP (y :: xs) :: R) (allP fmP xs :: fmP y :: R) :=
  Ent.trans (Ent.allget pers_fmP mono_fmP (List.mem_cons_self ..)) (Ent.trans (fun _ hs => hs.swap) (Ent.allsub fun z hz => List.mem_cons_of_mem _ hz))
end Go.Proofs.YtiofdmjecjcdbaaGreatDoor


namespace Go.Proofs.YtiofdmjecjcdbaaGreatDoor
open Go Go.Proofs Go.Sl
set_option maxRecDepth 100000
set_option maxHeartbeats 4000000
set_option linter.unusedSimpArgs false
set_option linter.unusedVariables false
attribute [local irreducible] evG evC spl thenC inBlockC noGotoC CallT retC RetG TurnG CutG pt ro exP star sep pureP
variable {R C : List HP} {K : Value → List HP → Prop}
theorem right_n {f : Fm} (h : chkF f = true) : 0 ≤ f.n ∧ f.n ≤ 2147483647 := by
  have := ((chkF_iff f).1 h).2.2.2.2.2.2.2.2.2.2.2.2.2.2.2.2.2.2.2.1
  exact (n31_iff _).1 this
theorem que_foldN {q n : Nat} {xs : List Fm} {A : Option Addr} {c : Nat} (h : xs.length = n) : Ent (pt q [.slice A n c] 266 :: row A c 214 fmC xs :: allP fmP xs :: R) (queP q xs :: R) := by
  subst h; exact que_fold
theorem row_enc {A : Option Addr} {c : Nat} {e : TypeId} {xs ys : List Fm} (h : xs.flatMap fmC.enc = ys.flatMap fmC.enc) (hl : xs.length = ys.length) (H : Hp) (hr : row A c e fmC xs H) : row A c e fmC ys H := by
  rcases hr with ⟨h1, h2, h3⟩ | ⟨B, pre, post, h1, h2, h3, h4⟩
  · subst h2
    exact .inl ⟨h1, List.length_eq_zero_iff.1 hl.symm, h3⟩
  · rw [h] at h2
    rw [hl] at h3 h4
    exact .inr ⟨B, pre, post, h1, h2, h3, h4⟩
theorem push_fold {q n : Nat} {xs : List Fm} {A : Option Addr} {c : Nat} (f0 f1 : Fm) (he : fmC.enc f0 = fmC.enc f1) (hn : n = (xs ++ [f0]).length) : Ent (pt q [.slice A n c] 266 :: row A c 214 fmC (xs ++ [f0]) :: rrow f1.pa prC f1.ps :: allP fmP xs :: R) (queP q (xs ++ [f1]) :: R) :=
  Ent.trans (Ent.cons (Ent.imp (row_enc (ys := xs ++ [f1]) (by simp [he]) (by simp)) (Ent.allsnoc (P := fmP) (x := f1) pers_fmP mono_fmP))) (que_foldN (by rw [hn]; simp))
theorem qlike_no {f : Fm} {xs : List Fm} (hb : ∀ z ∈ xs, likeB f z = false) {i : Nat} {z : Fm} (h : xs[i]? = some z) : likeB f z = false := hb z (List.mem_of_getElem? h)
theorem qpushP_ok {q : Nat} {f : Fm} {xs : List Fm} (hc : chkF f = true) (ht : 2 ≤ f.t) (hb : ∀ z ∈ xs, likeB f z = false) (h64 : xs.length < 64) (hv : View R f.pa prC f.ps) (hvn : f.ps.length = f.pn) (hK : ∀ A' c', K (.int .i64 0) (queP q (xs ++ [⟨f.t, f.st, f.e, f.d, f.k, f.on, f.w, f.x, f.c, f.la, f.n, A', f.ps.length, c', f.ps⟩]) :: R)) : CallT Tryz.prog 118 #[.pointer (some ⟨q, 0, none⟩), .agg #[.int .i64 f.t, .int .i64 f.st, .bool f.e, .string f.d, .int .i64 f.k, .int .i64 f.on, .int .i64 f.w, .bool f.x, .int .i64 f.c, .int .i64 f.la, .int .i64 f.n, .slice f.pa f.pn f.pc]] (queP q xs :: R) K := by
  have hnn := right_n hc
  have hn8 : f.ps.length ≤ 8 := ((chkF_iff f).1 hc).2.2.2.2.2.2.2.2.2.2.2.2.2.2.2.2.2.2.2.2
  have hn2 : f.pn < 1000000000000000 := by omega
  unfold chkF at hc
  refine que_open fun A c => ?_
  refine callT_intro mixed Tryz.func118 rfl (by decide) (by decide +kernel) (by exact Nat.le_of_ble_eq_true rfl) ?_
  repeat' (first
    | (show evG _ _ _ _ _ _ _; first | refine G_add64 ?_ | refine G_pure0 ?_ | refine G_load ?_ | refine evG_nil ?_ | refine G_br ?_ ?_ | refine G_field ?_ | refine G_pure ?_ | refine G_store ?_ | refine G_loadV ?_ | refine G_loadV0 ?_ | refine G_loadV2 ?_ | (refine G_append ?_; intro _ _) | (refine G_appendN ?_; intro _ _) | refine G_index ?_ | refine G_indexA ?_ | refine G_cat ?_ | refine G_eql_agg ?_ | refine G_neq_agg ?_ | refine G_call ?_ | refine G_call0 ?_ | refine G_callv ?_ | refine G_callv0 ?_ | (refine G_box ?_; intro _) | (refine G_alloc ?_; intro _) | (refine G_buildSlice ?_; intro _) | (refine G_indexV ?_; intro _ _ hA; subst hA) | refine G_skip ?_ | refine G_skip0 ?_)
    | (show spl _ _ _; first | refine spl_no rfl ?_ | refine spl_yes rfl ?_)
    | (show evC _ _ _ _ _; first | refine c_seq ?_ | refine c_region (by exact rfl) ?_ | refine c_cond (by exact rfl) ?_ | refine c_ret ?_ | refine c_skip ?_ | refine c_block ?_ | refine c_exit ?_ | (show evC _ (.region 12 _ true) _ _ _; refine c_draw (l := [(0, 0), (1, 0), (2, 0), (3, 0), (4, 0), (5, 0), (6, 0), (7, 0), (8, 0), (9, 0), (10, 0), (11, 0), (12, 0), (13, 1)]) (by decide +kernel) (by decide +kernel) (by exact rfl) ?_) | (show evC _ (.region 18 _ true) _ _ _; refine c_draw (l := [(5, 0), (6, 1), (1, 1), (2, 1), (3, 1), (4, 1), (7, 1), (0, 2), (8, 0), (9, 0), (10, 1)]) (by decide +kernel) (by decide +kernel) (by exact rfl) ?_) | refine std ?_)
    | (show Br _ _ _; first | refine Br.t rfl ?_ | refine Br.f rfl ?_ | refine brs ?_ | (first | refine Br.mkN (fun h => ?_) (fun h => ?_) | refine Br.mk (fun h => ?_) (fun h => ?_)) <;> (try (first | contradiction | (exfalso; omega) | (exfalso; simp at h; done))))
    | refine stp ?_
    | (show CallT _ 165 _ _ _; refine CA (h := checkA_ok (ps := f.ps) hc (by exact viewA) hvn hn2 ?_)))
  rename_i r _
  refine LOOP (fun m a C' => ∃ i : Nat, i + m = xs.length ∧ C' = pt r [.int .i64 f.t, .int .i64 f.st, .bool f.e, .string f.d, .int .i64 f.k, .int .i64 f.on, .int .i64 f.w, .bool f.x, .int .i64 f.c, .int .i64 f.la, .int .i64 f.n, .slice f.pa f.pn f.pc] 214 :: pt q [.slice A xs.length c] 266 :: row A c 214 fmC xs :: allP fmP xs :: R ∧ Agree a [(0, .pointer (some ⟨q, 0, none⟩)), (3, .pointer (some ⟨r, 0, none⟩)), (4, .int .i64 0), (5, .func (.func 166) #[] #[.pointer (some ⟨r, 0, none⟩)]), (28, .slice A xs.length c), (29, .int .i64 xs.length), (30, .int .i64 i)]) xs.length (turn xs.length ⟨0, by omega, rfl, rfl, rfl, rfl, rfl, rfl, rfl, rfl, trivial⟩) ?_
  rintro n1 a C' ⟨i, hi, rfl, ha⟩
  refine c_fr _ ha ?_
  simp only [updL]
  by_cases hlt : i < xs.length
  · obtain ⟨z, hz, hd⟩ := at_drop (l := xs) (j := i) (by omega)
    have hzl := qlike_no hb hz
    repeat' (first
      | (show evG _ _ _ _ _ _ _; first | refine G_add64 ?_ | refine G_pure0 ?_ | refine G_load ?_ | refine evG_nil ?_ | refine G_br ?_ ?_ | refine G_field ?_ | refine G_pure ?_ | refine G_store ?_ | refine G_loadV ?_ | refine G_loadV0 ?_ | refine G_loadV2 ?_ | (refine G_append ?_; intro _ _) | (refine G_appendN ?_; intro _ _) | refine G_index ?_ | refine G_indexA ?_ | refine G_cat ?_ | refine G_eql_agg ?_ | refine G_neq_agg ?_ | refine G_call ?_ | refine G_call0 ?_ | refine G_callv ?_ | refine G_callv0 ?_ | (refine G_box ?_; intro _) | (refine G_alloc ?_; intro _) | (refine G_buildSlice ?_; intro _) | (refine G_indexV ?_; intro _ _ hA; subst hA) | refine G_skip ?_ | refine G_skip0 ?_)
      | (show spl _ _ _; first | refine spl_no rfl ?_ | refine spl_yes rfl ?_)
      | (show evC _ _ _ _ _; first | refine c_seq ?_ | refine c_region (by exact rfl) ?_ | refine c_cond (by exact rfl) ?_ | refine c_ret ?_ | refine c_skip ?_ | refine c_block ?_ | refine c_exit ?_ | (show evC _ (.region 12 _ true) _ _ _; refine c_draw (l := [(0, 0), (1, 0), (2, 0), (3, 0), (4, 0), (5, 0), (6, 0), (7, 0), (8, 0), (9, 0), (10, 0), (11, 0), (12, 0), (13, 1)]) (by decide +kernel) (by decide +kernel) (by exact rfl) ?_) | (show evC _ (.region 18 _ true) _ _ _; refine c_draw (l := [(5, 0), (6, 1), (1, 1), (2, 1), (3, 1), (4, 1), (7, 1), (0, 2), (8, 0), (9, 0), (10, 1)]) (by decide +kernel) (by decide +kernel) (by exact rfl) ?_) | refine std ?_)
      | (show Br _ _ _; first | refine Br.t rfl ?_ | refine Br.f rfl ?_ | refine brs ?_ | (first | refine Br.mkN (fun h => ?_) (fun h => ?_) | refine Br.mk (fun h => ?_) (fun h => ?_)) <;> (try (first | contradiction | (exfalso; omega) | (exfalso; simp at h; done))))
      | refine stp ?_
      | (show CallT _ 166 _ _ _; refine CA (h := qlike_ok hnn ?_)))
    all_goals exact turn (n1 - 1) ⟨i + 1, by omega, rfl, rfl, rfl, rfl, rfl, rfl, rfl, rfl, trivial⟩
  · repeat' (first
      | (show evG _ _ _ _ _ _ _; first | refine G_add64 ?_ | refine G_pure0 ?_ | refine G_load ?_ | refine evG_nil ?_ | refine G_br ?_ ?_ | refine G_field ?_ | refine G_pure ?_ | refine G_store ?_ | refine G_loadV ?_ | refine G_loadV0 ?_ | refine G_loadV2 ?_ | (refine G_append ?_; intro _ _) | (refine G_appendN ?_; intro _ _) | refine G_index ?_ | refine G_indexA ?_ | refine G_cat ?_ | refine G_eql_agg ?_ | refine G_neq_agg ?_ | refine G_call ?_ | refine G_call0 ?_ | refine G_callv ?_ | refine G_callv0 ?_ | (refine G_box ?_; intro _) | (refine G_alloc ?_; intro _) | (refine G_buildSlice ?_; intro _) | (refine G_indexV ?_; intro _ _ hA; subst hA) | refine G_skip ?_ | refine G_skip0 ?_)
      | (show spl _ _ _; first | refine spl_no rfl ?_ | refine spl_yes rfl ?_)
      | (show evC _ _ _ _ _; first | refine c_seq ?_ | refine c_region (by exact rfl) ?_ | refine c_cond (by exact rfl) ?_ | refine c_ret ?_ | refine c_skip ?_ | refine c_block ?_ | refine c_exit ?_ | (show evC _ (.region 12 _ true) _ _ _; refine c_draw (l := [(0, 0), (1, 0), (2, 0), (3, 0), (4, 0), (5, 0), (6, 0), (7, 0), (8, 0), (9, 0), (10, 0), (11, 0), (12, 0), (13, 1)]) (by decide +kernel) (by decide +kernel) (by exact rfl) ?_) | (show evC _ (.region 18 _ true) _ _ _; refine c_draw (l := [(5, 0), (6, 1), (1, 1), (2, 1), (3, 1), (4, 1), (7, 1), (0, 2), (8, 0), (9, 0), (10, 1)]) (by decide +kernel) (by decide +kernel) (by exact rfl) ?_) | refine std ?_)
      | (show Br _ _ _; first | refine Br.t rfl ?_ | refine Br.f rfl ?_ | refine brs ?_ | (first | refine Br.mkN (fun h => ?_) (fun h => ?_) | refine Br.mk (fun h => ?_) (fun h => ?_)) <;> (try (first | contradiction | (exfalso; omega) | (exfalso; simp at h; done))))
      | refine stp ?_
      | (show evG _ _ _ _ _ _ _; first | (refine G_appendU ?_; intro _ _) | (refine G_appendNU ?_; intro _ _)))
    refine RETC ?_
    exact ret_of (row_freeze (E := prC) (xs := f.ps) (by ((repeat (first | exact Pick.here | apply Pick.there)) <;> exact Pick.here)) (Ent.trans (by exact entA) (push_fold ⟨f.t, f.st, f.e, f.d, f.k, f.on, f.w, f.x, f.c, f.la, f.n, _, f.ps.length, _, []⟩ ⟨f.t, f.st, f.e, f.d, f.k, f.on, f.w, f.x, f.c, f.la, f.n, _, f.ps.length, _, f.ps⟩ rfl rfl))) (hK _ _)
end Go.Proofs.YtiofdmjecjcdbaaGreatDoor


namespace Go.Proofs.YtiofdmjecjcdbaaGreatDoor
open Go Go.Proofs Go.Sl
set_option maxRecDepth 100000
set_option maxHeartbeats 4000000
set_option linter.unusedSimpArgs false
set_option linter.unusedVariables false
attribute [local irreducible] evG evC spl thenC inBlockC noGotoC CallT retC RetG TurnG CutG pt ro exP star sep pureP
variable {R C : List HP} {K : Value → List HP → Prop}
structure Set3 where
  w : Int
  st : Int
  it : Int
def set3D : List Value → Option Set3
  | [.int .i64 w, .int .i64 st, .int .i64 it] => some ⟨w, st, it⟩
  | _ => none
theorem set3D_ok (cs : List Value) (y : Set3) (h : set3D cs = some y) : [.int .i64 y.w, .int .i64 y.st, .int .i64 y.it] = cs := by
  unfold set3D at h
  split at h
  · cases h; rfl
  · cases h
def set3C : Cod Set3 := { enc := fun p => [.int .i64 p.w, .int .i64 p.st, .int .i64 p.it], sz := 3, dec := set3D, len := fun _ => rfl, one := fun _ => rfl, ok := set3D_ok }
/-- a setting that differs is told -/
def pdL (id a b : Int) (ps : List Pr) : List Pr := if a = b then ps else ps ++ [⟨id, b⟩]
def dfL (w st it : Int) : List Pr := pdL 3 4 it (pdL 2 8 st (pdL 1 64 w []))
theorem pdL_len (id a b : Int) (ps : List Pr) : (pdL id a b ps).length ≤ ps.length + 1 := by
  unfold pdL; split <;> simp
theorem pdiff1_ok {id a b : Int} {r n c : Nat} {A : Option Addr} {ps : List Pr} (hn : ps.length = n) (hl : n ≤ 10) (hK : ∀ A' c', K (.tuple #[]) (pt r [.slice A' (pdL id a b ps).length c'] 209 :: row A' c' 335 prC (pdL id a b ps) :: R)) : CallT Tryz.prog 226 #[.int .i64 id, .int .i64 a, .int .i64 b, .pointer (some ⟨r, 0, none⟩)] (pt r [.slice A n c] 209 :: row A c 335 prC ps :: R) K := by
  subst hn
  unfold pdL at hK
  by_cases h : a = b
  · simp only [if_pos h] at hK
    refine callT_intro mixed Tryz.func226 rfl (by decide) (by decide +kernel) (by exact Nat.le_of_ble_eq_true rfl) ?_
    repeat' (first
      | (show evG _ _ _ _ _ _ _; first | refine G_pure0 ?_ | refine G_load ?_ | refine evG_nil ?_ | refine G_br ?_ ?_ | refine G_pure ?_ | refine G_store ?_ | refine G_loadV ?_ | refine G_loadV0 ?_ | refine G_loadV2 ?_ | (refine G_append ?_; intro _ _) | (refine G_appendN ?_; intro _ _) | refine G_build ?_ | refine G_neq_agg ?_ | (refine G_buildSlice ?_; intro _))
      | (show spl _ _ _; first | refine spl_no rfl ?_ | refine spl_yes rfl ?_)
      | (show evC _ _ _ _ _; first | refine c_seq ?_ | refine c_region (by exact rfl) ?_ | refine c_cond (by exact rfl) ?_ | refine c_ret ?_ | refine c_skip ?_ | refine c_block ?_ | refine c_exit ?_ | refine std ?_)
      | (show Br _ _ _; first | refine Br.t rfl ?_ | refine Br.f rfl ?_ | refine brs ?_ | (first | refine Br.mkN (fun h => ?_) (fun h => ?_) | refine Br.mk (fun h => ?_) (fun h => ?_)) <;> (try (first | contradiction | (exfalso; omega) | (exfalso; simp at h; done))))
      | refine stp ?_)
    all_goals (show retC _ _ _ _ _ _; refine RETC ?_; exact ret_done (hK _ _))
  · simp only [if_neg h] at hK
    refine callT_intro mixed Tryz.func226 rfl (by decide) (by decide +kernel) (by exact Nat.le_of_ble_eq_true rfl) ?_
    repeat' (first
      | (show evG _ _ _ _ _ _ _; first | refine G_pure0 ?_ | refine G_load ?_ | refine evG_nil ?_ | refine G_br ?_ ?_ | refine G_pure ?_ | refine G_store ?_ | refine G_loadV ?_ | refine G_loadV0 ?_ | refine G_loadV2 ?_ | (refine G_append ?_; intro _ _) | (refine G_appendN ?_; intro _ _) | refine G_build ?_ | refine G_neq_agg ?_ | (refine G_buildSlice ?_; intro _))
      | (show spl _ _ _; first | refine spl_no rfl ?_ | refine spl_yes rfl ?_)
      | (show evC _ _ _ _ _; first | refine c_seq ?_ | refine c_region (by exact rfl) ?_ | refine c_cond (by exact rfl) ?_ | refine c_ret ?_ | refine c_skip ?_ | refine c_block ?_ | refine c_exit ?_ | refine std ?_)
      | (show Br _ _ _; first | refine Br.t rfl ?_ | refine Br.f rfl ?_ | refine brs ?_ | (first | refine Br.mkN (fun h => ?_) (fun h => ?_) | refine Br.mk (fun h => ?_) (fun h => ?_)) <;> (try (first | contradiction | (exfalso; omega) | (exfalso; simp at h; done))))
      | refine stp ?_)
    all_goals (show retC _ _ _ _ _ _; refine RETC ?_; exact ret_done (hK _ _))
theorem pdiff0_ok {id a b : Int} {r : Nat} (hK : ∀ A' c', K (.tuple #[]) (pt r [.slice A' (pdL id a b []).length c'] 209 :: row A' c' 335 prC (pdL id a b []) :: R)) : CallT Tryz.prog 226 #[.int .i64 id, .int .i64 a, .int .i64 b, .pointer (some ⟨r, 0, none⟩)] (pt r [.slice none 0 0] 209 :: R) K :=
  CallT.ent (Ent.cons (Ent.nilrow' (Ent.refl _))) (pdiff1_ok (ps := []) rfl (by omega) hK)
section
variable {w st it : Int}
theorem pdiffE_ok (h : w = 64 ∧ st = 8 ∧ it = 4) (hK : K (.slice none 0 0) R) : CallT Tryz.prog 162 #[.agg #[.int .i64 64, .int .i64 8, .int .i64 4], .agg #[.int .i64 w, .int .i64 st, .int .i64 it]] R K := by
  obtain ⟨rfl, rfl, rfl⟩ := h
  refine callT_intro mixed Tryz.func162 rfl (by decide) (by decide +kernel) (by exact Nat.le_of_ble_eq_true rfl) ?_
  repeat' (first
    | (show evG _ _ _ _ _ _ _; first | refine G_pure0 ?_ | refine G_load ?_ | refine evG_nil ?_ | refine G_br ?_ ?_ | refine G_field ?_ | refine G_pure ?_ | refine G_loadV ?_ | refine G_loadV0 ?_ | refine G_loadV2 ?_ | refine G_eql_agg ?_ | refine G_callv ?_ | refine G_callv0 ?_ | (refine G_box ?_; intro _) | (refine G_alloc ?_; intro _))
    | (show spl _ _ _; first | refine spl_no rfl ?_ | refine spl_yes rfl ?_)
    | (show evC _ _ _ _ _; first | refine c_seq ?_ | refine c_region (by exact rfl) ?_ | refine c_cond (by exact rfl) ?_ | refine c_ret ?_ | refine c_skip ?_ | refine c_block ?_ | refine c_exit ?_ | refine std ?_)
    | (show Br _ _ _; first | refine Br.t (by decide +kernel) ?_ | refine Br.f (by decide +kernel) ?_ | refine Br.t rfl ?_ | refine Br.f rfl ?_ | refine brs ?_ | (first | refine Br.mkN (fun h => ?_) (fun h => ?_) | refine Br.mk (fun h => ?_) (fun h => ?_)) <;> (try (first | contradiction | (exfalso; omega) | (exfalso; simp at h; done))))
    | refine stp ?_)
  all_goals (show retC _ _ _ _ _ _; refine RETC ?_; exact ret_done (hK))
theorem pdiffN_ok (h : ¬ (w = 64 ∧ st = 8 ∧ it = 4)) (hK : ∀ A c, K (.slice A (dfL w st it).length c) (row A c 335 prC (dfL w st it) :: R)) : CallT Tryz.prog 162 #[.agg #[.int .i64 64, .int .i64 8, .int .i64 4], .agg #[.int .i64 w, .int .i64 st, .int .i64 it]] R K := by
  have l1 := pdL_len 1 64 w []
  have l2 := pdL_len 2 8 st (pdL 1 64 w [])
  have l3 := pdL_len 3 4 it (pdL 2 8 st (pdL 1 64 w []))
  rw [List.length_nil] at l1
  unfold dfL at hK
  refine callT_intro mixed Tryz.func162 rfl (by decide) (by decide +kernel) (by exact Nat.le_of_ble_eq_true rfl) ?_
  repeat' (first
    | (show evG _ _ _ _ _ _ _; first | refine G_pure0 ?_ | refine G_load ?_ | refine evG_nil ?_ | refine G_br ?_ ?_ | refine G_field ?_ | refine G_pure ?_ | refine G_loadV ?_ | refine G_loadV0 ?_ | refine G_loadV2 ?_ | refine G_eql_agg ?_ | refine G_callv ?_ | refine G_callv0 ?_ | (refine G_box ?_; intro _) | (refine G_alloc ?_; intro _))
    | (show spl _ _ _; first | refine spl_no rfl ?_ | refine spl_yes rfl ?_)
    | (show evC _ _ _ _ _; first | refine c_seq ?_ | refine c_region (by exact rfl) ?_ | refine c_cond (by exact rfl) ?_ | refine c_ret ?_ | refine c_skip ?_ | refine c_block ?_ | refine c_exit ?_ | refine std ?_)
    | (show Br _ _ _; first | refine Br.t rfl ?_ | refine Br.f rfl ?_ | refine brs ?_ | (first | refine Br.mkN (fun h => ?_) (fun h => ?_) | refine Br.mk (fun h => ?_) (fun h => ?_)) <;> (try (first | contradiction | (exfalso; omega) | (exfalso; simp at h; done))))
    | refine stp ?_
    | (show CallT _ 226 _ _ _; refine CA (h := pdiff0_ok (fun _ _ => ?_)))
    | (show CallT _ 226 _ _ _; refine CA (h := pdiff1_ok rfl (by omega) (fun _ _ => ?_))))
  all_goals (show retC _ _ _ _ _ _; refine RETC ?_; exact ret_done (hK _ _))
end
end Go.Proofs.YtiofdmjecjcdbaaGreatDoor

