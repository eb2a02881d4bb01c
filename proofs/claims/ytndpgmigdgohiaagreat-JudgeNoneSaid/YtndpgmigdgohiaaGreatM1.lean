/- Outq: its small functions; what waits: lemmas; each with the conditions that it states. -/
import Derived.Test.YtndpgmigdgohiaaGreatFh
import Derived.Test.YtndpgmigdgohiaaGreatKd
import Derived.Test.YtndpgmigdgohiaaGreatFg

namespace Go.Proofs.YtndpgmigdgohiaaGreat
open Go Go.Proofs Go.Sl
set_option maxRecDepth 100000
set_option maxHeartbeats 4000000
set_option linter.unusedSimpArgs false
set_option linter.unusedVariables false
attribute [local irreducible] evG evC spl thenC inBlockC noGotoC CallT retC RetG TurnG CutG pt ro exP star sep pureP
variable {R C : List HP} {K : Value → List HP → Prop}
/-- a queue: its slice, its row, and what its frames' settings are -/
def queP (q : Nat) (xs : List Fm) : HP := exP fun A => exP fun c => sep (pt q [.slice A xs.length c] 220) (sep (row A c 136 fmC xs) (allP fmP xs))
theorem que_fold {q : Nat} {xs : List Fm} {A : Option Addr} {c : Nat} : Ent (pt q [.slice A xs.length c] 220 :: row A c 136 fmC xs :: allP fmP xs :: R) (queP q xs :: R) :=
  Ent.ex A (Ent.ex c (Ent.sep (Ent.pick Pick.here (Ent.sep (Ent.pick Pick.here (Ent.pick Pick.here (Ent.refl _)))))))
theorem que_open {f : FuncId} {args : Array Value} {q : Nat} {xs : List Fm} (h : ∀ A c, CallT Tryz.prog f args (pt q [.slice A xs.length c] 220 :: row A c 136 fmC xs :: allP fmP xs :: R) K) : CallT Tryz.prog f args (queP q xs :: R) K :=
  CallT.ex fun A => CallT.ex fun c => CallT.sep (CallT.ent (Ent.cons Ent.unsep) (h A c))
theorem qnew_ok (hK : ∀ q, K (.pointer (some ⟨q, 0, none⟩)) (queP q [] :: R)) : CallT Tryz.prog 54 #[] R K := by
  refine callT_intro mixed Tryz.func54 rfl (by decide) (by decide +kernel) (by exact Nat.le_of_ble_eq_true rfl) ?_
  repeat' (first
    | (show evG _ _ _ _ _ _ _; first | refine G_pure0 ?_ | refine evG_nil ?_ | refine G_br ?_ ?_ | refine G_pure ?_ | refine G_build ?_ | (refine G_box ?_; intro _))
    | (show spl _ _ _; first | refine spl_no rfl ?_ | refine spl_yes rfl ?_)
    | (show evC _ _ _ _ _; first | refine c_seq ?_ | refine c_region (by exact rfl) ?_ | refine c_cond (by exact rfl) ?_ | refine c_ret ?_ | refine c_skip ?_ | refine c_block ?_ | refine c_exit ?_ | refine std ?_)
    | (show Br _ _ _; first | refine Br.t rfl ?_ | refine Br.f rfl ?_ | refine brs ?_ | (first | refine Br.mkN (fun h => ?_) (fun h => ?_) | refine Br.mk (fun h => ?_) (fun h => ?_)) <;> (try (first | contradiction | (exfalso; omega) | (exfalso; simp at h; done))))
    | refine stp ?_)
  refine RETC ?_
  refine ret_of ?_ (hK _)
  exact Ent.trans (Ent.pick Pick.here (Ent.nilrow' (Ent.allnil (Ent.refl _)))) (que_fold (A := none) (c := 0) (xs := []))
theorem grants_ok {t st : Int} {e : Bool} {d : ByteArray} {k on w : Int} {x : Bool} {c la n : Int} {pa : Option Addr} {pn pc : Nat} (hK : K (.bool (decide (t = 10) || decide (t = 11))) R) : CallT Tryz.prog 140 #[.agg #[.int .i64 t, .int .i64 st, .bool e, .string d, .int .i64 k, .int .i64 on, .int .i64 w, .bool x, .int .i64 c, .int .i64 la, .int .i64 n, .slice pa pn pc]] R K := by
  refine callT_intro mixed Tryz.func140 rfl (by decide) (by decide +kernel) (by exact Nat.le_of_ble_eq_true rfl) ?_
  repeat' (first
    | (show evG _ _ _ _ _ _ _; first | refine G_pure0 ?_ | refine G_load ?_ | refine evG_nil ?_ | refine G_br ?_ ?_ | refine G_field ?_ | refine G_pure ?_ | refine G_loadV ?_ | refine G_loadV0 ?_ | refine G_loadV2 ?_ | refine G_eql_agg ?_ | (refine G_box ?_; intro _) | refine G_skip ?_ | refine G_skip0 ?_)
    | (show spl _ _ _; first | refine spl_no rfl ?_ | refine spl_yes rfl ?_)
    | (show evC _ _ _ _ _; first | refine c_seq ?_ | refine c_region (by exact rfl) ?_ | refine c_cond (by exact rfl) ?_ | refine c_ret ?_ | refine c_skip ?_ | refine c_block ?_ | refine c_exit ?_ | refine std ?_)
    | (show Br _ _ _; first | refine Br.t rfl ?_ | refine Br.f rfl ?_ | refine brs ?_ | (first | refine Br.mkN (fun h => ?_) (fun h => ?_) | refine Br.mk (fun h => ?_) (fun h => ?_)) <;> (try (first | contradiction | (exfalso; omega) | (exfalso; simp at h; done))))
    | refine stp ?_)
  all_goals (show retC _ _ _ _ _ _; refine RETC ?_; exact ret_done (kb hK (by simp [*])))
/-- may frame x take what frame f grants? -/
def likeB (f x : Fm) : Bool := (decide (f.t = 10) || decide (f.t = 11)) && decide (x.t = f.t) && decide (x.st = f.st) && decide (x.n ≤ 2147483647 - f.n)
theorem qlike_ok {f x : Fm} {r : Nat} (hf : 0 ≤ f.n ∧ f.n ≤ 2147483647) (hK : K (.bool (likeB f x)) (pt r [.int .i64 f.t, .int .i64 f.st, .bool f.e, .string f.d, .int .i64 f.k, .int .i64 f.on, .int .i64 f.w, .bool f.x, .int .i64 f.c, .int .i64 f.la, .int .i64 f.n, .slice f.pa f.pn f.pc] 136 :: R)) : CallT Tryz.prog 139 #[.agg #[.int .i64 x.t, .int .i64 x.st, .bool x.e, .string x.d, .int .i64 x.k, .int .i64 x.on, .int .i64 x.w, .bool x.x, .int .i64 x.c, .int .i64 x.la, .int .i64 x.n, .slice x.pa x.pn x.pc], .pointer (some ⟨r, 0, none⟩)] (pt r [.int .i64 f.t, .int .i64 f.st, .bool f.e, .string f.d, .int .i64 f.k, .int .i64 f.on, .int .i64 f.w, .bool f.x, .int .i64 f.c, .int .i64 f.la, .int .i64 f.n, .slice f.pa f.pn f.pc] 136 :: R) K := by
  refine callT_intro mixed Tryz.func139 rfl (by decide) (by decide +kernel) (by exact Nat.le_of_ble_eq_true rfl) ?_
  repeat' (first
    | (show evG _ _ _ _ _ _ _; first | refine G_sub64 ?_ | refine G_pure0 ?_ | refine G_load ?_ | refine evG_nil ?_ | refine G_br ?_ ?_ | refine G_field ?_ | refine G_pure ?_ | refine G_loadV ?_ | refine G_loadV0 ?_ | refine G_loadV2 ?_ | refine G_eql_agg ?_ | refine G_call ?_ | refine G_call0 ?_ | (refine G_box ?_; intro _) | refine G_skip ?_ | refine G_skip0 ?_)
    | (show spl _ _ _; first | refine spl_no rfl ?_ | refine spl_yes rfl ?_)
    | (show evC _ _ _ _ _; first | refine c_seq ?_ | refine c_region (by exact rfl) ?_ | refine c_cond (by exact rfl) ?_ | refine c_ret ?_ | refine c_skip ?_ | refine c_block ?_ | refine c_exit ?_ | refine std ?_)
    | (show Br _ _ _; first | refine Br.t rfl ?_ | refine Br.f rfl ?_ | refine brs ?_ | (first | refine Br.mkN (fun h => ?_) (fun h => ?_) | refine Br.mk (fun h => ?_) (fun h => ?_)) <;> (try (first | contradiction | (exfalso; omega) | (exfalso; simp at h; done))))
    | refine stp ?_
    | (show CallT _ 140 _ _ _; refine CA (h := grants_ok ?_)))
  all_goals (show retC _ _ _ _ _ _; refine RETC ?_; exact ret_done (kb hK (by unfold likeB; simp [*])))
theorem all_cons {y : Fm} {xs : List Fm} : Ent (allP fmP (y :: xs) :: R) (allP fmP xs :: fmP y :: R) :=
  Ent.trans (Ent.allget pers_fmP mono_fmP (List.mem_cons_self ..)) (Ent.trans (fun _ hs => hs.swap) (Ent.allsub fun z hz => List.mem_cons_of_mem _ hz))
end Go.Proofs.YtndpgmigdgohiaaGreat

