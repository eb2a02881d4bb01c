/- Tx of items: lemmas; each with the conditions that it states. -/
import Derived.Test.YtndpgmigdgohiaaGreatFh
import Derived.Test.YtndpgmigdgohiaaGreatU1

namespace Go.Proofs.YtndpgmigdgohiaaGreat
open Go Go.Proofs Go.Sl
set_option maxRecDepth 100000
set_option maxHeartbeats 4000000
set_option linter.unusedSimpArgs false
set_option linter.unusedVariables false
attribute [local irreducible] evG evC spl thenC inBlockC noGotoC CallT retC RetG TurnG CutG pt ro exP star sep pureP
variable {R C : List HP} {K : Value → List HP → Prop}
def TI (cap : Nat) (st : Int) (l : List ByteArray) (w : Int) (en ou : Bool) (ac se dr : Int) : Prop := ac = se + dr + l.length ∧ 0 ≤ se ∧ 0 ≤ dr ∧ ac ≤ 900000000 ∧ l.length ≤ cap ∧ cap ≤ 64 ∧ (0 ≤ w ∧ w ≤ 2147483647) ∧ (0 ≤ st ∧ st ≤ 2) ∧ (ou = true → en = true ∧ l = [])
def txI (t cap : Nat) (st : Int) (l : List ByteArray) (w : Int) (en ou : Bool) (ac se dr : Int) : HP := exP fun q => exP fun d => sep (pt t [.int .i64 ac, .int .i64 se, .int .i64 dr, .int .i64 2, .pointer none, .pointer (some ⟨q, 0, none⟩), .pointer (some ⟨d, 0, none⟩), .bool en, .bool ou] 292) (sep (quP q cap st l ac se dr) (sep (demP d w 2147483647) (pureP (TI cap st l w en ou ac se dr))))
theorem txI_fold {t cap q d : Nat} {st : Int} {l : List ByteArray} {w : Int} {en ou : Bool} {ac se dr : Int} (h : TI cap st l w en ou ac se dr) : Ent (pt t [.int .i64 ac, .int .i64 se, .int .i64 dr, .int .i64 2, .pointer none, .pointer (some ⟨q, 0, none⟩), .pointer (some ⟨d, 0, none⟩), .bool en, .bool ou] 292 :: quP q cap st l ac se dr :: demP d w 2147483647 :: R) (txI t cap st l w en ou ac se dr :: R) :=
  Ent.ex q (Ent.ex d (ent_fold4 h))
theorem txnewI_ok {cap : Nat} {st : Int} (h : cap ≤ 64) (hs : 0 ≤ st ∧ st ≤ 2) (hK : ∀ t, K (.tuple #[.pointer (some ⟨t, 0, none⟩), .int .i64 0]) (txI t cap st [] 0 false false 0 0 0 :: R)) : CallT Tryz.prog 231 #[.int .i64 2, .int .i64 cap, .int .i64 st] R K := by
  refine callT_intro mixed Tryz.func231 rfl (by decide) (by decide +kernel) (by exact Nat.le_of_ble_eq_true rfl) ?_
  repeat' (first
    | (show evG _ _ _ _ _ _ _; first | refine G_pure0 ?_ | refine evG_nil ?_ | refine G_br ?_ ?_ | refine G_field ?_ | refine G_pure ?_ | refine G_store ?_ | refine G_build ?_ | refine G_eql_agg ?_ | refine G_neq_agg ?_ | refine G_call ?_ | refine G_call0 ?_ | (refine G_box ?_; intro _))
    | (show spl _ _ _; first | refine spl_no rfl ?_ | refine spl_yes rfl ?_)
    | (show evC _ _ _ _ _; first | refine c_seq ?_ | refine c_region (by exact rfl) ?_ | refine c_cond (by exact rfl) ?_ | refine c_ret ?_ | refine c_skip ?_ | refine c_block ?_ | refine c_exit ?_ | refine std ?_)
    | (show Br _ _ _; first | refine Br.t rfl ?_ | refine Br.f rfl ?_ | refine brs ?_ | (first | refine Br.mkN (fun h => ?_) (fun h => ?_) | refine Br.mk (fun h => ?_) (fun h => ?_)) <;> (try (first | contradiction | (exfalso; omega) | (exfalso; simp at h; done))))
    | refine stp ?_
    | (show CallT _ 339 _ _ _; refine CA (h := qunew_ok (by omega) (by omega) (fun q => ?_)))
    | (show CallT _ 340 _ _ _; refine CA (h := dnew_ok (by omega) (fun d => ?_))))
  (show retC _ _ _ _ _ _; refine RETC ?_; exact ret_of (Ent.trans (by exact entA) ((txI_fold ⟨by simp, by omega, by omega, by omega, by simp, h, by omega, hs, by simp⟩))) (hK _))
theorem txnewIX_ok {cap st : Int} (h : cap < 0 ∨ 64 < cap) (hK : K (.tuple #[.pointer none, .int .i64 3]) R) : CallT Tryz.prog 231 #[.int .i64 2, .int .i64 cap, .int .i64 st] R K := by
  refine callT_intro mixed Tryz.func231 rfl (by decide) (by decide +kernel) (by exact Nat.le_of_ble_eq_true rfl) ?_
  repeat' (first
    | (show evG _ _ _ _ _ _ _; first | refine G_pure0 ?_ | refine evG_nil ?_ | refine G_br ?_ ?_ | refine G_field ?_ | refine G_pure ?_ | refine G_store ?_ | refine G_build ?_ | refine G_eql_agg ?_ | refine G_neq_agg ?_ | refine G_call ?_ | refine G_call0 ?_ | (refine G_box ?_; intro _))
    | (show spl _ _ _; first | refine spl_no rfl ?_ | refine spl_yes rfl ?_)
    | (show evC _ _ _ _ _; first | refine c_seq ?_ | refine c_region (by exact rfl) ?_ | refine c_cond (by exact rfl) ?_ | refine c_ret ?_ | refine c_skip ?_ | refine c_block ?_ | refine c_exit ?_ | refine std ?_)
    | (show Br _ _ _; first | refine Br.t rfl ?_ | refine Br.f rfl ?_ | refine brs ?_ | (first | refine Br.mkN (fun h => ?_) (fun h => ?_) | refine Br.mk (fun h => ?_) (fun h => ?_)) <;> (try (first | contradiction | (exfalso; omega) | (exfalso; simp at h; done))))
    | refine stp ?_
    | (show CallT _ 339 _ _ _; refine CA (h := qunewX_ok (by omega) ?_))
    | (show CallT _ 340 _ _ _; refine CA (h := dnew_ok (by omega) (fun d => ?_))))
  all_goals (show retC _ _ _ _ _ _; refine RETC ?_; exact ret_done (hK))
theorem txnewIY_ok {cap st : Int} (h : 0 ≤ cap ∧ cap ≤ 64) (h2 : st < 0 ∨ 2 < st) (hK : K (.tuple #[.pointer none, .int .i64 2]) R) : CallT Tryz.prog 231 #[.int .i64 2, .int .i64 cap, .int .i64 st] R K := by
  refine callT_intro mixed Tryz.func231 rfl (by decide) (by decide +kernel) (by exact Nat.le_of_ble_eq_true rfl) ?_
  repeat' (first
    | (show evG _ _ _ _ _ _ _; first | refine G_pure0 ?_ | refine evG_nil ?_ | refine G_br ?_ ?_ | refine G_field ?_ | refine G_pure ?_ | refine G_store ?_ | refine G_build ?_ | refine G_eql_agg ?_ | refine G_neq_agg ?_ | refine G_call ?_ | refine G_call0 ?_ | (refine G_box ?_; intro _))
    | (show spl _ _ _; first | refine spl_no rfl ?_ | refine spl_yes rfl ?_)
    | (show evC _ _ _ _ _; first | refine c_seq ?_ | refine c_region (by exact rfl) ?_ | refine c_cond (by exact rfl) ?_ | refine c_ret ?_ | refine c_skip ?_ | refine c_block ?_ | refine c_exit ?_ | refine std ?_)
    | (show Br _ _ _; first | refine Br.t rfl ?_ | refine Br.f rfl ?_ | refine brs ?_ | (first | refine Br.mkN (fun h => ?_) (fun h => ?_) | refine Br.mk (fun h => ?_) (fun h => ?_)) <;> (try (first | contradiction | (exfalso; omega) | (exfalso; simp at h; done))))
    | refine stp ?_
    | (show CallT _ 339 _ _ _; refine CA (h := qunewY_ok h (by omega) ?_))
    | (show CallT _ 340 _ _ _; refine CA (h := dnew_ok (by omega) (fun d => ?_))))
  all_goals (show retC _ _ _ _ _ _; refine RETC ?_; exact ret_done (hK))
section
variable {t cap : Nat} {st : Int} {l : List ByteArray} {w : Int} {en ou : Bool} {ac se dr : Int}
/-! offers: ended, too big, refused, kept, dropped, the first one out -/
end
end Go.Proofs.YtndpgmigdgohiaaGreat

