/- Tx of bytes: lemmas; each with the conditions that it states. -/
import Derived.Test.YtndpgmigdgohiaaGreatFh
import Derived.Test.YtndpgmigdgohiaaGreatQa
import Derived.Test.YtndpgmigdgohiaaGreatFg

namespace Go.Proofs.YtndpgmigdgohiaaGreat
open Go Go.Proofs Go.Sl
set_option maxRecDepth 100000
set_option maxHeartbeats 4000000
set_option linter.unusedSimpArgs false
set_option linter.unusedVariables false
attribute [local irreducible] evG evC spl thenC inBlockC noGotoC CallT retC RetG TurnG CutG pt ro exP star sep pureP
variable {R C : List HP} {K : Value → List HP → Prop}
def TB (cap : Nat) (bs : List UInt8) (en ou : Bool) (ac se dr : Int) : Prop := ac = se + dr + bs.length ∧ 0 ≤ se ∧ 0 ≤ dr ∧ ac ≤ 900000000 ∧ bs.length ≤ cap ∧ cap ≤ 4096 ∧ (ou = true → en = true ∧ bs = [])
def txB (t cap : Nat) (bs : List UInt8) (en ou : Bool) (ac se dr : Int) : HP := exP fun r => sep (pt t [.int .i64 ac, .int .i64 se, .int .i64 dr, .int .i64 1, .pointer (some ⟨r, 0, none⟩), .pointer none, .pointer none, .bool en, .bool ou] 292) (sep (ringP r cap bs) (pureP (TB cap bs en ou ac se dr)))
theorem txB_fold {t cap r : Nat} {bs : List UInt8} {en ou : Bool} {ac se dr : Int} (h : TB cap bs en ou ac se dr) : Ent (pt t [.int .i64 ac, .int .i64 se, .int .i64 dr, .int .i64 1, .pointer (some ⟨r, 0, none⟩), .pointer none, .pointer none, .bool en, .bool ou] 292 :: ringP r cap bs :: R) (txB t cap bs en ou ac se dr :: R) :=
  Ent.ex r (Ent.sep (Ent.pick Pick.here (Ent.sep (Ent.pick Pick.here (Ent.pure h (Ent.refl _))))))
/-! what may be asked of a nil sender -/
/-! of bytes -/
theorem txnewB_ok {cap : Nat} {st : Int} (h : cap ≤ 4096) (hK : ∀ t, K (.tuple #[.pointer (some ⟨t, 0, none⟩), .int .i64 0]) (txB t cap [] false false 0 0 0 :: R)) : CallT Tryz.prog 231 #[.int .i64 1, .int .i64 cap, .int .i64 st] R K := by
  refine callT_intro mixed Tryz.func231 rfl (by decide) (by decide +kernel) (by exact Nat.le_of_ble_eq_true rfl) ?_
  repeat' (first
    | (show evG _ _ _ _ _ _ _; first | refine G_pure0 ?_ | refine evG_nil ?_ | refine G_br ?_ ?_ | refine G_field ?_ | refine G_pure ?_ | refine G_store ?_ | refine G_build ?_ | refine G_eql_agg ?_ | refine G_neq_agg ?_ | refine G_call ?_ | refine G_call0 ?_ | (refine G_box ?_; intro _))
    | (show spl _ _ _; first | refine spl_no rfl ?_ | refine spl_yes rfl ?_)
    | (show evC _ _ _ _ _; first | refine c_seq ?_ | refine c_region (by exact rfl) ?_ | refine c_cond (by exact rfl) ?_ | refine c_ret ?_ | refine c_skip ?_ | refine c_block ?_ | refine c_exit ?_ | refine std ?_)
    | (show Br _ _ _; first | refine Br.t rfl ?_ | refine Br.f rfl ?_ | refine brs ?_ | (first | refine Br.mkN (fun h => ?_) (fun h => ?_) | refine Br.mk (fun h => ?_) (fun h => ?_)) <;> (try (first | contradiction | (exfalso; omega) | (exfalso; simp at h; done))))
    | refine stp ?_
    | (show CallT _ 338 _ _ _; refine CA (h := rnew_ok (by omega) (fun r => ?_))))
  (show retC _ _ _ _ _ _; refine RETC ?_; exact ret_of (Ent.trans (by exact entA) ((txB_fold ⟨by simp, by omega, by omega, by omega, by simp, by omega, by simp⟩))) (hK _))
theorem txnewBX_ok {cap st : Int} (h : cap < 0 ∨ 4096 < cap) (hK : K (.tuple #[.pointer none, .int .i64 3]) R) : CallT Tryz.prog 231 #[.int .i64 1, .int .i64 cap, .int .i64 st] R K := by
  refine callT_intro mixed Tryz.func231 rfl (by decide) (by decide +kernel) (by exact Nat.le_of_ble_eq_true rfl) ?_
  repeat' (first
    | (show evG _ _ _ _ _ _ _; first | refine G_pure0 ?_ | refine evG_nil ?_ | refine G_br ?_ ?_ | refine G_field ?_ | refine G_pure ?_ | refine G_store ?_ | refine G_build ?_ | refine G_eql_agg ?_ | refine G_neq_agg ?_ | refine G_call ?_ | refine G_call0 ?_ | (refine G_box ?_; intro _))
    | (show spl _ _ _; first | refine spl_no rfl ?_ | refine spl_yes rfl ?_)
    | (show evC _ _ _ _ _; first | refine c_seq ?_ | refine c_region (by exact rfl) ?_ | refine c_cond (by exact rfl) ?_ | refine c_ret ?_ | refine c_skip ?_ | refine c_block ?_ | refine c_exit ?_ | refine std ?_)
    | (show Br _ _ _; first | refine Br.t rfl ?_ | refine Br.f rfl ?_ | refine brs ?_ | (first | refine Br.mkN (fun h => ?_) (fun h => ?_) | refine Br.mk (fun h => ?_) (fun h => ?_)) <;> (try (first | contradiction | (exfalso; omega) | (exfalso; simp at h; done))))
    | refine stp ?_
    | (show CallT _ 338 _ _ _; refine CA (h := rnewX_ok (by omega) ?_)))
  all_goals (show retC _ _ _ _ _ _; refine RETC ?_; exact ret_done (hK))
end Go.Proofs.YtndpgmigdgohiaaGreat

