/- Rx: a nil receiver; of bytes: lemmas; each with the conditions that it states. -/
import Derived.Test.YtndpgmigdgohiaaGreatFh
import Derived.Test.YtndpgmigdgohiaaGreatV1
import Derived.Test.YtndpgmigdgohiaaGreatFg

namespace Go.Proofs.YtndpgmigdgohiaaGreat
open Go Go.Proofs Go.Sl
set_option maxRecDepth 100000
set_option maxHeartbeats 4000000
set_option linter.unusedSimpArgs false
set_option linter.unusedVariables false
attribute [local irreducible] evG evC spl thenC inBlockC noGotoC CallT retC RetG TurnG CutG pt ro exP star sep pureP
variable {R C : List HP} {K : Value → List HP → Prop}
/-! of bytes -/
def RB (cap most gr got us : Int) (bs : List UInt8) : Prop := got = us + bs.length ∧ 0 ≤ us ∧ cap ≤ gr ∧ gr - us ≤ cap ∧ 0 ≤ cap ∧ cap ≤ most ∧ most ≤ 4096 ∧ (bs.length : Int) ≤ most ∧ got ≤ 400000000
def rxB (r : Nat) (cap most gr got us : Int) (bs : List UInt8) (en : Bool) : HP := exP fun g => exP fun p => sep (pt r [.int .i64 1, .pointer (some ⟨g, 0, none⟩), .pointer (some ⟨p, 0, none⟩), .pointer none, .pointer none, .int .i64 0, .int .i64 0, .bool en] 260) (sep (ringP g 4096 bs) (sep (pcP p cap most gr got us) (pureP (RB cap most gr got us bs))))
section
variable {r : Nat} {cap most gr got us : Int} {bs : List UInt8} {en : Bool} {n : Int} {s : ByteArray}
theorem rxB_fold {g p : Nat} (h : RB cap most gr got us bs) : Ent (pt r [.int .i64 1, .pointer (some ⟨g, 0, none⟩), .pointer (some ⟨p, 0, none⟩), .pointer none, .pointer none, .int .i64 0, .int .i64 0, .bool en] 260 :: ringP g 4096 bs :: pcP p cap most gr got us :: R) (rxB r cap most gr got us bs en :: R) :=
  Ent.ex g (Ent.ex p (ent_fold4 h))
theorem rxnewB_ok {w st it : Int} (hs : chkS w st it = true) (hK : ∀ r, K (.tuple #[.pointer (some ⟨r, 0, none⟩), .int .i64 0]) (rxB r w w w 0 0 [] false :: R)) : CallT Tryz.prog 232 #[.int .i64 1, .agg #[.int .i64 w, .int .i64 st, .int .i64 it]] R K := by
  have hs2 := hs
  unfold chkS at hs2
  rw [decide_eq_true_eq] at hs2
  refine callT_intro mixed Tryz.func232 rfl (by decide) (by decide +kernel) (by exact Nat.le_of_ble_eq_true rfl) ?_
  repeat' (first
    | (show evG _ _ _ _ _ _ _; first | refine G_pure0 ?_ | refine G_load ?_ | refine evG_nil ?_ | refine G_br ?_ ?_ | refine G_field ?_ | refine G_pure ?_ | refine G_store ?_ | refine G_loadV ?_ | refine G_loadV0 ?_ | refine G_loadV2 ?_ | refine G_build ?_ | refine G_eql_agg ?_ | refine G_neq_agg ?_ | refine G_call ?_ | refine G_call0 ?_ | (refine G_box ?_; intro _) | refine G_skip ?_ | refine G_skip0 ?_)
    | (show spl _ _ _; first | refine spl_no rfl ?_ | refine spl_yes rfl ?_)
    | (show evC _ _ _ _ _; first | refine c_seq ?_ | refine c_region (by exact rfl) ?_ | refine c_cond (by exact rfl) ?_ | refine c_ret ?_ | refine c_skip ?_ | refine c_block ?_ | refine c_exit ?_ | refine std ?_)
    | (show Br _ _ _; first | refine Br.t rfl ?_ | refine Br.f rfl ?_ | refine brs ?_ | (first | refine Br.mkN (fun h => ?_) (fun h => ?_) | refine Br.mk (fun h => ?_) (fun h => ?_)) <;> (try (first | contradiction | (exfalso; omega) | (exfalso; simp at h; done))))
    | refine stp ?_
    | (show CallT _ 135 _ _ _; refine CA (h := check_ok (v := 0) (by rw [if_pos hs]) ?_))
    | (show CallT _ 338 _ _ _; refine CA (h := rnew_ok (cap := 4096) (by omega) (fun g => ?_)))
    | (show CallT _ 63 _ _ _; refine CA (h := pcnew_ok (by omega) (fun p => ?_))))
  (show retC _ _ _ _ _ _; refine RETC ?_; exact ret_of (Ent.trans (by exact entA) ((rxB_fold ⟨by simp, by omega, by omega, by omega, by omega, by omega, by omega, by simp; omega, by omega⟩))) (hK _))
theorem rxnewY_ok {k w st it : Int} (h : k = 1 ∨ k = 2) (hs : chkS w st it = false) (hK : K (.tuple #[.pointer none, .int .i64 3]) R) : CallT Tryz.prog 232 #[.int .i64 k, .agg #[.int .i64 w, .int .i64 st, .int .i64 it]] R K := by
  refine callT_intro mixed Tryz.func232 rfl (by decide) (by decide +kernel) (by exact Nat.le_of_ble_eq_true rfl) ?_
  repeat' (first
    | (show evG _ _ _ _ _ _ _; first | refine G_pure0 ?_ | refine G_load ?_ | refine evG_nil ?_ | refine G_br ?_ ?_ | refine G_field ?_ | refine G_pure ?_ | refine G_store ?_ | refine G_loadV ?_ | refine G_loadV0 ?_ | refine G_loadV2 ?_ | refine G_build ?_ | refine G_eql_agg ?_ | refine G_neq_agg ?_ | refine G_call ?_ | refine G_call0 ?_ | (refine G_box ?_; intro _) | refine G_skip ?_ | refine G_skip0 ?_)
    | (show spl _ _ _; first | refine spl_no rfl ?_ | refine spl_yes rfl ?_)
    | (show evC _ _ _ _ _; first | refine c_seq ?_ | refine c_region (by exact rfl) ?_ | refine c_cond (by exact rfl) ?_ | refine c_ret ?_ | refine c_skip ?_ | refine c_block ?_ | refine c_exit ?_ | refine std ?_)
    | (show Br _ _ _; first | refine Br.t rfl ?_ | refine Br.f rfl ?_ | refine brs ?_ | (first | refine Br.mkN (fun h => ?_) (fun h => ?_) | refine Br.mk (fun h => ?_) (fun h => ?_)) <;> (try (first | contradiction | (exfalso; omega) | (exfalso; simp at h; done))))
    | refine stp ?_
    | (show CallT _ 135 _ _ _; refine CA (h := check_ok (v := 3) (by rw [hs]; rfl) ?_)))
  all_goals (show retC _ _ _ _ _ _; refine RETC ?_; exact ret_done (hK))
end
end Go.Proofs.YtndpgmigdgohiaaGreat

