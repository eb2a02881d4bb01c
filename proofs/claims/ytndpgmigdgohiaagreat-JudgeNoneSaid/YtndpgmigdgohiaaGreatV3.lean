/- Rx: of items: lemmas; each with the conditions that it states. -/
import Derived.Test.YtndpgmigdgohiaaGreatFh
import Derived.Test.YtndpgmigdgohiaaGreatV2

namespace Go.Proofs.YtndpgmigdgohiaaGreat
open Go Go.Proofs Go.Sl
set_option maxRecDepth 100000
set_option maxHeartbeats 4000000
set_option linter.unusedSimpArgs false
set_option linter.unusedVariables false
attribute [local irreducible] evG evC spl thenC inBlockC noGotoC CallT retC RetG TurnG CutG pt ro exP star sep pureP
variable {R C : List HP} {K : Value → List HP → Prop}
/-- mr: the greatest room that it had -/
def RI (mr room open_ ask : Int) (l : List ByteArray) (ac tk dr : Int) : Prop := ac = tk + dr + l.length ∧ 0 ≤ tk ∧ 0 ≤ dr ∧ ac ≤ 400000000 ∧ 0 ≤ open_ ∧ open_ + l.length ≤ mr ∧ 0 ≤ room ∧ room ≤ mr ∧ mr ≤ 64 ∧ 0 ≤ ask ∧ ask ≤ 2147483647
def rxI (r : Nat) (mr room open_ ask : Int) (l : List ByteArray) (ac tk dr : Int) (en : Bool) : HP := exP fun q => exP fun d => sep (pt r [.int .i64 2, .pointer none, .pointer none, .pointer (some ⟨q, 0, none⟩), .pointer (some ⟨d, 0, none⟩), .int .i64 room, .int .i64 open_, .bool en] 260) (sep (quP q 64 0 l ac tk dr) (sep (demP d ask 2147483647) (pureP (RI mr room open_ ask l ac tk dr))))
section
variable {r : Nat} {mr room open_ ask ac tk dr : Int} {l : List ByteArray} {en : Bool} {n : Int} {s : ByteArray}
theorem rxI_fold {q d : Nat} (h : RI mr room open_ ask l ac tk dr) : Ent (pt r [.int .i64 2, .pointer none, .pointer none, .pointer (some ⟨q, 0, none⟩), .pointer (some ⟨d, 0, none⟩), .int .i64 room, .int .i64 open_, .bool en] 260 :: quP q 64 0 l ac tk dr :: demP d ask 2147483647 :: R) (rxI r mr room open_ ask l ac tk dr en :: R) :=
  Ent.ex q (Ent.ex d (ent_fold4 h))
theorem rxnewI_ok {w st it : Int} (hs : chkS w st it = true) (hK : ∀ r, K (.tuple #[.pointer (some ⟨r, 0, none⟩), .int .i64 0]) (rxI r it it 0 0 [] 0 0 0 false :: R)) : CallT Tryz.prog 232 #[.int .i64 2, .agg #[.int .i64 w, .int .i64 st, .int .i64 it]] R K := by
  have hs2 := hs
  unfold chkS at hs2
  rw [decide_eq_true_eq] at hs2
  refine callT_intro mixed Tryz.func232 rfl (by decide) (by decide +kernel) (by exact Nat.le_of_ble_eq_true rfl) ?_
  repeat' (first
    | (show evG _ _ _ _ _ _ _; first | refine G_pure0 ?_ | refine G_load ?_ | refine evG_nil ?_ | refine G_br ?_ ?_ | refine G_field ?_ | refine G_pure ?_ | refine G_store ?_ | refine G_loadV ?_ | refine G_loadV0 ?_ | refine G_loadV2 ?_ | refine G_build ?_ | refine G_eql_agg ?_ | refine G_neq_agg ?_ | refine G_call ?_ | refine G_call0 ?_ | (refine G_box ?_; intro _) | refine G_skip ?_ | refine G_skip0 ?_)
    | (show spl _ _ _; first | refine spl_no rfl ?_ | refine spl_yes rfl ?_)
    | (show evC _ _ _ _ _; first | refine c_seq ?_ | refine c_region (by exact rfl) ?_ | refine c_cond (by exact rfl) ?_ | refine c_ret ?_ | refine c_skip ?_ | refine c_block ?_ | refine c_exit ?_ | refine std ?_)
    | (show Br _ _ _; first | refine Br.t rfl ?_ | refine Br.f rfl ?_ | refine brs ?_ | (first | refine Br.mkN (fun h => ?_) (fun h => ?_) | refine Br.mk (fun h => ?_) (fun h => ?_)) <;> (try (first | contradiction | (exfalso; omega) | (exfalso; simp at h; done))))
    | refine stp ?_
    | (show CallT _ 135 _ _ _; refine CA (h := check_ok (v := 0) (by rw [if_pos hs]) ?_))
    | (show CallT _ 339 _ _ _; refine CA (h := qunew_ok (by omega) (by omega) (fun q => ?_)))
    | (show CallT _ 340 _ _ _; refine CA (h := dnew_ok (by omega) (fun d => ?_))))
  (show retC _ _ _ _ _ _; refine RETC ?_; exact ret_of (Ent.trans (by exact entA) ((rxI_fold ⟨by simp, by omega, by omega, by omega, by omega, by simp; omega, by omega, by omega, by omega, by omega, by omega⟩))) (hK _))
end
end Go.Proofs.YtndpgmigdgohiaaGreat

