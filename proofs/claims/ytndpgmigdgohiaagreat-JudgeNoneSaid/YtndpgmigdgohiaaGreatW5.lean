/- Stream: new ones; the same frames; what must come at any rate; a nil stream: lemmas; each with the conditions that it states. -/
import Derived.Test.YtndpgmigdgohiaaGreatFh
import Derived.Test.YtndpgmigdgohiaaGreatWa
import Derived.Test.YtndpgmigdgohiaaGreatU2
import Derived.Test.YtndpgmigdgohiaaGreatQa

namespace Go.Proofs.YtndpgmigdgohiaaGreat
open Go Go.Proofs Go.Sl
set_option maxRecDepth 100000
set_option maxHeartbeats 4000000
set_option linter.unusedSimpArgs false
set_option linter.unusedVariables false
attribute [local irreducible] evG evC spl thenC inBlockC noGotoC CallT retC RetG TurnG CutG pt ro exP star sep pureP
variable {R C : List HP} {K : Value → List HP → Prop}
section
variable {t st k on w c la n : Int} {e x : Bool} {d : ByteArray}
end
section
variable {id w st it sb si stg ev wa stl : Int} {own : Bool} {cap : Nat}
theorem snewB_ok (hid : 1 ≤ id ∧ id ≤ 2147483647) (hcap : cap ≤ 4096) (hs : chkS w st it = true) (hK : ∀ s li t r, K (.tuple #[.pointer (some ⟨s, 0, none⟩), .int .i64 0]) (pt s [.pointer (some ⟨li, 0, none⟩), .pointer (some ⟨t, 0, none⟩), .pointer (some ⟨r, 0, none⟩), .int .i64 id, .bool own] 255 :: liP li 1 :: txB t cap [] false false 0 0 0 :: rxB r w w w 0 0 [] false :: R)) : CallT Tryz.prog 131 #[.int .i64 id, .int .i64 1, .bool own, .agg #[.int .i64 w, .int .i64 st, .int .i64 it, .int .i64 cap, .int .i64 si, .int .i64 stg, .int .i64 ev, .int .i64 wa, .int .i64 stl]] R K := by
  cases own
  · refine callT_intro mixed Tryz.func131 rfl (by decide) (by decide +kernel) (by exact Nat.le_of_ble_eq_true rfl) ?_
    repeat' (first
      | (show evG _ _ _ _ _ _ _; first | refine G_pure0 ?_ | refine G_load ?_ | refine evG_nil ?_ | refine G_br ?_ ?_ | refine G_field ?_ | refine G_pure ?_ | refine G_loadV ?_ | refine G_loadV0 ?_ | refine G_loadV2 ?_ | refine G_build ?_ | refine G_eql_agg ?_ | refine G_neq_agg ?_ | refine G_call ?_ | refine G_call0 ?_ | (refine G_box ?_; intro _) | refine G_skip ?_ | refine G_skip0 ?_)
      | (show spl _ _ _; first | refine spl_no rfl ?_ | refine spl_yes rfl ?_)
      | (show evC _ _ _ _ _; first | refine c_seq ?_ | refine c_region (by exact rfl) ?_ | refine c_cond (by exact rfl) ?_ | refine c_ret ?_ | refine c_skip ?_ | refine c_block ?_ | refine c_exit ?_ | refine std ?_)
      | (show Br _ _ _; first | refine Br.t rfl ?_ | refine Br.f rfl ?_ | refine brs ?_ | (first | refine Br.mkN (fun h => ?_) (fun h => ?_) | refine Br.mk (fun h => ?_) (fun h => ?_)) <;> (try (first | contradiction | (exfalso; omega) | (exfalso; simp at h; done))))
      | refine stp ?_
      | (show CallT _ 231 _ _ _; refine CA (h := txnewB_ok hcap (fun t => ?_)))
      | (show CallT _ 232 _ _ _; refine CA (h := rxnewB_ok hs (fun r => ?_)))
      | (show CallT _ 233 _ _ _; refine CA (h := lnew_ok (fun li => ?_)))
      | (show CallT _ 234 _ _ _; refine CA (h := levent_ok (v := 1) (by omega) (by omega) rfl (by omega) ?_)))
    (show retC _ _ _ _ _ _; refine RETC ?_; exact ret_done (hK _ _ _ _))
  · refine callT_intro mixed Tryz.func131 rfl (by decide) (by decide +kernel) (by exact Nat.le_of_ble_eq_true rfl) ?_
    repeat' (first
      | (show evG _ _ _ _ _ _ _; first | refine G_pure0 ?_ | refine G_load ?_ | refine evG_nil ?_ | refine G_br ?_ ?_ | refine G_field ?_ | refine G_pure ?_ | refine G_loadV ?_ | refine G_loadV0 ?_ | refine G_loadV2 ?_ | refine G_build ?_ | refine G_eql_agg ?_ | refine G_neq_agg ?_ | refine G_call ?_ | refine G_call0 ?_ | (refine G_box ?_; intro _) | refine G_skip ?_ | refine G_skip0 ?_)
      | (show spl _ _ _; first | refine spl_no rfl ?_ | refine spl_yes rfl ?_)
      | (show evC _ _ _ _ _; first | refine c_seq ?_ | refine c_region (by exact rfl) ?_ | refine c_cond (by exact rfl) ?_ | refine c_ret ?_ | refine c_skip ?_ | refine c_block ?_ | refine c_exit ?_ | refine std ?_)
      | (show Br _ _ _; first | refine Br.t rfl ?_ | refine Br.f rfl ?_ | refine brs ?_ | (first | refine Br.mkN (fun h => ?_) (fun h => ?_) | refine Br.mk (fun h => ?_) (fun h => ?_)) <;> (try (first | contradiction | (exfalso; omega) | (exfalso; simp at h; done))))
      | refine stp ?_
      | (show CallT _ 231 _ _ _; refine CA (h := txnewB_ok hcap (fun t => ?_)))
      | (show CallT _ 232 _ _ _; refine CA (h := rxnewB_ok hs (fun r => ?_)))
      | (show CallT _ 233 _ _ _; refine CA (h := lnew_ok (fun li => ?_)))
      | (show CallT _ 234 _ _ _; refine CA (h := levent_ok (v := 1) (by omega) (by omega) rfl (by omega) ?_)))
    (show retC _ _ _ _ _ _; refine RETC ?_; exact ret_done (hK _ _ _ _))
end
section
variable {t st k on w c la n : Int} {e x : Bool} {d : ByteArray} {pa : Option Addr} {pn pc : Nat}
end
end Go.Proofs.YtndpgmigdgohiaaGreat

