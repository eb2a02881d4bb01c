/- Conn: the law ConnMakes: lemmas; each with the conditions that it states. -/
import Derived.Test.YtndpgmigdgohiaaGreatFh
import Derived.Test.YtndpgmigdgohiaaGreatZ8

namespace Go.Proofs.YtndpgmigdgohiaaGreat
open Go Go.Proofs Go.Sl
set_option maxRecDepth 100000
set_option maxHeartbeats 4000000
set_option linter.unusedSimpArgs false
set_option linter.unusedVariables false
attribute [local irreducible] evG evC spl thenC inBlockC noGotoC CallT retC RetG TurnG CutG pt ro exP star sep pureP
attribute [local irreducible] mp mit
variable {R C : List HP} {K : Value → List HP → Prop}
variable {side w st it sb si stg ev wa stl sd kd id n on ww xw xs xi : Int} {xx : Bool} {s : ByteArray}
theorem mreg2T {Q : Exit → Fr → List HP → Prop} {a : Fr} {r : Nat} {v5 v7 v8 : Value} (h : cOK side w st it sb si stg ev wa stl = true) (ha : Agree a [(0, .int .i64 side), (4, .pointer (some ⟨r, 0, none⟩)), (5, v5), (6, .bool false), (7, v7), (8, v8)]) (hK : ∀ a, Q .normal (updL a [(0, .int .i64 side), (4, .pointer (some ⟨r, 0, none⟩)), (5, v5), (6, .bool false), (7, v7), (8, v8), (9, .bool true)]) (pt r [.int .i64 w, .int .i64 st, .int .i64 it, .int .i64 sb, .int .i64 si, .int .i64 stg, .int .i64 ev, .int .i64 wa, .int .i64 stl] 25 :: C)) : evC Tryz.prog (regionAt Tryz.f3 2) Q a (pt r [.int .i64 w, .int .i64 st, .int .i64 it, .int .i64 sb, .int .i64 si, .int .i64 stg, .int .i64 ev, .int .i64 wa, .int .i64 stl] 25 :: C) :=
  mreg2 ha fun a => by rw [h]; exact hK a
theorem mreg2F {Q : Exit → Fr → List HP → Prop} {a : Fr} {r : Nat} {v5 v7 v8 : Value} (h : cOK side w st it sb si stg ev wa stl = false) (ha : Agree a [(0, .int .i64 side), (4, .pointer (some ⟨r, 0, none⟩)), (5, v5), (6, .bool false), (7, v7), (8, v8)]) (hK : ∀ a, Q .normal (updL a [(0, .int .i64 side), (4, .pointer (some ⟨r, 0, none⟩)), (5, v5), (6, .bool false), (7, v7), (8, v8), (9, .bool false)]) (pt r [.int .i64 w, .int .i64 st, .int .i64 it, .int .i64 sb, .int .i64 si, .int .i64 stg, .int .i64 ev, .int .i64 wa, .int .i64 stl] 25 :: C)) : evC Tryz.prog (regionAt Tryz.f3 2) Q a (pt r [.int .i64 w, .int .i64 st, .int .i64 it, .int .i64 sb, .int .i64 si, .int .i64 stg, .int .i64 ev, .int .i64 wa, .int .i64 stl] 25 :: C) :=
  mreg2 ha fun a => by rw [h]; exact hK a
theorem cnewBad2_ok (h : cOK side w st it sb si stg ev wa stl = false) (h2 : K (.tuple #[.pointer none, .int .i64 2]) R) (h3 : K (.tuple #[.pointer none, .int .i64 3]) R) : CallT Tryz.prog 7 #[.int .i64 side, .agg #[.int .i64 w, .int .i64 st, .int .i64 it, .int .i64 sb, .int .i64 si, .int .i64 stg, .int .i64 ev, .int .i64 wa, .int .i64 stl]] R K :=
  cnewBad_ok h fun e he => by
    rcases he with rfl | rfl
    · exact h2
    · exact h3
set_option maxHeartbeats 40000000 in
theorem connMakes_ok (hK : ∀ C, K (.bool true) C) : CallT Tryz.prog 3 #[.int .i64 side, .agg #[.int .i64 w, .int .i64 st, .int .i64 it, .int .i64 sb, .int .i64 si, .int .i64 stg, .int .i64 ev, .int .i64 wa, .int .i64 stl], .agg #[.int .i64 sd, .int .i64 kd, .int .i64 id, .int .i64 n, .string s, .int .i64 on, .int .i64 ww, .bool xx, .int .i64 xw, .int .i64 xs, .int .i64 xi]] R K := by
  cases hc : cOK side w st it sb si stg ev wa stl
  · refine callT_intro mixed Tryz.func3 rfl (by decide) (by decide +kernel) (by exact Nat.le_of_ble_eq_true rfl) ?_
    repeat' (first
      | (show evC _ (.region 2 _ _) _ _ _; refine EA (h := mreg2F hc ⟨rfl, rfl, rfl, rfl, rfl, rfl, trivial⟩ (fun a => ?_)))
      | (show evG _ _ _ _ _ _ _; first | refine G_add64 ?_ | refine G_pure0 ?_ | refine G_load ?_ | refine evG_nil ?_ | refine G_br ?_ ?_ | refine G_field ?_ | refine G_pure ?_ | refine G_loadV ?_ | refine G_loadV0 ?_ | refine G_loadV2 ?_ | refine G_build ?_ | refine G_cat ?_ | refine G_eql_agg ?_ | refine G_neq_agg ?_ | refine G_call ?_ | refine G_call0 ?_ | (refine G_box ?_; intro _) | refine G_skip ?_ | refine G_skip0 ?_)
      | (show spl _ _ _; first | refine spl_no rfl ?_ | refine spl_yes rfl ?_)
      | (show evC _ _ _ _ _; first | refine c_seq ?_ | refine c_region (by exact rfl) ?_ | refine c_cond (by exact rfl) ?_ | refine c_ret ?_ | refine c_skip ?_ | refine c_block ?_ | refine c_exit ?_ | refine std ?_)
      | (show Br _ _ _; first | refine Br.t (by decide +kernel) ?_ | refine Br.f (by decide +kernel) ?_ | refine Br.t rfl ?_ | refine Br.f rfl ?_ | refine brs ?_ | (first | refine Br.mkN (fun h => ?_) (fun h => ?_) | refine Br.mk (fun h => ?_) (fun h => ?_)) <;> (try (first | contradiction | (exfalso; omega) | (exfalso; simp at h; done))))
      | refine stp ?_
      | (show CallT _ 7 _ _ _; refine CA (h := cnewBad2_ok hc ?_ ?_))
      | (show CallT _ 9 _ _ _; refine CA (h := znOpen_ok ?_))
      | (show CallT _ 10 _ _ _; refine CA (h := znOffer_ok ?_))
      | (show CallT _ 11 _ _ _; refine CA (h := znRead_ok ?_))
      | (show CallT _ 12 _ _ _; refine CA (h := znItem_ok ?_))
      | (show CallT _ 14 _ _ _; refine CA (h := znFinish_ok ?_))
      | (show CallT _ 15 _ _ _; refine CA (h := znAsk_ok ?_))
      | (show CallT _ 16 _ _ _; refine CA (h := znMove_ok ?_))
      | (show CallT _ 17 _ _ _; refine CA (h := znReset_ok ?_))
      | (show CallT _ 18 _ _ _; refine CA (h := znGoaway_ok ?_))
      | (show CallT _ 19 _ _ _; refine CA (h := znSettings_ok ?_))
      | (show CallT _ 20 _ _ _; refine CA (h := znReceive_ok ?_))
      | (show CallT _ 21 _ _ _; refine CA (h := znStep_ok ?_))
      | (show CallT _ 22 _ _ _; refine CA (h := znTick_ok ?_))
      | (show CallT _ 23 _ _ _; refine CA (h := znMoves_ok ?_))
      | (show CallT _ 24 _ _ _; refine CA (h := znStatus_ok ?_))
      | (show CallT _ 25 _ _ _; refine CA (h := znStream_ok ?_))
      | (show CallT _ 26 _ _ _; refine CA (h := znIDs_ok ?_))
      | (show CallT _ 27 _ _ _; refine CA (h := znCredit_ok ?_))
      | (show CallT _ 28 _ _ _; refine CA (h := znRecv_ok ?_))
      | (show CallT _ 29 _ _ _; refine CA (h := znShake_ok ?_))
      | (show CallT _ 30 _ _ _; refine CA (h := znQueue_ok ?_))
      | (show CallT _ 13 _ _ _; refine CA (h := awake26_ok ?_)))
    all_goals (show retC _ _ _ _ _ _; refine RETC ?_; exact ret_done (hK _))
  · refine callT_intro mixed Tryz.func3 rfl (by decide) (by decide +kernel) (by exact Nat.le_of_ble_eq_true rfl) ?_
    repeat' (first
      | (show evC _ (.region 2 _ _) _ _ _; refine EA (h := mreg2T hc ⟨rfl, rfl, rfl, rfl, rfl, rfl, trivial⟩ (fun a => ?_)))
      | (show evG _ _ _ _ _ _ _; first | refine G_add64 ?_ | refine G_pure0 ?_ | refine G_load ?_ | refine evG_nil ?_ | refine G_br ?_ ?_ | refine G_field ?_ | refine G_pure ?_ | refine G_loadV ?_ | refine G_loadV0 ?_ | refine G_loadV2 ?_ | refine G_build ?_ | refine G_cat ?_ | refine G_eql_agg ?_ | refine G_neq_agg ?_ | refine G_call ?_ | refine G_call0 ?_ | (refine G_box ?_; intro _) | refine G_skip ?_ | refine G_skip0 ?_)
      | (show spl _ _ _; first | refine spl_no rfl ?_ | refine spl_yes rfl ?_)
      | (show evC _ _ _ _ _; first | refine c_seq ?_ | refine c_region (by exact rfl) ?_ | refine c_cond (by exact rfl) ?_ | refine c_ret ?_ | refine c_skip ?_ | refine c_block ?_ | refine c_exit ?_ | refine std ?_)
      | (show Br _ _ _; first | refine Br.t (by decide +kernel) ?_ | refine Br.f (by decide +kernel) ?_ | refine Br.t rfl ?_ | refine Br.f rfl ?_ | refine brs ?_ | (first | refine Br.mkN (fun h => ?_) (fun h => ?_) | refine Br.mk (fun h => ?_) (fun h => ?_)) <;> (try (first | contradiction | (exfalso; omega) | (exfalso; simp at h; done))))
      | refine stp ?_
      | (show CallT _ 7 _ _ _; refine CA (h := cnewGood_ok hc (fun x => ?_)))
      | (show CallT _ 9 _ _ _; refine CA (h := znOpen_ok ?_))
      | (show CallT _ 10 _ _ _; refine CA (h := znOffer_ok ?_))
      | (show CallT _ 11 _ _ _; refine CA (h := znRead_ok ?_))
      | (show CallT _ 12 _ _ _; refine CA (h := znItem_ok ?_))
      | (show CallT _ 14 _ _ _; refine CA (h := znFinish_ok ?_))
      | (show CallT _ 15 _ _ _; refine CA (h := znAsk_ok ?_))
      | (show CallT _ 16 _ _ _; refine CA (h := znMove_ok ?_))
      | (show CallT _ 17 _ _ _; refine CA (h := znReset_ok ?_))
      | (show CallT _ 18 _ _ _; refine CA (h := znGoaway_ok ?_))
      | (show CallT _ 19 _ _ _; refine CA (h := znSettings_ok ?_))
      | (show CallT _ 20 _ _ _; refine CA (h := znReceive_ok ?_))
      | (show CallT _ 21 _ _ _; refine CA (h := znStep_ok ?_))
      | (show CallT _ 22 _ _ _; refine CA (h := znTick_ok ?_))
      | (show CallT _ 23 _ _ _; refine CA (h := znMoves_ok ?_))
      | (show CallT _ 24 _ _ _; refine CA (h := znStatus_ok ?_))
      | (show CallT _ 25 _ _ _; refine CA (h := znStream_ok ?_))
      | (show CallT _ 26 _ _ _; refine CA (h := znIDs_ok ?_))
      | (show CallT _ 27 _ _ _; refine CA (h := znCredit_ok ?_))
      | (show CallT _ 28 _ _ _; refine CA (h := znRecv_ok ?_))
      | (show CallT _ 29 _ _ _; refine CA (h := znShake_ok ?_))
      | (show CallT _ 30 _ _ _; refine CA (h := znQueue_ok ?_))
      | (show CallT _ 13 _ _ _; refine CA (h := awake26_ok ?_)))
    all_goals (show retC _ _ _ _ _ _; refine RETC ?_; exact ret_done (hK _))
end Go.Proofs.YtndpgmigdgohiaaGreat

