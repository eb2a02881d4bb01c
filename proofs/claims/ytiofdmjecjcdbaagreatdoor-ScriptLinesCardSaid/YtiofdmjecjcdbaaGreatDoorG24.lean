/- Script: the laws of a line: lemmas; each with the conditions that it states. -/
import Derived.Test.YtiofdmjecjcdbaaGreatDoorFh
import Derived.Test.YtiofdmjecjcdbaaGreatDoorG23
import Derived.Test.YtiofdmjecjcdbaaGreatDoorG16
import Derived.Test.YtiofdmjecjcdbaaGreatDoorG17

namespace Go.Proofs.YtiofdmjecjcdbaaGreatDoor
open Go Go.Proofs Go.Sl
set_option maxRecDepth 100000
set_option maxHeartbeats 4000000
set_option linter.unusedSimpArgs false
set_option linter.unusedVariables false
attribute [local irreducible] evG evC spl thenC inBlockC noGotoC CallT retC RetG TurnG CutG pt ro exP star sep pureP
variable {R C : List HP} {K : Value → List HP → Prop}
theorem light_ok {a : AC} (hK : K (.bool (decide (((a.s.size : Nat) : Int) < 900))) R) : CallT Tryz.prog 17 #[.agg #[.int .i64 a.kd, .int .i64 a.sd, .int .i64 a.id, .int .i64 a.n, .int .i64 a.cd, .string a.s, .int .i64 a.on, .int .i64 a.ww, .bool a.xx, .int .i64 a.xw, .int .i64 a.xs, .int .i64 a.xi]] R K := by
  refine callT_intro mixed Tryz.func17 rfl (by decide) (by decide +kernel) (by exact Nat.le_of_ble_eq_true rfl) ?_
  repeat' (first
    | (show evG _ _ _ _ _ _ _; first | refine G_pure0 ?_ | refine G_load ?_ | refine evG_nil ?_ | refine G_br ?_ ?_ | refine G_field ?_ | refine G_pure ?_ | refine G_loadV ?_ | refine G_loadV0 ?_ | refine G_loadV2 ?_ | (refine G_box ?_; intro _))
    | (show spl _ _ _; first | refine spl_no rfl ?_ | refine spl_yes rfl ?_)
    | (show evC _ _ _ _ _; first | refine c_seq ?_ | refine c_region (by exact rfl) ?_ | refine c_cond (by exact rfl) ?_ | refine c_ret ?_ | refine c_skip ?_ | refine c_block ?_ | refine c_exit ?_ | refine std ?_)
    | (show Br _ _ _; first | refine Br.t rfl ?_ | refine Br.f rfl ?_ | refine brs ?_ | (first | refine Br.mkN (fun h => ?_) (fun h => ?_) | refine Br.mk (fun h => ?_) (fun h => ?_)) <;> (try (first | contradiction | (exfalso; omega) | (exfalso; simp at h; done))))
    | refine stp ?_)
  all_goals (show retC _ _ _ _ _ _; refine RETC ?_; exact ret_done (hK))
theorem scriptLines_ok {a : AC} (ha : InA a) (hK : ∀ C, K (.bool true) C) : CallT Tryz.prog 5 #[.agg #[.int .i64 a.kd, .int .i64 a.sd, .int .i64 a.id, .int .i64 a.n, .int .i64 a.cd, .string a.s, .int .i64 a.on, .int .i64 a.ww, .bool a.xx, .int .i64 a.xw, .int .i64 a.xs, .int .i64 a.xi]] R K := by
  by_cases hs : ((a.s.size : Nat) : Int) < 900
  · have hd : decide (((a.s.size : Nat) : Int) < 900) = true := decide_eq_true hs
    have hq : ((bq (lineS a)).toList == (bq (lineS a)).toList) = true := beq_self_eq_true _
    have hq0 : ((⟨#[]⟩ : ByteArray).toList == (⟨#[]⟩ : ByteArray).toList) = true := beq_self_eq_true _
    by_cases hk : okK a
    · by_cases hc : cano a = a
      · have hl := lineF_some.2 ⟨⟨hk, hc⟩, rfl⟩
        have hr : ∀ {R : List HP} {K : Value → List HP → Prop}, K (.tuple #[.string (bq (lineS a)), .bool true]) R → CallT Tryz.prog 19 #[.agg #[.int .i64 a.kd, .int .i64 a.sd, .int .i64 a.id, .int .i64 a.n, .int .i64 a.cd, .string a.s, .int .i64 a.on, .int .i64 a.ww, .bool a.xx, .int .i64 a.xw, .int .i64 a.xs, .int .i64 a.xi]] R K := fun hK => rline_ok hk ha fun r hr => by
          have e : r = true := hr.2 hc
          subst e
          exact hK
        refine callT_intro mixed Tryz.func5 rfl (by decide) (by decide +kernel) (by exact Nat.le_of_ble_eq_true rfl) ?_
        repeat' (first
          | (show evG _ _ _ _ _ _ _; first | refine G_pure0 ?_ | refine G_load ?_ | refine evG_nil ?_ | refine G_br ?_ ?_ | refine G_pure ?_ | refine G_loadV ?_ | refine G_loadV0 ?_ | refine G_loadV2 ?_ | refine G_not ?_ | refine G_eql_agg ?_ | refine G_call ?_ | refine G_call0 ?_ | (refine G_box ?_; intro _) | refine G_skip ?_ | refine G_skip0 ?_)
          | (show spl _ _ _; first | refine spl_no rfl ?_ | refine spl_yes rfl ?_)
          | (show evC _ _ _ _ _; first | refine c_seq ?_ | refine c_region (by exact rfl) ?_ | refine c_cond (by exact rfl) ?_ | refine c_ret ?_ | refine c_skip ?_ | refine c_block ?_ | refine c_exit ?_ | refine std ?_)
          | (show Br _ _ _; first | refine Br.t rfl ?_ | refine Br.f rfl ?_ | refine brs ?_ | (first | refine Br.mkN (fun h => ?_) (fun h => ?_) | refine Br.mk (fun h => ?_) (fun h => ?_)) <;> (try (first | contradiction | (exfalso; omega) | (exfalso; simp at h; done))))
          | refine stp ?_
          | (show CallT _ 17 _ _ _; refine CA (h := light_ok ?_); rw [hd])
          | (show CallT _ 9 _ _ _; refine CA (h := awake31_ok ?_))
          | (show CallT _ 18 _ _ _; refine CA (h := lineY_ok ha hl ?_))
          | (show CallT _ 19 _ _ _; refine CA (h := hr ?_)))
        all_goals (show retC _ _ _ _ _ _; refine RETC ?_; exact ret_done (hK _))
      · have hl : lineF a = none := by
          cases h : lineF a with
          | none => rfl
          | some l => exact absurd (lineF_some.1 h).1.2 hc
        have hr : ∀ {R : List HP} {K : Value → List HP → Prop}, K (.tuple #[.string (bq (lineS a)), .bool false]) R → CallT Tryz.prog 19 #[.agg #[.int .i64 a.kd, .int .i64 a.sd, .int .i64 a.id, .int .i64 a.n, .int .i64 a.cd, .string a.s, .int .i64 a.on, .int .i64 a.ww, .bool a.xx, .int .i64 a.xw, .int .i64 a.xs, .int .i64 a.xi]] R K := fun hK => rline_ok hk ha fun r hr => by
          cases r
          · exact hK
          · exact absurd (hr.1 rfl) hc
        refine callT_intro mixed Tryz.func5 rfl (by decide) (by decide +kernel) (by exact Nat.le_of_ble_eq_true rfl) ?_
        repeat' (first
          | (show evG _ _ _ _ _ _ _; first | refine G_pure0 ?_ | refine G_load ?_ | refine evG_nil ?_ | refine G_br ?_ ?_ | refine G_pure ?_ | refine G_loadV ?_ | refine G_loadV0 ?_ | refine G_loadV2 ?_ | refine G_not ?_ | refine G_eql_agg ?_ | refine G_call ?_ | refine G_call0 ?_ | (refine G_box ?_; intro _) | refine G_skip ?_ | refine G_skip0 ?_)
          | (show spl _ _ _; first | refine spl_no rfl ?_ | refine spl_yes rfl ?_)
          | (show evC _ _ _ _ _; first | refine c_seq ?_ | refine c_region (by exact rfl) ?_ | refine c_cond (by exact rfl) ?_ | refine c_ret ?_ | refine c_skip ?_ | refine c_block ?_ | refine c_exit ?_ | refine std ?_)
          | (show Br _ _ _; first | refine Br.t rfl ?_ | refine Br.f rfl ?_ | refine brs ?_ | (first | refine Br.mkN (fun h => ?_) (fun h => ?_) | refine Br.mk (fun h => ?_) (fun h => ?_)) <;> (try (first | contradiction | (exfalso; omega) | (exfalso; simp at h; done))))
          | refine stp ?_
          | (show CallT _ 17 _ _ _; refine CA (h := light_ok ?_); rw [hd])
          | (show CallT _ 9 _ _ _; refine CA (h := awake31_ok ?_))
          | (show CallT _ 18 _ _ _; refine CA (h := lineN_ok ha hl ?_))
          | (show CallT _ 19 _ _ _; refine CA (h := hr ?_)))
        all_goals (show retC _ _ _ _ _ _; refine RETC ?_; exact ret_done (hK _))
    · have hl : lineF a = none := by
        cases h : lineF a with
        | none => rfl
        | some l => exact absurd (lineF_some.1 h).1.1 hk
      refine callT_intro mixed Tryz.func5 rfl (by decide) (by decide +kernel) (by exact Nat.le_of_ble_eq_true rfl) ?_
      repeat' (first
        | (show evG _ _ _ _ _ _ _; first | refine G_pure0 ?_ | refine G_load ?_ | refine evG_nil ?_ | refine G_br ?_ ?_ | refine G_pure ?_ | refine G_loadV ?_ | refine G_loadV0 ?_ | refine G_loadV2 ?_ | refine G_not ?_ | refine G_eql_agg ?_ | refine G_call ?_ | refine G_call0 ?_ | (refine G_box ?_; intro _) | refine G_skip ?_ | refine G_skip0 ?_)
        | (show spl _ _ _; first | refine spl_no rfl ?_ | refine spl_yes rfl ?_)
        | (show evC _ _ _ _ _; first | refine c_seq ?_ | refine c_region (by exact rfl) ?_ | refine c_cond (by exact rfl) ?_ | refine c_ret ?_ | refine c_skip ?_ | refine c_block ?_ | refine c_exit ?_ | refine std ?_)
        | (show Br _ _ _; first | refine Br.t rfl ?_ | refine Br.f rfl ?_ | refine brs ?_ | (first | refine Br.mkN (fun h => ?_) (fun h => ?_) | refine Br.mk (fun h => ?_) (fun h => ?_)) <;> (try (first | contradiction | (exfalso; omega) | (exfalso; simp at h; done))))
        | refine stp ?_
        | (show CallT _ 17 _ _ _; refine CA (h := light_ok ?_); rw [hd])
        | (show CallT _ 9 _ _ _; refine CA (h := awake31_ok ?_))
        | (show CallT _ 18 _ _ _; refine CA (h := lineN_ok ha hl ?_))
        | (show CallT _ 19 _ _ _; refine CA (h := rlineX_ok hk ?_)))
      all_goals (show retC _ _ _ _ _ _; refine RETC ?_; exact ret_done (hK _))
  · have hd : decide (((a.s.size : Nat) : Int) < 900) = false := decide_eq_false hs
    refine callT_intro mixed Tryz.func5 rfl (by decide) (by decide +kernel) (by exact Nat.le_of_ble_eq_true rfl) ?_
    repeat' (first
      | (show evG _ _ _ _ _ _ _; first | refine G_pure0 ?_ | refine G_load ?_ | refine evG_nil ?_ | refine G_br ?_ ?_ | refine G_pure ?_ | refine G_loadV ?_ | refine G_loadV0 ?_ | refine G_loadV2 ?_ | refine G_not ?_ | refine G_eql_agg ?_ | refine G_call ?_ | refine G_call0 ?_ | (refine G_box ?_; intro _) | refine G_skip ?_ | refine G_skip0 ?_)
      | (show spl _ _ _; first | refine spl_no rfl ?_ | refine spl_yes rfl ?_)
      | (show evC _ _ _ _ _; first | refine c_seq ?_ | refine c_region (by exact rfl) ?_ | refine c_cond (by exact rfl) ?_ | refine c_ret ?_ | refine c_skip ?_ | refine c_block ?_ | refine c_exit ?_ | refine std ?_)
      | (show Br _ _ _; first | refine Br.t rfl ?_ | refine Br.f rfl ?_ | refine brs ?_ | (first | refine Br.mkN (fun h => ?_) (fun h => ?_) | refine Br.mk (fun h => ?_) (fun h => ?_)) <;> (try (first | contradiction | (exfalso; omega) | (exfalso; simp at h; done))))
      | refine stp ?_
      | (show CallT _ 17 _ _ _; refine CA (h := light_ok ?_); rw [hd])
      | (show CallT _ 9 _ _ _; refine CA (h := awake31_ok ?_)))
    all_goals (show retC _ _ _ _ _ _; refine RETC ?_; exact ret_done (hK _))
end Go.Proofs.YtiofdmjecjcdbaaGreatDoor

