/- Conn: the law ConnMakes: lemmas; each with the conditions that it states. -/
import Derived.Test.YtndpgmigdgohiaaGreatFh
import Derived.Test.YtndpgmigdgohiaaGreatZ6
import Derived.Test.YtndpgmigdgohiaaGreatZ7
import Derived.Test.YtndpgmigdgohiaaGreatE3
import Derived.Test.YtndpgmigdgohiaaGreatFe

namespace Go.Proofs.YtndpgmigdgohiaaGreat
open Go Go.Proofs Go.Sl
set_option maxRecDepth 100000
set_option maxHeartbeats 4000000
set_option linter.unusedSimpArgs false
set_option linter.unusedVariables false
attribute [local irreducible] evG evC spl thenC inBlockC noGotoC CallT retC RetG TurnG CutG pt ro exP star sep pureP
attribute [local irreducible] mp mit
variable {R C : List HP} {K : Value → List HP → Prop}
variable {side w st it sb si stg ev wa stl : Int}
/-- may there be an endpoint of it? -/
def cOK (side w st it sb si stg ev wa stl : Int) : Bool := decide (side = 0 ∨ side = 1) && chkS w st it && decide (0 ≤ sb ∧ sb ≤ 4096) && decide (0 ≤ si ∧ si ≤ 64) && decide (0 ≤ stg ∧ stg ≤ 2) && decide (0 ≤ ev ∧ ev ≤ 1048576) && decide (0 ≤ wa ∧ wa ≤ 1048576) && decide (0 ≤ stl ∧ stl ≤ 1048576)
theorem cOK_iff : cOK side w st it sb si stg ev wa stl = true ↔ (side = 0 ∨ side = 1) ∧ chkS w st it = true ∧ (0 ≤ sb ∧ sb ≤ 4096) ∧ (0 ≤ si ∧ si ≤ 64) ∧ (0 ≤ stg ∧ stg ≤ 2) ∧ (0 ≤ ev ∧ ev ≤ 1048576) ∧ (0 ≤ wa ∧ wa ≤ 1048576) ∧ (0 ≤ stl ∧ stl ≤ 1048576) := by
  unfold cOK
  simp only [Bool.and_eq_true, decide_eq_true_eq, and_assoc]
theorem cnewGood_ok (h : cOK side w st it sb si stg ev wa stl = true) (hK : ∀ x, K (.tuple #[.pointer (some ⟨x, 0, none⟩), .int .i64 0]) R) : CallT Tryz.prog 7 #[.int .i64 side, .agg #[.int .i64 w, .int .i64 st, .int .i64 it, .int .i64 sb, .int .i64 si, .int .i64 stg, .int .i64 ev, .int .i64 wa, .int .i64 stl]] R K := by
  obtain ⟨h1, h2, h3, h4, h5, h6, h7, h8⟩ := cOK_iff.1 h
  have he := mayE_of h4 h5 h2 h3
  by_cases heq : w = 64 ∧ st = 8 ∧ it = 4
  · exact cnewF_ok h1 he ⟨h6, h7⟩ h8 heq hK
  · exact cnewG_ok h1 he ⟨h6, h7⟩ h8 heq hK
theorem cnewBad_ok (h : cOK side w st it sb si stg ev wa stl = false) (hK : ∀ e, (e = 2 ∨ e = 3) → K (.tuple #[.pointer none, .int .i64 e]) R) : CallT Tryz.prog 7 #[.int .i64 side, .agg #[.int .i64 w, .int .i64 st, .int .i64 it, .int .i64 sb, .int .i64 si, .int .i64 stg, .int .i64 ev, .int .i64 wa, .int .i64 stl]] R K := by
  by_cases h1 : side = 0 ∨ side = 1
  · rcases mayE_cases (w := w) (st := st) (it := it) (sb := sb) (si := si) (stg := stg) with he | he | he
    · obtain ⟨g1, g2, g3, g4⟩ := mayE_ok he
      by_cases hb : (0 ≤ ev ∧ ev ≤ 1048576) ∧ (0 ≤ wa ∧ wa ≤ 1048576)
      · have hst : ¬ (0 ≤ stl ∧ stl ≤ 1048576) := fun q => by
          have := cOK_iff.2 ⟨h1, g3, g4, g1, g2, hb.1, hb.2, q⟩
          rw [h] at this; cases this
        exact cnewE_ok h1 he hb (by omega) (hK 3 (.inr rfl))
      · by_cases hst : 0 ≤ stl ∧ stl ≤ 1048576
        · exact cnewC_ok h1 he hb hst (hK 3 (.inr rfl))
        · exact cnewD_ok h1 he hb (by omega) (hK 3 (.inr rfl))
    · exact cnewB_ok h1 he (by decide) (hK 2 (.inl rfl))
    · exact cnewB_ok h1 he (by decide) (hK 3 (.inr rfl))
  · exact cnewA_ok (by omega) (hK 2 (.inl rfl))
section
variable {sd kd id n on ww xw xs xi : Int} {xx : Bool} {s : ByteArray}
theorem mreg2 {Q : Exit → Fr → List HP → Prop} {a : Fr} {r : Nat} {v5 v7 v8 : Value} (ha : Agree a [(0, .int .i64 side), (4, .pointer (some ⟨r, 0, none⟩)), (5, v5), (6, .bool false), (7, v7), (8, v8)]) (hK : ∀ a, Q .normal (updL a [(0, .int .i64 side), (4, .pointer (some ⟨r, 0, none⟩)), (5, v5), (6, .bool false), (7, v7), (8, v8), (9, .bool (cOK side w st it sb si stg ev wa stl))]) (pt r [.int .i64 w, .int .i64 st, .int .i64 it, .int .i64 sb, .int .i64 si, .int .i64 stg, .int .i64 ev, .int .i64 wa, .int .i64 stl] 25 :: C)) : evC Tryz.prog (regionAt Tryz.f3 2) Q a (pt r [.int .i64 w, .int .i64 st, .int .i64 it, .int .i64 sb, .int .i64 si, .int .i64 stg, .int .i64 ev, .int .i64 wa, .int .i64 stl] 25 :: C) := by
  refine c_fr _ ha ?_
  simp only [updL]
  repeat' (first
    | (show evG _ _ _ _ _ _ _; first | refine G_add64 ?_ | refine G_pure0 ?_ | refine G_load ?_ | refine evG_nil ?_ | refine G_br ?_ ?_ | refine G_field ?_ | refine G_pure ?_ | refine G_loadV ?_ | refine G_loadV0 ?_ | refine G_loadV2 ?_ | refine G_build ?_ | refine G_cat ?_ | refine G_eql_agg ?_ | refine G_neq_agg ?_ | refine G_call ?_ | refine G_call0 ?_ | (refine G_box ?_; intro _) | refine G_skip ?_ | refine G_skip0 ?_)
    | (show spl _ _ _; first | refine spl_no rfl ?_ | refine spl_yes rfl ?_)
    | (show evC _ _ _ _ _; first | refine c_seq ?_ | refine c_region (by exact rfl) ?_ | refine c_cond (by exact rfl) ?_ | refine c_ret ?_ | refine c_skip ?_ | refine c_block ?_ | refine c_exit ?_ | refine std ?_)
    | (show Br _ _ _; first | refine Br.t rfl ?_ | refine Br.f rfl ?_ | refine brs ?_ | (first | refine Br.mkN (fun h => ?_) (fun h => ?_) | refine Br.mk (fun h => ?_) (fun h => ?_)) <;> (try (first | contradiction | (exfalso; omega) | (exfalso; simp at h; done))))
    | refine stp ?_
    | (show CallT _ 8 _ _ _; refine CA (h := r16right_ok rfl ?_)))
  all_goals exact at_updL (p := fun a => Q .normal a _) [(0, .int .i64 side), (4, .pointer (some ⟨r, 0, none⟩)), (5, v5), (6, .bool false), (7, v7), (8, v8), (9, .bool (cOK side w st it sb si stg ev wa stl))] ⟨rfl, rfl, rfl, rfl, rfl, rfl, congrArg Value.bool (by unfold cOK; simp_all <;> omega), trivial⟩ (hK _)
end
end Go.Proofs.YtndpgmigdgohiaaGreat

