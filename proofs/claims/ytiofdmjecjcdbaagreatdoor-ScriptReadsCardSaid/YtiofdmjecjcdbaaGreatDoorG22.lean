/- Script: what must come at any rate: lemmas; each with the conditions that it states. -/
import Derived.Test.YtiofdmjecjcdbaaGreatDoorG20
import Derived.Test.YtiofdmjecjcdbaaGreatDoorEV32

namespace Go.Proofs.YtiofdmjecjcdbaaGreatDoor
open Go Go.Proofs Go.Sl Go.Ex
set_option maxRecDepth 100000
set_option maxHeartbeats 4000000
set_option linter.unusedSimpArgs false
set_option linter.unusedVariables false
attribute [local irreducible] evG evC spl thenC inBlockC noGotoC CallT retC RetG TurnG CutG pt ro exP star sep pureP
attribute [local irreducible] evh
variable {R C : List HP} {K : Value → List HP → Prop}
theorem runX31 (n : Nat) : ClOk Tryz.prog (runX Tryz.prog od n) := runX_ok mixed od_ok fn_ok n
/-- the watch, after k acts -/
def wch (r o : Nat) (hp : T CB) : HP := exP fun ρ => sep (pureP (DV ρ (.ptr 221 0) (.pointer (some ⟨r, o, none⟩)))) (evh ρ hp)
theorem wch_in {r o : Nat} {hp : T CB} {ρ : Rho} (h : DV ρ (.ptr 221 0) (.pointer (some ⟨r, o, none⟩))) : Ent (evh ρ hp :: R) (wch r o hp :: R) := by
  unfold wch
  exact Ent.ex (x := ρ) (Ent.sep (Ent.pure h (Ent.refl _)))
theorem over31_ok (hK : ∀ r o, K (.tuple #[.pointer (some ⟨r, o, none⟩), .int .i64 0]) (wch r o evh0 :: R)) : CallT Tryz.prog 16 #[.agg #[.int .i64 64, .int .i64 8, .int .i64 4, .int .i64 100, .int .i64 5, .int .i64 0, .int .i64 0, .int .i64 0, .int .i64 0], .agg #[.int .i64 64, .int .i64 8, .int .i64 4, .int .i64 100, .int .i64 5, .int .i64 0, .int .i64 0, .int .i64 0, .int .i64 0]] R K := by
  refine CallT.ent evh_nil ?_
  refine CallT.entK ?_
  refine evcall (cl := runX Tryz.prog od 60) (Args := [.agg #[.int .i64 64, .int .i64 8, .int .i64 4, .int .i64 100, .int .i64 5, .int .i64 0, .int .i64 0, .int .i64 0, .int .i64 0], .agg #[.int .i64 64, .int .i64 8, .int .i64 4, .int .i64 100, .int .i64 5, .int .i64 0, .int .i64 0, .int .i64 0, .int .i64 0]]) (runX31 60) ev0_chk ?_ ?_
  · unfold eva0 evi
    exact .cons (.agg (.cons (.int _ _) (.cons (.int _ _) (.cons (.int _ _) (.cons (.int _ _) (.cons (.int _ _) (.cons (.int _ _) (.cons (.int _ _) (.cons (.int _ _) (.cons (.int _ _) .nil)))))))))) (.cons (.agg (.cons (.int _ _) (.cons (.int _ _) (.cons (.int _ _) (.cons (.int _ _) (.cons (.int _ _) (.cons (.int _ _) (.cons (.int _ _) (.cons (.int _ _) (.cons (.int _ _) .nil)))))))))) .nil)
  · intro ρ V _ hV
    unfold evv0 evi at hV
    obtain ⟨vs, rfl, h1⟩ : ∃ vs, V = .tuple vs.toArray ∧ DL ρ _ vs := by cases hV; exact ⟨_, rfl, by assumption⟩
    cases h1 with
    | cons h1 h2 =>
      cases h2 with
      | cons h2 h3 =>
        cases h3
        cases h2
        cases h1 with
        | ptr hρ => exact ⟨_, wch_in (.ptr hρ), hK _ _⟩
theorem do31_0_ok {r o : Nat} (hK : K (.tuple #[.agg #[.int .i64 0, .int .i64 1, .string ⟨#[]⟩, .bool false, .bool false], .bool true]) (wch r o evh1 :: R)) : CallT Tryz.prog 33 #[.pointer (some ⟨r, o, none⟩), .agg #[.int .i64 1, .int .i64 0, .int .i64 0, .int .i64 1, .int .i64 0, .string ⟨#[]⟩, .int .i64 0, .int .i64 16, .bool false, .int .i64 0, .int .i64 0, .int .i64 0]] (wch r o evh0 :: R) K := by
  unfold wch
  refine CallT.ex fun ρ => CallT.sep (CallT.pure fun hw => ?_)
  refine CallT.entK ?_
  refine evcall (cl := runX Tryz.prog od 60) (Args := [.pointer (some ⟨r, o, none⟩), .agg #[.int .i64 1, .int .i64 0, .int .i64 0, .int .i64 1, .int .i64 0, .string ⟨#[]⟩, .int .i64 0, .int .i64 16, .bool false, .int .i64 0, .int .i64 0, .int .i64 0]]) (runX31 60) ev1_chk ?_ ?_
  · unfold eva1 evi
    exact .cons hw (.cons (.agg (.cons (.int _ _) (.cons (.int _ _) (.cons (.int _ _) (.cons (.int _ _) (.cons (.int _ _) (.cons (.str _) (.cons (.int _ _) (.cons (.int _ _) (.cons (.bool _) (.cons (.int _ _) (.cons (.int _ _) (.cons (.int _ _) .nil))))))))))))) .nil)
  · intro ρ2 V hx hV
    unfold evv1 evi at hV
    cases hV with
    | tup h =>
      cases h with
      | cons h1 h2 =>
        cases h1 with
        | agg h3 =>
          cases h3 with
          | cons a1 h3 =>
            cases a1
            cases h3 with
            | cons a2 h3 =>
              cases a2
              cases h3 with
              | cons a3 h3 =>
                cases a3
                cases h3 with
                | cons a4 h3 =>
                  cases a4
                  cases h3 with
                  | cons a5 h3 =>
                    cases a5
                    cases h3
                    cases h2 with
                    | cons b1 h2 =>
                      cases b1
                      cases h2
                      cases hw with
                      | ptr hρ => exact ⟨_, wch_in (.ptr (hx 221 _ hρ (by decide +kernel))), hK⟩
theorem do31_1_ok {r o : Nat} (hK : K (.tuple #[.agg #[.int .i64 0, .int .i64 3, .string ⟨#[]⟩, .bool false, .bool false], .bool true]) (wch r o evh2 :: R)) : CallT Tryz.prog 33 #[.pointer (some ⟨r, o, none⟩), .agg #[.int .i64 2, .int .i64 0, .int .i64 1, .int .i64 0, .int .i64 0, .string ⟨#[97, 32, 98]⟩, .int .i64 0, .int .i64 0, .bool false, .int .i64 0, .int .i64 0, .int .i64 0]] (wch r o evh1 :: R) K := by
  unfold wch
  refine CallT.ex fun ρ => CallT.sep (CallT.pure fun hw => ?_)
  refine CallT.entK ?_
  refine evcall (cl := runX Tryz.prog od 60) (Args := [.pointer (some ⟨r, o, none⟩), .agg #[.int .i64 2, .int .i64 0, .int .i64 1, .int .i64 0, .int .i64 0, .string ⟨#[97, 32, 98]⟩, .int .i64 0, .int .i64 0, .bool false, .int .i64 0, .int .i64 0, .int .i64 0]]) (runX31 60) ev2_chk ?_ ?_
  · unfold eva2 evi
    exact .cons hw (.cons (.agg (.cons (.int _ _) (.cons (.int _ _) (.cons (.int _ _) (.cons (.int _ _) (.cons (.int _ _) (.cons (.str _) (.cons (.int _ _) (.cons (.int _ _) (.cons (.bool _) (.cons (.int _ _) (.cons (.int _ _) (.cons (.int _ _) .nil))))))))))))) .nil)
  · intro ρ2 V hx hV
    unfold evv2 evi at hV
    cases hV with
    | tup h =>
      cases h with
      | cons h1 h2 =>
        cases h1 with
        | agg h3 =>
          cases h3 with
          | cons a1 h3 =>
            cases a1
            cases h3 with
            | cons a2 h3 =>
              cases a2
              cases h3 with
              | cons a3 h3 =>
                cases a3
                cases h3 with
                | cons a4 h3 =>
                  cases a4
                  cases h3 with
                  | cons a5 h3 =>
                    cases a5
                    cases h3
                    cases h2 with
                    | cons b1 h2 =>
                      cases b1
                      cases h2
                      cases hw with
                      | ptr hρ => exact ⟨_, wch_in (.ptr (hx 221 _ hρ (by decide +kernel))), hK⟩
theorem do31_2_ok {r o : Nat} (hK : K (.tuple #[.agg #[.int .i64 7, .int .i64 0, .string ⟨#[]⟩, .bool false, .bool false], .bool true]) (wch r o evh3 :: R)) : CallT Tryz.prog 33 #[.pointer (some ⟨r, o, none⟩), .agg #[.int .i64 4, .int .i64 1, .int .i64 1, .int .i64 5, .int .i64 0, .string ⟨#[]⟩, .int .i64 0, .int .i64 0, .bool false, .int .i64 0, .int .i64 0, .int .i64 0]] (wch r o evh2 :: R) K := by
  unfold wch
  refine CallT.ex fun ρ => CallT.sep (CallT.pure fun hw => ?_)
  refine CallT.entK ?_
  refine evcall (cl := runX Tryz.prog od 60) (Args := [.pointer (some ⟨r, o, none⟩), .agg #[.int .i64 4, .int .i64 1, .int .i64 1, .int .i64 5, .int .i64 0, .string ⟨#[]⟩, .int .i64 0, .int .i64 0, .bool false, .int .i64 0, .int .i64 0, .int .i64 0]]) (runX31 60) ev3_chk ?_ ?_
  · unfold eva3 evi
    exact .cons hw (.cons (.agg (.cons (.int _ _) (.cons (.int _ _) (.cons (.int _ _) (.cons (.int _ _) (.cons (.int _ _) (.cons (.str _) (.cons (.int _ _) (.cons (.int _ _) (.cons (.bool _) (.cons (.int _ _) (.cons (.int _ _) (.cons (.int _ _) .nil))))))))))))) .nil)
  · intro ρ2 V hx hV
    unfold evv3 evi at hV
    cases hV with
    | tup h =>
      cases h with
      | cons h1 h2 =>
        cases h1 with
        | agg h3 =>
          cases h3 with
          | cons a1 h3 =>
            cases a1
            cases h3 with
            | cons a2 h3 =>
              cases a2
              cases h3 with
              | cons a3 h3 =>
                cases a3
                cases h3 with
                | cons a4 h3 =>
                  cases a4
                  cases h3 with
                  | cons a5 h3 =>
                    cases a5
                    cases h3
                    cases h2 with
                    | cons b1 h2 =>
                      cases b1
                      cases h2
                      cases hw with
                      | ptr hρ => exact ⟨_, wch_in (.ptr (hx 221 _ hρ (by decide +kernel))), hK⟩

theorem lit31 : scrS ⟨[64, 8, 4, 100, 5, 0, 0, 0, 0, 64, 8, 4, 100, 5, 0, 0, 0, 0], [⟨1, 0, 0, 1, 0, ⟨#[]⟩, 0, 16, false, 0, 0, 0⟩, ⟨2, 0, 1, 0, 0, ⟨#[97, 32, 98]⟩, 0, 0, false, 0, 0, 0⟩, ⟨4, 1, 1, 5, 0, ⟨#[]⟩, 0, 0, false, 0, 0, 0⟩]⟩ = [112, 97, 116, 101, 114, 110, 111, 115, 116, 101, 114, 32, 54, 52, 32, 56, 32, 52, 32, 49, 48, 48, 32, 53, 32, 48, 32, 48, 32, 48, 32, 48, 32, 54, 52, 32, 56, 32, 52, 32, 49, 48, 48, 32, 53, 32, 48, 32, 48, 32, 48, 32, 48, 10, 111, 112, 101, 110, 32, 48, 32, 49, 32, 48, 32, 48, 32, 49, 54, 32, 48, 10, 111, 102, 102, 101, 114, 32, 48, 32, 49, 32, 97, 37, 50, 48, 98, 10, 114, 101, 97, 100, 32, 49, 32, 49, 32, 53, 10] := by decide +kernel
theorem in31 : OkP ⟨[64, 8, 4, 100, 5, 0, 0, 0, 0, 64, 8, 4, 100, 5, 0, 0, 0, 0], [⟨1, 0, 0, 1, 0, ⟨#[]⟩, 0, 16, false, 0, 0, 0⟩, ⟨2, 0, 1, 0, 0, ⟨#[97, 32, 98]⟩, 0, 0, false, 0, 0, 0⟩, ⟨4, 1, 1, 5, 0, ⟨#[]⟩, 0, 0, false, 0, 0, 0⟩]⟩ := by
  have hr : ∀ n : Int, -1000 ≤ n ∧ n ≤ 1000 → inR n := fun n hn => ⟨by omega, by omega⟩
  refine ⟨rfl, fun n hn => hr n (by simp at hn; omega), by decide, fun a ha => ?_⟩
  have hok : ∀ a : AC, okK a → cano a = a → lineF a = some (lineS a) := fun a h1 h2 => lineF_some.2 ⟨⟨h1, h2⟩, rfl⟩
  simp only [List.mem_cons, List.mem_nil_iff, or_false] at ha
  rcases ha with rfl | rfl | rfl
  all_goals
    refine ⟨hok _ ⟨by decide, by decide, by decide⟩ ?_, ⟨hr _ (by decide), hr _ (by decide), hr _ (by decide), hr _ (by decide), hr _ (by decide), hr _ (by decide), hr _ (by decide), hr _ (by decide), hr _ (by decide)⟩⟩
    simp +decide [cano, wdF, cpA, AC0]
theorem rd31 : rdScr 0 PL0 (spl1 10 [112, 97, 116, 101, 114, 110, 111, 115, 116, 101, 114, 32, 54, 52, 32, 56, 32, 52, 32, 49, 48, 48, 32, 53, 32, 48, 32, 48, 32, 48, 32, 48, 32, 54, 52, 32, 56, 32, 52, 32, 49, 48, 48, 32, 53, 32, 48, 32, 48, 32, 48, 32, 48, 10, 111, 112, 101, 110, 32, 48, 32, 49, 32, 48, 32, 48, 32, 49, 54, 32, 48, 10, 111, 102, 102, 101, 114, 32, 48, 32, 49, 32, 97, 37, 50, 48, 98, 10, 114, 101, 97, 100, 32, 49, 32, 49, 32, 53, 10]) = (⟨[64, 8, 4, 100, 5, 0, 0, 0, 0, 64, 8, 4, 100, 5, 0, 0, 0, 0], [⟨1, 0, 0, 1, 0, ⟨#[]⟩, 0, 16, false, 0, 0, 0⟩, ⟨2, 0, 1, 0, 0, ⟨#[97, 32, 98]⟩, 0, 0, false, 0, 0, 0⟩, ⟨4, 1, 1, 5, 0, ⟨#[]⟩, 0, 0, false, 0, 0, 0⟩]⟩, 0, 0) := by
  rw [← lit31]
  exact rd_scr in31
end Go.Proofs.YtiofdmjecjcdbaaGreatDoor

