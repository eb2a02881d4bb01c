/- The statement ScriptBack: for every act and text the law answers true; no conditions: the law at every world. -/
import Derived.Test.YtiofdmjecjcdbaaGreatDoorG24
import Derived.Test.YtiofdmjecjcdbaaGreatDoorLScriptBackA
import Derived.Test.YtiofdmjecjcdbaaGreatDoorG25
import Derived.Test.YtiofdmjecjcdbaaGreatDoorFs
import Derived.SevenTiedAt
import Derived.LaidMore
import Derived.OpenShut
import Derived.Test.YtiofdmjecjcdbaaGreatDoorRows
import Derived.Test.YtiofdmjecjcdbaaGreatDoorCards
import Derived.Test.YtiofdmjecjcdbaaGreatDoorTie
import Derived.ProofKit
import Derived.Lib.SmallJoins

namespace Go.Proofs.YtiofdmjecjcdbaaGreatDoor
open Go Go.Proofs Go.ChangeShapes Go.WideShapes Go.ChangeAt Go.RowKit Go.Sl Go.Joins
set_option maxRecDepth 100000
theorem scriptBack_lifted (os : Os) (started : os.Started) (H : Type) (enc : TypeId × Value → H) :
    ReturnsInHanded {} Tryz.checked os 6 .any (fun w args => (Rows.scriptBackSpec.pre enc Tryz.prog Tryz.f6 Rows.scriptBackRow.domain false w args ∧ laidMetH Tryz.prog laid31 w) ∧ sizedMet enc Tryz.prog Tryz.f6 (OpenSpec.ofChange Rows.scriptBackSpec) false w args) (Rows.scriptBackSpec.post enc Tryz.prog Tryz.f6 false true false false) := by
  refine returnsInHanded_of_change_and (C := Tryz.checked) (X := fun w _ => laidMetH Tryz.prog laid31 w) (fun _ _ _ hh h => h.of_heap hh) scriptBack_f5 started scriptBack_f1 Tryz.func6
    (ChangeSpec.witness_shaped (enc := enc) (C := Tryz.checked) (os := os) (X := fun w _ => laidMetH Tryz.prog laid31 w) false (witW os) #[.agg #[.int .i64 0, .int .i64 0, .int .i64 0, .int .i64 0, .int .i64 0, .string ⟨#[]⟩, .int .i64 0, .int .i64 0, .bool false, .int .i64 0, .int .i64 0, .int .i64 0], .string ⟨#[]⟩] 8 rfl (wit_ref os _) (scriptBack_f2 os) (scriptBack_f3 os H enc) (scriptBack_f4 os H enc) (wit_met os _)) ?_
  intro W base args ds gs before hval0 hW hcnd hwt0 _ _
  have hval : ∀ (j : Nat) t v, Tryz.f6.params[j]? = some t → args[j]? = some v → Value.okWide Tryz.prog W .any base t v := hval0
  have hW' := hW
  obtain ⟨p, q, hA0, hV, rfl, hfz, hnd⟩ := hW
  have hA : DataW.TrodAll enc Tryz.prog W 0 (fun _ => true) true Tryz.f6.params.toList args.toList ds p := hA0
  obtain ⟨rfl, rfl⟩ := trodVars_none hV
  have hwt : ∀ n ∈ DataW.weightsEach Tryz.prog Tryz.f6.params.toList ds, n ≤ reachBytes := fun n hn => by
    have h1 : (DataW.weightsEach Tryz.prog (Tryz.f6.params.toList ++ []) (ds ++ [])).all (· ≤ reachBytes) = true := hwt0
    rw [List.append_nil, List.append_nil] at h1
    simpa using List.all_eq_true.1 h1 n hn
  rw [Tryz.params6] at hA hval hwt
  obtain ⟨v0, v1, d0, d1, rfl, rfl⟩ := args2 hA
  have hg := good_all hA hwt
  obtain ⟨w0, n0, e0, g0⟩ := hg 0 _ rfl
  cases e0
  have o0 := hval 0 _ v0 rfl rfl
  obtain ⟨w1, n1, e1, g1⟩ := hg 1 _ rfl
  cases e1
  have o1 := hval 1 _ v1 rfl rfl
  obtain ⟨s, rfl, _⟩ := arg_string Tryz.underlying9 o1 g1
  obtain ⟨cs1, rfl, gs1⟩ := arg_struct Tryz.underlying28 o0 g0
  obtain ⟨a, ha, hc1⟩ := good_act31 gs1
  have hcall : Calls Tryz.prog 6 #[.agg cs1.toArray, .string s] W (fun e W' => e = .returned (.bool true) ∧ Below W.heap.size W W') := by
    rw [hc1]
    exact ((scriptBack_ok (R := []) (s := s) ha (fun _ => rfl) : CallT _ _ _ _ (fun v _ => v = .bool true))).below (sats_ro_nil)
  refine hcall.mono fun e W' ⟨he, hb⟩ => ?_
  subst he
  exact ⟨_, rfl, law_post scriptBack_f6 (by kernel_rfl) rfl Tryz.underlying4 rfl hW' rfl rfl rfl hb⟩
end Go.Proofs.YtiofdmjecjcdbaaGreatDoor

