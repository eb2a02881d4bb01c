/- The statement ScriptPrints: for every play the law answers true; no conditions: the law at every world. -/
import Derived.Test.YtiofdmjecjcdbaaGreatDoorG31
import Derived.Test.YtiofdmjecjcdbaaGreatDoorLScriptPrintsA
import Derived.Test.YtiofdmjecjcdbaaGreatDoorG32
import Derived.Test.YtiofdmjecjcdbaaGreatDoorFs
import Derived.SevenTiedAt
import Derived.LaidMore
import Derived.OpenShut
import Derived.Test.YtiofdmjecjcdbaaGreatDoorRows
import Derived.Test.YtiofdmjecjcdbaaGreatDoorCards
import Derived.Test.YtiofdmjecjcdbaaGreatDoorTie
import Derived.ProofKit
import Derived.Lib.SmallJoins

namespace Go.Proofs.YtiofdmjecjcdbaaGreatDoor
open Go Go.Proofs Go.ChangeShapes Go.WideShapes Go.ChangeAt Go.RowKit Go.Sl Go.Joins
set_option maxRecDepth 100000
theorem scriptPrints_lifted (os : Os) (started : os.Started) (H : Type) (enc : TypeId × Value → H) :
    ReturnsInHanded {} Tryz.checked os 7 .any (fun w args => (Rows.scriptPrintsSpec.pre enc Tryz.prog Tryz.f7 Rows.scriptPrintsRow.domain false w args ∧ laidMetH Tryz.prog laid31 w) ∧ sizedMet enc Tryz.prog Tryz.f7 (OpenSpec.ofChange Rows.scriptPrintsSpec) false w args) (Rows.scriptPrintsSpec.post enc Tryz.prog Tryz.f7 false true false false) := by
  refine returnsInHanded_of_change_and (C := Tryz.checked) (X := fun w _ => laidMetH Tryz.prog laid31 w) (fun _ _ _ hh h => h.of_heap hh) scriptPrints_f5 started scriptPrints_f1 Tryz.func7
    (ChangeSpec.witness_shaped (enc := enc) (C := Tryz.checked) (os := os) (X := fun w _ => laidMetH Tryz.prog laid31 w) false (witW os) #[.agg #[.int .i64 0, .int .i64 0, .int .i64 0, .int .i64 0, .int .i64 0, .int .i64 0, .int .i64 0, .int .i64 0, .int .i64 0, .int .i64 0, .int .i64 0, .int .i64 0, .int .i64 0, .int .i64 0, .int .i64 0, .int .i64 0, .int .i64 0, .int .i64 0, .slice none 0 0]] 8 rfl (wit_ref os _) (scriptPrints_f2 os) (scriptPrints_f3 os H enc) (scriptPrints_f4 os H enc) (wit_met os _)) ?_
  intro W base args ds gs before hval0 hW hcnd hwt0 _ _
  have hval : ∀ (j : Nat) t v, Tryz.f7.params[j]? = some t → args[j]? = some v → Value.okWide Tryz.prog W .any base t v := hval0
  have hW' := hW
  obtain ⟨p, q, hA0, hV, rfl, hfz, hnd⟩ := hW
  have hA : DataW.TrodAll enc Tryz.prog W 0 (fun _ => true) true Tryz.f7.params.toList args.toList ds p := hA0
  obtain ⟨rfl, rfl⟩ := trodVars_none hV
  have hwt : ∀ n ∈ DataW.weightsEach Tryz.prog Tryz.f7.params.toList ds, n ≤ reachBytes := fun n hn => by
    have h1 : (DataW.weightsEach Tryz.prog (Tryz.f7.params.toList ++ []) (ds ++ [])).all (· ≤ reachBytes) = true := hwt0
    rw [List.append_nil, List.append_nil] at h1
    simpa using List.all_eq_true.1 h1 n hn
  rw [Tryz.params7] at hA hval hwt
  obtain ⟨v0, d0, rfl, rfl⟩ := args1 hA
  have hg := good_all hA hwt
  obtain ⟨w0, n0, e0, g0⟩ := hg 0 _ rfl
  cases e0
  have o0 := hval 0 _ v0 rfl rfl
  obtain ⟨cs1, rfl, gs1⟩ := arg_struct Tryz.underlying39 o0 g0
  obtain ⟨n0, n1, n2, n3, n4, n5, n6, n7, n8, n9, n10, n11, n12, n13, n14, n15, n16, n17, hrg, A, c, L, hc1, hrr, hin⟩ := good_play31 gs1
  have hcall : Calls Tryz.prog 7 #[.agg cs1.toArray] W (fun e W' => e = .returned (.bool true) ∧ Below W.heap.size W W') := by
    rw [hc1]
    exact ((scriptPrints_ok (C := [rrow A acC31 L]) view_rrow hrg hin (fun _ => rfl) : CallT _ _ _ _ (fun v _ => v = .bool true))).below (sats_ro_cons (pers_rrow _ _ _) hrr trivial)
  refine hcall.mono fun e W' ⟨he, hb⟩ => ?_
  subst he
  exact ⟨_, rfl, law_post scriptPrints_f6 (by kernel_rfl) rfl Tryz.underlying4 rfl hW' rfl rfl rfl hb⟩
end Go.Proofs.YtiofdmjecjcdbaaGreatDoor

