/- The statement ScriptNone: for every text and settings the law answers true; no conditions: the law at every world. -/
import Derived.Test.YtiofdmjecjcdbaaGreatDoorG34
import Derived.Test.YtiofdmjecjcdbaaGreatDoorLh
import Derived.Test.YtiofdmjecjcdbaaGreatDoorGz
import Derived.Test.YtiofdmjecjcdbaaGreatDoorFs
import Derived.SevenTiedAt
import Derived.LaidMore
import Derived.OpenShut
import Derived.Test.YtiofdmjecjcdbaaGreatDoorRows
import Derived.Test.YtiofdmjecjcdbaaGreatDoorCards
import Derived.Test.YtiofdmjecjcdbaaGreatDoorTie
import Derived.ProofKit
import Derived.Lib.SmallJoins

namespace Go.Proofs.YtiofdmjecjcdbaaGreatDoor
open Go Go.Proofs Go.ChangeShapes Go.WideShapes Go.ChangeAt Go.RowKit Go.Sl Go.Joins
set_option maxRecDepth 100000
theorem scriptNone_lifted (os : Os) (started : os.Started) (H : Type) (enc : TypeId × Value → H) :
    ReturnsInHanded {} Tryz.checked os 4 .any (fun w args => (Rows.scriptNoneSpec.pre enc Tryz.prog Tryz.f4 Rows.scriptNoneRow.domain false w args ∧ laidMetH Tryz.prog laid31 w) ∧ sizedMet enc Tryz.prog Tryz.f4 (OpenSpec.ofChange Rows.scriptNoneSpec) false w args) (Rows.scriptNoneSpec.post enc Tryz.prog Tryz.f4 false true false false) := by
  refine returnsInHanded_of_change_and (C := Tryz.checked) (X := fun w _ => laidMetH Tryz.prog laid31 w) (fun _ _ _ hh h => h.of_heap hh) scriptNone_f5 started scriptNone_f1 Tryz.func4
    (ChangeSpec.witness_shaped (enc := enc) (C := Tryz.checked) (os := os) (X := fun w _ => laidMetH Tryz.prog laid31 w) false (witW os) #[.string ⟨#[]⟩, .agg #[.int .i64 0, .int .i64 0, .int .i64 0, .int .i64 0, .int .i64 0, .int .i64 0, .int .i64 0, .int .i64 0, .int .i64 0]] 8 rfl (wit_ref os _) (scriptNone_f2 os) (scriptNone_f3 os H enc) (scriptNone_f4 os H enc) (wit_met os _)) ?_
  intro W base args ds gs before hval0 hW hcnd hwt0 _ _
  have hval : ∀ (j : Nat) t v, Tryz.f4.params[j]? = some t → args[j]? = some v → Value.okWide Tryz.prog W .any base t v := hval0
  have hW' := hW
  obtain ⟨p, q, hA0, hV, rfl, hfz, hnd⟩ := hW
  have hA : DataW.TrodAll enc Tryz.prog W 0 (fun _ => true) true Tryz.f4.params.toList args.toList ds p := hA0
  obtain ⟨rfl, rfl⟩ := trodVars_none hV
  have hwt : ∀ n ∈ DataW.weightsEach Tryz.prog Tryz.f4.params.toList ds, n ≤ reachBytes := fun n hn => by
    have h1 : (DataW.weightsEach Tryz.prog (Tryz.f4.params.toList ++ []) (ds ++ [])).all (· ≤ reachBytes) = true := hwt0
    rw [List.append_nil, List.append_nil] at h1
    simpa using List.all_eq_true.1 h1 n hn
  rw [Tryz.params4] at hA hval hwt
  obtain ⟨v0, v1, d0, d1, rfl, rfl⟩ := args2 hA
  have hg := good_all hA hwt
  obtain ⟨w0, n0, e0, g0⟩ := hg 0 _ rfl
  cases e0
  have o0 := hval 0 _ v0 rfl rfl
  obtain ⟨w1, n1, e1, g1⟩ := hg 1 _ rfl
  cases e1
  have o1 := hval 1 _ v1 rfl rfl
  obtain ⟨s, rfl, _⟩ := arg_string Tryz.underlying9 o0 g0
  obtain ⟨cs2, rfl, gs2⟩ := arg_struct Tryz.underlying36 o1 g1
  obtain ⟨w, st, it, sb, si, stg, ev, wa, stl, hrg, hc2⟩ := good_conf31 gs2
  have hcall : Calls Tryz.prog 4 #[.string s, .agg cs2.toArray] W (fun e W' => e = .returned (.bool true) ∧ Below W.heap.size W W') := by
    rw [hc2]
    exact ((scriptNone_ok (R := []) (s := s) (confs31_in hrg) (fun _ => rfl) : CallT _ _ _ _ (fun v _ => v = .bool true))).below (sats_ro_nil)
  refine hcall.mono fun e W' ⟨he, hb⟩ => ?_
  subst he
  exact ⟨_, rfl, law_post scriptNone_f6 (by kernel_rfl) rfl Tryz.underlying4 rfl hW' rfl rfl rfl hb⟩
end Go.Proofs.YtiofdmjecjcdbaaGreatDoor

