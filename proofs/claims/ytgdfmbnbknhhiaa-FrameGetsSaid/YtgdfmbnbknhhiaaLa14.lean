/- The statement FrameGets: for every header and bytes the law answers true; no conditions. -/
import Derived.Test.YtgdfmbnbknhhiaaK16
import Derived.Test.YtgdfmbnbknhhiaaSl12
import Derived.Test.YtgdfmbnbknhhiaaRows
import Derived.ProofKit
import Derived.Lib.SmallJoins

namespace Go.Proofs.Ytgdfmbnbknhhiaa
open Go Go.Proofs Go.ChangeShapes Go.WideShapes Go.ChangeAt Go.RowKit Go.Sl Go.Joins
set_option maxRecDepth 100000
theorem Try.own : ownKnob Try.prog.godebug = none := by kernel_rfl
theorem Try.laidOut : laidOutB Try.prog = true := by kernel_rfl
theorem frameGets_lifted (os : Os) (started : os.Started) (H : Type) (enc : TypeId × Value → H) :
    ReturnsInHanded {} Try.checked os 13 .any (Rows.frameGetsSpec.pre6 enc Try.prog Try.f13 Rows.frameGetsRow.domain false) (Rows.frameGetsSpec.post enc Try.prog Try.f13 false true false false) := by
  refine returnsInHanded_of_change_sized (C := Try.checked) Try.own started (by kernel_rfl) Try.func13
    (ChangeSpec.witness6 (enc := enc) (C := Try.checked) false ⟨#[], #[.agg #[.int .i64 0, .int .i64 0, .int .i64 0, .int .i64 0], .string ⟨#[]⟩], []⟩ 8 (by kernel_rfl) (by kernel_rfl) (by kernel_rfl) (by kernel_rfl)) ?_
  intro W base args ds gs before hval0 hW hcnd hwt0 _
  have hval : ∀ (j : Nat) t v, Try.f13.params[j]? = some t → args[j]? = some v → Value.okWide Try.prog W .any base t v := hval0
  have hW' := hW
  obtain ⟨p, q, hA0, hV, rfl, hfz, hnd⟩ := hW
  have hA : DataW.TrodAll enc Try.prog W 0 (fun _ => true) true Try.f13.params.toList args.toList ds p := hA0
  obtain ⟨rfl, rfl⟩ := trodVars_none hV
  have hwt : ∀ n ∈ DataW.weightsEach Try.prog Try.f13.params.toList ds, n ≤ reachBytes := fun n hn => by
    have h1 : (DataW.weightsEach Try.prog (Try.f13.params.toList ++ []) (ds ++ [])).all (· ≤ reachBytes) = true := hwt0
    rw [List.append_nil, List.append_nil] at h1
    simpa using List.all_eq_true.1 h1 n hn
  rw [Try.params13] at hA hval hwt
  obtain ⟨v0, v1, d0, d1, rfl, rfl⟩ := args2 hA
  have hg := good_all hA hwt
  obtain ⟨w0, n0, e0, g0⟩ := hg 0 _ rfl
  cases e0
  have o0 := hval 0 _ v0 rfl rfl
  obtain ⟨w1, n1, e1, g1⟩ := hg 1 _ rfl
  cases e1
  have o1 := hval 1 _ v1 rfl rfl
  obtain ⟨cs, rfl, gs⟩ := arg_struct Try.underlying23 o0 g0
  have hz : Try.prog.cellsOf 23 = 4 := by kernel_rfl
  have hr : reachBytes = 140737488351232 := by decide
  obtain ⟨m2, k3, k4⟩ := good_struct Try.underlying23 gs
  obtain ⟨l, r0, w0⟩ := good_int Try.underlying3 (k4 0 _ rfl)
  obtain ⟨t, r1, w1⟩ := good_int Try.underlying3 (k4 1 _ rfl)
  obtain ⟨f, r2, w2⟩ := good_int Try.underlying3 (k4 2 _ rfl)
  obtain ⟨s, r3, w3⟩ := good_int Try.underlying3 (k4 3 _ rfl)
  have hcs := cells4 (k3.trans hz) r0 r1 r2 r3
  have q0 := wf64 w0
  have q1 := wf64 w1
  have q2 := wf64 w2
  have q3 := wf64 w3
  obtain ⟨b, rfl, hb⟩ := arg_string Try.underlying9 o1 g1
  rw [hr] at hb
  have hcall : Calls Try.prog 13 #[.agg cs.toArray, .string b] W (fun e W' => e = .returned (.bool true) ∧ Below W.heap.size W W') := by
    rw [hcs]
    exact (((frameGets_ok (R := []) q2 (fun _ => rfl)) : CallT _ _ _ _ (fun v _ => v = .bool true)).below sats_ro_nil)
  refine hcall.mono fun e W' ⟨he, hb⟩ => ?_
  subst he
  exact ⟨_, rfl, law_post Try.laidOut (by kernel_rfl) rfl Try.underlying4 rfl hW' rfl rfl rfl hb⟩
theorem frameGets_holds : Rows.FrameGetsSaid :=
  OpenClaim.holds_of_wide 13 Try.f13 rfl rfl rfl rfl rfl rfl rfl ⟨rfl, rfl, rfl, rfl, rfl⟩ rfl rfl rfl rfl rfl (by kernel_rfl) Try.func13 (by kernel_rfl)
    (of_decide_eq_true (by kernel_rfl)) (by unfold Func.isWrapper; first | (rw [if_pos (by decide +kernel)]; kernel_rfl) | (rw [if_neg (by decide +kernel)]; exact ⟨rfl, rfl⟩))
    (fun os started H enc _ => frameGets_lifted os started H enc)
#print axioms frameGets_holds
end Go.Proofs.Ytgdfmbnbknhhiaa
