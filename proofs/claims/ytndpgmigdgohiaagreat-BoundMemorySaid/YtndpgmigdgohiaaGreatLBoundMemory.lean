/- The statement BoundMemory: for every settings of both kinds the law answers true; no conditions. -/
import Derived.Test.YtndpgmigdgohiaaGreatZ14
import Derived.Test.YtndpgmigdgohiaaGreatFs
import Derived.Test.YtndpgmigdgohiaaGreatJBoundMemory
import Derived.Test.YtndpgmigdgohiaaGreatRows
import Derived.ProofKit
import Derived.Lib.SmallJoins

namespace Go.Proofs.YtndpgmigdgohiaaGreat
open Go Go.Proofs Go.ChangeShapes Go.WideShapes Go.ChangeAt Go.RowKit Go.Sl Go.Joins
set_option maxRecDepth 100000
theorem Tryz.own : ownKnob Tryz.prog.godebug = none := by kernel_rfl
theorem Tryz.laidOut : laidOutB Tryz.prog = true := by kernel_rfl
theorem boundMemory_lifted (os : Os) (started : os.Started) (H : Type) (enc : TypeId × Value → H) :
    ReturnsInHanded {} Tryz.checked os 5 .any (Rows.boundMemorySpec.pre6 enc Tryz.prog Tryz.f5 Rows.boundMemoryRow.domain false) (Rows.boundMemorySpec.post enc Tryz.prog Tryz.f5 false true false false) := by
  refine returnsInHanded_of_change_sized (C := Tryz.checked) Tryz.own started (by kernel_rfl) Tryz.func5
    (ChangeSpec.witness6 (enc := enc) (C := Tryz.checked) false ⟨#[], #[.agg #[.int .i64 0, .int .i64 0, .int .i64 0, .int .i64 0, .int .i64 0, .int .i64 0, .int .i64 0, .int .i64 0, .int .i64 0], .agg #[.int .i64 0, .int .i64 0, .int .i64 0]], []⟩ 8 (by kernel_rfl) (by kernel_rfl) (by kernel_rfl) (by kernel_rfl)) ?_
  intro W base args ds gs before hval0 hW hcnd hwt0 _
  have hval : ∀ (j : Nat) t v, Tryz.f5.params[j]? = some t → args[j]? = some v → Value.okWide Tryz.prog W .any base t v := hval0
  have hW' := hW
  obtain ⟨p, q, hA0, hV, rfl, hfz, hnd⟩ := hW
  have hA : DataW.TrodAll enc Tryz.prog W 0 (fun _ => true) true Tryz.f5.params.toList args.toList ds p := hA0
  obtain ⟨rfl, rfl⟩ := trodVars_none hV
  have hwt : ∀ n ∈ DataW.weightsEach Tryz.prog Tryz.f5.params.toList ds, n ≤ reachBytes := fun n hn => by
    have h1 : (DataW.weightsEach Tryz.prog (Tryz.f5.params.toList ++ []) (ds ++ [])).all (· ≤ reachBytes) = true := hwt0
    rw [List.append_nil, List.append_nil] at h1
    simpa using List.all_eq_true.1 h1 n hn
  rw [Tryz.params5] at hA hval hwt
  obtain ⟨v0, v1, d0, d1, rfl, rfl⟩ := args2 hA
  have hg := good_all hA hwt
  obtain ⟨w0, n0, e0, g0⟩ := hg 0 _ rfl
  cases e0
  have o0 := hval 0 _ v0 rfl rfl
  obtain ⟨w1, n1, e1, g1⟩ := hg 1 _ rfl
  cases e1
  have o1 := hval 1 _ v1 rfl rfl
  obtain ⟨cs1, rfl, gs1⟩ := arg_struct Tryz.underlying25 o0 g0
  obtain ⟨cs2, rfl, gs2⟩ := arg_struct Tryz.underlying23 o1 g1
  obtain ⟨w, st, it, sb, si, stg, ev, wa, stl, hc1⟩ := zgood_conf gs1
  have hz2 : Tryz.prog.cellsOf 23 = 3 := by kernel_rfl
  obtain ⟨m3, j3, j4⟩ := good_struct Tryz.underlying23 gs2
  obtain ⟨w2, p0, _⟩ := good_int Tryz.underlying3 (j4 0 _ rfl)
  obtain ⟨st2, p1, _⟩ := good_int Tryz.underlying3 (j4 1 _ rfl)
  obtain ⟨it2, p2, _⟩ := good_int Tryz.underlying3 (j4 2 _ rfl)
  have hc2 : cs2 = [.int .i64 w2, .int .i64 st2, .int .i64 it2] := cells3 (j3.trans hz2) p0 p1 p2
  have hcall : Calls Tryz.prog 5 #[.agg cs1.toArray, .agg cs2.toArray] W (fun e W' => e = .returned (.bool true) ∧ Below W.heap.size W W') := by
    rw [hc1, hc2]
    exact ((boundMemory_ok (R := []) (fun _ => rfl)) : CallT _ _ _ _ (fun v _ => v = .bool true)).below (sats_ro_nil)
  refine hcall.mono fun e W' ⟨he, hb⟩ => ?_
  subst he
  exact ⟨_, rfl, law_post Tryz.laidOut (by kernel_rfl) rfl Tryz.underlying4 rfl hW' rfl rfl rfl hb⟩
theorem boundMemory_holds : Rows.BoundMemorySaid :=
  OpenClaim.holds_of_wide 5 Tryz.f5 rfl rfl rfl rfl rfl rfl rfl ⟨rfl, rfl, rfl, rfl, rfl⟩ rfl rfl rfl rfl rfl (by kernel_rfl) Tryz.func5 jf_boundMemory
    (of_decide_eq_true (by kernel_rfl)) (by unfold Func.isWrapper; first | (rw [if_pos (by decide +kernel)]; kernel_rfl) | (rw [if_neg (by decide +kernel)]; exact ⟨rfl, rfl⟩))
    (fun os started H enc _ => boundMemory_lifted os started H enc)
#print axioms boundMemory_holds
end Go.Proofs.YtndpgmigdgohiaaGreat

