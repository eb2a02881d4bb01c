/- The statement TxNever: for every sender and acts the law answers true; no conditions. -/
import Derived.Test.YtbmkghbjooobeaaU12
import Derived.Test.YtbmkghbjooobeaaSl12
import Derived.Test.YtbmkghbjooobeaaRows
import Derived.ProofKit
import Derived.Lib.SmallJoins

namespace Go.Proofs.Ytbmkghbjooobeaa
open Go Go.Proofs Go.ChangeShapes Go.WideShapes Go.ChangeAt Go.RowKit Go.Sl Go.Joins
set_option maxRecDepth 100000
theorem Try.own : ownKnob Try.prog.godebug = none := by kernel_rfl
theorem Try.laidOut : laidOutB Try.prog = true := by kernel_rfl
theorem txNever_lifted (os : Os) (started : os.Started) (H : Type) (enc : TypeId × Value → H) :
    ReturnsInHanded {} Try.checked os 4 .any (Rows.txNeverSpec.pre6 enc Try.prog Try.f4 Rows.txNeverRow.domain false) (Rows.txNeverSpec.post enc Try.prog Try.f4 false true false false) := by
  refine returnsInHanded_of_change_sized (C := Try.checked) Try.own started (by kernel_rfl) Try.func4
    (ChangeSpec.witness6 (enc := enc) (C := Try.checked) false ⟨#[], #[.agg #[.int .i64 0, .int .i64 0, .int .i64 0], .slice none 0 0], []⟩ 8 (by kernel_rfl) (by kernel_rfl) (by kernel_rfl) (by kernel_rfl)) ?_
  intro W base args ds gs before hval0 hW hcnd hwt0 _
  have hval : ∀ (j : Nat) t v, Try.f4.params[j]? = some t → args[j]? = some v → Value.okWide Try.prog W .any base t v := hval0
  have hW' := hW
  obtain ⟨p, q, hA0, hV, rfl, hfz, hnd⟩ := hW
  have hA : DataW.TrodAll enc Try.prog W 0 (fun _ => true) true Try.f4.params.toList args.toList ds p := hA0
  obtain ⟨rfl, rfl⟩ := trodVars_none hV
  have hwt : ∀ n ∈ DataW.weightsEach Try.prog Try.f4.params.toList ds, n ≤ reachBytes := fun n hn => by
    have h1 : (DataW.weightsEach Try.prog (Try.f4.params.toList ++ []) (ds ++ [])).all (· ≤ reachBytes) = true := hwt0
    rw [List.append_nil, List.append_nil] at h1
    simpa using List.all_eq_true.1 h1 n hn
  rw [Try.params4] at hA hval hwt
  obtain ⟨v0, v1, d0, d1, rfl, rfl⟩ := args2 hA
  have hg := good_all hA hwt
  obtain ⟨w0, n0, e0, g0⟩ := hg 0 _ rfl
  cases e0
  have o0 := hval 0 _ v0 rfl rfl
  obtain ⟨w1, n1, e1, g1⟩ := hg 1 _ rfl
  cases e1
  have o1 := hval 1 _ v1 rfl rfl
  have hr : reachBytes = 140737488351232 := by decide
  obtain ⟨cs, rfl, gs⟩ := arg_struct Try.underlying23 o0 g0
  have hz : Try.prog.cellsOf 23 = 3 := by kernel_rfl
  obtain ⟨m2, k3, k4⟩ := good_struct Try.underlying23 gs
  obtain ⟨kd, r0, _⟩ := good_int Try.underlying3 (k4 0 _ rfl)
  obtain ⟨cp, r1, _⟩ := good_int Try.underlying3 (k4 1 _ rfl)
  obtain ⟨st, r2, _⟩ := good_int Try.underlying3 (k4 2 _ rfl)
  have hcs := cells3 (k3.trans hz) r0 r1 r2
  have hz1 : Try.prog.cellsOf 33 = 3 := by kernel_rfl
  have hby1 : Try.prog.bytesOf 33 = 32 := by kernel_rfl
  have hs1 : ∃ (A : Option Addr) (len cap : Nat) (xs : List TA), v1 = .slice A len cap ∧ xs.length = len ∧ len ≤ cap ∧ len < 1000000000000000 ∧ rrow A taC xs (allRO W) ∧ ∀ x ∈ xs, (fun y : TA => -9223372036854775808 ≤ y.n ∧ y.n ≤ 9223372036854775807) x := by
    rcases arg_slice Try.underlying24 o1 g1 with rfl | ⟨ad, len, cap, m, rfl, hl, hc, hi⟩
    · exact ⟨none, 0, 0, [], rfl, rfl, by omega, by omega, .inl rfl, fun x hx => by cases hx⟩
    · rw [hz1] at hi
      rw [hby1] at hc
      obtain ⟨xs, h1, h2, h5⟩ := rrow_of (E := taC) (φ := fun y : TA => -9223372036854775808 ≤ y.n ∧ y.n ≤ 9223372036854775807) (by decide) (fun i hil => by
        obtain ⟨cs', k1, k2⟩ := hi i hil
        obtain ⟨m2, k3, k4⟩ := good_struct Try.underlying33 k2
        obtain ⟨k, r0, w0⟩ := good_int Try.underlying3 (k4 0 _ rfl)
        obtain ⟨n, r1, w1⟩ := good_int Try.underlying3 (k4 1 _ rfl)
        obtain ⟨s, r2, w2⟩ := good_string Try.underlying9 (k4 2 _ rfl)
        refine ⟨⟨k, n, s⟩, ?_, wf64 w1⟩
        rw [show taC.sz = 3 from rfl, k1]
        congr 1
        exact cells3 (k3.trans hz1) r0 r1 r2)
      exact ⟨some ad, len, cap, xs, rfl, h1, hl, by omega, h2, h5⟩
  obtain ⟨A, len, cap, xs, rfl, hl1, hc1, hm1, hr1, hp1⟩ := hs1
  have hcall : Calls Try.prog 4 #[.agg cs.toArray, .slice A len cap] W (fun e W' => e = .returned (.bool true) ∧ Below W.heap.size W W') := by
    rw [hcs]
    exact ((txNever_ok (C := [rrow A taC xs]) view_rrow hp1 hl1 hm1 (fun _ => rfl)) : CallT _ _ _ _ (fun v _ => v = .bool true)).below (sats_ro_cons (pers_rrow _ _ _) hr1 trivial)
  refine hcall.mono fun e W' ⟨he, hb⟩ => ?_
  subst he
  exact ⟨_, rfl, law_post Try.laidOut (by kernel_rfl) rfl Try.underlying4 rfl hW' rfl rfl rfl hb⟩
theorem txNever_holds : Rows.TxNeverSaid :=
  OpenClaim.holds_of_wide 4 Try.f4 rfl rfl rfl rfl rfl rfl rfl ⟨rfl, rfl, rfl, rfl, rfl⟩ rfl rfl rfl rfl rfl (by kernel_rfl) Try.func4 (by kernel_rfl)
    (of_decide_eq_true (by kernel_rfl)) (by unfold Func.isWrapper; first | (rw [if_pos (by decide +kernel)]; kernel_rfl) | (rw [if_neg (by decide +kernel)]; exact ⟨rfl, rfl⟩))
    (fun os started H enc _ => txNever_lifted os started H enc)
#print axioms txNever_holds
end Go.Proofs.Ytbmkghbjooobeaa
