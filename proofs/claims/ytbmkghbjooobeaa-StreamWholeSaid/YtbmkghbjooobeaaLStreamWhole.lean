/- The statement StreamWhole: for every kind, settings and acts the law answers true; no conditions. -/
import Derived.Test.YtbmkghbjooobeaaW23
import Derived.Test.YtbmkghbjooobeaaW17
import Derived.Test.YtbmkghbjooobeaaSl12
import Derived.Test.YtbmkghbjooobeaaRows
import Derived.ProofKit
import Derived.Lib.SmallJoins

namespace Go.Proofs.Ytbmkghbjooobeaa
open Go Go.Proofs Go.ChangeShapes Go.WideShapes Go.ChangeAt Go.RowKit Go.Sl Go.Joins
set_option maxRecDepth 100000
theorem Try.own : ownKnob Try.prog.godebug = none := by kernel_rfl
theorem Try.laidOut : laidOutB Try.prog = true := by kernel_rfl
theorem streamWhole_lifted (os : Os) (started : os.Started) (H : Type) (enc : TypeId × Value → H) :
    ReturnsInHanded {} Try.checked os 14 .any (Rows.streamWholeSpec.pre6 enc Try.prog Try.f14 Rows.streamWholeRow.domain false) (Rows.streamWholeSpec.post enc Try.prog Try.f14 false true false false) := by
  refine returnsInHanded_of_change_sized (C := Try.checked) Try.own started (by kernel_rfl) Try.func14
    (ChangeSpec.witness6 (enc := enc) (C := Try.checked) false ⟨#[], #[.int .u8 0, .agg #[.int .i64 0, .int .i64 0, .int .i64 0, .int .i64 0, .int .i64 0, .int .i64 0, .int .i64 0, .int .i64 0, .int .i64 0], .slice none 0 0], []⟩ 8 (by kernel_rfl) (by kernel_rfl) (by kernel_rfl) (by kernel_rfl)) ?_
  intro W base args ds gs before hval0 hW hcnd hwt0 _
  have hval : ∀ (j : Nat) t v, Try.f14.params[j]? = some t → args[j]? = some v → Value.okWide Try.prog W .any base t v := hval0
  have hW' := hW
  obtain ⟨p, q, hA0, hV, rfl, hfz, hnd⟩ := hW
  have hA : DataW.TrodAll enc Try.prog W 0 (fun _ => true) true Try.f14.params.toList args.toList ds p := hA0
  obtain ⟨rfl, rfl⟩ := trodVars_none hV
  have hwt : ∀ n ∈ DataW.weightsEach Try.prog Try.f14.params.toList ds, n ≤ reachBytes := fun n hn => by
    have h1 : (DataW.weightsEach Try.prog (Try.f14.params.toList ++ []) (ds ++ [])).all (· ≤ reachBytes) = true := hwt0
    rw [List.append_nil, List.append_nil] at h1
    simpa using List.all_eq_true.1 h1 n hn
  rw [Try.params14] at hA hval hwt
  obtain ⟨v0, v1, v2, d0, d1, d2, rfl, rfl⟩ := args3 hA
  have hg := good_all hA hwt
  obtain ⟨w0, n0, e0, g0⟩ := hg 0 _ rfl
  cases e0
  have o0 := hval 0 _ v0 rfl rfl
  obtain ⟨w1, n1, e1, g1⟩ := hg 1 _ rfl
  cases e1
  have o1 := hval 1 _ v1 rfl rfl
  obtain ⟨w2, n2, e2, g2⟩ := hg 2 _ rfl
  cases e2
  have o2 := hval 2 _ v2 rfl rfl
  obtain ⟨kd, rfl, hkw⟩ := arg_int Try.underlying5 o0 g0
  have hr : reachBytes = 140737488351232 := by decide
  obtain ⟨cs, rfl, gs⟩ := arg_struct Try.underlying76 o1 g1
  obtain ⟨hcl, w, st, it, sb, si, stg, ev, wa, stl, q0, q1, q2, q3, q4, q5, q6, q7, q8⟩ := good_conf gs
  have hcs := cells9 hcl q0 q1 q2 q3 q4 q5 q6 q7 q8
  have hz2 : Try.prog.cellsOf 110 = 4 := by kernel_rfl
  have hby2 : Try.prog.bytesOf 110 = 40 := by kernel_rfl
  have hs2 : ∃ (A : Option Addr) (len cap : Nat) (xs : List SA), v2 = .slice A len cap ∧ xs.length = len ∧ len < 1000000000000000 ∧ rrow A saC xs (allRO W) := by
    rcases arg_slice Try.underlying105 o2 g2 with rfl | ⟨ad, len, cap, m, rfl, hl, hc, hi⟩
    · exact ⟨none, 0, 0, [], rfl, rfl, by omega, .inl rfl⟩
    · rw [hz2] at hi
      rw [hby2] at hc
      obtain ⟨xs, h1, h2, _⟩ := rrow_of (E := saC) (φ := fun _ => True) (by decide) (fun i hil => by
        obtain ⟨cs', k1, k2⟩ := hi i hil
        obtain ⟨y, e1⟩ := good_sact k2
        exact ⟨y, by rw [show saC.sz = 4 from rfl, k1, e1], trivial⟩)
      exact ⟨some ad, len, cap, xs, rfl, h1, by omega, h2⟩
  obtain ⟨A, len, cap, xs, rfl, hl2, hm2, hr2⟩ := hs2
  have hcall : Calls Try.prog 14 #[.int .u8 kd, .agg cs.toArray, .slice A len cap] W (fun e W' => e = .returned (.bool true) ∧ Below W.heap.size W W') := by
    rw [hcs]
    exact ((streamWhole_ok (C := [rrow A saC xs]) (wf8 hkw) view_rrow hl2 hm2 (fun _ => rfl)) : CallT _ _ _ _ (fun v _ => v = .bool true)).below (sats_ro_cons (pers_rrow _ _ _) hr2 trivial)
  refine hcall.mono fun e W' ⟨he, hb⟩ => ?_
  subst he
  exact ⟨_, rfl, law_post Try.laidOut (by kernel_rfl) rfl Try.underlying4 rfl hW' rfl rfl rfl hb⟩
theorem streamWhole_holds : Rows.StreamWholeSaid :=
  OpenClaim.holds_of_wide 14 Try.f14 rfl rfl rfl rfl rfl rfl rfl ⟨rfl, rfl, rfl, rfl, rfl⟩ rfl rfl rfl rfl rfl (by kernel_rfl) Try.func14 (by kernel_rfl)
    (of_decide_eq_true (by kernel_rfl)) (by unfold Func.isWrapper; first | (rw [if_pos (by decide +kernel)]; kernel_rfl) | (rw [if_neg (by decide +kernel)]; exact ⟨rfl, rfl⟩))
    (fun os started H enc _ => streamWhole_lifted os started H enc)
#print axioms streamWhole_holds
end Go.Proofs.Ytbmkghbjooobeaa

