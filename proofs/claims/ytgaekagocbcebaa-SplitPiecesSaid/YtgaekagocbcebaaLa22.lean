/- The statement SplitPieces: for every bytes and cuts the law answers true; no conditions. -/
import Derived.Test.YtgaekagocbcebaaP10
import Derived.Test.YtgaekagocbcebaaSl12
import Derived.Test.YtgaekagocbcebaaRows
import Derived.ProofKit
import Derived.Lib.SmallJoins

namespace Go.Proofs.Ytgaekagocbcebaa
open Go Go.Proofs Go.ChangeShapes Go.WideShapes Go.ChangeAt Go.RowKit Go.Sl Go.Joins
set_option maxRecDepth 100000
theorem Try.own : ownKnob Try.prog.godebug = none := by kernel_rfl
theorem Try.laidOut : laidOutB Try.prog = true := by kernel_rfl
theorem splitPieces_lifted (os : Os) (started : os.Started) (H : Type) (enc : TypeId × Value → H) :
    ReturnsInHanded {} Try.checked os 5 .any (Rows.splitPiecesSpec.pre6 enc Try.prog Try.f5 Rows.splitPiecesRow.domain false) (Rows.splitPiecesSpec.post enc Try.prog Try.f5 false true false false) := by
  refine returnsInHanded_of_change_sized (C := Try.checked) Try.own started (by kernel_rfl) Try.func5
    (ChangeSpec.witness6 (enc := enc) (C := Try.checked) false ⟨#[], #[.string ⟨#[]⟩, .slice none 0 0], []⟩ 8 (by kernel_rfl) (by kernel_rfl) (by kernel_rfl) (by kernel_rfl)) ?_
  intro W base args ds gs before hval0 hW hcnd hwt0 _
  have hval : ∀ (j : Nat) t v, Try.f5.params[j]? = some t → args[j]? = some v → Value.okWide Try.prog W .any base t v := hval0
  have hW' := hW
  obtain ⟨p, q, hA0, hV, rfl, hfz, hnd⟩ := hW
  have hA : DataW.TrodAll enc Try.prog W 0 (fun _ => true) true Try.f5.params.toList args.toList ds p := hA0
  obtain ⟨rfl, rfl⟩ := trodVars_none hV
  have hwt : ∀ n ∈ DataW.weightsEach Try.prog Try.f5.params.toList ds, n ≤ reachBytes := fun n hn => by
    have h1 : (DataW.weightsEach Try.prog (Try.f5.params.toList ++ []) (ds ++ [])).all (· ≤ reachBytes) = true := hwt0
    rw [List.append_nil, List.append_nil] at h1
    simpa using List.all_eq_true.1 h1 n hn
  rw [Try.params5] at hA hval hwt
  obtain ⟨v0, v1, d0, d1, rfl, rfl⟩ := args2 hA
  have hg := good_all hA hwt
  obtain ⟨w0, n0, e0, g0⟩ := hg 0 _ rfl
  cases e0
  have o0 := hval 0 _ v0 rfl rfl
  obtain ⟨w1, n1, e1, g1⟩ := hg 1 _ rfl
  cases e1
  have o1 := hval 1 _ v1 rfl rfl
  have hr : reachBytes = 140737488351232 := by decide
  obtain ⟨s, rfl, _⟩ := arg_string Try.underlying9 o0 g0
  have hz0 : Try.prog.cellsOf 5 = 1 := by kernel_rfl
  have hby0 : Try.prog.bytesOf 5 = 1 := by kernel_rfl
  have hs1 : ∃ (A : Option Addr) (len cap : Nat) (xs : List UInt8), v1 = .slice A len cap ∧ xs.length = len ∧ len < 1000000000000000 ∧ rrow A byteC xs (allRO W) := by
    rcases arg_slice Try.underlying50 o1 g1 with rfl | ⟨ad, len, cap, m, rfl, hl, hc, hi⟩
    · exact ⟨none, 0, 0, [], rfl, rfl, by omega, .inl rfl⟩
    · rw [hz0] at hi
      rw [hby0] at hc
      obtain ⟨xs, h1, h2, _⟩ := rrow_of (E := byteC) (φ := fun _ => True) (by decide) (fun i hil => by
        obtain ⟨cs', k1, k2⟩ := hi i hil
        obtain ⟨z, e1, w1⟩ := good_int Try.underlying5 k2
        have hw := wf8 w1
        exact ⟨byteI z, by rw [show byteC.sz = 1 from rfl, k1, e1]; show some _ = some [byteV (byteI z)]; rw [byteI_id (by omega)], trivial⟩)
      exact ⟨some ad, len, cap, xs, rfl, h1, by omega, h2⟩
  obtain ⟨A, len, cap, xs, rfl, hl0, hm0, hr0⟩ := hs1
  have hcall : Calls Try.prog 5 #[.string s, .slice A len cap] W (fun e W' => e = .returned (.bool true) ∧ Below W.heap.size W W') :=
    ((splitPieces_ok (C := [rrow A byteC xs]) view_rrow hl0 hm0 (fun _ => rfl)) : CallT _ _ _ _ (fun v _ => v = .bool true)).below (sats_ro_cons (pers_rrow _ _ _) hr0 trivial)
  refine hcall.mono fun e W' ⟨he, hb⟩ => ?_
  subst he
  exact ⟨_, rfl, law_post Try.laidOut (by kernel_rfl) rfl Try.underlying4 rfl hW' rfl rfl rfl hb⟩
theorem splitPieces_holds : Rows.SplitPiecesSaid :=
  OpenClaim.holds_of_wide 5 Try.f5 rfl rfl rfl rfl rfl rfl rfl ⟨rfl, rfl, rfl, rfl, rfl⟩ rfl rfl rfl rfl rfl (by kernel_rfl) Try.func5 (by kernel_rfl)
    (of_decide_eq_true (by kernel_rfl)) (by unfold Func.isWrapper; first | (rw [if_pos (by decide +kernel)]; kernel_rfl) | (rw [if_neg (by decide +kernel)]; exact ⟨rfl, rfl⟩))
    (fun os started H enc _ => splitPieces_lifted os started H enc)
#print axioms splitPieces_holds
end Go.Proofs.Ytgaekagocbcebaa
