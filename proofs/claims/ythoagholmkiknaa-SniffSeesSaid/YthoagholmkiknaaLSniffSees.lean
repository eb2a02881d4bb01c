/- The statement SniffSees: for every frames the law answers true; no conditions. -/
import Derived.Test.YthoagholmkiknaaKd
import Derived.Test.YthoagholmkiknaaS10
import Derived.Test.YthoagholmkiknaaFs
import Derived.Test.YthoagholmkiknaaRows
import Derived.ProofKit
import Derived.Lib.SmallJoins

namespace Go.Proofs.Ythoagholmkiknaa
open Go Go.Proofs Go.ChangeShapes Go.WideShapes Go.ChangeAt Go.RowKit Go.Sl Go.Joins
set_option maxRecDepth 100000
theorem Try.own : ownKnob Try.prog.godebug = none := by kernel_rfl
theorem Try.laidOut : laidOutB Try.prog = true := by kernel_rfl
theorem sniffSees_lifted (os : Os) (started : os.Started) (H : Type) (enc : TypeId × Value → H) :
    ReturnsInHanded {} Try.checked os 4 .any (Rows.sniffSeesSpec.pre6 enc Try.prog Try.f4 Rows.sniffSeesRow.domain false) (Rows.sniffSeesSpec.post enc Try.prog Try.f4 false true false false) := by
  refine returnsInHanded_of_change_sized (C := Try.checked) Try.own started (by kernel_rfl) Try.func4
    (ChangeSpec.witness6 (enc := enc) (C := Try.checked) false ⟨#[], #[.slice none 0 0], []⟩ 8 (by kernel_rfl) (by kernel_rfl) (by kernel_rfl) (by kernel_rfl)) ?_
  intro W base args ds gs before hval0 hW hcnd hwt0 _
  have hval : ∀ (j : Nat) t v, Try.f4.params[j]? = some t → args[j]? = some v → Value.okWide Try.prog W .any base t v := hval0
  have hW' := hW
  obtain ⟨p, q, hA0, hV, rfl, hfz, hnd⟩ := hW
  have hA : DataW.TrodAll enc Try.prog W 0 (fun _ => true) true Try.f4.params.toList args.toList ds p := hA0
  obtain ⟨rfl, rfl⟩ := trodVars_none hV
  have hwt : ∀ n ∈ DataW.weightsEach Try.prog Try.f4.params.toList ds, n ≤ reachBytes := fun n hn => by
    have h1 : (DataW.weightsEach Try.prog (Try.f4.params.toList ++ []) (ds ++ [])).all (· ≤ reachBytes) = true := hwt0
    rw [List.append_nil, List.append_nil] at h1
    simpa using List.all_eq_true.1 h1 n hn
  rw [Try.params4] at hA hval hwt
  obtain ⟨v0, d0, rfl, rfl⟩ := args1 hA
  have hg := good_all hA hwt
  obtain ⟨w0, n0, e0, g0⟩ := hg 0 _ rfl
  cases e0
  have o0 := hval 0 _ v0 rfl rfl
  have hr : reachBytes = 140737488351232 := by decide
  have hz0 : Try.prog.cellsOf 38 = 12 := by kernel_rfl
  have hby0 : Try.prog.bytesOf 38 = 120 := by kernel_rfl
  have hs0 : ∃ (A : Option Addr) (len cap : Nat) (xs : List Fm), v0 = .slice A len cap ∧ xs.length = len ∧ len < 1000000000000000 ∧ rrow A fmC xs (allRO W) ∧ ∀ y ∈ xs, FmW W y := by
    rcases arg_slice Try.underlying32 o0 g0 with rfl | ⟨ad, len, cap, m, rfl, hl, hc, hi⟩
    · exact ⟨none, 0, 0, [], rfl, rfl, by omega, .inl rfl, fun x hx => by cases hx⟩
    · rw [hz0] at hi
      rw [hby0] at hc
      obtain ⟨xs, h1, h2, h5⟩ := rrow_of (E := fmC) (φ := FmW W) (by decide) (fun i hil => by
        obtain ⟨cs', k1, k2⟩ := hi i hil
        obtain ⟨y, e1, e2⟩ := good_frame k2
        exact ⟨y, by rw [show fmC.sz = 12 from rfl, k1, e1], e2⟩)
      exact ⟨some ad, len, cap, xs, rfl, h1, by omega, h2, h5⟩
  obtain ⟨A, len, cap, xs, rfl, hl0, hm0, hr0, hp0⟩ := hs0
  have hcall : Calls Try.prog 4 #[.slice A len cap] W (fun e W' => e = .returned (.bool true) ∧ Below W.heap.size W W') :=
    ((sniffSees_ok (C := [rrow A fmC xs, allP fmP xs]) view_rrow (fun y hy => ⟨view_there (view_fmP hy), (hp0 y hy).2.1⟩) (fun y hy => (hp0 y hy).2.2.1) hl0 hm0 (fun _ => rfl)) : CallT _ _ _ _ (fun v _ => v = .bool true)).below (sats_ro_cons (pers_rrow _ _ _) hr0 (sats_ro_cons (pers_all pers_fmP mono_fmP _) (fun y hy => (hp0 y hy).1) trivial))
  refine hcall.mono fun e W' ⟨he, hb⟩ => ?_
  subst he
  exact ⟨_, rfl, law_post Try.laidOut (by kernel_rfl) rfl Try.underlying4 rfl hW' rfl rfl rfl hb⟩
theorem sniffSees_holds : Rows.SniffSeesSaid :=
  OpenClaim.holds_of_wide 4 Try.f4 rfl rfl rfl rfl rfl rfl rfl ⟨rfl, rfl, rfl, rfl, rfl⟩ rfl rfl rfl rfl rfl (by kernel_rfl) Try.func4 (by kernel_rfl)
    (of_decide_eq_true (by kernel_rfl)) (by unfold Func.isWrapper; first | (rw [if_pos (by decide +kernel)]; kernel_rfl) | (rw [if_neg (by decide +kernel)]; exact ⟨rfl, rfl⟩))
    (fun os started H enc _ => sniffSees_lifted os started H enc)
#print axioms sniffSees_holds
end Go.Proofs.Ythoagholmkiknaa

