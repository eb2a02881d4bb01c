/- The statement BeatOnly: for every ticks and steps the law answers true; no conditions. -/

import Derived.Test.YtfjibfljckifkaaC2
import Derived.Test.YtfjibfljckifkaaSl12
import Derived.Test.YtfjibfljckifkaaRows
import Derived.ProofKit
import Derived.Lib.SmallJoins
namespace Go.Proofs.Ytfjibfljckifkaa
open Go Go.Proofs Go.ChangeShapes Go.WideShapes Go.ChangeAt Go.RowKit Go.Sl Go.Joins
set_option maxRecDepth 100000
theorem Try.own : ownKnob Try.prog.godebug = none := by kernel_rfl
theorem Try.laidOut : laidOutB Try.prog = true := by kernel_rfl
theorem beatOnly_lifted (os : Os) (started : os.Started) (H : Type) (enc : TypeId × Value → H) :
    ReturnsInHanded {} Try.checked os 10 .any (Rows.beatOnlySpec.pre6 enc Try.prog Try.f10 Rows.beatOnlyRow.domain false) (Rows.beatOnlySpec.post enc Try.prog Try.f10 false true false false) := by
  refine returnsInHanded_of_change_sized (C := Try.checked) Try.own started (by kernel_rfl) Try.func10
    (ChangeSpec.witness6 (enc := enc) (C := Try.checked) false ⟨#[], #[.agg #[.int .u8 0, .int .u8 0, .slice none 0 0, .bool false]], []⟩ 8 (by kernel_rfl) (by kernel_rfl) (by kernel_rfl) (by kernel_rfl)) ?_
  intro W base args ds gs before hval0 hW hcnd hwt0 _
  have hval : ∀ (j : Nat) t v, Try.f10.params[j]? = some t → args[j]? = some v → Value.okWide Try.prog W .any base t v := hval0
  have hW' := hW
  obtain ⟨p, q, hA0, hV, rfl, hfz, hnd⟩ := hW
  have hA : DataW.TrodAll enc Try.prog W 0 (fun _ => true) true Try.f10.params.toList args.toList ds p := hA0
  obtain ⟨rfl, rfl⟩ := trodVars_none hV
  have hwt : ∀ n ∈ DataW.weightsEach Try.prog Try.f10.params.toList ds, n ≤ reachBytes := fun n hn => by
    have h1 : (DataW.weightsEach Try.prog (Try.f10.params.toList ++ []) (ds ++ [])).all (· ≤ reachBytes) = true := hwt0
    rw [List.append_nil, List.append_nil] at h1
    simpa using List.all_eq_true.1 h1 n hn
  rw [Try.params10] at hA hval hwt
  obtain ⟨v0, d0, rfl, rfl⟩ := args1 hA
  have hg := good_all hA hwt
  obtain ⟨w0, n0, e0, g0⟩ := hg 0 _ rfl
  cases e0
  have o0 := hval 0 _ v0 rfl rfl
  obtain ⟨cs, rfl, gs⟩ := arg_struct Try.underlying67 o0 g0
  have hz : Try.prog.cellsOf 67 = 4 := by kernel_rfl
  have hz1 : Try.prog.cellsOf 5 = 1 := by kernel_rfl
  have hby : Try.prog.bytesOf 5 = 1 := by kernel_rfl
  have hr : reachBytes = 140737488351232 := by decide
  obtain ⟨m2, k3, k4⟩ := good_struct Try.underlying67 gs
  obtain ⟨e, r0, w0⟩ := good_int Try.underlying5 (k4 0 _ rfl)
  obtain ⟨w, r1, w1⟩ := good_int Try.underlying5 (k4 1 _ rfl)
  have hsl := good_slice Try.underlying65 (k4 2 _ rfl)
  obtain ⟨ans, r3⟩ := good_bool Try.underlying4 (k4 3 _ rfl)
  have fin : ∀ (A : Option Addr) (len cap : Nat) (xs : List UInt8), (cs.drop 2).take 1 = [.slice A len cap] → xs.length = len → len < 1000000000000000 → rrow A byteC xs (allRO W) → Calls Try.prog 10 #[.agg cs.toArray] W (fun e W' => e = .returned (.bool true) ∧ Below W.heap.size W W') := fun A len cap xs hv h1 h3 h4 => by
    have hcs := cells4 (k3.trans hz) r0 r1 hv r3
    rw [hcs]
    exact (beatOnly_ok (R := []) (wf8 w0) (wf8 w1) h1 h3).below (sats_ro_cons (pers_rrow _ _ _) h4 trivial)
  have hcall : Calls Try.prog 10 #[.agg cs.toArray] W (fun e W' => e = .returned (.bool true) ∧ Below W.heap.size W W') := by
    rcases hsl with h2 | ⟨ad, len, cap, m, h2, hl, hc, hi⟩
    · exact fin none 0 0 [] h2 rfl (by omega) (.inl rfl)
    · rw [hz1] at hi
      rw [hby] at hc
      obtain ⟨xs, h1, h3, _⟩ := rrow_of (E := byteC) (φ := fun _ => True) (by decide) (fun i hil => by
        obtain ⟨cs', q1, q2⟩ := hi i hil
        obtain ⟨n0, s0, u0⟩ := good_int Try.underlying5 q2
        refine ⟨byteI n0, ?_, trivial⟩
        rw [show byteC.sz = 1 from rfl, q1, s0]
        have := wf8 u0
        rw [← byteI_id (z := n0) (by omega)]; rfl)
      exact fin (some ad) len cap xs h2 h1 (by omega) h3
  refine hcall.mono fun e W' ⟨he, hb⟩ => ?_
  subst he
  exact ⟨_, rfl, law_post Try.laidOut (by kernel_rfl) rfl Try.underlying4 rfl hW' rfl rfl rfl hb⟩
theorem beatOnly_holds : Rows.BeatOnlySaid :=
  OpenClaim.holds_of_wide 10 Try.f10 rfl rfl rfl rfl rfl rfl rfl ⟨rfl, rfl, rfl, rfl, rfl⟩ rfl rfl rfl rfl rfl (by kernel_rfl) Try.func10 (by kernel_rfl)
    (of_decide_eq_true (by kernel_rfl)) (by unfold Func.isWrapper; first | (rw [if_pos (by decide +kernel)]; kernel_rfl) | (rw [if_neg (by decide +kernel)]; exact ⟨rfl, rfl⟩))
    (fun os started H enc _ => beatOnly_lifted os started H enc)
#print axioms beatOnly_holds
end Go.Proofs.Ytfjibfljckifkaa
