/- The statement TraceParts: for every moves, kind, stream and place the law answers true; no conditions. -/

import Derived.Test.YtgdfmbnbknhhiaaJ8
import Derived.Test.YtgdfmbnbknhhiaaSl12
import Derived.Test.YtgdfmbnbknhhiaaRows
import Derived.ProofKit
import Derived.Lib.SmallJoins
namespace Go.Proofs.Ytgdfmbnbknhhiaa
open Go Go.Proofs Go.ChangeShapes Go.WideShapes Go.ChangeAt Go.RowKit Go.Sl Go.Joins
set_option maxRecDepth 100000
theorem Try.own : ownKnob Try.prog.godebug = none := by kernel_rfl
theorem Try.laidOut : laidOutB Try.prog = true := by kernel_rfl
theorem traceParts_lifted (os : Os) (started : os.Started) (H : Type) (enc : TypeId × Value → H) :
    ReturnsInHanded {} Try.checked os 9 .any (Rows.tracePartsSpec.pre6 enc Try.prog Try.f9 Rows.tracePartsRow.domain false) (Rows.tracePartsSpec.post enc Try.prog Try.f9 false true false false) := by
  refine returnsInHanded_of_change_sized (C := Try.checked) Try.own started (by kernel_rfl) Try.func9
    (ChangeSpec.witness6 (enc := enc) (C := Try.checked) false ⟨#[], #[.agg #[.slice none 0 0, .int .i64 0, .int .i64 0, .int .u8 0]], []⟩ 8 (by kernel_rfl) (by kernel_rfl) (by kernel_rfl) (by kernel_rfl)) ?_
  intro W base args ds gs before hval0 hW hcnd hwt0 _
  have hval : ∀ (j : Nat) t v, Try.f9.params[j]? = some t → args[j]? = some v → Value.okWide Try.prog W .any base t v := hval0
  have hW' := hW
  obtain ⟨p, q, hA0, hV, rfl, hfz, hnd⟩ := hW
  have hA : DataW.TrodAll enc Try.prog W 0 (fun _ => true) true Try.f9.params.toList args.toList ds p := hA0
  obtain ⟨rfl, rfl⟩ := trodVars_none hV
  have hwt : ∀ n ∈ DataW.weightsEach Try.prog Try.f9.params.toList ds, n ≤ reachBytes := fun n hn => by
    have h1 : (DataW.weightsEach Try.prog (Try.f9.params.toList ++ []) (ds ++ [])).all (· ≤ reachBytes) = true := hwt0
    rw [List.append_nil, List.append_nil] at h1
    simpa using List.all_eq_true.1 h1 n hn
  rw [Try.params9] at hA hval hwt
  obtain ⟨v0, d0, rfl, rfl⟩ := args1 hA
  have hg := good_all hA hwt
  obtain ⟨w0, n0, e0, g0⟩ := hg 0 _ rfl
  cases e0
  have o0 := hval 0 _ v0 rfl rfl
  have hr : reachBytes = 140737488351232 := by decide
  obtain ⟨cs, rfl, gs⟩ := arg_struct Try.underlying54 o0 g0
  have hz : Try.prog.cellsOf 54 = 4 := by kernel_rfl
  obtain ⟨m2, k3, k4⟩ := good_struct Try.underlying54 gs
  have hsl := good_slice Try.underlying40 (k4 0 _ rfl)
  obtain ⟨w, r1, w1⟩ := good_int Try.underlying3 (k4 1 _ rfl)
  obtain ⟨st, r2, w2⟩ := good_int Try.underlying3 (k4 2 _ rfl)
  obtain ⟨k, r3, w3⟩ := good_int Try.underlying5 (k4 3 _ rfl)
  have q3 := wf8 w3
  have hz0 : Try.prog.cellsOf 44 = 5 := by kernel_rfl
  have hby0 : Try.prog.bytesOf 44 = 48 := by kernel_rfl
  have fin : ∀ (A : Option Addr) (len cap : Nat) (xs : List Mv), (cs.drop 0).take 1 = [.slice A len cap] → xs.length = len → len ≤ cap → len < 1000000000000000 → rrow A mvC xs (allRO W) → Calls Try.prog 9 #[.agg cs.toArray] W (fun e W' => e = .returned (.bool true) ∧ Below W.heap.size W W') := fun A len cap xs hv h1 h2 h3 h4 => by
    have hcs := cells4 (k3.trans hz) hv r1 r2 r3
    rw [hcs]
    exact (((traceParts_ok (R := []) h1 h3 h2 q3.1 q3.2 (fun _ => rfl)) : CallT _ _ _ _ (fun v _ => v = .bool true)).below (sats_ro_cons (pers_rrow _ _ _) h4 trivial))
  have hcall : Calls Try.prog 9 #[.agg cs.toArray] W (fun e W' => e = .returned (.bool true) ∧ Below W.heap.size W W') := by
    rcases hsl with h2 | ⟨ad, len, cap, m, h2, hl, hc, hi⟩
    · exact fin none 0 0 [] h2 rfl (by omega) (by omega) (.inl rfl)
    · rw [hz0] at hi
      rw [hby0] at hc
      obtain ⟨xs, h1, h3, _⟩ := rrow_of (E := mvC) (φ := fun _ => True) (by decide) (fun i hil => by
        obtain ⟨cs', k1, k2⟩ := hi i hil
        obtain ⟨m2, k3, k4⟩ := good_struct Try.underlying44 k2
        obtain ⟨w, r0, w0⟩ := good_int Try.underlying3 (k4 0 _ rfl)
        obtain ⟨st, r1, w1⟩ := good_int Try.underlying3 (k4 1 _ rfl)
        obtain ⟨n, r2, w2⟩ := good_int Try.underlying3 (k4 2 _ rfl)
        obtain ⟨s, r3, w3⟩ := good_string Try.underlying9 (k4 3 _ rfl)
        obtain ⟨e, r4⟩ := good_bool Try.underlying4 (k4 4 _ rfl)
        refine ⟨⟨w, st, n, s, e⟩, ?_, trivial⟩
        rw [show mvC.sz = 5 from rfl, k1]
        congr 1
        exact cells5 (k3.trans hz0) r0 r1 r2 r3 r4)
      exact fin (some ad) len cap xs h2 h1 hl (by omega) h3
  refine hcall.mono fun e W' ⟨he, hb⟩ => ?_
  subst he
  exact ⟨_, rfl, law_post Try.laidOut (by kernel_rfl) rfl Try.underlying4 rfl hW' rfl rfl rfl hb⟩
theorem traceParts_holds : Rows.TracePartsSaid :=
  OpenClaim.holds_of_wide 9 Try.f9 rfl rfl rfl rfl rfl rfl rfl ⟨rfl, rfl, rfl, rfl, rfl⟩ rfl rfl rfl rfl rfl (by kernel_rfl) Try.func9 (by kernel_rfl)
    (of_decide_eq_true (by kernel_rfl)) (by unfold Func.isWrapper; first | (rw [if_pos (by decide +kernel)]; kernel_rfl) | (rw [if_neg (by decide +kernel)]; exact ⟨rfl, rfl⟩))
    (fun os started H enc _ => traceParts_lifted os started H enc)
#print axioms traceParts_holds
end Go.Proofs.Ytgdfmbnbknhhiaa
