/- The statement OctetScans: for every bytes and every parts the law answers true; no conditions. -/
import Derived.Test.YtfjibfljckifkaaA6
import Derived.Test.YtfjibfljckifkaaSl12
import Derived.Test.YtfjibfljckifkaaRows
import Derived.ProofKit
import Derived.Lib.SmallJoins
namespace Go.Proofs.Ytfjibfljckifkaa
open Go Go.Proofs Go.ChangeShapes Go.WideShapes Go.ChangeAt Go.RowKit Go.Sl Go.Joins
set_option maxRecDepth 100000
theorem Try.own : ownKnob Try.prog.godebug = none := by kernel_rfl
theorem Try.laidOut : laidOutB Try.prog = true := by kernel_rfl
theorem octetScans_lifted (os : Os) (started : os.Started) (H : Type) (enc : TypeId × Value → H) :
    ReturnsInHanded {} Try.checked os 6 .any (Rows.octetScansSpec.pre6 enc Try.prog Try.f6 Rows.octetScansRow.domain false) (Rows.octetScansSpec.post enc Try.prog Try.f6 false true false false) := by
  refine returnsInHanded_of_change_sized (C := Try.checked) Try.own started (by kernel_rfl) Try.func6
    (ChangeSpec.witness6 (enc := enc) (C := Try.checked) false ⟨#[], #[.string ⟨#[]⟩, .slice none 0 0], []⟩ 8 (by kernel_rfl) (by kernel_rfl) (by kernel_rfl) (by kernel_rfl)) ?_
  intro W base args ds gs before hval0 hW hcnd hwt0 _
  have hval : ∀ (j : Nat) t v, Try.f6.params[j]? = some t → args[j]? = some v → Value.okWide Try.prog W .any base t v := hval0
  have hW' := hW
  obtain ⟨p, q, hA0, hV, rfl, hfz, hnd⟩ := hW
  have hA : DataW.TrodAll enc Try.prog W 0 (fun _ => true) true Try.f6.params.toList args.toList ds p := hA0
  obtain ⟨rfl, rfl⟩ := trodVars_none hV
  have hwt : ∀ n ∈ DataW.weightsEach Try.prog Try.f6.params.toList ds, n ≤ reachBytes := fun n hn => by
    have h1 : (DataW.weightsEach Try.prog (Try.f6.params.toList ++ []) (ds ++ [])).all (· ≤ reachBytes) = true := hwt0
    rw [List.append_nil, List.append_nil] at h1
    simpa using List.all_eq_true.1 h1 n hn
  rw [Try.params6] at hA hval hwt
  obtain ⟨v0, v1, d0, d1, rfl, rfl⟩ := args2 hA
  have hg := good_all hA hwt
  obtain ⟨w0, n0, e0, g0⟩ := hg 0 _ rfl
  cases e0
  have o0 := hval 0 _ v0 rfl rfl
  obtain ⟨w1, n1, e1, g1⟩ := hg 1 _ rfl
  cases e1
  have o1 := hval 1 _ v1 rfl rfl
  obtain ⟨s, rfl, hb⟩ := arg_string Try.underlying9 o0 g0
  have hz : Try.prog.cellsOf 48 = 3 := by kernel_rfl
  have hby : Try.prog.bytesOf 48 = 16 := by kernel_rfl
  have hr : reachBytes = 140737488351232 := by decide
  have fin : ∀ (A : Option Addr) (len cap : Nat) (xs : List Part), v1 = .slice A len cap → xs.length = len → len < 1000000000000000 → rrow A partC xs (allRO W) → (∀ p ∈ xs, -9223372036854775808 ≤ p.n ∧ p.n ≤ 9223372036854775807) → Calls Try.prog 6 #[.string s, v1] W (fun e W' => e = .returned (.bool true) ∧ Below W.heap.size W W') := fun A len cap xs hv h1 h3 h4 h5 => by
    subst hv
    exact (octetScans_ok (R := []) h1 h3 (by omega) h5).below (sats_ro_cons (pers_rrow _ _ _) h4 trivial)
  have hcall : Calls Try.prog 6 #[.string s, v1] W (fun e W' => e = .returned (.bool true) ∧ Below W.heap.size W W') := by
    rcases arg_slice Try.underlying44 o1 g1 with rfl | ⟨ad, len, cap, m, rfl, hl, hc, hi⟩
    · exact fin none 0 0 [] rfl rfl (by omega) (.inl rfl) (fun p hp => by cases hp)
    · rw [hz] at hi
      rw [hby] at hc
      obtain ⟨xs, h1, h2, h5⟩ := rrow_of (E := partC) (φ := fun p => -9223372036854775808 ≤ p.n ∧ p.n ≤ 9223372036854775807) (by decide) (fun i hil => by
        obtain ⟨cs', k1, k2⟩ := hi i hil
        obtain ⟨m2, k3, k4⟩ := good_struct Try.underlying48 k2
        obtain ⟨n0, r0, w0⟩ := good_int Try.underlying3 (k4 0 _ rfl)
        obtain ⟨b1, r1⟩ := good_bool Try.underlying4 (k4 1 _ rfl)
        obtain ⟨b2, r2⟩ := good_bool Try.underlying4 (k4 2 _ rfl)
        refine ⟨⟨n0, b1, b2⟩, ?_, wf64 w0⟩
        rw [show partC.sz = 3 from rfl, k1]
        congr 1
        exact cells3 (k3.trans hz) r0 r1 r2)
      exact fin (some ad) len cap xs rfl h1 (by omega) h2 h5
  refine hcall.mono fun e W' ⟨he, hb⟩ => ?_
  subst he
  exact ⟨_, rfl, law_post Try.laidOut (by kernel_rfl) rfl Try.underlying4 rfl hW' rfl rfl rfl hb⟩
theorem octetScans_holds : Rows.OctetScansSaid :=
  OpenClaim.holds_of_wide 6 Try.f6 rfl rfl rfl rfl rfl rfl rfl ⟨rfl, rfl, rfl, rfl, rfl⟩ rfl rfl rfl rfl rfl (by kernel_rfl) Try.func6 (by kernel_rfl)
    (of_decide_eq_true (by kernel_rfl)) (by unfold Func.isWrapper; first | (rw [if_pos (by decide +kernel)]; kernel_rfl) | (rw [if_neg (by decide +kernel)]; exact ⟨rfl, rfl⟩))
    (fun os started H enc _ => octetScans_lifted os started H enc)
#print axioms octetScans_holds
end Go.Proofs.Ytfjibfljckifkaa
