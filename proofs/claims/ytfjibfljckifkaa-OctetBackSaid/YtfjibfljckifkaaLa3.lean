/- The statement OctetBack: for every pieces and bytes behind them the law answers true; no conditions. -/
import Derived.Test.YtfjibfljckifkaaA10
import Derived.Test.YtfjibfljckifkaaSl12
import Derived.Test.YtfjibfljckifkaaRows
import Derived.ProofKit
import Derived.Lib.SmallJoins
namespace Go.Proofs.Ytfjibfljckifkaa
open Go Go.Proofs Go.ChangeShapes Go.WideShapes Go.ChangeAt Go.RowKit Go.Sl Go.Joins
set_option maxRecDepth 100000
theorem Try.own : ownKnob Try.prog.godebug = none := by kernel_rfl
theorem Try.laidOut : laidOutB Try.prog = true := by kernel_rfl
theorem octetBack_lifted (os : Os) (started : os.Started) (H : Type) (enc : TypeId × Value → H) :
    ReturnsInHanded {} Try.checked os 7 .any (Rows.octetBackSpec.pre6 enc Try.prog Try.f7 Rows.octetBackRow.domain false) (Rows.octetBackSpec.post enc Try.prog Try.f7 false true false false) := by
  refine returnsInHanded_of_change_sized (C := Try.checked) Try.own started (by kernel_rfl) Try.func7
    (ChangeSpec.witness6 (enc := enc) (C := Try.checked) false ⟨#[], #[.slice none 0 0, .string ⟨#[]⟩], []⟩ 8 (by kernel_rfl) (by kernel_rfl) (by kernel_rfl) (by kernel_rfl)) ?_
  intro W base args ds gs before hval0 hW hcnd hwt0 _
  have hval : ∀ (j : Nat) t v, Try.f7.params[j]? = some t → args[j]? = some v → Value.okWide Try.prog W .any base t v := hval0
  have hW' := hW
  obtain ⟨p, q, hA0, hV, rfl, hfz, hnd⟩ := hW
  have hA : DataW.TrodAll enc Try.prog W 0 (fun _ => true) true Try.f7.params.toList args.toList ds p := hA0
  obtain ⟨rfl, rfl⟩ := trodVars_none hV
  have hwt : ∀ n ∈ DataW.weightsEach Try.prog Try.f7.params.toList ds, n ≤ reachBytes := fun n hn => by
    have h1 : (DataW.weightsEach Try.prog (Try.f7.params.toList ++ []) (ds ++ [])).all (· ≤ reachBytes) = true := hwt0
    rw [List.append_nil, List.append_nil] at h1
    simpa using List.all_eq_true.1 h1 n hn
  rw [Try.params7] at hA hval hwt
  obtain ⟨v0, v1, d0, d1, rfl, rfl⟩ := args2 hA
  have hg := good_all hA hwt
  obtain ⟨w0, n0, e0, g0⟩ := hg 0 _ rfl
  cases e0
  have o0 := hval 0 _ v0 rfl rfl
  obtain ⟨w1, n1, e1, g1⟩ := hg 1 _ rfl
  cases e1
  have o1 := hval 1 _ v1 rfl rfl
  obtain ⟨behind, rfl, hb⟩ := arg_string Try.underlying9 o1 g1
  have hz : Try.prog.cellsOf 60 = 3 := by kernel_rfl
  have hby : Try.prog.bytesOf 60 = 32 := by kernel_rfl
  have hr : reachBytes = 140737488351232 := by decide
  have fin : ∀ (A : Option Addr) (len cap : Nat) (xs : List Pc), v0 = .slice A len cap → xs.length = len → len ≤ cap → len < 1000000000000000 → rrow A pcC xs (allRO W) → Calls Try.prog 7 #[v0, .string behind] W (fun e W' => e = .returned (.bool true) ∧ Below W.heap.size W W') := fun A len cap xs hv h1 h2 h3 h4 => by
    subst hv
    exact (octetBack_ok (R := []) h1 h2 h3 (by omega)).below (sats_ro_cons (pers_rrow _ _ _) h4 trivial)
  have hcall : Calls Try.prog 7 #[v0, .string behind] W (fun e W' => e = .returned (.bool true) ∧ Below W.heap.size W W') := by
    rcases arg_slice Try.underlying56 o0 g0 with rfl | ⟨ad, len, cap, m, rfl, hl, hc, hi⟩
    · exact fin none 0 0 [] rfl rfl (by omega) (by omega) (.inl rfl)
    · rw [hz] at hi
      rw [hby] at hc
      obtain ⟨xs, h1, h2, _⟩ := rrow_of (E := pcC) (φ := fun _ => True) (by decide) (fun i hil => by
        obtain ⟨cs', k1, k2⟩ := hi i hil
        obtain ⟨m2, k3, k4⟩ := good_struct Try.underlying60 k2
        obtain ⟨n0, r0, _⟩ := good_int Try.underlying3 (k4 0 _ rfl)
        obtain ⟨n1, r1, _⟩ := good_int Try.underlying3 (k4 1 _ rfl)
        obtain ⟨s2, r2, _⟩ := good_string Try.underlying9 (k4 2 _ rfl)
        refine ⟨⟨n0, n1, s2⟩, ?_, trivial⟩
        rw [show pcC.sz = 3 from rfl, k1]
        congr 1
        exact cells3 (k3.trans hz) r0 r1 r2)
      exact fin (some ad) len cap xs rfl h1 hl (by omega) h2
  refine hcall.mono fun e W' ⟨he, hb⟩ => ?_
  subst he
  exact ⟨_, rfl, law_post Try.laidOut (by kernel_rfl) rfl Try.underlying4 rfl hW' rfl rfl rfl hb⟩
theorem octetBack_holds : Rows.OctetBackSaid :=
  OpenClaim.holds_of_wide 7 Try.f7 rfl rfl rfl rfl rfl rfl rfl ⟨rfl, rfl, rfl, rfl, rfl⟩ rfl rfl rfl rfl rfl (by kernel_rfl) Try.func7 (by kernel_rfl)
    (of_decide_eq_true (by kernel_rfl)) (by unfold Func.isWrapper; first | (rw [if_pos (by decide +kernel)]; kernel_rfl) | (rw [if_neg (by decide +kernel)]; exact ⟨rfl, rfl⟩))
    (fun os started H enc _ => octetBack_lifted os started H enc)
#print axioms octetBack_holds
end Go.Proofs.Ytfjibfljckifkaa
