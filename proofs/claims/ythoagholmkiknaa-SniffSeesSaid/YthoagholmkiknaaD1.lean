/- Numbers laid out by the document: lemmas; each with the conditions that it states. -/
import Derived.Test.YthoagholmkiknaaFh
import Derived.Test.YthoagholmkiknaaA7

namespace Go.Proofs.Ythoagholmkiknaa
open Go Go.Proofs Go.Sl
set_option maxRecDepth 100000
set_option maxHeartbeats 4000000
set_option linter.unusedSimpArgs false
set_option linter.unusedVariables false
attribute [local irreducible] evG evC spl thenC inBlockC noGotoC CallT retC RetG TurnG CutG pt ro exP star sep pureP
variable {R C : List HP} {K : Value → List HP → Prop}
def rB (n w : Int) : ByteArray := if n < 0 then ⟨#[]⟩ else ⟨(wB n w).toArray⟩
def rOk (n w : Int) : Bool := if n < 0 then false else decide (n / 256 ^ w.toNat = 0)
theorem byteI_mod (n : Int) : byteI (n % 256) = byteI n := by
  unfold byteI
  congr 1
  omega
theorem pow_succ_div (n : Int) (i : Nat) : n / 256 ^ i / 256 = n / 256 ^ (i + 1) := by
  rw [Int.pow_succ, Int.ediv_ediv_of_nonneg (Int.le_of_lt (Int.pow_pos (by decide)))]
theorem two256 (k : Nat) : (2 : Int) ^ (8 * k) = 256 ^ k := by rw [Int.pow_mul]; rfl
theorem R01U_ok {n w : Int} (hw : 0 ≤ w ∧ w ≤ 100) (hn : n ≤ 9223372036854775807) (hK : K (.tuple #[.string (rB n w), .bool (rOk n w)]) R) : CallT Try.prog 60 #[.int .i64 n, .int .i64 w] R K := by
  unfold rB rOk at hK
  refine callT_intro mixed Try.func60 rfl (by decide) (by decide +kernel) (by exact Nat.le_of_ble_eq_true rfl) ?_
  repeat' (first
    | (show evG _ _ _ _ _ _ _; first | refine G_add64 ?_ | refine G_quo ?_ | refine G_rem ?_ | refine G_pure0 ?_ | refine evG_nil ?_ | refine G_br ?_ ?_ | refine G_pure ?_ | refine G_conv64 ?_ | refine G_conv8 ?_ | refine G_convu ?_ | refine G_conv ?_ | refine G_cat ?_ | refine G_eql_agg ?_ | refine G_bytesP ?_ | refine G_bytesstr ?_ | (refine G_buildSlice ?_; intro _) | (refine G_strrow ?_; intro _ _))
    | (show spl _ _ _; first | refine spl_no rfl ?_ | refine spl_yes rfl ?_)
    | (show evC _ _ _ _ _; first | refine c_seq ?_ | refine c_region (by exact rfl) ?_ | refine c_cond (by exact rfl) ?_ | refine c_ret ?_ | refine c_skip ?_ | refine c_block ?_ | refine c_exit ?_ | refine std ?_)
    | (show Br _ _ _; first | refine Br.t rfl ?_ | refine Br.f rfl ?_ | refine brs ?_ | (first | refine Br.mkN (fun h => ?_) (fun h => ?_) | refine Br.mk (fun h => ?_) (fun h => ?_)) <;> (try (first | contradiction | (exfalso; omega) | (exfalso; simp at h; done))))
    | refine stp ?_)
  · rw [if_pos (by assumption), if_pos (by assumption)] at hK
    (show retC _ _ _ _ _ _; refine RETC ?_; exact ret_done (hK))
  have h0 : 0 ≤ n := by assumption
  rw [if_neg (by omega), if_neg (by omega)] at hK
  refine LOOP (fun m a C' => ∃ (i : Nat) (out : ByteArray) (q : Int), (i : Int) + m = w ∧ C' = R ∧ out.data.toList = wB n i ∧ q = n / 256 ^ i ∧ 0 ≤ q ∧ q ≤ 9223372036854775807 ∧ Agree a [(0, .int .i64 q), (1, .int .i64 w), (6, .string out), (7, .int .i64 i)]) w.toNat
    (turn w.toNat ⟨0, ⟨#[]⟩, n, by omega, rfl, rfl, by simp, h0, hn, rfl, rfl, rfl, rfl, trivial⟩) ?_
  rintro m a C' ⟨i, out, q, hi, rfl, ho, hq, q0, q1, ha⟩
  refine c_fr _ ha ?_
  simp only [updL]
  have hsz : out.size = i := by
    have : out.data.toList.length = out.size := by simp
    rw [← this, ho, wB_len]; omega
  by_cases hlt : (i : Int) < w
  · have hq2 : q / 256 = n / 256 ^ (i + 1) := by rw [hq, pow_succ_div]
    repeat' (first
      | (show evG _ _ _ _ _ _ _; first | refine G_add64 ?_ | refine G_quo ?_ | refine G_rem ?_ | refine G_pure0 ?_ | refine evG_nil ?_ | refine G_br ?_ ?_ | refine G_pure ?_ | refine G_conv64 ?_ | refine G_conv8 ?_ | refine G_convu ?_ | refine G_conv ?_ | refine G_cat ?_ | refine G_eql_agg ?_ | refine G_bytesP ?_ | refine G_bytesstr ?_ | (refine G_buildSlice ?_; intro _) | (refine G_strrow ?_; intro _ _))
      | (show spl _ _ _; first | refine spl_no rfl ?_ | refine spl_yes rfl ?_)
      | (show evC _ _ _ _ _; first | refine c_seq ?_ | refine c_region (by exact rfl) ?_ | refine c_cond (by exact rfl) ?_ | refine c_ret ?_ | refine c_skip ?_ | refine c_block ?_ | refine c_exit ?_ | refine std ?_)
      | (show Br _ _ _; first | refine Br.t rfl ?_ | refine Br.f rfl ?_ | refine brs ?_ | (first | refine Br.mkN (fun h => ?_) (fun h => ?_) | refine Br.mk (fun h => ?_) (fun h => ?_)) <;> (try (first | contradiction | (exfalso; omega) | (exfalso; simp at h; done))))
      | refine stp ?_)
    refine turn (m - 1) ⟨i + 1, _, q / 256, by omega, rfl, ?_, hq2, by omega, by omega, rfl, rfl, rfl, rfl, trivial⟩
    rw [wB_succ, two256, ← hq]
    simp [ho, byteI_mod]
  · have : w = i := by omega
    subst this
    have e : out = ⟨(wB n i).toArray⟩ := by apply ByteArray.ext; apply Array.toList_inj.1; simp [ho]
    subst e
    repeat' (first
      | (show evG _ _ _ _ _ _ _; first | refine G_add64 ?_ | refine G_quo ?_ | refine G_rem ?_ | refine G_pure0 ?_ | refine evG_nil ?_ | refine G_br ?_ ?_ | refine G_pure ?_ | refine G_conv64 ?_ | refine G_conv8 ?_ | refine G_convu ?_ | refine G_conv ?_ | refine G_cat ?_ | refine G_eql_agg ?_ | refine G_bytesP ?_ | refine G_bytesstr ?_ | (refine G_buildSlice ?_; intro _) | (refine G_strrow ?_; intro _ _))
      | (show spl _ _ _; first | refine spl_no rfl ?_ | refine spl_yes rfl ?_)
      | (show evC _ _ _ _ _; first | refine c_seq ?_ | refine c_region (by exact rfl) ?_ | refine c_cond (by exact rfl) ?_ | refine c_ret ?_ | refine c_skip ?_ | refine c_block ?_ | refine c_exit ?_ | refine std ?_)
      | (show Br _ _ _; first | refine Br.t rfl ?_ | refine Br.f rfl ?_ | refine brs ?_ | (first | refine Br.mkN (fun h => ?_) (fun h => ?_) | refine Br.mk (fun h => ?_) (fun h => ?_)) <;> (try (first | contradiction | (exfalso; omega) | (exfalso; simp at h; done))))
      | refine stp ?_)
    rw [Int.toNat_natCast, ← hq] at hK
    (show retC _ _ _ _ _ _; refine RETC ?_; exact ret_done (kv hK (by congr 3)))
theorem R01B_ok {n w : Int} (hw : 0 ≤ w ∧ w ≤ 100) (hn : n ≤ 9223372036854775807) (hK : K (.string (rB n w)) R) : CallT Try.prog 42 #[.int .i64 n, .int .i64 w] R K := by
  refine callT_intro mixed Try.func42 rfl (by decide) (by decide +kernel) (by exact Nat.le_of_ble_eq_true rfl) ?_
  repeat' (first
    | (show evG _ _ _ _ _ _ _; first | refine G_pure0 ?_ | refine evG_nil ?_ | refine G_br ?_ ?_ | refine G_pure ?_ | refine G_call ?_ | refine G_call0 ?_)
    | (show spl _ _ _; first | refine spl_no rfl ?_ | refine spl_yes rfl ?_)
    | (show evC _ _ _ _ _; first | refine c_seq ?_ | refine c_region (by exact rfl) ?_ | refine c_cond (by exact rfl) ?_ | refine c_ret ?_ | refine c_skip ?_ | refine c_block ?_ | refine c_exit ?_ | refine std ?_)
    | (show Br _ _ _; first | refine Br.t rfl ?_ | refine Br.f rfl ?_ | refine brs ?_ | (first | refine Br.mkN (fun h => ?_) (fun h => ?_) | refine Br.mk (fun h => ?_) (fun h => ?_)) <;> (try (first | contradiction | (exfalso; omega) | (exfalso; simp at h; done))))
    | refine stp ?_
    | (show CallT _ 60 _ _ _; refine CA (h := R01U_ok (by assumption) (by assumption) ?_)))
  (show retC _ _ _ _ _ _; refine RETC ?_; exact ret_done (hK))
end Go.Proofs.Ythoagholmkiknaa

