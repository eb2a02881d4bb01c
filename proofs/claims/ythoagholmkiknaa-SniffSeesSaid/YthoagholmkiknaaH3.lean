/- Header: Get: lemmas; each with the conditions that it states. -/
import Derived.Test.YthoagholmkiknaaFh
import Derived.Test.YthoagholmkiknaaH2
import Derived.Test.YthoagholmkiknaaA11

namespace Go.Proofs.Ythoagholmkiknaa
open Go Go.Proofs Go.Sl
set_option maxRecDepth 100000
set_option maxHeartbeats 4000000
set_option linter.unusedSimpArgs false
set_option linter.unusedVariables false
attribute [local irreducible] evG evC spl thenC inBlockC noGotoC CallT retC RetG TurnG CutG pt ro exP star sep pureP
variable {R C : List HP} {K : Value → List HP → Prop}
def nAt (s : ByteArray) (i j : Nat) : Int := numB (s.extract i j).data.toList
/-- one number read at a place -/
theorem uAt_ok {p i j : Nat} {w : Int} {s : ByteArray} (hw : 1 ≤ w ∧ w ≤ 4) (hj : (j : Int) = i + w) (h : j ≤ s.size) (hK : K (.int .i64 (nAt s i j)) (scanP p (s.extract j s.size) false :: R)) : CallT Try.prog 62 #[.pointer (some ⟨p, 0, none⟩), .int .i64 w] (scanP p (s.extract i s.size) false :: R) K := by
  have hW : uW w = w := by unfold uW; rw [if_neg (by omega)]
  obtain ⟨t1, t2, t3⟩ := sc_take (s := s) (at_ := i) (n := w) (by omega) (by omega) (by omega)
  have e : ((i : Int) + w).toNat = j := by omega
  rw [e] at t2 t3
  rw [Int.toNat_natCast] at t1 t2 t3
  refine UY_ok (by rw [hW]; exact t1) ?_
  rw [hW, t3]
  unfold uN
  rw [hW, t2]
  exact hK
theorem u1_ok {p i : Nat} {s : ByteArray} (h : i + 1 ≤ s.size) (hK : K (.int .i64 (nAt s i (i + 1))) (scanP p (s.extract (i + 1) s.size) false :: R)) : CallT Try.prog 62 #[.pointer (some ⟨p, 0, none⟩), .int .i64 1] (scanP p (s.extract i s.size) false :: R) K :=
  uAt_ok (by decide) (by omega) h hK
theorem u3_ok {p i : Nat} {s : ByteArray} (h : i + 3 ≤ s.size) (hK : K (.int .i64 (nAt s i (i + 3))) (scanP p (s.extract (i + 3) s.size) false :: R)) : CallT Try.prog 62 #[.pointer (some ⟨p, 0, none⟩), .int .i64 3] (scanP p (s.extract i s.size) false :: R) K :=
  uAt_ok (by decide) (by omega) h hK
theorem u4_ok {p i : Nat} {s : ByteArray} (h : i + 4 ≤ s.size) (hK : K (.int .i64 (nAt s i (i + 4))) (scanP p (s.extract (i + 4) s.size) false :: R)) : CallT Try.prog 62 #[.pointer (some ⟨p, 0, none⟩), .int .i64 4] (scanP p (s.extract i s.size) false :: R) K :=
  uAt_ok (by decide) (by omega) h hK
theorem uEnd_ok {p i : Nat} {w : Int} {s : ByteArray} (hw : 1 ≤ w ∧ w ≤ 4) (hi : i ≤ s.size) (h : (s.size : Int) < i + w) (hK : K (.int .i64 0) (scanP p (s.extract i s.size) true :: R)) : CallT Try.prog 62 #[.pointer (some ⟨p, 0, none⟩), .int .i64 w] (scanP p (s.extract i s.size) false :: R) K := by
  have hW : uW w = w := by unfold uW; rw [if_neg (by omega)]
  refine UX_ok ?_ hK
  rw [hW]
  exact sc_no (.inr (.inr (by simp; omega)))
theorem uBad_ok {p : Nat} {w : Int} {s : ByteArray} (hK : K (.int .i64 0) (scanP p s true :: R)) : CallT Try.prog 62 #[.pointer (some ⟨p, 0, none⟩), .int .i64 w] (scanP p s true :: R) K :=
  UX_ok (sc_no (.inl rfl)) hK
theorem over0_ok {s : ByteArray} (hK : ∀ r, K (.pointer (some ⟨r, 0, none⟩)) (scanP r (s.extract 0 s.size) false :: R)) : CallT Try.prog 61 #[.string s] R K := by
  refine over_ok s fun r => ?_
  have e : s.extract 0 s.size = s := by apply ba_ext; simp
  have := hK r
  rwa [e] at this
def hGet (s : ByteArray) : Value := if s.size < 9 ∨ 2147483647 < nAt s 5 9 then .tuple #[.agg #[.int .i64 0, .int .i64 0, .int .i64 0, .int .i64 0], .int .i64 (if s.size < 9 then 5 else 6)] else .tuple #[.agg #[.int .i64 (nAt s 0 3), .int .i64 (nAt s 3 4), .int .i64 (nAt s 4 5), .int .i64 (nAt s 5 9)], .int .i64 0]
attribute [local irreducible] ByteArray.extract nAt
theorem hget_ok {s : ByteArray} (hK : K (hGet s) R) : CallT Try.prog 43 #[.string s] R K := by
  refine callT_intro mixed Try.func43 rfl (by decide) (by decide +kernel) (by exact Nat.le_of_ble_eq_true rfl) ?_
  rcases (by omega : s.size < 3 ∨ s.size = 3 ∨ s.size = 4 ∨ (5 ≤ s.size ∧ s.size < 9) ∨ 9 ≤ s.size) with h | h | h | h | h
  all_goals
    repeat' (first
      | (show evG _ _ _ _ _ _ _; first | refine G_pure0 ?_ | refine G_load ?_ | refine evG_nil ?_ | refine G_br ?_ ?_ | refine G_field ?_ | refine G_pure ?_ | refine G_store ?_ | refine G_loadV ?_ | refine G_loadV0 ?_ | refine G_loadV2 ?_ | refine G_build ?_ | refine G_call ?_ | refine G_call0 ?_ | refine G_callv ?_ | refine G_callv0 ?_ | (refine G_alloc ?_; intro _))
      | (show spl _ _ _; first | refine spl_no rfl ?_ | refine spl_yes rfl ?_)
      | (show evC _ _ _ _ _; first | refine c_seq ?_ | refine c_region (by exact rfl) ?_ | refine c_cond (by exact rfl) ?_ | refine c_ret ?_ | refine c_skip ?_ | refine c_block ?_ | refine c_exit ?_ | refine std ?_)
      | (show Br _ _ _; first | refine Br.t rfl ?_ | refine Br.f rfl ?_ | refine brs ?_ | (first | refine Br.mkN (fun h => ?_) (fun h => ?_) | refine Br.mk (fun h => ?_) (fun h => ?_)) <;> (try (first | contradiction | (exfalso; omega) | (exfalso; simp at h; done))))
      | refine stp ?_
      | (show CallT _ 61 _ _ _; refine CA (h := over0_ok (fun p => ?_)))
      | (show CallT _ 62 _ _ _; refine CA (h := u3_ok (by omega) ?_))
      | (show CallT _ 62 _ _ _; refine CA (h := u1_ok (by omega) ?_))
      | (show CallT _ 62 _ _ _; refine CA (h := u4_ok (by omega) ?_))
      | (show CallT _ 62 _ _ _; refine CA (h := uEnd_ok (by decide) (by omega) (by omega) ?_))
      | (show CallT _ 62 _ _ _; refine CA (h := uBad_ok ?_))
      | (show CallT _ 63 _ _ _; refine CA (h := bad_ok _ _ _ ?_)))
  all_goals first
    | (show retC _ _ _ _ _ _; refine RETC ?_; exact ret_done (kv hK (by unfold hGet; rw [if_pos (Or.inl (by omega)), if_pos (by omega)])))
    | (show retC _ _ _ _ _ _; refine RETC ?_; exact ret_done (kv hK (by unfold hGet; rw [if_pos (Or.inr (by assumption)), if_neg (by omega)])))
    | (show retC _ _ _ _ _ _; refine RETC ?_; exact ret_done (kv hK (by unfold hGet; rw [if_neg (fun h => h.elim (fun h => by omega) (fun h => absurd h (Int.not_lt.2 (by assumption))))])))
end Go.Proofs.Ythoagholmkiknaa

