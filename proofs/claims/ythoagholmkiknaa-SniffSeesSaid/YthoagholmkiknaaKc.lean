/- Frame: a frame read, by the document. Frame: Get, by the program and by the document: lemmas; each with the conditions that it states. -/
import Derived.Test.YthoagholmkiknaaFh
import Derived.Test.YthoagholmkiknaaK12
import Derived.Test.YthoagholmkiknaaK10
import Derived.Test.YthoagholmkiknaaK7
import Derived.Test.YthoagholmkiknaaFe

namespace Go.Proofs.Ythoagholmkiknaa
open Go Go.Proofs Go.Sl
set_option maxRecDepth 100000
set_option maxHeartbeats 4000000
set_option linter.unusedSimpArgs false
set_option linter.unusedVariables false
attribute [local irreducible] evG evC spl thenC inBlockC noGotoC CallT retC RetG TurnG CutG pt ro exP star sep pureP
attribute [local irreducible] ByteArray.extract nAt scanP
variable {R C : List HP} {K : Value → List HP → Prop}
/-- may the frame read be? -/
def gB (t st : Int) (e : Bool) (p : ByteArray) : Bool := chkB t st e (gD t p) (gK t p) (gO t p) (gW t p) (gX t p) (gC t p) (gL t p) (gN t p) (gP t p)
/-- its payload -/
def gY (t : Int) (p : ByteArray) : ByteArray := ⟨(payL t (gD t p) (gK t p) (gO t p) (gW t p) (gX t p) (gC t p) (gL t p) (gN t p) (gP t p)).toArray⟩
def gOk (t st : Int) (e : Bool) (p : ByteArray) : Bool := gB t st e p && decide (gY t p = p)
end Go.Proofs.Ythoagholmkiknaa


namespace Go.Proofs.Ythoagholmkiknaa
open Go Go.Proofs Go.Sl
set_option maxRecDepth 100000
set_option maxHeartbeats 4000000
set_option linter.unusedSimpArgs false
set_option linter.unusedVariables false
attribute [local irreducible] evG evC spl thenC inBlockC noGotoC CallT retC RetG TurnG CutG pt ro exP star sep pureP
attribute [local irreducible] ByteArray.extract nAt scanP
variable {R C : List HP} {K : Value → List HP → Prop}
theorem payX_ok {t st : Int} {e : Bool} {d : ByteArray} {k on w : Int} {x : Bool} {c la n : Int} {pa : Option Addr} {pn pc : Nat} {ps : List Pr} (h : RightP t st e d k on w x c la n ps) (hv : View C pa prC ps) (hn : ps.length = pn) (hK : K (.string ⟨(payL t d k on w x c la n ps).toArray⟩) C) : CallT Try.prog 68 #[.agg #[.int .i64 t, .int .i64 st, .bool e, .string d, .int .i64 k, .int .i64 on, .int .i64 w, .bool x, .int .i64 c, .int .i64 la, .int .i64 n, .slice pa pn pc]] C K := by
  have hl := h.2.2.2.2.2.2.2.2.2.2.2.2.2.2.2.2.2.2.2.2
  have hd := h.2.2.2.2.2.2.2.2.2.2.2.2.2.2.2.1
  refine payload_ok hv hn (by omega) ?_ (by rw [(pay_law h).1]; exact hK)
  by_cases h2 : t = 2 ∨ t = 3
  · have := hd h2
    unfold depB at this
    simp only [Bool.and_eq_true, decide_eq_true_eq] at this
    omega
  · exact .inr h2
/-- what Get tells -/
def gE (l t f s : Int) (p : ByteArray) : Int := if fitsR l t f s = 0 then (if (p.size : Int) = l then (if gOk t s (f == 1) p = true then 0 else 1) else 6) else fitsR l t f s
def zeroF : Value := .agg #[.int .i64 0, .int .i64 0, .bool false, .string ⟨#[]⟩, .int .i64 0, .int .i64 0, .int .i64 0, .bool false, .int .i64 0, .int .i64 0, .int .i64 0, .slice none 0 0]
theorem fget_ok {l t f s : Int} {p : ByteArray} (hf : -9223372036854775808 ≤ f ∧ f ≤ 9223372036854775807) (hK1 : gE l t f s p = 0 → ∀ A c, K (.tuple #[.agg #[.int .i64 t, .int .i64 s, .bool (f == 1), .string (gD t p), .int .i64 (gK t p), .int .i64 (gO t p), .int .i64 (gW t p), .bool (gX t p), .int .i64 (gC t p), .int .i64 (gL t p), .int .i64 (gN t p), .slice A (gP t p).length c], .int .i64 0]) (row A c 76 prC (gP t p) :: R))
    (hK2 : gE l t f s p ≠ 0 → K (.tuple #[zeroF, .int .i64 (gE l t f s p)]) R) : CallT Try.prog 45 #[.agg #[.int .i64 l, .int .i64 t, .int .i64 f, .int .i64 s], .string p] R K := by
  by_cases h1 : fitsR l t f s = 0
  · by_cases h2 : (p.size : Int) = l
    · have hL := fits_long h1 h2.symm
      have hgl := gP_len t p
      have hp1000 : (gP t p).length < 1000000000000000 := by rw [hgl]; have := hL.2.2.1; split <;> omega
      unfold gE at hK1 hK2
      rw [if_pos h1, if_pos h2] at hK1 hK2
      unfold gOk gB at hK1 hK2
      cases hb : chkB t s (f == 1) (gD t p) (gK t p) (gO t p) (gW t p) (gX t p) (gC t p) (gL t p) (gN t p) (gP t p)
      · rw [hb] at hK2
        simp only [Bool.false_and, Bool.false_eq_true, if_false] at hK2
        have hi : chkI t s (f == 1) (gD t p) (gK t p) (gO t p) (gW t p) (gX t p) (gC t p) (gL t p) (gN t p) (gP t p) = 2 := by unfold chkI; rw [hb]; rfl
        refine callT_intro mixed Try.func45 rfl (by decide) (by decide +kernel) (by exact Nat.le_of_ble_eq_true rfl) ?_
        repeat' (first
          | (show evG _ _ _ _ _ _ _; first | refine G_pure0 ?_ | refine G_load ?_ | refine evG_nil ?_ | refine G_br ?_ ?_ | refine G_field ?_ | refine G_pure ?_ | refine G_store ?_ | refine G_loadV ?_ | refine G_loadV0 ?_ | refine G_loadV2 ?_ | refine G_build ?_ | refine G_neq_agg ?_ | refine G_call ?_ | refine G_call0 ?_ | (refine G_box ?_; intro _) | (refine G_alloc ?_; intro _) | refine G_skip ?_ | refine G_skip0 ?_)
          | (show spl _ _ _; first | refine spl_no rfl ?_ | refine spl_yes rfl ?_)
          | (show evC _ _ _ _ _; first | refine c_seq ?_ | refine c_region (by exact rfl) ?_ | refine c_cond (by exact rfl) ?_ | refine c_ret ?_ | refine c_skip ?_ | refine c_block ?_ | refine c_exit ?_ | refine std ?_)
          | (show Br _ _ _; first | refine Br.t rfl ?_ | refine Br.f rfl ?_ | refine brs ?_ | (first | refine Br.mkN (fun h => ?_) (fun h => ?_) | refine Br.mk (fun h => ?_) (fun h => ?_)) <;> (try (first | contradiction | (exfalso; omega) | (exfalso; simp at h; done))))
          | refine stp ?_
          | (show CallT _ 44 _ _ _; refine CA (h := fits_ok hf ?_))
          | (show CallT _ 66 _ _ _; refine CA (h := fread_ok hL (fun A c => ?_)))
          | (show CallT _ 67 _ _ _; refine CA (h := fcheck_ok (ps := gP t p) (by exact viewA) rfl hp1000 ?_)))
        all_goals (show retC _ _ _ _ _ _; refine RETC ?_; exact ret_done (hK2 (by decide)))
      · rw [hb] at hK1 hK2
        have hR := (chk_iff _ _ _ _ _ _ _ _ _ _ _ _).1 hb
        have hi : chkI t s (f == 1) (gD t p) (gK t p) (gO t p) (gW t p) (gX t p) (gC t p) (gL t p) (gN t p) (gP t p) = 0 := by unfold chkI; rw [hb]; rfl
        refine callT_intro mixed Try.func45 rfl (by decide) (by decide +kernel) (by exact Nat.le_of_ble_eq_true rfl) ?_
        repeat' (first
          | (show evG _ _ _ _ _ _ _; first | refine G_pure0 ?_ | refine G_load ?_ | refine evG_nil ?_ | refine G_br ?_ ?_ | refine G_field ?_ | refine G_pure ?_ | refine G_store ?_ | refine G_loadV ?_ | refine G_loadV0 ?_ | refine G_loadV2 ?_ | refine G_build ?_ | refine G_neq_agg ?_ | refine G_call ?_ | refine G_call0 ?_ | (refine G_box ?_; intro _) | (refine G_alloc ?_; intro _) | refine G_skip ?_ | refine G_skip0 ?_)
          | (show spl _ _ _; first | refine spl_no rfl ?_ | refine spl_yes rfl ?_)
          | (show evC _ _ _ _ _; first | refine c_seq ?_ | refine c_region (by exact rfl) ?_ | refine c_cond (by exact rfl) ?_ | refine c_ret ?_ | refine c_skip ?_ | refine c_block ?_ | refine c_exit ?_ | refine std ?_)
          | (show Br _ _ _; first | refine Br.t rfl ?_ | refine Br.f rfl ?_ | refine brs ?_ | (first | refine Br.mkN (fun h => ?_) (fun h => ?_) | refine Br.mk (fun h => ?_) (fun h => ?_)) <;> (try (first | contradiction | (exfalso; omega) | (exfalso; simp at h; done))))
          | refine stp ?_
          | (show CallT _ 44 _ _ _; refine CA (h := fits_ok hf ?_))
          | (show CallT _ 66 _ _ _; refine CA (h := fread_ok hL (fun A c => ?_)))
          | (show CallT _ 67 _ _ _; refine CA (h := fcheck_ok (ps := gP t p) (by exact viewA) rfl hp1000 ?_))
          | (show CallT _ 68 _ _ _; refine CA (h := payX_ok (ps := gP t p) hR (by exact viewA) rfl ?_)))
        · have hd : decide (gY t p = p) = false := decide_eq_false fun e => h (congrArg ByteArray.toList e)
          rw [hd] at hK2
          (show retC _ _ _ _ _ _; refine RETC ?_; exact ret_done (hK2 (by decide)))
        · have hd : decide (gY t p = p) = true := decide_eq_true (str_eq.1 h)
          rw [hd] at hK1
          (show retC _ _ _ _ _ _; refine RETC ?_; exact ret_done (hK1 rfl _ _))
    · unfold gE at hK2
      rw [if_pos h1, if_neg h2] at hK2
      refine callT_intro mixed Try.func45 rfl (by decide) (by decide +kernel) (by exact Nat.le_of_ble_eq_true rfl) ?_
      repeat' (first
        | (show evG _ _ _ _ _ _ _; first | refine G_pure0 ?_ | refine G_load ?_ | refine evG_nil ?_ | refine G_br ?_ ?_ | refine G_field ?_ | refine G_pure ?_ | refine G_store ?_ | refine G_loadV ?_ | refine G_loadV0 ?_ | refine G_loadV2 ?_ | refine G_build ?_ | refine G_neq_agg ?_ | refine G_call ?_ | refine G_call0 ?_ | (refine G_box ?_; intro _) | (refine G_alloc ?_; intro _) | refine G_skip ?_ | refine G_skip0 ?_)
        | (show spl _ _ _; first | refine spl_no rfl ?_ | refine spl_yes rfl ?_)
        | (show evC _ _ _ _ _; first | refine c_seq ?_ | refine c_region (by exact rfl) ?_ | refine c_cond (by exact rfl) ?_ | refine c_ret ?_ | refine c_skip ?_ | refine c_block ?_ | refine c_exit ?_ | refine std ?_)
        | (show Br _ _ _; first | refine Br.t rfl ?_ | refine Br.f rfl ?_ | refine brs ?_ | (first | refine Br.mkN (fun h => ?_) (fun h => ?_) | refine Br.mk (fun h => ?_) (fun h => ?_)) <;> (try (first | contradiction | (exfalso; omega) | (exfalso; simp at h; done))))
        | refine stp ?_
        | (show CallT _ 44 _ _ _; refine CA (h := fits_ok hf ?_)))
      all_goals (show retC _ _ _ _ _ _; refine RETC ?_; exact ret_done (hK2 (by decide)))
  · unfold gE at hK2
    rw [if_neg h1] at hK2
    refine callT_intro mixed Try.func45 rfl (by decide) (by decide +kernel) (by exact Nat.le_of_ble_eq_true rfl) ?_
    repeat' (first
      | (show evG _ _ _ _ _ _ _; first | refine G_pure0 ?_ | refine G_load ?_ | refine evG_nil ?_ | refine G_br ?_ ?_ | refine G_field ?_ | refine G_pure ?_ | refine G_store ?_ | refine G_loadV ?_ | refine G_loadV0 ?_ | refine G_loadV2 ?_ | refine G_build ?_ | refine G_neq_agg ?_ | refine G_call ?_ | refine G_call0 ?_ | (refine G_box ?_; intro _) | (refine G_alloc ?_; intro _) | refine G_skip ?_ | refine G_skip0 ?_)
      | (show spl _ _ _; first | refine spl_no rfl ?_ | refine spl_yes rfl ?_)
      | (show evC _ _ _ _ _; first | refine c_seq ?_ | refine c_region (by exact rfl) ?_ | refine c_cond (by exact rfl) ?_ | refine c_ret ?_ | refine c_skip ?_ | refine c_block ?_ | refine c_exit ?_ | refine std ?_)
      | (show Br _ _ _; first | refine Br.t rfl ?_ | refine Br.f rfl ?_ | refine brs ?_ | (first | refine Br.mkN (fun h => ?_) (fun h => ?_) | refine Br.mk (fun h => ?_) (fun h => ?_)) <;> (try (first | contradiction | (exfalso; omega) | (exfalso; simp at h; done))))
      | refine stp ?_
      | (show CallT _ 44 _ _ _; refine CA (h := fits_ok hf ?_)))
    all_goals (show retC _ _ _ _ _ _; refine RETC ?_; exact ret_done (hK2 h1))
end Go.Proofs.Ythoagholmkiknaa

