/- Frame: a frame read, by the program: lemmas; each with the conditions that it states. -/
import Derived.Test.YthoagholmkiknaaFh
import Derived.Test.YthoagholmkiknaaKe
import Derived.Test.YthoagholmkiknaaHa
import Derived.Test.YthoagholmkiknaaH6

namespace Go.Proofs.Ythoagholmkiknaa
open Go Go.Proofs Go.Sl
set_option maxRecDepth 100000
set_option maxHeartbeats 4000000
set_option linter.unusedSimpArgs false
set_option linter.unusedVariables false
attribute [local irreducible] evG evC spl thenC inBlockC noGotoC CallT retC RetG TurnG CutG pt ro exP star sep pureP
variable {R C : List HP} {K : Value → List HP → Prop}
/-- the parts of a frame read -/
def gD (t : Int) (p : ByteArray) : ByteArray := if t = 0 ∨ t = 1 ∨ t = 7 ∨ t = 8 then p else ⟨#[]⟩
def gK (t : Int) (p : ByteArray) : Int := if t = 2 ∨ t = 3 then nAt p 0 1 else 0
def gO (t : Int) (p : ByteArray) : Int := if t = 2 ∨ t = 3 then nAt p 4 8 else 0
def gW (t : Int) (p : ByteArray) : Int := if t = 2 ∨ t = 3 then nAt p 2 3 + 1 else 0
def gX (t : Int) (p : ByteArray) : Bool := if t = 2 ∨ t = 3 then (nAt p 1 2 == 1) else false
def gC (t : Int) (p : ByteArray) : Int := if t = 4 then nAt p 0 4 else if t = 9 then nAt p 4 8 else 0
def gL (t : Int) (p : ByteArray) : Int := if t = 9 then nAt p 0 4 else 0
def gN (t : Int) (p : ByteArray) : Int := if t = 10 ∨ t = 11 then nAt p 0 4 else 0
def prAt (p : ByteArray) (j : Nat) : Pr := ⟨nAt p (6 * j) (6 * j + 2), nAt p (6 * j + 2) (6 * j + 2 + 4)⟩
def prsN (p : ByteArray) (n : Nat) : List Pr := (List.range n).map (prAt p)
def gP (t : Int) (p : ByteArray) : List Pr := if t = 5 then prsN p (p.size / 6) else []
theorem prsN_succ (p : ByteArray) (n : Nat) : prsN p (n + 1) = prsN p n ++ [prAt p n] := by unfold prsN; rw [List.range_succ]; simp
theorem prsN_len (p : ByteArray) (n : Nat) : (prsN p n).length = n := by unfold prsN; simp
theorem gP_len (t : Int) (p : ByteArray) : (gP t p).length = if t = 5 then p.size / 6 else 0 := by
  unfold gP
  split
  · exact prsN_len _ _
  · rfl
def longOk (t : Int) (p : ByteArray) : Prop := 0 ≤ t ∧ t ≤ 11 ∧ p.size ≤ 256 ∧ (t = 5 → p.size % 6 = 0 ∧ p.size ≤ 48) ∧ (t = 2 ∨ t = 3 ∨ t = 7 ∨ t = 8 ∨ t = 9 → p.size = 8) ∧ (t = 4 ∨ t = 10 ∨ t = 11 → p.size = 4) ∧ (t = 6 → p.size = 0)
theorem fits_long {l t f s : Int} {p : ByteArray} (h : fitsR l t f s = 0) (hl : l = p.size) : longOk t p := by
  subst hl
  unfold fitsR longR at h
  unfold longOk
  (repeat' split at h) <;> omega
theorem u2_ok {p i : Nat} {s : ByteArray} (h : i + 2 ≤ s.size) (hK : K (.int .i64 (nAt s i (i + 2))) (scanP p (s.extract (i + 2) s.size) false :: R)) : CallT Try.prog 62 #[.pointer (some ⟨p, 0, none⟩), .int .i64 2] (scanP p (s.extract i s.size) false :: R) K :=
  uAt_ok (by decide) (by omega) h hK
theorem take_all (p : ByteArray) : takeS p.size p false = p := by
  obtain ⟨t1, t2, t3⟩ := sc_take (s := p) (at_ := 0) (n := p.size) (by omega) (by omega) (by omega)
  simpa using t2
theorem fread_ok {l t f st : Int} {p : ByteArray} (h : longOk t p) (hK : ∀ A c, K (.agg #[.int .i64 t, .int .i64 st, .bool (f == 1), .string (gD t p), .int .i64 (gK t p), .int .i64 (gO t p), .int .i64 (gW t p), .bool (gX t p), .int .i64 (gC t p), .int .i64 (gL t p), .int .i64 (gN t p), .slice A (gP t p).length c]) (row A c 76 prC (gP t p) :: R)) : CallT Try.prog 66 #[.agg #[.int .i64 l, .int .i64 t, .int .i64 f, .int .i64 st], .string p] R K := by
  obtain ⟨h1, h2, h3, h4, h5, h6, h7⟩ := h
  rcases (by omega : (t = 0 ∨ t = 1 ∨ t = 7 ∨ t = 8) ∨ (t = 2 ∨ t = 3) ∨ t = 4 ∨ t = 9 ∨ (t = 10 ∨ t = 11) ∨ t = 6 ∨ t = 5) with h | h | h | h | h | h | h
  · have q1 : ¬(t = 2 ∨ t = 3) := by omega
    have q2 : ¬t = 4 := by omega
    have q3 : ¬t = 9 := by omega
    have q4 : ¬(t = 10 ∨ t = 11) := by omega
    have q5 : ¬t = 5 := by omega
    simp only [gD, gK, gO, gW, gX, gC, gL, gN, gP, if_pos h, if_neg q1, if_neg q2, if_neg q3, if_neg q4, if_neg q5, List.length_nil] at hK
    refine callT_intro mixed Try.func66 rfl (by decide) (by decide +kernel) (by exact Nat.le_of_ble_eq_true rfl) ?_
    repeat' (first
      | (show evG _ _ _ _ _ _ _; first | refine G_add64 ?_ | refine G_pure0 ?_ | refine G_load ?_ | refine evG_nil ?_ | refine G_br ?_ ?_ | refine G_field ?_ | refine G_pure ?_ | refine G_store ?_ | refine G_loadV ?_ | refine G_loadV0 ?_ | refine G_loadV2 ?_ | (refine G_append ?_; intro _ _) | (refine G_appendN ?_; intro _ _) | refine G_build ?_ | refine G_cat ?_ | refine G_eql_agg ?_ | refine G_call ?_ | refine G_call0 ?_ | (refine G_box ?_; intro _) | (refine G_alloc ?_; intro _) | (refine G_buildSlice ?_; intro _))
      | (show spl _ _ _; first | refine spl_no rfl ?_ | refine spl_yes rfl ?_)
      | (show evC _ _ _ _ _; first | refine c_seq ?_ | refine c_region (by exact rfl) ?_ | refine c_cond (by exact rfl) ?_ | refine c_ret ?_ | refine c_skip ?_ | refine c_block ?_ | refine c_exit ?_ | (show evC _ (.region 24 _ true) _ _ _; refine c_draw (l := [(2, 0), (3, 1), (4, 1), (5, 1), (6, 0), (7, 1), (0, 3), (1, 3), (8, 1), (9, 0), (10, 1)]) (by decide +kernel) (by decide +kernel) (by exact rfl) ?_) | refine std ?_)
      | (show Br _ _ _; first | refine Br.t rfl ?_ | refine Br.f rfl ?_ | refine brs ?_ | (first | refine Br.mkN (fun h => ?_) (fun h => ?_) | refine Br.mk (fun h => ?_) (fun h => ?_)) <;> (try (first | contradiction | (exfalso; omega) | (exfalso; simp at h; done))))
      | refine stp ?_
      | (show CallT _ 61 _ _ _; refine CA (h := over_ok p (fun r => ?_)))
      | (show CallT _ 78 _ _ _; refine CA (h := restY_ok (by simp [takeOk]) ?_)))
    all_goals (rw [take_all]; (show retC _ _ _ _ _ _; refine RETC ?_; exact ret_done (hK none 0)))
  · have q1 : ¬(t = 0 ∨ t = 1 ∨ t = 7 ∨ t = 8) := by omega
    have q2 : ¬t = 4 := by omega
    have q3 : ¬t = 9 := by omega
    have q4 : ¬(t = 10 ∨ t = 11) := by omega
    have q5 : ¬t = 5 := by omega
    simp only [gD, gK, gO, gW, gX, gC, gL, gN, gP, if_pos h, if_neg q1, if_neg q2, if_neg q3, if_neg q4, if_neg q5, List.length_nil] at hK
    have n1 : 0 ≤ nAt p (0 + 1 + 1) (0 + 1 + 1 + 1) ∧ nAt p (0 + 1 + 1) (0 + 1 + 1 + 1) < 256 := ⟨(nAt_rng p 2 3).1, by have := (nAt_rng p 2 3).2; simpa using this⟩
    refine callT_intro mixed Try.func66 rfl (by decide) (by decide +kernel) (by exact Nat.le_of_ble_eq_true rfl) ?_
    repeat' (first
      | (show evG _ _ _ _ _ _ _; first | refine G_add64 ?_ | refine G_pure0 ?_ | refine G_load ?_ | refine evG_nil ?_ | refine G_br ?_ ?_ | refine G_field ?_ | refine G_pure ?_ | refine G_store ?_ | refine G_loadV ?_ | refine G_loadV0 ?_ | refine G_loadV2 ?_ | (refine G_append ?_; intro _ _) | (refine G_appendN ?_; intro _ _) | refine G_build ?_ | refine G_cat ?_ | refine G_eql_agg ?_ | refine G_call ?_ | refine G_call0 ?_ | (refine G_box ?_; intro _) | (refine G_alloc ?_; intro _) | (refine G_buildSlice ?_; intro _))
      | (show spl _ _ _; first | refine spl_no rfl ?_ | refine spl_yes rfl ?_)
      | (show evC _ _ _ _ _; first | refine c_seq ?_ | refine c_region (by exact rfl) ?_ | refine c_cond (by exact rfl) ?_ | refine c_ret ?_ | refine c_skip ?_ | refine c_block ?_ | refine c_exit ?_ | (show evC _ (.region 24 _ true) _ _ _; refine c_draw (l := [(2, 0), (3, 1), (4, 1), (5, 1), (6, 0), (7, 1), (0, 3), (1, 3), (8, 1), (9, 0), (10, 1)]) (by decide +kernel) (by decide +kernel) (by exact rfl) ?_) | refine std ?_)
      | (show Br _ _ _; first | refine Br.t rfl ?_ | refine Br.f rfl ?_ | refine brs ?_ | (first | refine Br.mkN (fun h => ?_) (fun h => ?_) | refine Br.mk (fun h => ?_) (fun h => ?_)) <;> (try (first | contradiction | (exfalso; omega) | (exfalso; simp at h; done))))
      | refine stp ?_
      | (show CallT _ 61 _ _ _; refine CA (h := over0_ok (fun r => ?_)))
      | (show CallT _ 62 _ _ _; refine CA (h := u1_ok (by omega) ?_))
      | (show CallT _ 62 _ _ _; refine CA (h := u4_ok (by omega) ?_)))
    all_goals (show retC _ _ _ _ _ _; refine RETC ?_; exact ret_done (hK none 0))
  · subst h
    simp [gD, gK, gO, gW, gX, gC, gL, gN, gP] at hK
    refine callT_intro mixed Try.func66 rfl (by decide) (by decide +kernel) (by exact Nat.le_of_ble_eq_true rfl) ?_
    repeat' (first
      | (show evG _ _ _ _ _ _ _; first | refine G_add64 ?_ | refine G_pure0 ?_ | refine G_load ?_ | refine evG_nil ?_ | refine G_br ?_ ?_ | refine G_field ?_ | refine G_pure ?_ | refine G_store ?_ | refine G_loadV ?_ | refine G_loadV0 ?_ | refine G_loadV2 ?_ | (refine G_append ?_; intro _ _) | (refine G_appendN ?_; intro _ _) | refine G_build ?_ | refine G_cat ?_ | refine G_eql_agg ?_ | refine G_call ?_ | refine G_call0 ?_ | (refine G_box ?_; intro _) | (refine G_alloc ?_; intro _) | (refine G_buildSlice ?_; intro _))
      | (show spl _ _ _; first | refine spl_no rfl ?_ | refine spl_yes rfl ?_)
      | (show evC _ _ _ _ _; first | refine c_seq ?_ | refine c_region (by exact rfl) ?_ | refine c_cond (by exact rfl) ?_ | refine c_ret ?_ | refine c_skip ?_ | refine c_block ?_ | refine c_exit ?_ | (show evC _ (.region 24 _ true) _ _ _; refine c_draw (l := [(2, 0), (3, 1), (4, 1), (5, 1), (6, 0), (7, 1), (0, 3), (1, 3), (8, 1), (9, 0), (10, 1)]) (by decide +kernel) (by decide +kernel) (by exact rfl) ?_) | refine std ?_)
      | (show Br _ _ _; first | refine Br.t rfl ?_ | refine Br.f rfl ?_ | refine brs ?_ | (first | refine Br.mkN (fun h => ?_) (fun h => ?_) | refine Br.mk (fun h => ?_) (fun h => ?_)) <;> (try (first | contradiction | (exfalso; omega) | (exfalso; simp at h; done))))
      | refine stp ?_
      | (show CallT _ 61 _ _ _; refine CA (h := over0_ok (fun r => ?_)))
      | (show CallT _ 62 _ _ _; refine CA (h := u1_ok (by omega) ?_))
      | (show CallT _ 62 _ _ _; refine CA (h := u4_ok (by omega) ?_)))
    all_goals (show retC _ _ _ _ _ _; refine RETC ?_; exact ret_done (hK none 0))
  · subst h
    simp [gD, gK, gO, gW, gX, gC, gL, gN, gP] at hK
    refine callT_intro mixed Try.func66 rfl (by decide) (by decide +kernel) (by exact Nat.le_of_ble_eq_true rfl) ?_
    repeat' (first
      | (show evG _ _ _ _ _ _ _; first | refine G_add64 ?_ | refine G_pure0 ?_ | refine G_load ?_ | refine evG_nil ?_ | refine G_br ?_ ?_ | refine G_field ?_ | refine G_pure ?_ | refine G_store ?_ | refine G_loadV ?_ | refine G_loadV0 ?_ | refine G_loadV2 ?_ | (refine G_append ?_; intro _ _) | (refine G_appendN ?_; intro _ _) | refine G_build ?_ | refine G_cat ?_ | refine G_eql_agg ?_ | refine G_call ?_ | refine G_call0 ?_ | (refine G_box ?_; intro _) | (refine G_alloc ?_; intro _) | (refine G_buildSlice ?_; intro _))
      | (show spl _ _ _; first | refine spl_no rfl ?_ | refine spl_yes rfl ?_)
      | (show evC _ _ _ _ _; first | refine c_seq ?_ | refine c_region (by exact rfl) ?_ | refine c_cond (by exact rfl) ?_ | refine c_ret ?_ | refine c_skip ?_ | refine c_block ?_ | refine c_exit ?_ | (show evC _ (.region 24 _ true) _ _ _; refine c_draw (l := [(2, 0), (3, 1), (4, 1), (5, 1), (6, 0), (7, 1), (0, 3), (1, 3), (8, 1), (9, 0), (10, 1)]) (by decide +kernel) (by decide +kernel) (by exact rfl) ?_) | refine std ?_)
      | (show Br _ _ _; first | refine Br.t rfl ?_ | refine Br.f rfl ?_ | refine brs ?_ | (first | refine Br.mkN (fun h => ?_) (fun h => ?_) | refine Br.mk (fun h => ?_) (fun h => ?_)) <;> (try (first | contradiction | (exfalso; omega) | (exfalso; simp at h; done))))
      | refine stp ?_
      | (show CallT _ 61 _ _ _; refine CA (h := over0_ok (fun r => ?_)))
      | (show CallT _ 62 _ _ _; refine CA (h := u1_ok (by omega) ?_))
      | (show CallT _ 62 _ _ _; refine CA (h := u4_ok (by omega) ?_)))
    all_goals (show retC _ _ _ _ _ _; refine RETC ?_; exact ret_done (hK none 0))
  · have q1 : ¬(t = 0 ∨ t = 1 ∨ t = 7 ∨ t = 8) := by omega
    have q2 : ¬t = 4 := by omega
    have q3 : ¬t = 9 := by omega
    have q4 : ¬(t = 2 ∨ t = 3) := by omega
    have q5 : ¬t = 5 := by omega
    simp only [gD, gK, gO, gW, gX, gC, gL, gN, gP, if_pos h, if_neg q1, if_neg q2, if_neg q3, if_neg q4, if_neg q5, List.length_nil] at hK
    refine callT_intro mixed Try.func66 rfl (by decide) (by decide +kernel) (by exact Nat.le_of_ble_eq_true rfl) ?_
    repeat' (first
      | (show evG _ _ _ _ _ _ _; first | refine G_add64 ?_ | refine G_pure0 ?_ | refine G_load ?_ | refine evG_nil ?_ | refine G_br ?_ ?_ | refine G_field ?_ | refine G_pure ?_ | refine G_store ?_ | refine G_loadV ?_ | refine G_loadV0 ?_ | refine G_loadV2 ?_ | (refine G_append ?_; intro _ _) | (refine G_appendN ?_; intro _ _) | refine G_build ?_ | refine G_cat ?_ | refine G_eql_agg ?_ | refine G_call ?_ | refine G_call0 ?_ | (refine G_box ?_; intro _) | (refine G_alloc ?_; intro _) | (refine G_buildSlice ?_; intro _))
      | (show spl _ _ _; first | refine spl_no rfl ?_ | refine spl_yes rfl ?_)
      | (show evC _ _ _ _ _; first | refine c_seq ?_ | refine c_region (by exact rfl) ?_ | refine c_cond (by exact rfl) ?_ | refine c_ret ?_ | refine c_skip ?_ | refine c_block ?_ | refine c_exit ?_ | (show evC _ (.region 24 _ true) _ _ _; refine c_draw (l := [(2, 0), (3, 1), (4, 1), (5, 1), (6, 0), (7, 1), (0, 3), (1, 3), (8, 1), (9, 0), (10, 1)]) (by decide +kernel) (by decide +kernel) (by exact rfl) ?_) | refine std ?_)
      | (show Br _ _ _; first | refine Br.t rfl ?_ | refine Br.f rfl ?_ | refine brs ?_ | (first | refine Br.mkN (fun h => ?_) (fun h => ?_) | refine Br.mk (fun h => ?_) (fun h => ?_)) <;> (try (first | contradiction | (exfalso; omega) | (exfalso; simp at h; done))))
      | refine stp ?_
      | (show CallT _ 61 _ _ _; refine CA (h := over0_ok (fun r => ?_)))
      | (show CallT _ 62 _ _ _; refine CA (h := u1_ok (by omega) ?_))
      | (show CallT _ 62 _ _ _; refine CA (h := u4_ok (by omega) ?_)))
    all_goals (show retC _ _ _ _ _ _; refine RETC ?_; exact ret_done (hK none 0))
  · subst h
    simp [gD, gK, gO, gW, gX, gC, gL, gN, gP] at hK
    refine callT_intro mixed Try.func66 rfl (by decide) (by decide +kernel) (by exact Nat.le_of_ble_eq_true rfl) ?_
    repeat' (first
      | (show evG _ _ _ _ _ _ _; first | refine G_add64 ?_ | refine G_pure0 ?_ | refine G_load ?_ | refine evG_nil ?_ | refine G_br ?_ ?_ | refine G_field ?_ | refine G_pure ?_ | refine G_store ?_ | refine G_loadV ?_ | refine G_loadV0 ?_ | refine G_loadV2 ?_ | (refine G_append ?_; intro _ _) | (refine G_appendN ?_; intro _ _) | refine G_build ?_ | refine G_cat ?_ | refine G_eql_agg ?_ | refine G_call ?_ | refine G_call0 ?_ | (refine G_box ?_; intro _) | (refine G_alloc ?_; intro _) | (refine G_buildSlice ?_; intro _))
      | (show spl _ _ _; first | refine spl_no rfl ?_ | refine spl_yes rfl ?_)
      | (show evC _ _ _ _ _; first | refine c_seq ?_ | refine c_region (by exact rfl) ?_ | refine c_cond (by exact rfl) ?_ | refine c_ret ?_ | refine c_skip ?_ | refine c_block ?_ | refine c_exit ?_ | (show evC _ (.region 24 _ true) _ _ _; refine c_draw (l := [(2, 0), (3, 1), (4, 1), (5, 1), (6, 0), (7, 1), (0, 3), (1, 3), (8, 1), (9, 0), (10, 1)]) (by decide +kernel) (by decide +kernel) (by exact rfl) ?_) | refine std ?_)
      | (show Br _ _ _; first | refine Br.t rfl ?_ | refine Br.f rfl ?_ | refine brs ?_ | (first | refine Br.mkN (fun h => ?_) (fun h => ?_) | refine Br.mk (fun h => ?_) (fun h => ?_)) <;> (try (first | contradiction | (exfalso; omega) | (exfalso; simp at h; done))))
      | refine stp ?_
      | (show CallT _ 61 _ _ _; refine CA (h := over0_ok (fun r => ?_))))
    all_goals (show retC _ _ _ _ _ _; refine RETC ?_; exact ret_done (hK none 0))
  · subst h
    obtain ⟨hm, h48⟩ := h4 rfl
    simp [gD, gK, gO, gW, gX, gC, gL, gN, gP] at hK
    refine callT_intro mixed Try.func66 rfl (by decide) (by decide +kernel) (by exact Nat.le_of_ble_eq_true rfl) ?_
    repeat' (first
      | (show evG _ _ _ _ _ _ _; first | refine G_add64 ?_ | refine G_pure0 ?_ | refine G_load ?_ | refine evG_nil ?_ | refine G_br ?_ ?_ | refine G_field ?_ | refine G_pure ?_ | refine G_store ?_ | refine G_loadV ?_ | refine G_loadV0 ?_ | refine G_loadV2 ?_ | (refine G_append ?_; intro _ _) | (refine G_appendN ?_; intro _ _) | refine G_build ?_ | refine G_cat ?_ | refine G_eql_agg ?_ | refine G_call ?_ | refine G_call0 ?_ | (refine G_box ?_; intro _) | (refine G_alloc ?_; intro _) | (refine G_buildSlice ?_; intro _))
      | (show spl _ _ _; first | refine spl_no rfl ?_ | refine spl_yes rfl ?_)
      | (show evC _ _ _ _ _; first | refine c_seq ?_ | refine c_region (by exact rfl) ?_ | refine c_cond (by exact rfl) ?_ | refine c_ret ?_ | refine c_skip ?_ | refine c_block ?_ | refine c_exit ?_ | (show evC _ (.region 24 _ true) _ _ _; refine c_draw (l := [(2, 0), (3, 1), (4, 1), (5, 1), (6, 0), (7, 1), (0, 3), (1, 3), (8, 1), (9, 0), (10, 1)]) (by decide +kernel) (by decide +kernel) (by exact rfl) ?_) | refine std ?_)
      | (show Br _ _ _; first | refine Br.t rfl ?_ | refine Br.f rfl ?_ | refine brs ?_ | (first | refine Br.mkN (fun h => ?_) (fun h => ?_) | refine Br.mk (fun h => ?_) (fun h => ?_)) <;> (try (first | contradiction | (exfalso; omega) | (exfalso; simp at h; done))))
      | refine stp ?_
      | (show CallT _ 61 _ _ _; refine CA (h := over0_ok (fun r => ?_))))
    rename_i r1 r2 r3
    refine LOOP (fun m a C' => ∃ (j : Nat) (B : Option Addr) (kk : Nat), 6 * j + m = p.size ∧ C' = pt r3 [.int .i64 5, .int .i64 st, .bool (f == 1), .string ⟨#[]⟩, .int .i64 0, .int .i64 0, .int .i64 0, .bool false, .int .i64 0, .int .i64 0, .int .i64 0, .slice B (prsN p j).length kk] 38 :: row B kk 76 prC (prsN p j) :: scanP r (p.extract (6 * j) p.size) false :: pt r2 [.int .i64 0, .int .i64 0, .bool false, .string ⟨#[]⟩, .int .i64 0, .int .i64 0, .int .i64 0, .bool false, .int .i64 0, .int .i64 0, .int .i64 0, .slice none 0 0] 38 :: R ∧ Agree a [(4, .pointer (some ⟨r2, 0, none⟩)), (5, .pointer (some ⟨r3, 0, none⟩)), (6, .pointer (some ⟨r, 0, none⟩))]) p.size
      (turn p.size ⟨0, none, 0, by omega, rfl, rfl, rfl, rfl, trivial⟩) ?_
    rintro n1 a C' ⟨j, B, kk, hj, rfl, ha⟩
    refine c_fr _ ha ?_
    simp only [updL]
    have hs : (p.extract (6 * j) p.size).size = p.size - 6 * j := by simp
    have hpl := prsN_len p j
    by_cases hlt : 6 * j < p.size
    · have h6 : 6 * j + 2 + 4 ≤ p.size := by omega
      repeat' (first
        | (show evG _ _ _ _ _ _ _; first | refine G_add64 ?_ | refine G_pure0 ?_ | refine G_load ?_ | refine evG_nil ?_ | refine G_br ?_ ?_ | refine G_field ?_ | refine G_pure ?_ | refine G_store ?_ | refine G_loadV ?_ | refine G_loadV0 ?_ | refine G_loadV2 ?_ | (refine G_append ?_; intro _ _) | (refine G_appendN ?_; intro _ _) | refine G_build ?_ | refine G_cat ?_ | refine G_eql_agg ?_ | refine G_call ?_ | refine G_call0 ?_ | (refine G_box ?_; intro _) | (refine G_alloc ?_; intro _) | (refine G_buildSlice ?_; intro _))
        | (show spl _ _ _; first | refine spl_no rfl ?_ | refine spl_yes rfl ?_)
        | (show evC _ _ _ _ _; first | refine c_seq ?_ | refine c_region (by exact rfl) ?_ | refine c_cond (by exact rfl) ?_ | refine c_ret ?_ | refine c_skip ?_ | refine c_block ?_ | refine c_exit ?_ | (show evC _ (.region 24 _ true) _ _ _; refine c_draw (l := [(2, 0), (3, 1), (4, 1), (5, 1), (6, 0), (7, 1), (0, 3), (1, 3), (8, 1), (9, 0), (10, 1)]) (by decide +kernel) (by decide +kernel) (by exact rfl) ?_) | refine std ?_)
        | (show Br _ _ _; first | refine Br.t rfl ?_ | refine Br.f rfl ?_ | refine brs ?_ | (first | refine Br.mkN (fun h => ?_) (fun h => ?_) | refine Br.mk (fun h => ?_) (fun h => ?_)) <;> (try (first | contradiction | (exfalso; omega) | (exfalso; simp at h; done))))
        | refine stp ?_
        | (show CallT _ 79 _ _ _; refine CA (h := left_ok _ _ _ ?_))
        | (show CallT _ 62 _ _ _; refine CA (h := u2_ok (by omega) ?_))
        | (show CallT _ 62 _ _ _; refine CA (h := u4_ok (by omega) ?_)))
      all_goals exact turn (n1 - 6) ⟨j + 1, _, _, by omega, by rw [prsN_succ, show 6 * (j + 1) = 6 * j + 2 + 4 by omega], rfl, rfl, rfl, trivial⟩
    · have : j = p.size / 6 := by omega
      subst this
      repeat' (first
        | (show evG _ _ _ _ _ _ _; first | refine G_add64 ?_ | refine G_pure0 ?_ | refine G_load ?_ | refine evG_nil ?_ | refine G_br ?_ ?_ | refine G_field ?_ | refine G_pure ?_ | refine G_store ?_ | refine G_loadV ?_ | refine G_loadV0 ?_ | refine G_loadV2 ?_ | (refine G_append ?_; intro _ _) | (refine G_appendN ?_; intro _ _) | refine G_build ?_ | refine G_cat ?_ | refine G_eql_agg ?_ | refine G_call ?_ | refine G_call0 ?_ | (refine G_box ?_; intro _) | (refine G_alloc ?_; intro _) | (refine G_buildSlice ?_; intro _))
        | (show spl _ _ _; first | refine spl_no rfl ?_ | refine spl_yes rfl ?_)
        | (show evC _ _ _ _ _; first | refine c_seq ?_ | refine c_region (by exact rfl) ?_ | refine c_cond (by exact rfl) ?_ | refine c_ret ?_ | refine c_skip ?_ | refine c_block ?_ | refine c_exit ?_ | (show evC _ (.region 24 _ true) _ _ _; refine c_draw (l := [(2, 0), (3, 1), (4, 1), (5, 1), (6, 0), (7, 1), (0, 3), (1, 3), (8, 1), (9, 0), (10, 1)]) (by decide +kernel) (by decide +kernel) (by exact rfl) ?_) | refine std ?_)
        | (show Br _ _ _; first | refine Br.t rfl ?_ | refine Br.f rfl ?_ | refine brs ?_ | (first | refine Br.mkN (fun h => ?_) (fun h => ?_) | refine Br.mk (fun h => ?_) (fun h => ?_)) <;> (try (first | contradiction | (exfalso; omega) | (exfalso; simp at h; done))))
        | refine stp ?_
        | (show CallT _ 79 _ _ _; refine CA (h := left_ok _ _ _ ?_)))
      all_goals (show retC _ _ _ _ _ _; refine RETC ?_; exact ret_done (hK _ _))
end Go.Proofs.Ythoagholmkiknaa

