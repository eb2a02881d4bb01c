/- Script: digits and texts, walked: lemmas; each with the conditions that it states. -/
import Derived.Test.YtiofdmjecjcdbaaGreatDoorFh
import Derived.Test.YtiofdmjecjcdbaaGreatDoorGy
import Derived.Test.YtiofdmjecjcdbaaGreatDoorGv
import Derived.Lib.Strings

namespace Go.Proofs.YtiofdmjecjcdbaaGreatDoor
open Go Go.Proofs Go.Sl
set_option maxRecDepth 100000
set_option maxHeartbeats 4000000
set_option linter.unusedSimpArgs false
set_option linter.unusedVariables false
attribute [local irreducible] evG evC spl thenC inBlockC noGotoC CallT retC RetG TurnG CutG pt ro exP star sep pureP
variable {R C : List HP} {K : Value → List HP → Prop}
theorem tl_inj {s t : ByteArray} (h : s.toList = t.toList) : s = t := by
  rw [Lib.toList_data, Lib.toList_data] at h
  rw [← bq_data s, ← bq_data t, h]
theorem tl_ne {s t : ByteArray} (h : s ≠ t) : (s.toList == t.toList) = false := beq_eq_false_iff_ne.2 fun e => h (tl_inj e)
theorem bq_beq (a b : List UInt8) : ((bq a).toList == (bq b).toList) = decide (a = b) := by
  rw [Bool.eq_iff_iff]
  simp only [beq_iff_eq, decide_eq_true_eq]
  exact ⟨fun h => bq_inj (tl_inj h), fun h => by rw [h]⟩
abbrev hexS : ByteArray := ⟨#[48, 49, 50, 51, 52, 53, 54, 55, 56, 57, 65, 66, 67, 68, 69, 70]⟩
theorem hex_cut : ∀ n < 10, hexS.extract n (n + 1) = bq [UInt8.ofNat (48 + n)] := by
  have h : ∀ n < 10, (hexS.extract n (n + 1)).data.toList = [UInt8.ofNat (48 + n)] := by decide +kernel
  exact fun n hn => by rw [← h n hn, bq_data]
theorem hex_at : ∀ n < 16, hexS[n]? = some (hexD n) := by decide +kernel
theorem ext_le (s : ByteArray) (a b : Nat) : (s.extract a b).size ≤ s.size := by rw [ByteArray.size_extract]; omega
theorem up_ok {m : Int} {k : Nat} (hm : m = k) (hk : k < 18446744073709551616) (hK : K (.string (bq (upL k))) R) : CallT Tryz.prog 61 #[.int .u64 m] R K := by
  induction k using Nat.strongRecOn generalizing m K with
  | _ k ih =>
    by_cases h9 : k < 10
    · have e1 : m.toNat = k := by omega
      have e2 : (m + 1).toNat = k + 1 := by omega
      have e3 : (⟨#[48, 49, 50, 51, 52, 53, 54, 55, 56, 57, 65, 66, 67, 68, 69, 70]⟩ : ByteArray).size = 16 := by decide
      refine callT_intro mixed Tryz.func61 rfl (by decide) (by decide +kernel) (by exact Nat.le_of_ble_eq_true rfl) ?_
      repeat' (first
        | (show evG _ _ _ _ _ _ _; refine G_addu ?_)
        | (show evG _ _ _ _ _ _ _; first | refine G_add64 ?_ | refine G_quo ?_ | refine G_rem ?_ | refine G_pure0 ?_ | refine evG_nil ?_ | refine G_br ?_ ?_ | refine G_pure ?_ | refine G_slh ?_ | refine G_slo ?_ | refine G_shi ?_ | refine G_cat ?_ | refine G_call ?_ | refine G_call0 ?_ | (refine G_sliceR ?_; intro _) | (refine G_sliceO ?_; intro _))
        | (show spl _ _ _; first | refine spl_no rfl ?_ | refine spl_yes rfl ?_)
        | (show evC _ _ _ _ _; first | refine c_seq ?_ | refine c_region (by exact rfl) ?_ | refine c_cond (by exact rfl) ?_ | refine c_ret ?_ | refine c_skip ?_ | refine c_block ?_ | refine c_exit ?_ | (show evC _ (.region 3 _ true) _ _ _; refine c_draw (l := [(0, 0), (1, 0), (2, 1), (3, 1), (4, 1), (5, 1), (6, 1), (7, 1), (8, 1), (9, 0), (10, 0)]) (by decide +kernel) (by decide +kernel) (by exact rfl) ?_) | refine std ?_)
        | (show Br _ _ _; first | refine Br.t rfl ?_ | refine Br.f rfl ?_ | refine brs ?_ | (first | refine Br.mkN (fun h => ?_) (fun h => ?_) | refine Br.mk (fun h => ?_) (fun h => ?_)) <;> (try (first | contradiction | (exfalso; omega) | (exfalso; simp at h; done))))
        | refine stp ?_)
      all_goals (show retC _ _ _ _ _ _; refine RETC ?_; exact ret_done ((by rw [e1, e2, hex_cut k h9, ← upL_lt h9]; exact hK)))
    · have h10 : 10 ≤ k := by omega
      have e0 : m / 10 = ((k / 10 : Nat) : Int) := by omega
      have e1 : (m % 10).toNat = k % 10 := by omega
      have e2 : (m % 10 + 1).toNat = k % 10 + 1 := by omega
      have e3 : (⟨#[48, 49, 50, 51, 52, 53, 54, 55, 56, 57, 65, 66, 67, 68, 69, 70]⟩ : ByteArray).size = 16 := by decide
      have hl1 : (bq (upL (k / 10))).size ≤ 20 := by
        rw [bq_size]
        exact upL_len 19 _ (by omega)
      have hl2 := ext_le (⟨#[48, 49, 50, 51, 52, 53, 54, 55, 56, 57, 65, 66, 67, 68, 69, 70]⟩ : ByteArray) (m % 10).toNat (m % 10 + 1).toNat
      have hlt : k / 10 < k := by omega
      have hlt2 : k / 10 < 18446744073709551616 := by omega
      refine callT_intro mixed Tryz.func61 rfl (by decide) (by decide +kernel) (by exact Nat.le_of_ble_eq_true rfl) ?_
      repeat' (first
        | (show evG _ _ _ _ _ _ _; first | refine G_addu ?_ | refine G_quou ?_)
        | (show evG _ _ _ _ _ _ _; first | refine G_add64 ?_ | refine G_quo ?_ | refine G_rem ?_ | refine G_pure0 ?_ | refine evG_nil ?_ | refine G_br ?_ ?_ | refine G_pure ?_ | refine G_slh ?_ | refine G_slo ?_ | refine G_shi ?_ | refine G_cat ?_ | refine G_call ?_ | refine G_call0 ?_ | (refine G_sliceR ?_; intro _) | (refine G_sliceO ?_; intro _))
        | (show spl _ _ _; first | refine spl_no rfl ?_ | refine spl_yes rfl ?_)
        | (show evC _ _ _ _ _; first | refine c_seq ?_ | refine c_region (by exact rfl) ?_ | refine c_cond (by exact rfl) ?_ | refine c_ret ?_ | refine c_skip ?_ | refine c_block ?_ | refine c_exit ?_ | (show evC _ (.region 3 _ true) _ _ _; refine c_draw (l := [(0, 0), (1, 0), (2, 1), (3, 1), (4, 1), (5, 1), (6, 1), (7, 1), (8, 1), (9, 0), (10, 0)]) (by decide +kernel) (by decide +kernel) (by exact rfl) ?_) | refine std ?_)
        | (show Br _ _ _; first | refine Br.t rfl ?_ | refine Br.f rfl ?_ | refine brs ?_ | (first | refine Br.mkN (fun h => ?_) (fun h => ?_) | refine Br.mk (fun h => ?_) (fun h => ?_)) <;> (try (first | contradiction | (exfalso; omega) | (exfalso; simp at h; done))))
        | refine stp ?_
        | (show CallT _ 61 _ _ _; refine CA (h := ih (k / 10) hlt e0 hlt2 ?_)))
      all_goals (show retC _ _ _ _ _ _; refine RETC ?_; exact ret_done ((by rw [e1, e2, hex_cut _ (Nat.mod_lt _ (by decide)), bq_app, ← upL_ge h10]; exact hK)))
theorem number_ok {n : Int} (hn : inR n) (hK : K (.string (bq (dgL n))) R) : CallT Tryz.prog 34 #[.int .i64 n] R K := by
  obtain ⟨h0, h1⟩ := hn
  by_cases h : n < 0
  · have e1 : (0 - (n + 1)) % 18446744073709551616 + 1 = ((-n).toNat : Int) := by omega
    have e2 : (-n).toNat < 18446744073709551616 := by omega
    have hl1 : (bq (upL (-n).toNat)).size ≤ 20 := by
      rw [bq_size]
      exact upL_len 19 _ (by omega)
    rw [dgL_neg h] at hK
    refine callT_intro mixed Tryz.func34 rfl (by decide) (by decide +kernel) (by exact Nat.le_of_ble_eq_true rfl) ?_
    repeat' (first
      | (show evG _ _ _ _ _ _ _; refine G_addu ?_)
      | (show evG _ _ _ _ _ _ _; first | refine G_add64 ?_ | refine G_pure0 ?_ | refine evG_nil ?_ | refine G_br ?_ ?_ | refine G_pure ?_ | refine G_conv64 ?_ | refine G_conv8 ?_ | refine G_convu ?_ | refine G_conv ?_ | refine G_cat ?_ | refine G_neg64 ?_ | refine G_bytesP ?_ | refine G_bytesstr ?_ | refine G_call ?_ | refine G_call0 ?_ | (refine G_strrow ?_; intro _ _))
      | (show spl _ _ _; first | refine spl_no rfl ?_ | refine spl_yes rfl ?_)
      | (show evC _ _ _ _ _; first | refine c_seq ?_ | refine c_region (by exact rfl) ?_ | refine c_cond (by exact rfl) ?_ | refine c_ret ?_ | refine c_skip ?_ | refine c_block ?_ | refine c_exit ?_ | refine std ?_)
      | (show Br _ _ _; first | refine Br.t rfl ?_ | refine Br.f rfl ?_ | refine brs ?_ | (first | refine Br.mkN (fun h => ?_) (fun h => ?_) | refine Br.mk (fun h => ?_) (fun h => ?_)) <;> (try (first | contradiction | (exfalso; omega) | (exfalso; simp at h; done))))
      | refine stp ?_
      | (show CallT _ 61 _ _ _; refine CA (h := up_ok e1 e2 ?_)))
    all_goals (show retC _ _ _ _ _ _; refine RETC ?_; exact ret_done ((by rw [show bq (45 :: upL (-n).toNat) = bq [45] ++ bq (upL (-n).toNat) by rw [bq_app]; rfl] at hK; exact hK)))
  · have e1 : n % 18446744073709551616 = (n.toNat : Int) := by omega
    have e2 : n.toNat < 18446744073709551616 := by omega
    rw [dgL_pos (by omega)] at hK
    refine callT_intro mixed Tryz.func34 rfl (by decide) (by decide +kernel) (by exact Nat.le_of_ble_eq_true rfl) ?_
    repeat' (first
      | (show evG _ _ _ _ _ _ _; first | refine G_add64 ?_ | refine G_pure0 ?_ | refine evG_nil ?_ | refine G_br ?_ ?_ | refine G_pure ?_ | refine G_conv64 ?_ | refine G_conv8 ?_ | refine G_convu ?_ | refine G_conv ?_ | refine G_cat ?_ | refine G_neg64 ?_ | refine G_bytesP ?_ | refine G_bytesstr ?_ | refine G_call ?_ | refine G_call0 ?_ | (refine G_strrow ?_; intro _ _))
      | (show spl _ _ _; first | refine spl_no rfl ?_ | refine spl_yes rfl ?_)
      | (show evC _ _ _ _ _; first | refine c_seq ?_ | refine c_region (by exact rfl) ?_ | refine c_cond (by exact rfl) ?_ | refine c_ret ?_ | refine c_skip ?_ | refine c_block ?_ | refine c_exit ?_ | refine std ?_)
      | (show Br _ _ _; first | refine Br.t rfl ?_ | refine Br.f rfl ?_ | refine brs ?_ | (first | refine Br.mkN (fun h => ?_) (fun h => ?_) | refine Br.mk (fun h => ?_) (fun h => ?_)) <;> (try (first | contradiction | (exfalso; omega) | (exfalso; simp at h; done))))
      | refine stp ?_
      | (show CallT _ 61 _ _ _; refine CA (h := up_ok e1 e2 ?_)))
    all_goals (show retC _ _ _ _ _ _; refine RETC ?_; exact ret_done (hK))
theorem sbit_ok {b : Bool} (hK : K (.string (bq (if b then [49] else [48]))) R) : CallT Tryz.prog 36 #[.bool b] R K := by
  cases b
  all_goals
    refine callT_intro mixed Tryz.func36 rfl (by decide) (by decide +kernel) (by exact Nat.le_of_ble_eq_true rfl) ?_
    repeat' (first
      | (show evG _ _ _ _ _ _ _; first | refine G_pure0 ?_ | refine evG_nil ?_ | refine G_br ?_ ?_ | refine G_pure ?_)
      | (show spl _ _ _; first | refine spl_no rfl ?_ | refine spl_yes rfl ?_)
      | (show evC _ _ _ _ _; first | refine c_seq ?_ | refine c_region (by exact rfl) ?_ | refine c_cond (by exact rfl) ?_ | refine c_ret ?_ | refine c_skip ?_ | refine c_block ?_ | refine c_exit ?_ | refine std ?_)
      | (show Br _ _ _; first | refine Br.t rfl ?_ | refine Br.f rfl ?_ | refine brs ?_ | (first | refine Br.mkN (fun h => ?_) (fun h => ?_) | refine Br.mk (fun h => ?_) (fun h => ?_)) <;> (try (first | contradiction | (exfalso; omega) | (exfalso; simp at h; done))))
      | refine stp ?_)
    (show retC _ _ _ _ _ _; refine RETC ?_; exact ret_done (hK))
theorem plainT_ok {c : UInt8} (h : plB c = true) (hK : K (.bool true) R) : CallT Tryz.prog 62 #[.int .u8 c.toNat] R K := by
  have hl := c.toNat_lt
  unfold plB at h
  simp only [Bool.or_eq_true, Bool.and_eq_true, decide_eq_true_eq] at h
  refine callT_intro mixed Tryz.func62 rfl (by decide) (by decide +kernel) (by exact Nat.le_of_ble_eq_true rfl) ?_
  repeat' (first
    | (show evG _ _ _ _ _ _ _; first | refine G_pure0 ?_ | refine evG_nil ?_ | refine G_br ?_ ?_ | refine G_pure ?_ | refine G_eql_agg ?_ | refine G_skip ?_ | refine G_skip0 ?_)
    | (show spl _ _ _; first | refine spl_no rfl ?_ | refine spl_yes rfl ?_)
    | (show evC _ _ _ _ _; first | refine c_seq ?_ | refine c_region (by exact rfl) ?_ | refine c_cond (by exact rfl) ?_ | refine c_ret ?_ | refine c_skip ?_ | refine c_block ?_ | refine c_exit ?_ | refine std ?_)
    | (show Br _ _ _; first | refine Br.t rfl ?_ | refine Br.f rfl ?_ | refine brs ?_ | (first | refine Br.mkN (fun h => ?_) (fun h => ?_) | refine Br.mk (fun h => ?_) (fun h => ?_)) <;> (try (first | contradiction | (exfalso; omega) | (exfalso; simp at h; done))))
    | refine stp ?_)
  all_goals first
    | (show retC _ _ _ _ _ _; refine RETC ?_; exact ret_done (hK))
    | (exfalso; omega)
    | (show retC _ _ _ _ _ _; refine RETC ?_; exact ret_done (kb hK (by simp <;> omega)))
theorem plainF_ok {c : UInt8} (h : plB c = false) (hK : K (.bool false) R) : CallT Tryz.prog 62 #[.int .u8 c.toNat] R K := by
  have hl := c.toNat_lt
  unfold plB at h
  simp only [Bool.or_eq_false_iff, Bool.and_eq_false_iff, decide_eq_false_iff_not] at h
  refine callT_intro mixed Tryz.func62 rfl (by decide) (by decide +kernel) (by exact Nat.le_of_ble_eq_true rfl) ?_
  repeat' (first
    | (show evG _ _ _ _ _ _ _; first | refine G_pure0 ?_ | refine evG_nil ?_ | refine G_br ?_ ?_ | refine G_pure ?_ | refine G_eql_agg ?_ | refine G_skip ?_ | refine G_skip0 ?_)
    | (show spl _ _ _; first | refine spl_no rfl ?_ | refine spl_yes rfl ?_)
    | (show evC _ _ _ _ _; first | refine c_seq ?_ | refine c_region (by exact rfl) ?_ | refine c_cond (by exact rfl) ?_ | refine c_ret ?_ | refine c_skip ?_ | refine c_block ?_ | refine c_exit ?_ | refine std ?_)
    | (show Br _ _ _; first | refine Br.t rfl ?_ | refine Br.f rfl ?_ | refine brs ?_ | (first | refine Br.mkN (fun h => ?_) (fun h => ?_) | refine Br.mk (fun h => ?_) (fun h => ?_)) <;> (try (first | contradiction | (exfalso; omega) | (exfalso; simp at h; done))))
    | refine stp ?_)
  all_goals first
    | (exfalso; omega)
    | (show retC _ _ _ _ _ _; refine RETC ?_; exact ret_done (kb hK (by simp <;> omega)))
    | (show retC _ _ _ _ _ _; refine RETC ?_; exact ret_done (hK))
theorem esc_take {l : List UInt8} {j : Nat} {b : UInt8} (hb : l[j]? = some b) : (l.take (j + 1)).flatMap escL = (l.take j).flatMap escL ++ escL b := by
  rw [List.take_add_one, hb, List.flatMap_append]
  simp
theorem esc_le : ∀ l : List UInt8, (l.flatMap escL).length ≤ 3 * l.length
  | [] => by simp
  | x :: l => by
    rw [List.flatMap_cons, List.length_append, List.length_cons]
    have := esc_le l
    have := (escL_len x).2
    omega
theorem bget_l {s : ByteArray} {j : Nat} : s[j]? = s.data.toList[j]? := by
  rw [Array.getElem?_toList]
  by_cases h : j < s.size
  · rw [getElem?_pos s j h, getElem?_pos s.data j h]; rfl
  · rw [getElem?_neg s j h, getElem?_neg s.data j h]
theorem text_ok {s : ByteArray} (hs : s.size ≤ 1000000) (hK : K (.string (bq (txtL s.data.toList))) R) : CallT Tryz.prog 35 #[.string s] R K := by
  by_cases h0 : s = ⟨#[]⟩
  · subst h0
    refine callT_intro mixed Tryz.func35 rfl (by decide) (by decide +kernel) (by exact Nat.le_of_ble_eq_true rfl) ?_
    repeat' (first
      | (show evG _ _ _ _ _ _ _; first | refine G_add64 ?_ | refine G_quo ?_ | refine G_rem ?_ | refine G_pure0 ?_ | refine evG_nil ?_ | refine G_br ?_ ?_ | refine G_pure ?_ | (refine G_append ?_; intro _ _) | (refine G_appendN ?_; intro _ _) | refine G_indexS ?_ | refine G_conv64 ?_ | refine G_conv8 ?_ | refine G_convu ?_ | refine G_conv ?_ | refine G_cat ?_ | refine G_eql_agg ?_ | refine G_bytesP ?_ | refine G_bytesstr ?_ | refine G_call ?_ | refine G_call0 ?_ | (refine G_buildSlice ?_; intro _) | (refine G_strrow ?_; intro _ _))
      | (show spl _ _ _; first | refine spl_no rfl ?_ | refine spl_yes rfl ?_)
      | (show evC _ _ _ _ _; first | refine c_seq ?_ | refine c_region (by exact rfl) ?_ | refine c_cond (by exact rfl) ?_ | refine c_ret ?_ | refine c_skip ?_ | refine c_block ?_ | refine c_exit ?_ | (show evC _ (.region 9 _ true) _ _ _; refine c_draw (l := [(1, 0), (2, 0), (3, 0), (4, 0), (5, 0), (6, 0), (7, 0), (8, 0), (9, 0), (10, 0), (11, 1), (0, 1), (12, 1), (13, 0)]) (by decide +kernel) (by decide +kernel) (by exact rfl) ?_) | refine std ?_)
      | (show Br _ _ _; first | refine Br.t (by decide +kernel) ?_ | refine Br.f (by decide +kernel) ?_ | refine Br.t rfl ?_ | refine Br.f rfl ?_ | refine brs ?_ | (first | refine Br.mkN (fun h => ?_) (fun h => ?_) | refine Br.mk (fun h => ?_) (fun h => ?_)) <;> (try (first | contradiction | (exfalso; omega) | (exfalso; simp at h; done))))
      | refine stp ?_)
    all_goals (show retC _ _ _ _ _ _; refine RETC ?_; exact ret_done (hK))
  · have hb0 : (s.toList == (⟨#[]⟩ : ByteArray).toList) = false := tl_ne h0
    have hl0 : s.data.toList ≠ [] := fun h => h0 (by rw [← bq_data s, h]; rfl)
    have hlen : s.data.toList.length = s.size := Array.length_toList
    have htx : txtL s.data.toList = s.data.toList.flatMap escL := by unfold txtL; rw [if_neg hl0]
    rw [htx] at hK
    refine callT_intro mixed Tryz.func35 rfl (by decide) (by decide +kernel) (by exact Nat.le_of_ble_eq_true rfl) ?_
    repeat' (first
      | (show evG _ _ _ _ _ _ _; first | refine G_add64 ?_ | refine G_quo ?_ | refine G_rem ?_ | refine G_pure0 ?_ | refine evG_nil ?_ | refine G_br ?_ ?_ | refine G_pure ?_ | (refine G_append ?_; intro _ _) | (refine G_appendN ?_; intro _ _) | refine G_indexS ?_ | refine G_conv64 ?_ | refine G_conv8 ?_ | refine G_convu ?_ | refine G_conv ?_ | refine G_cat ?_ | refine G_eql_agg ?_ | refine G_bytesP ?_ | refine G_bytesstr ?_ | refine G_call ?_ | refine G_call0 ?_ | (refine G_buildSlice ?_; intro _) | (refine G_strrow ?_; intro _ _))
      | (show spl _ _ _; first | refine spl_no rfl ?_ | refine spl_yes rfl ?_)
      | (show evC _ _ _ _ _; first | refine c_seq ?_ | refine c_region (by exact rfl) ?_ | refine c_cond (by exact rfl) ?_ | refine c_ret ?_ | refine c_skip ?_ | refine c_block ?_ | refine c_exit ?_ | (show evC _ (.region 9 _ true) _ _ _; refine c_draw (l := [(1, 0), (2, 0), (3, 0), (4, 0), (5, 0), (6, 0), (7, 0), (8, 0), (9, 0), (10, 0), (11, 1), (0, 1), (12, 1), (13, 0)]) (by decide +kernel) (by decide +kernel) (by exact rfl) ?_) | refine std ?_)
      | (show Br _ _ _; first | refine Br.t rfl ?_ | refine Br.f rfl ?_ | refine brs ?_ | (first | refine Br.mkN (fun h => ?_) (fun h => ?_) | refine Br.mk (fun h => ?_) (fun h => ?_)) <;> (try (first | contradiction | (exfalso; omega) | (exfalso; simp at h; done))))
      | refine stp ?_)
    refine LOOP (fun m a C' => ∃ (j n c : Nat) (A : Option Addr), j + m = s.size ∧ n = ((s.data.toList.take j).flatMap escL).length ∧ C' = row A c 5 byteC ((s.data.toList.take j).flatMap escL) :: R ∧ Agree a [(0, .string s), (3, .slice A n c), (8, .int .i64 s.size), (9, .int .i64 j)]) s.size (turn s.size ⟨0, 0, 0, none, by omega, rfl, rfl, rfl, rfl, rfl, rfl, trivial⟩) ?_
    rintro n1 a C' ⟨j, n, c, A, hj, hn, rfl, ha⟩
    refine c_fr _ ha ?_
    simp only [updL]
    have hle := esc_le (s.data.toList.take j)
    have hle2 : (s.data.toList.take j).length ≤ j := by simp; omega
    by_cases hlt : j < s.size
    · obtain ⟨b, hb⟩ : ∃ b, s.data.toList[j]? = some b := ⟨_, List.getElem?_eq_getElem (by omega)⟩
      have hb1 : s[((j : Nat) : Int).toNat]? = some b := by rw [bget_l]; exact hb
      have et := esc_take hb
      have hbl := b.toNat_lt
      cases hp : plB b
      · have ee : escL b = [37, hexD (b.toNat / 16), hexD (b.toNat % 16)] := by unfold escL; rw [hp]; rfl
        have hx1 : (⟨#[48, 49, 50, 51, 52, 53, 54, 55, 56, 57, 65, 66, 67, 68, 69, 70]⟩ : ByteArray)[(((b.toNat : Nat) : Int) / 16).toNat]? = some (hexD (b.toNat / 16)) := by
          rw [show (((b.toNat : Nat) : Int) / 16).toNat = b.toNat / 16 by omega]; exact hex_at _ (by omega)
        have hx2 : (⟨#[48, 49, 50, 51, 52, 53, 54, 55, 56, 57, 65, 66, 67, 68, 69, 70]⟩ : ByteArray)[(((b.toNat : Nat) : Int) % 16).toNat]? = some (hexD (b.toNat % 16)) := by
          rw [show (((b.toNat : Nat) : Int) % 16).toNat = b.toNat % 16 by omega]; exact hex_at _ (by omega)
        repeat' (first
          | (show evG _ _ _ _ _ _ _; first | refine G_quo8 ?_ | (refine G_append (hsrc := src_bts (ys := [37, hexD (b.toNat / 16), hexD (b.toNat % 16)]) rfl rfl) ?_; intro _ _))
          | (show evG _ _ _ _ _ _ _; first | refine G_add64 ?_ | refine G_quo ?_ | refine G_rem ?_ | refine G_pure0 ?_ | refine evG_nil ?_ | refine G_br ?_ ?_ | refine G_pure ?_ | (refine G_append ?_; intro _ _) | (refine G_appendN ?_; intro _ _) | refine G_indexS ?_ | refine G_conv64 ?_ | refine G_conv8 ?_ | refine G_convu ?_ | refine G_conv ?_ | refine G_cat ?_ | refine G_eql_agg ?_ | refine G_bytesP ?_ | refine G_bytesstr ?_ | refine G_call ?_ | refine G_call0 ?_ | (refine G_buildSlice ?_; intro _) | (refine G_strrow ?_; intro _ _))
          | (show spl _ _ _; first | refine spl_no rfl ?_ | refine spl_yes rfl ?_)
          | (show evC _ _ _ _ _; first | refine c_seq ?_ | refine c_region (by exact rfl) ?_ | refine c_cond (by exact rfl) ?_ | refine c_ret ?_ | refine c_skip ?_ | refine c_block ?_ | refine c_exit ?_ | (show evC _ (.region 9 _ true) _ _ _; refine c_draw (l := [(1, 0), (2, 0), (3, 0), (4, 0), (5, 0), (6, 0), (7, 0), (8, 0), (9, 0), (10, 0), (11, 1), (0, 1), (12, 1), (13, 0)]) (by decide +kernel) (by decide +kernel) (by exact rfl) ?_) | refine std ?_)
          | (show Br _ _ _; first | refine Br.t rfl ?_ | refine Br.f rfl ?_ | refine brs ?_ | (first | refine Br.mkN (fun h => ?_) (fun h => ?_) | refine Br.mk (fun h => ?_) (fun h => ?_)) <;> (try (first | contradiction | (exfalso; omega) | (exfalso; simp at h; done))))
          | refine stp ?_
          | (show CallT _ 62 _ _ _; refine CA (h := plainF_ok hp ?_)))
        all_goals (show TurnG _ _ _ _; exact turn (n1 - 1) ⟨j + 1, _, _, _, by omega, by rw [et, ee], by rw [et, ee], rfl, rfl, rfl, rfl, trivial⟩)
      · have ee : escL b = [b] := by unfold escL; rw [hp]; rfl
        repeat' (first
          | (show evG _ _ _ _ _ _ _; (refine G_append (hsrc := src_bts (ys := [b]) rfl rfl) ?_; intro _ _))
          | (show evG _ _ _ _ _ _ _; first | refine G_add64 ?_ | refine G_quo ?_ | refine G_rem ?_ | refine G_pure0 ?_ | refine evG_nil ?_ | refine G_br ?_ ?_ | refine G_pure ?_ | (refine G_append ?_; intro _ _) | (refine G_appendN ?_; intro _ _) | refine G_indexS ?_ | refine G_conv64 ?_ | refine G_conv8 ?_ | refine G_convu ?_ | refine G_conv ?_ | refine G_cat ?_ | refine G_eql_agg ?_ | refine G_bytesP ?_ | refine G_bytesstr ?_ | refine G_call ?_ | refine G_call0 ?_ | (refine G_buildSlice ?_; intro _) | (refine G_strrow ?_; intro _ _))
          | (show spl _ _ _; first | refine spl_no rfl ?_ | refine spl_yes rfl ?_)
          | (show evC _ _ _ _ _; first | refine c_seq ?_ | refine c_region (by exact rfl) ?_ | refine c_cond (by exact rfl) ?_ | refine c_ret ?_ | refine c_skip ?_ | refine c_block ?_ | refine c_exit ?_ | (show evC _ (.region 9 _ true) _ _ _; refine c_draw (l := [(1, 0), (2, 0), (3, 0), (4, 0), (5, 0), (6, 0), (7, 0), (8, 0), (9, 0), (10, 0), (11, 1), (0, 1), (12, 1), (13, 0)]) (by decide +kernel) (by decide +kernel) (by exact rfl) ?_) | refine std ?_)
          | (show Br _ _ _; first | refine Br.t rfl ?_ | refine Br.f rfl ?_ | refine brs ?_ | (first | refine Br.mkN (fun h => ?_) (fun h => ?_) | refine Br.mk (fun h => ?_) (fun h => ?_)) <;> (try (first | contradiction | (exfalso; omega) | (exfalso; simp at h; done))))
          | refine stp ?_
          | (show CallT _ 62 _ _ _; refine CA (h := plainT_ok hp ?_)))
        all_goals (show TurnG _ _ _ _; exact turn (n1 - 1) ⟨j + 1, _, _, _, by omega, by rw [et, ee], by rw [et, ee], rfl, rfl, rfl, rfl, trivial⟩)
    · obtain rfl : j = s.size := by omega
      rw [List.take_of_length_le (by omega)] at hn hle ⊢
      have hns := hn.symm
      repeat' (first
        | (show evG _ _ _ _ _ _ _; first | refine G_add64 ?_ | refine G_quo ?_ | refine G_rem ?_ | refine G_pure0 ?_ | refine evG_nil ?_ | refine G_br ?_ ?_ | refine G_pure ?_ | (refine G_append ?_; intro _ _) | (refine G_appendN ?_; intro _ _) | refine G_indexS ?_ | refine G_conv64 ?_ | refine G_conv8 ?_ | refine G_convu ?_ | refine G_conv ?_ | refine G_cat ?_ | refine G_eql_agg ?_ | refine G_bytesP ?_ | refine G_bytesstr ?_ | refine G_call ?_ | refine G_call0 ?_ | (refine G_buildSlice ?_; intro _) | (refine G_strrow ?_; intro _ _))
        | (show spl _ _ _; first | refine spl_no rfl ?_ | refine spl_yes rfl ?_)
        | (show evC _ _ _ _ _; first | refine c_seq ?_ | refine c_region (by exact rfl) ?_ | refine c_cond (by exact rfl) ?_ | refine c_ret ?_ | refine c_skip ?_ | refine c_block ?_ | refine c_exit ?_ | (show evC _ (.region 9 _ true) _ _ _; refine c_draw (l := [(1, 0), (2, 0), (3, 0), (4, 0), (5, 0), (6, 0), (7, 0), (8, 0), (9, 0), (10, 0), (11, 1), (0, 1), (12, 1), (13, 0)]) (by decide +kernel) (by decide +kernel) (by exact rfl) ?_) | refine std ?_)
        | (show Br _ _ _; first | refine Br.t rfl ?_ | refine Br.f rfl ?_ | refine brs ?_ | (first | refine Br.mkN (fun h => ?_) (fun h => ?_) | refine Br.mk (fun h => ?_) (fun h => ?_)) <;> (try (first | contradiction | (exfalso; omega) | (exfalso; simp at h; done))))
        | refine stp ?_)
      all_goals (show retC _ _ _ _ _ _; refine RETC ?_; exact ret_done (hK))
end Go.Proofs.YtiofdmjecjcdbaaGreatDoor

