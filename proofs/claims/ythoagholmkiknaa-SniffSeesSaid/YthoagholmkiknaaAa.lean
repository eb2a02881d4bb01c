/- Octet: the scan. Octet: reading numbers: lemmas; each with the conditions that it states. -/
import Derived.Test.YthoagholmkiknaaFh
import Derived.Test.YthoagholmkiknaaB0
import Derived.Test.YthoagholmkiknaaFe

namespace Go.Proofs.Ythoagholmkiknaa
open Go Go.Proofs Go.Sl
set_option maxRecDepth 100000
set_option maxHeartbeats 4000000
set_option linter.unusedSimpArgs false
set_option linter.unusedVariables false
attribute [local irreducible] evG evC spl thenC inBlockC noGotoC CallT retC RetG TurnG CutG pt ro exP star sep pureP
variable {R : List HP} {K : Value → List HP → Prop}
def scanP (p : Nat) (s : ByteArray) (bad : Bool) : HP := pt p [.string s, .bool bad] 129
theorem over_ok (s : ByteArray) (hK : ∀ r, K (.pointer (some ⟨r, 0, none⟩)) (scanP r s false :: R)) : CallT Try.prog 61 #[.string s] R K := by
  refine callT_intro mixed Try.func61 rfl (by decide) (by decide +kernel) (by exact Nat.le_of_ble_eq_true rfl) ?_
  repeat' (first
    | (show evG _ _ _ _ _ _ _; first | refine G_pure0 ?_ | refine evG_nil ?_ | refine G_br ?_ ?_ | refine G_pure ?_ | refine G_build ?_ | (refine G_box ?_; intro _))
    | (show spl _ _ _; first | refine spl_no rfl ?_ | refine spl_yes rfl ?_)
    | (show evC _ _ _ _ _; first | refine c_seq ?_ | refine c_region (by exact rfl) ?_ | refine c_cond (by exact rfl) ?_ | refine c_ret ?_ | refine c_skip ?_ | refine c_block ?_ | refine c_exit ?_ | refine std ?_)
    | (show Br _ _ _; first | refine Br.t rfl ?_ | refine Br.f rfl ?_ | refine brs ?_ | (first | refine Br.mkN (fun h => ?_) (fun h => ?_) | refine Br.mk (fun h => ?_) (fun h => ?_)) <;> (try (first | contradiction | (exfalso; omega) | (exfalso; simp at h; done))))
    | refine stp ?_)
  (show retC _ _ _ _ _ _; refine RETC ?_; exact ret_done (hK _))
theorem bad_ok (p : Nat) (s : ByteArray) (bad : Bool) (hK : K (.bool bad) (scanP p s bad :: R)) : CallT Try.prog 63 #[.pointer (some ⟨p, 0, none⟩)] (scanP p s bad :: R) K := by
  unfold scanP at *
  refine callT_intro mixed Try.func63 rfl (by decide) (by decide +kernel) (by exact Nat.le_of_ble_eq_true rfl) ?_
  repeat' (first
    | (show evG _ _ _ _ _ _ _; first | refine G_pure0 ?_ | refine G_load ?_ | refine evG_nil ?_ | refine G_br ?_ ?_ | refine G_field ?_ | refine G_pure ?_ | refine G_loadV ?_ | refine G_loadV0 ?_ | refine G_loadV2 ?_ | refine G_eql_agg ?_ | refine G_skip ?_ | refine G_skip0 ?_)
    | (show spl _ _ _; first | refine spl_no rfl ?_ | refine spl_yes rfl ?_)
    | (show evC _ _ _ _ _; first | refine c_seq ?_ | refine c_region (by exact rfl) ?_ | refine c_cond (by exact rfl) ?_ | refine c_ret ?_ | refine c_skip ?_ | refine c_block ?_ | refine c_exit ?_ | refine std ?_)
    | (show Br _ _ _; first | refine Br.t rfl ?_ | refine Br.f rfl ?_ | refine brs ?_ | (first | refine Br.mkN (fun h => ?_) (fun h => ?_) | refine Br.mk (fun h => ?_) (fun h => ?_)) <;> (try (first | contradiction | (exfalso; omega) | (exfalso; simp at h; done))))
    | refine stp ?_)
  (show retC _ _ _ _ _ _; refine RETC ?_; exact ret_done (hK))
theorem left_ok (p : Nat) (s : ByteArray) (bad : Bool) (hK : K (.int .i64 s.size) (scanP p s bad :: R)) : CallT Try.prog 79 #[.pointer (some ⟨p, 0, none⟩)] (scanP p s bad :: R) K := by
  unfold scanP at *
  refine callT_intro mixed Try.func79 rfl (by decide) (by decide +kernel) (by exact Nat.le_of_ble_eq_true rfl) ?_
  repeat' (first
    | (show evG _ _ _ _ _ _ _; first | refine G_pure0 ?_ | refine G_load ?_ | refine evG_nil ?_ | refine G_br ?_ ?_ | refine G_field ?_ | refine G_pure ?_ | refine G_loadV ?_ | refine G_loadV0 ?_ | refine G_loadV2 ?_ | refine G_eql_agg ?_)
    | (show spl _ _ _; first | refine spl_no rfl ?_ | refine spl_yes rfl ?_)
    | (show evC _ _ _ _ _; first | refine c_seq ?_ | refine c_region (by exact rfl) ?_ | refine c_cond (by exact rfl) ?_ | refine c_ret ?_ | refine c_skip ?_ | refine c_block ?_ | refine c_exit ?_ | refine std ?_)
    | (show Br _ _ _; first | refine Br.t rfl ?_ | refine Br.f rfl ?_ | refine brs ?_ | (first | refine Br.mkN (fun h => ?_) (fun h => ?_) | refine Br.mk (fun h => ?_) (fun h => ?_)) <;> (try (first | contradiction | (exfalso; omega) | (exfalso; simp at h; done))))
    | refine stp ?_)
  (show retC _ _ _ _ _ _; refine RETC ?_; exact ret_done (hK))
def takeOk (n : Int) (s : ByteArray) (bad : Bool) : Bool := !bad && decide (0 ≤ n) && decide (n ≤ s.size)
def takeS (n : Int) (s : ByteArray) (bad : Bool) : ByteArray := match takeOk n s bad with
  | true => s.extract 0 n.toNat
  | false => ⟨#[]⟩
def takeR (n : Int) (s : ByteArray) (bad : Bool) : ByteArray := match takeOk n s bad with
  | true => s.extract n.toNat s.size
  | false => s
theorem take_ok {p : Nat} {n : Int} {s : ByteArray} {bad : Bool} (hK : K (.string (takeS n s bad)) (scanP p (takeR n s bad) (!takeOk n s bad) :: R)) : CallT Try.prog 76 #[.pointer (some ⟨p, 0, none⟩), .int .i64 n] (scanP p s bad :: R) K := by
  refine callT_intro mixed Try.func76 rfl (by decide) (by decide +kernel) (by exact Nat.le_of_ble_eq_true rfl) ?_
  repeat' (first
    | (show evG _ _ _ _ _ _ _; first | refine G_pure0 ?_ | refine G_load ?_ | refine evG_nil ?_ | refine G_br ?_ ?_ | refine G_field ?_ | refine G_pure ?_ | refine G_store ?_ | refine G_loadV ?_ | refine G_loadV0 ?_ | refine G_loadV2 ?_ | refine G_slh ?_ | refine G_slo ?_ | refine G_shi ?_ | refine G_call ?_ | refine G_call0 ?_ | (refine G_sliceR ?_; intro _) | (refine G_sliceO ?_; intro _) | refine G_skip ?_ | refine G_skip0 ?_)
    | (show spl _ _ _; first | refine spl_no rfl ?_ | refine spl_yes rfl ?_)
    | (show evC _ _ _ _ _; first | refine c_seq ?_ | refine c_region (by exact rfl) ?_ | refine c_cond (by exact rfl) ?_ | refine c_ret ?_ | refine c_skip ?_ | refine c_block ?_ | refine c_exit ?_ | refine std ?_)
    | (show Br _ _ _; first | refine Br.t rfl ?_ | refine Br.f rfl ?_ | refine brs ?_ | (first | refine Br.mkN (fun h => ?_) (fun h => ?_) | refine Br.mk (fun h => ?_) (fun h => ?_)) <;> (try (first | contradiction | (exfalso; omega) | (exfalso; simp at h; done))))
    | refine stp ?_
    | (show CallT _ 63 _ _ _; refine CA (h := bad_ok _ _ _ ?_)))
  all_goals
    first
    | (have e : takeOk n s bad = false := by (unfold takeOk; simp [*] <;> omega))
    | (have e : takeOk n s bad = true := by (unfold takeOk; simp [*] <;> omega))
    simp only [takeS, takeR, e, Bool.not_true, Bool.not_false] at hK
    subst_vars
    (show retC _ _ _ _ _ _; refine RETC ?_; exact ret_done (hK))
theorem rest_ok {p : Nat} {s : ByteArray} {bad : Bool} (hK : K (.string (takeS s.size s bad)) (scanP p (takeR s.size s bad) (!takeOk s.size s bad) :: R)) : CallT Try.prog 78 #[.pointer (some ⟨p, 0, none⟩)] (scanP p s bad :: R) K := by
  refine callT_intro mixed Try.func78 rfl (by decide) (by decide +kernel) (by exact Nat.le_of_ble_eq_true rfl) ?_
  repeat' (first
    | (show evG _ _ _ _ _ _ _; first | refine G_pure0 ?_ | refine evG_nil ?_ | refine G_br ?_ ?_ | refine G_pure ?_ | refine G_call ?_ | refine G_call0 ?_)
    | (show spl _ _ _; first | refine spl_no rfl ?_ | refine spl_yes rfl ?_)
    | (show evC _ _ _ _ _; first | refine c_seq ?_ | refine c_region (by exact rfl) ?_ | refine c_cond (by exact rfl) ?_ | refine c_ret ?_ | refine c_skip ?_ | refine c_block ?_ | refine c_exit ?_ | refine std ?_)
    | (show Br _ _ _; first | refine Br.t rfl ?_ | refine Br.f rfl ?_ | refine brs ?_ | (first | refine Br.mkN (fun h => ?_) (fun h => ?_) | refine Br.mk (fun h => ?_) (fun h => ?_)) <;> (try (first | contradiction | (exfalso; omega) | (exfalso; simp at h; done))))
    | refine stp ?_
    | (show CallT _ 79 _ _ _; refine CA (h := left_ok _ _ _ ?_))
    | (show CallT _ 76 _ _ _; refine CA (h := take_ok ?_)))
  (show retC _ _ _ _ _ _; refine RETC ?_; exact ret_done (hK))
end Go.Proofs.Ythoagholmkiknaa


namespace Go.Proofs.Ythoagholmkiknaa
open Go Go.Proofs Go.Sl
set_option maxRecDepth 100000
set_option maxHeartbeats 4000000
set_option linter.unusedSimpArgs false
set_option linter.unusedVariables false
attribute [local irreducible] evG evC spl thenC inBlockC noGotoC CallT retC RetG TurnG CutG pt ro exP star sep pureP
variable {R : List HP} {K : Value → List HP → Prop}
/-- the number of bytes -/
def numB (l : List UInt8) : Int := l.foldl (fun u b => u * 256 + b.toNat) 0
theorem numB_snoc (l : List UInt8) (b : UInt8) : numB (l ++ [b]) = numB l * 256 + b.toNat := by simp [numB]
theorem numB_nn (l : List UInt8) : 0 ≤ numB l := by
  have key : ∀ n (l : List UInt8), l.length = n → 0 ≤ numB l := by
    intro n
    induction n with
    | zero => intro l hl; rw [List.length_eq_zero_iff.1 hl]; decide
    | succ n ih =>
      intro l hl
      have hne : l ≠ [] := by intro h; rw [h] at hl; cases hl
      rw [← List.dropLast_concat_getLast hne, numB_snoc]
      have := ih l.dropLast (by simp [hl])
      omega
  exact key _ l rfl
theorem numB_lt (l : List UInt8) : numB l < 256 ^ l.length := by
  have key : ∀ n (l : List UInt8), l.length = n → numB l < 256 ^ n := by
    intro n
    induction n with
    | zero => intro l hl; rw [List.length_eq_zero_iff.1 hl]; decide
    | succ n ih =>
      intro l hl
      have hne : l ≠ [] := by intro h; rw [h] at hl; cases hl
      rw [← List.dropLast_concat_getLast hne, numB_snoc]
      have := ih l.dropLast (by simp [hl])
      have := (l.getLast hne).toNat_lt
      rw [Int.pow_succ]
      omega
  exact key _ l rfl
theorem numB_lt4 (l : List UInt8) (h : l.length ≤ 4) : 0 ≤ numB l ∧ numB l < 4294967296 := by
  refine ⟨numB_nn l, Int.lt_of_lt_of_le (numB_lt l) ?_⟩
  have : (256 : Int) ^ l.length ≤ 256 ^ 4 := by exact_mod_cast Nat.pow_le_pow_right (by decide) h
  exact this
theorem numB_take (l : List UInt8) (j : Nat) (b : UInt8) (hb : l[j]? = some b) : numB (l.take (j + 1)) = numB (l.take j) * 256 + b.toNat := by rw [List.take_add_one, hb]; exact numB_snoc _ _
theorem getB {l : List UInt8} {j : Nat} (h : j < l.length) : ∃ b, l[j]? = some b := ⟨_, List.getElem?_eq_getElem h⟩
def uW (n : Int) : Int := if n < 1 ∨ 4 < n then -1 else n
def uN (n : Int) (s : ByteArray) (bad : Bool) : Int := numB (takeS (uW n) s bad).data.toList
theorem takeS_len (n : Int) (s : ByteArray) (bad : Bool) : (takeS n s bad).data.toList.length ≤ n.toNat := by
  unfold takeS
  split
  · simp; omega
  · simp
theorem U_loop {Q : Exit → Fr → List HP → Prop} {a : Fr} {C : List HP} (u : ByteArray) (r N : Nat) (e : TypeId) (hu : u.data.toList.length ≤ 4) (ha : Agree a [(17, .slice (some ⟨r, 0, none⟩) u.size N), (18, .int .i64 u.size), (19, .int .i64 0), (5, .int .i64 0)])
    (hC : ∃ C', C = row (some ⟨r, 0, none⟩) N e byteC u.data.toList :: C') (hK : ∀ a, Q (.exit 0) (updL a [(5, .int .i64 (numB u.data.toList))]) C) : evC Try.prog (loopAt Try.f62 0) Q a C := by
  obtain ⟨C', rfl⟩ := hC
  have hsz : u.data.toList.length = u.size := by simp
  refine LOOP (fun m a C => ∃ j, j + m = u.size ∧ C = row (some ⟨r, 0, none⟩) N e byteC u.data.toList :: C' ∧ Agree a [(17, .slice (some ⟨r, 0, none⟩) u.size N), (18, .int .i64 u.size), (19, .int .i64 (j : Nat)), (5, .int .i64 (numB (u.data.toList.take j)))]) u.size
    (turn u.size ⟨0, by omega, rfl, ha⟩) ?_
  rintro n a C ⟨j, hj, rfl, ha⟩
  refine c_fr _ ha ?_
  simp only [updL]
  have hb := numB_lt4 (u.data.toList.take j) (by simp; omega)
  by_cases hlt : j < u.size
  · obtain ⟨b, hb⟩ := getB (l := u.data.toList) (j := j) (by omega)
    have hb2 := b.toNat_lt
    repeat' (first
      | (show evG _ _ _ _ _ _ _; first | refine G_andNot0 ?_ | refine G_andNot1 ?_ | refine G_add64 ?_ | refine G_sub64 ?_ | refine G_mul64 ?_ | refine G_quo ?_ | refine G_rem ?_ | refine G_shl8 ?_ | refine G_orb ?_ | refine G_shr ?_ | refine G_pure0 ?_ | refine G_load ?_ | refine evG_nil ?_ | refine G_br ?_ ?_ | refine G_field ?_ | refine G_pure ?_ | refine G_store ?_ | refine G_loadV ?_ | refine G_loadV0 ?_ | refine G_loadV2 ?_ | (refine G_append ?_; intro _ _) | (refine G_appendN ?_; intro _ _) | refine G_not ?_ | refine G_index ?_ | refine G_indexA ?_ | refine G_indexS ?_ | refine G_conv64 ?_ | refine G_conv8 ?_ | refine G_convu ?_ | refine G_conv ?_ | refine G_build ?_ | refine G_slh ?_ | refine G_slo ?_ | refine G_shi ?_ | refine G_cat ?_ | refine G_min ?_ | refine G_max ?_ | refine G_neg64 ?_ | refine G_eql_agg ?_ | refine G_neq_agg ?_ | refine G_bytesP ?_ | refine G_bytesstr ?_ | refine G_call ?_ | refine G_call0 ?_ | refine G_callv ?_ | refine G_callv0 ?_ | (refine G_box ?_; intro _) | (refine G_alloc ?_; intro _) | (refine G_buildSlice ?_; intro _) | (refine G_strrow ?_; intro _ _) | (refine G_indexV ?_; intro _ _ hA; subst hA) | (refine G_sliceR ?_; intro _) | (refine G_sliceO ?_; intro _) | refine G_skip ?_ | refine G_skip0 ?_)
      | (show spl _ _ _; first | refine spl_no rfl ?_ | refine spl_yes rfl ?_)
      | (show evC _ _ _ _ _; first | refine c_seq ?_ | refine c_region (by exact rfl) ?_ | refine c_cond (by exact rfl) ?_ | refine c_ret ?_ | refine c_skip ?_ | refine c_block ?_ | refine c_exit ?_ | refine std ?_)
      | (show Br _ _ _; first | refine Br.t rfl ?_ | refine Br.f rfl ?_ | refine brs ?_ | (first | refine Br.mkN (fun h => ?_) (fun h => ?_) | refine Br.mk (fun h => ?_) (fun h => ?_)) <;> (try (first | contradiction | (exfalso; omega) | (exfalso; simp at h; done))))
      | refine stp ?_)
    show TurnG _ _ _ _
    exact turn (n - 1) ⟨j + 1, by omega, rfl, rfl, rfl, rfl, by rw [numB_take _ _ _ hb]; rfl, trivial⟩
  · obtain rfl : j = u.size := by omega
    repeat' (first
      | (show evG _ _ _ _ _ _ _; first | refine G_andNot0 ?_ | refine G_andNot1 ?_ | refine G_add64 ?_ | refine G_sub64 ?_ | refine G_mul64 ?_ | refine G_quo ?_ | refine G_rem ?_ | refine G_shl8 ?_ | refine G_orb ?_ | refine G_shr ?_ | refine G_pure0 ?_ | refine G_load ?_ | refine evG_nil ?_ | refine G_br ?_ ?_ | refine G_field ?_ | refine G_pure ?_ | refine G_store ?_ | refine G_loadV ?_ | refine G_loadV0 ?_ | refine G_loadV2 ?_ | (refine G_append ?_; intro _ _) | (refine G_appendN ?_; intro _ _) | refine G_not ?_ | refine G_index ?_ | refine G_indexA ?_ | refine G_indexS ?_ | refine G_conv64 ?_ | refine G_conv8 ?_ | refine G_convu ?_ | refine G_conv ?_ | refine G_build ?_ | refine G_slh ?_ | refine G_slo ?_ | refine G_shi ?_ | refine G_cat ?_ | refine G_min ?_ | refine G_max ?_ | refine G_neg64 ?_ | refine G_eql_agg ?_ | refine G_neq_agg ?_ | refine G_bytesP ?_ | refine G_bytesstr ?_ | refine G_call ?_ | refine G_call0 ?_ | refine G_callv ?_ | refine G_callv0 ?_ | (refine G_box ?_; intro _) | (refine G_alloc ?_; intro _) | (refine G_buildSlice ?_; intro _) | (refine G_strrow ?_; intro _ _) | (refine G_indexV ?_; intro _ _ hA; subst hA) | (refine G_sliceR ?_; intro _) | (refine G_sliceO ?_; intro _) | refine G_skip ?_ | refine G_skip0 ?_)
      | (show spl _ _ _; first | refine spl_no rfl ?_ | refine spl_yes rfl ?_)
      | (show evC _ _ _ _ _; first | refine c_seq ?_ | refine c_region (by exact rfl) ?_ | refine c_cond (by exact rfl) ?_ | refine c_ret ?_ | refine c_skip ?_ | refine c_block ?_ | refine c_exit ?_ | refine std ?_)
      | (show Br _ _ _; first | refine Br.t rfl ?_ | refine Br.f rfl ?_ | refine brs ?_ | (first | refine Br.mkN (fun h => ?_) (fun h => ?_) | refine Br.mk (fun h => ?_) (fun h => ?_)) <;> (try (first | contradiction | (exfalso; omega) | (exfalso; simp at h; done))))
      | refine stp ?_)
    exact at_updL (p := fun a => Q (.exit 0) a _) [(5, .int .i64 (numB u.data.toList))] ⟨by rw [List.take_of_length_le (by omega)]; rfl, trivial⟩ (hK _)
theorem U_ok {p : Nat} {n : Int} {s : ByteArray} {bad : Bool} (hK : K (.int .i64 (uN n s bad)) (scanP p (takeR (uW n) s bad) (!takeOk (uW n) s bad) :: R)) : CallT Try.prog 62 #[.pointer (some ⟨p, 0, none⟩), .int .i64 n] (scanP p s bad :: R) K := by
  unfold uN uW at hK
  refine callT_intro mixed Try.func62 rfl (by decide) (by decide +kernel) (by exact Nat.le_of_ble_eq_true rfl) ?_
  repeat' (first
    | (show evG _ _ _ _ _ _ _; first | refine G_add64 ?_ | refine G_shl8 ?_ | refine G_orb ?_ | refine G_pure0 ?_ | refine G_load ?_ | refine evG_nil ?_ | refine G_br ?_ ?_ | refine G_pure ?_ | refine G_loadV ?_ | refine G_loadV0 ?_ | refine G_loadV2 ?_ | refine G_index ?_ | refine G_indexA ?_ | refine G_conv64 ?_ | refine G_conv8 ?_ | refine G_convu ?_ | refine G_conv ?_ | refine G_cat ?_ | refine G_bytesP ?_ | refine G_bytesstr ?_ | refine G_call ?_ | refine G_call0 ?_ | (refine G_strrow ?_; intro _ _) | (refine G_indexV ?_; intro _ _ hA; subst hA) | refine G_skip ?_ | refine G_skip0 ?_)
    | (show spl _ _ _; first | refine spl_no rfl ?_ | refine spl_yes rfl ?_)
    | (show evC _ _ _ _ _; first | refine c_seq ?_ | refine c_region (by exact rfl) ?_ | refine c_cond (by exact rfl) ?_ | refine c_ret ?_ | refine c_skip ?_ | refine c_block ?_ | refine c_exit ?_ | refine std ?_)
    | (show Br _ _ _; first | refine Br.t rfl ?_ | refine Br.f rfl ?_ | refine brs ?_ | (first | refine Br.mkN (fun h => ?_) (fun h => ?_) | refine Br.mk (fun h => ?_) (fun h => ?_)) <;> (try (first | contradiction | (exfalso; omega) | (exfalso; simp at h; done))))
    | refine stp ?_
    | (show CallT _ 76 _ _ _; refine CA (h := take_ok ?_))
    | refine U_loop _ _ _ _ ?_ ⟨rfl, rfl, rfl, rfl, trivial⟩ ⟨_, rfl⟩ (fun a => ?_))
  all_goals first
    | (rw [if_pos (by omega)] at hK; (show retC _ _ _ _ _ _; refine RETC ?_; exact ret_done (hK)))
    | (rw [if_neg (by omega)] at hK; (show retC _ _ _ _ _ _; refine RETC ?_; exact ret_done (hK)))
    | exact Nat.le_trans (takeS_len _ _ _) (by omega)
end Go.Proofs.Ythoagholmkiknaa

