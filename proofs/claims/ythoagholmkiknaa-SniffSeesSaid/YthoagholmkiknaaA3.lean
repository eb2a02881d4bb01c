/- Octet: laying pieces: lemmas; each with the conditions that it states. -/
import Derived.Test.YthoagholmkiknaaFh
import Derived.Test.YthoagholmkiknaaAa

namespace Go.Proofs.Ythoagholmkiknaa
open Go Go.Proofs Go.Sl
set_option maxRecDepth 100000
set_option maxHeartbeats 4000000
set_option linter.unusedSimpArgs false
set_option linter.unusedVariables false
attribute [local irreducible] evG evC spl thenC inBlockC noGotoC CallT retC RetG TurnG CutG pt ro exP star sep pureP
variable {R C : List HP} {K : Value → List HP → Prop}
structure Pc where
  n : Int
  w : Int
  s : ByteArray
def pcD : List Value → Option Pc
  | [.int .i64 n, .int .i64 w, .string s] => some ⟨n, w, s⟩
  | _ => none
theorem pcD_ok (cs : List Value) (y : Pc) (h : pcD cs = some y) : [.int .i64 y.n, .int .i64 y.w, .string y.s] = cs := by
  unfold pcD at h
  split at h
  · cases h; rfl
  · cases h
def pcC : Cod Pc := { enc := fun p => [.int .i64 p.n, .int .i64 p.w, .string p.s], sz := 3, dec := pcD, len := fun _ => rfl, one := fun _ => rfl, ok := pcD_ok }
def pcMay (n w : Int) : Int := if w < 0 ∨ 4 < w then 2 else if 0 < w ∧ (n < 0 ∨ 0 < n / 2 ^ (8 * w).toNat) then 3 else 0
def pcSize (w : Int) (s : ByteArray) : Int := if w = 0 then s.size else if w < 0 ∨ 4 < w then 0 else w
def wB (n w : Int) : List UInt8 := (List.range w.toNat).map fun (i : Nat) => byteI (n / 2 ^ (8 * (w - 1 - (i : Int))).toNat)
def pcB (n w : Int) (s : ByteArray) : List UInt8 := (if w = 0 then s.data.toList else []) ++ wB n w
theorem u_ok {n w : Int} (hK : K (.agg #[.int .i64 n, .int .i64 w, .string ⟨#[]⟩]) R) : CallT Try.prog 87 #[.int .i64 n, .int .i64 w] R K := by
  refine callT_intro mixed Try.func87 rfl (by decide) (by decide +kernel) (by exact Nat.le_of_ble_eq_true rfl) ?_
  repeat' (first
    | (show evG _ _ _ _ _ _ _; first | refine G_pure0 ?_ | refine evG_nil ?_ | refine G_br ?_ ?_ | refine G_pure ?_ | refine G_store ?_ | refine G_build ?_ | (refine G_alloc ?_; intro _))
    | (show spl _ _ _; first | refine spl_no rfl ?_ | refine spl_yes rfl ?_)
    | (show evC _ _ _ _ _; first | refine c_seq ?_ | refine c_region (by exact rfl) ?_ | refine c_cond (by exact rfl) ?_ | refine c_ret ?_ | refine c_skip ?_ | refine c_block ?_ | refine c_exit ?_ | refine std ?_)
    | (show Br _ _ _; first | refine Br.t rfl ?_ | refine Br.f rfl ?_ | refine brs ?_ | (first | refine Br.mkN (fun h => ?_) (fun h => ?_) | refine Br.mk (fun h => ?_) (fun h => ?_)) <;> (try (first | contradiction | (exfalso; omega) | (exfalso; simp at h; done))))
    | refine stp ?_)
  (show retC _ _ _ _ _ _; refine RETC ?_; exact ret_done (hK))
theorem t_ok {s : ByteArray} (hK : K (.agg #[.int .i64 0, .int .i64 0, .string s]) R) : CallT Try.prog 88 #[.string s] R K := by
  refine callT_intro mixed Try.func88 rfl (by decide) (by decide +kernel) (by exact Nat.le_of_ble_eq_true rfl) ?_
  repeat' (first
    | (show evG _ _ _ _ _ _ _; first | refine G_pure0 ?_ | refine evG_nil ?_ | refine G_br ?_ ?_ | refine G_pure ?_ | refine G_store ?_ | refine G_build ?_ | (refine G_alloc ?_; intro _))
    | (show spl _ _ _; first | refine spl_no rfl ?_ | refine spl_yes rfl ?_)
    | (show evC _ _ _ _ _; first | refine c_seq ?_ | refine c_region (by exact rfl) ?_ | refine c_cond (by exact rfl) ?_ | refine c_ret ?_ | refine c_skip ?_ | refine c_block ?_ | refine c_exit ?_ | refine std ?_)
    | (show Br _ _ _; first | refine Br.t rfl ?_ | refine Br.f rfl ?_ | refine brs ?_ | (first | refine Br.mkN (fun h => ?_) (fun h => ?_) | refine Br.mk (fun h => ?_) (fun h => ?_)) <;> (try (first | contradiction | (exfalso; omega) | (exfalso; simp at h; done))))
    | refine stp ?_)
  (show retC _ _ _ _ _ _; refine RETC ?_; exact ret_done (hK))
theorem may_ok {n w : Int} {s : ByteArray} (hK : K (.int .i64 (pcMay n w)) R) : CallT Try.prog 96 #[.agg #[.int .i64 n, .int .i64 w, .string s]] R K := by
  refine callT_intro mixed Try.func96 rfl (by decide) (by decide +kernel) (by exact Nat.le_of_ble_eq_true rfl) ?_
  repeat' (first
    | (show evG _ _ _ _ _ _ _; first | refine G_mul64 ?_ | refine G_shr ?_ | refine G_pure0 ?_ | refine G_load ?_ | refine evG_nil ?_ | refine G_br ?_ ?_ | refine G_field ?_ | refine G_pure ?_ | refine G_loadV ?_ | refine G_loadV0 ?_ | refine G_loadV2 ?_ | (refine G_box ?_; intro _) | refine G_skip ?_ | refine G_skip0 ?_)
    | (show spl _ _ _; first | refine spl_no rfl ?_ | refine spl_yes rfl ?_)
    | (show evC _ _ _ _ _; first | refine c_seq ?_ | refine c_region (by exact rfl) ?_ | refine c_cond (by exact rfl) ?_ | refine c_ret ?_ | refine c_skip ?_ | refine c_block ?_ | refine c_exit ?_ | refine std ?_)
    | (show Br _ _ _; first | refine Br.t rfl ?_ | refine Br.f rfl ?_ | refine brs ?_ | (first | refine Br.mkN (fun h => ?_) (fun h => ?_) | refine Br.mk (fun h => ?_) (fun h => ?_)) <;> (try (first | contradiction | (exfalso; omega) | (exfalso; simp at h; done))))
    | refine stp ?_)
  all_goals (show retC _ _ _ _ _ _; refine RETC ?_; exact ret_done (ki hK (by unfold pcMay; (repeat' split) <;> first | rfl | omega | (exfalso; omega) | simp_all)))
theorem size1_ok {n w : Int} {s : ByteArray} (hK : K (.int .i64 (pcSize w s)) R) : CallT Try.prog 99 #[.agg #[.int .i64 n, .int .i64 w, .string s]] R K := by
  refine callT_intro mixed Try.func99 rfl (by decide) (by decide +kernel) (by exact Nat.le_of_ble_eq_true rfl) ?_
  repeat' (first
    | (show evG _ _ _ _ _ _ _; first | refine G_pure0 ?_ | refine G_load ?_ | refine evG_nil ?_ | refine G_br ?_ ?_ | refine G_field ?_ | refine G_pure ?_ | refine G_loadV ?_ | refine G_loadV0 ?_ | refine G_loadV2 ?_ | refine G_eql_agg ?_ | (refine G_box ?_; intro _) | refine G_skip ?_ | refine G_skip0 ?_)
    | (show spl _ _ _; first | refine spl_no rfl ?_ | refine spl_yes rfl ?_)
    | (show evC _ _ _ _ _; first | refine c_seq ?_ | refine c_region (by exact rfl) ?_ | refine c_cond (by exact rfl) ?_ | refine c_ret ?_ | refine c_skip ?_ | refine c_block ?_ | refine c_exit ?_ | refine std ?_)
    | (show Br _ _ _; first | refine Br.t rfl ?_ | refine Br.f rfl ?_ | refine brs ?_ | (first | refine Br.mkN (fun h => ?_) (fun h => ?_) | refine Br.mk (fun h => ?_) (fun h => ?_)) <;> (try (first | contradiction | (exfalso; omega) | (exfalso; simp at h; done))))
    | refine stp ?_)
  all_goals (show retC _ _ _ _ _ _; refine RETC ?_; exact ret_done (ki hK (by unfold pcSize; (repeat' split) <;> first | rfl | omega | (exfalso; omega) | simp_all)))
def szL : List Pc → Int → Int
  | [], n => n
  | p :: l, n => if 4096 < n + min (pcSize p.w p.s) 4097 then 4097 else szL l (n + min (pcSize p.w p.s) 4097)
theorem pcSize_nn (w : Int) (s : ByteArray) : 0 ≤ pcSize w s := by unfold pcSize; (repeat' split) <;> first | rfl | omega | (exfalso; omega) | simp_all
theorem at_drop {α : Type} {l : List α} {j : Nat} (h : j < l.length) : ∃ x, l[j]? = some x ∧ l.drop j = x :: l.drop (j + 1) := ⟨l[j], List.getElem?_eq_getElem h, List.drop_eq_getElem_cons h⟩
theorem size_ok {A : Option Addr} {n c : Nat} {ps : List Pc} (hv : View C A pcC ps) (hn : ps.length = n) (hn2 : n < 1000000000000000) (hK : K (.int .i64 (szL ps 0)) C) : CallT Try.prog 97 #[.slice A n c] C K := by
  refine callT_intro mixed Try.func97 rfl (by decide) (by decide +kernel) (by exact Nat.le_of_ble_eq_true rfl) ?_
  repeat' (first
    | (show evG _ _ _ _ _ _ _; first | refine G_add64 ?_ | refine G_pure0 ?_ | refine G_load ?_ | refine evG_nil ?_ | refine G_br ?_ ?_ | refine G_pure ?_ | refine G_store ?_ | refine G_loadV ?_ | refine G_loadV0 ?_ | refine G_loadV2 ?_ | refine G_index ?_ | refine G_indexA ?_ | refine G_cat ?_ | refine G_min ?_ | refine G_call ?_ | refine G_call0 ?_ | (refine G_alloc ?_; intro _) | (refine G_indexV ?_; intro _ _ hA; subst hA))
    | (show spl _ _ _; first | refine spl_no rfl ?_ | refine spl_yes rfl ?_)
    | (show evC _ _ _ _ _; first | refine c_seq ?_ | refine c_region (by exact rfl) ?_ | refine c_cond (by exact rfl) ?_ | refine c_ret ?_ | refine c_skip ?_ | refine c_block ?_ | refine c_exit ?_ | refine std ?_)
    | (show Br _ _ _; first | refine Br.t rfl ?_ | refine Br.f rfl ?_ | refine brs ?_ | (first | refine Br.mkN (fun h => ?_) (fun h => ?_) | refine Br.mk (fun h => ?_) (fun h => ?_)) <;> (try (first | contradiction | (exfalso; omega) | (exfalso; simp at h; done))))
    | refine stp ?_)
  refine LOOP (fun m a C' => ∃ (j : Nat) (t : Int), j + m = n ∧ C' = C ∧ 0 ≤ t ∧ t ≤ 4096 ∧ szL ps 0 = szL (ps.drop j) t ∧ Agree a [(6, .slice A n c), (7, .int .i64 n), (8, .int .i64 j), (3, .int .i64 t)]) n (turn n ⟨0, 0, by omega, rfl, by omega, by omega, rfl, rfl, rfl, rfl, rfl, trivial⟩) ?_
  rintro n1 a C' ⟨j, t, hj, rfl, h0, h1, hs, ha⟩
  refine c_fr _ ha ?_
  simp only [updL]
  by_cases hlt : j < n
  · obtain ⟨p, hp, hd⟩ := at_drop (l := ps) (j := j) (by omega)
    have hnn := pcSize_nn p.w p.s
    rw [hd, szL] at hs
    repeat' (first
      | (show evG _ _ _ _ _ _ _; first | refine G_add64 ?_ | refine G_pure0 ?_ | refine G_load ?_ | refine evG_nil ?_ | refine G_br ?_ ?_ | refine G_pure ?_ | refine G_store ?_ | refine G_loadV ?_ | refine G_loadV0 ?_ | refine G_loadV2 ?_ | refine G_index ?_ | refine G_indexA ?_ | refine G_cat ?_ | refine G_min ?_ | refine G_call ?_ | refine G_call0 ?_ | (refine G_alloc ?_; intro _) | (refine G_indexV ?_; intro _ _ hA; subst hA))
      | (show spl _ _ _; first | refine spl_no rfl ?_ | refine spl_yes rfl ?_)
      | (show evC _ _ _ _ _; first | refine c_seq ?_ | refine c_region (by exact rfl) ?_ | refine c_cond (by exact rfl) ?_ | refine c_ret ?_ | refine c_skip ?_ | refine c_block ?_ | refine c_exit ?_ | refine std ?_)
      | (show Br _ _ _; first | refine Br.t rfl ?_ | refine Br.f rfl ?_ | refine brs ?_ | (first | refine Br.mkN (fun h => ?_) (fun h => ?_) | refine Br.mk (fun h => ?_) (fun h => ?_)) <;> (try (first | contradiction | (exfalso; omega) | (exfalso; simp at h; done))))
      | refine stp ?_
      | (show CallT _ 99 _ _ _; refine CA (h := size1_ok ?_)))
    · rw [if_pos (by assumption)] at hs
      (show retC _ _ _ _ _ _; refine RETC ?_; exact ret_done (ki hK hs))
    · rw [if_neg (by omega)] at hs
      exact turn (n1 - 1) ⟨j + 1, _, by omega, rfl, by omega, by omega, hs, rfl, rfl, rfl, rfl, trivial⟩
  · obtain rfl : j = n := by omega
    repeat' (first
      | (show evG _ _ _ _ _ _ _; first | refine G_add64 ?_ | refine G_pure0 ?_ | refine G_load ?_ | refine evG_nil ?_ | refine G_br ?_ ?_ | refine G_pure ?_ | refine G_store ?_ | refine G_loadV ?_ | refine G_loadV0 ?_ | refine G_loadV2 ?_ | refine G_index ?_ | refine G_indexA ?_ | refine G_cat ?_ | refine G_min ?_ | refine G_call ?_ | refine G_call0 ?_ | (refine G_alloc ?_; intro _) | (refine G_indexV ?_; intro _ _ hA; subst hA))
      | (show spl _ _ _; first | refine spl_no rfl ?_ | refine spl_yes rfl ?_)
      | (show evC _ _ _ _ _; first | refine c_seq ?_ | refine c_region (by exact rfl) ?_ | refine c_cond (by exact rfl) ?_ | refine c_ret ?_ | refine c_skip ?_ | refine c_block ?_ | refine c_exit ?_ | refine std ?_)
      | (show Br _ _ _; first | refine Br.t rfl ?_ | refine Br.f rfl ?_ | refine brs ?_ | (first | refine Br.mkN (fun h => ?_) (fun h => ?_) | refine Br.mk (fun h => ?_) (fun h => ?_)) <;> (try (first | contradiction | (exfalso; omega) | (exfalso; simp at h; done))))
      | refine stp ?_)
    (show retC _ _ _ _ _ _; refine RETC ?_; exact ret_done (ki hK (by rw [hs, List.drop_eq_nil_of_le (by omega)]; rfl)))
/-- a row of bytes that a variable holds -/
def bufP (b : Nat) (bs : List UInt8) : HP := exP fun A => exP fun c => sep (pt b [.slice A bs.length c] 47) (row A c 5 byteC bs)
theorem wB_take (n w : Int) (j : Nat) (h : (j : Int) < w) : (wB n w).take (j + 1) = (wB n w).take j ++ [byteI (n / 2 ^ (8 * (w - 1 - (j : Int))).toNat)] := by
  unfold wB
  rw [List.take_add_one, List.getElem?_map, List.getElem?_range (by omega)]
  rfl
theorem wB_len (n w : Int) : (wB n w).length = w.toNat := by simp [wB]
theorem put_loop {Q : Exit → Fr → List HP → Prop} {a : Fr} {b r : Nat} {n w : Int} {s : ByteArray} (bs : List UInt8) (hw : 0 ≤ w ∧ w ≤ 4) (hl : bs.length < 2000000000000) (hE : Ent C (bufP b bs :: pt r [.int .i64 n, .int .i64 w, .string s] 141 :: R))
    (ha : Agree a [(1, .pointer (some ⟨b, 0, none⟩)), (2, .pointer (some ⟨r, 0, none⟩)), (12, .int .i64 w), (13, .int .i64 0)]) (hK : ∀ a C', Ent C' (bufP b (bs ++ wB n w) :: R) → Q (.exit 0) a C') : evC Try.prog (loopAt Try.f98 0) Q a C := by
  refine evC_ent hE ?_
  have hwl := wB_len n w
  refine LOOP (fun m a C => ∃ j : Nat, (j : Int) + m = w ∧ C = bufP b (bs ++ (wB n w).take j) :: pt r [.int .i64 n, .int .i64 w, .string s] 141 :: R ∧ Agree a [(1, .pointer (some ⟨b, 0, none⟩)), (2, .pointer (some ⟨r, 0, none⟩)), (12, .int .i64 w), (13, .int .i64 j)])
    w.toNat (turn w.toNat ⟨0, by omega, by rw [List.take_zero, List.append_nil], ha⟩) ?_
  rintro m a C ⟨j, hj, rfl, ha⟩
  refine c_fr _ ha ?_
  simp only [updL]
  have hle : (bs ++ (wB n w).take j).length < 2000000000010 := by rw [List.length_append, List.length_take]; omega
  by_cases hlt : (j : Int) < w
  · have ht := wB_take n w j hlt
    refine evC_ex fun A => evC_ex fun c => evC_sep ?_
    repeat' (first
      | (show evG _ _ _ _ _ _ _; first | refine G_andNot0 ?_ | refine G_andNot1 ?_ | refine G_add64 ?_ | refine G_sub64 ?_ | refine G_mul64 ?_ | refine G_quo ?_ | refine G_rem ?_ | refine G_shl8 ?_ | refine G_orb ?_ | refine G_shr ?_ | refine G_pure0 ?_ | refine G_load ?_ | refine evG_nil ?_ | refine G_br ?_ ?_ | refine G_field ?_ | refine G_pure ?_ | refine G_store ?_ | refine G_loadV ?_ | refine G_loadV0 ?_ | refine G_loadV2 ?_ | (refine G_append ?_; intro _ _) | (refine G_appendN ?_; intro _ _) | refine G_not ?_ | refine G_index ?_ | refine G_indexA ?_ | refine G_indexS ?_ | refine G_conv64 ?_ | refine G_conv8 ?_ | refine G_convu ?_ | refine G_conv ?_ | refine G_build ?_ | refine G_slh ?_ | refine G_slo ?_ | refine G_shi ?_ | refine G_cat ?_ | refine G_min ?_ | refine G_max ?_ | refine G_neg64 ?_ | refine G_eql_agg ?_ | refine G_neq_agg ?_ | refine G_bytesP ?_ | refine G_bytesstr ?_ | refine G_call ?_ | refine G_call0 ?_ | refine G_callv ?_ | refine G_callv0 ?_ | (refine G_box ?_; intro _) | (refine G_alloc ?_; intro _) | (refine G_buildSlice ?_; intro _) | (refine G_strrow ?_; intro _ _) | (refine G_indexV ?_; intro _ _ hA; subst hA) | (refine G_sliceR ?_; intro _) | (refine G_sliceO ?_; intro _) | refine G_skip ?_ | refine G_skip0 ?_)
      | (show spl _ _ _; first | refine spl_no rfl ?_ | refine spl_yes rfl ?_)
      | (show evC _ _ _ _ _; first | refine c_seq ?_ | refine c_region (by exact rfl) ?_ | refine c_cond (by exact rfl) ?_ | refine c_ret ?_ | refine c_skip ?_ | refine c_block ?_ | refine c_exit ?_ | refine std ?_)
      | (show Br _ _ _; first | refine Br.t rfl ?_ | refine Br.f rfl ?_ | refine brs ?_ | (first | refine Br.mkN (fun h => ?_) (fun h => ?_) | refine Br.mk (fun h => ?_) (fun h => ?_)) <;> (try (first | contradiction | (exfalso; omega) | (exfalso; simp at h; done))))
      | refine stp ?_)
    refine turn (m - 1) ⟨j + 1, by omega, rfl, rfl, rfl, rfl, rfl, trivial⟩ (by omega) ?_
    rw [ht, ← List.append_assoc]
    exact entA
  · have : j = w.toNat := by omega
    subst this
    repeat' (first
      | (show evG _ _ _ _ _ _ _; first | refine G_andNot0 ?_ | refine G_andNot1 ?_ | refine G_add64 ?_ | refine G_sub64 ?_ | refine G_mul64 ?_ | refine G_quo ?_ | refine G_rem ?_ | refine G_shl8 ?_ | refine G_orb ?_ | refine G_shr ?_ | refine G_pure0 ?_ | refine G_load ?_ | refine evG_nil ?_ | refine G_br ?_ ?_ | refine G_field ?_ | refine G_pure ?_ | refine G_store ?_ | refine G_loadV ?_ | refine G_loadV0 ?_ | refine G_loadV2 ?_ | (refine G_append ?_; intro _ _) | (refine G_appendN ?_; intro _ _) | refine G_not ?_ | refine G_index ?_ | refine G_indexA ?_ | refine G_indexS ?_ | refine G_conv64 ?_ | refine G_conv8 ?_ | refine G_convu ?_ | refine G_conv ?_ | refine G_build ?_ | refine G_slh ?_ | refine G_slo ?_ | refine G_shi ?_ | refine G_cat ?_ | refine G_min ?_ | refine G_max ?_ | refine G_neg64 ?_ | refine G_eql_agg ?_ | refine G_neq_agg ?_ | refine G_bytesP ?_ | refine G_bytesstr ?_ | refine G_call ?_ | refine G_call0 ?_ | refine G_callv ?_ | refine G_callv0 ?_ | (refine G_box ?_; intro _) | (refine G_alloc ?_; intro _) | (refine G_buildSlice ?_; intro _) | (refine G_strrow ?_; intro _ _) | (refine G_indexV ?_; intro _ _ hA; subst hA) | (refine G_sliceR ?_; intro _) | (refine G_sliceO ?_; intro _) | refine G_skip ?_ | refine G_skip0 ?_)
      | (show spl _ _ _; first | refine spl_no rfl ?_ | refine spl_yes rfl ?_)
      | (show evC _ _ _ _ _; first | refine c_seq ?_ | refine c_region (by exact rfl) ?_ | refine c_cond (by exact rfl) ?_ | refine c_ret ?_ | refine c_skip ?_ | refine c_block ?_ | refine c_exit ?_ | refine std ?_)
      | (show Br _ _ _; first | refine Br.t rfl ?_ | refine Br.f rfl ?_ | refine brs ?_ | (first | refine Br.mkN (fun h => ?_) (fun h => ?_) | refine Br.mk (fun h => ?_) (fun h => ?_)) <;> (try (first | contradiction | (exfalso; omega) | (exfalso; simp at h; done))))
      | refine stp ?_)
    refine hK _ _ ?_
    rw [List.take_of_length_le (by omega)]
    exact entA
theorem put_ok {b : Nat} {n w : Int} {s : ByteArray} {bs : List UInt8} (hw : 0 ≤ w ∧ w ≤ 4) (hl : bs.length + (pcB n w s).length < 1000000000000) (hK : K (.tuple #[]) (bufP b (bs ++ pcB n w s) :: R)) :
    CallT Try.prog 98 #[.agg #[.int .i64 n, .int .i64 w, .string s], .pointer (some ⟨b, 0, none⟩)] (bufP b bs :: R) K := by
  have hs : s.data.toList.length = s.size := by simp
  by_cases h0 : w = 0
  · subst h0
    simp only [pcB, if_true, List.length_append] at hl
    simp only [pcB, if_true, ← List.append_assoc] at hK
    refine CallT.ex fun A => CallT.ex fun c => CallT.sep ?_
    refine callT_intro mixed Try.func98 rfl (by decide) (by decide +kernel) (by exact Nat.le_of_ble_eq_true rfl) ?_
    repeat' (first
      | (show evG _ _ _ _ _ _ _; first | refine G_add64 ?_ | refine G_sub64 ?_ | refine G_mul64 ?_ | refine G_shr ?_ | refine G_pure0 ?_ | refine G_load ?_ | refine evG_nil ?_ | refine G_br ?_ ?_ | refine G_field ?_ | refine G_pure ?_ | refine G_store ?_ | refine G_loadV ?_ | refine G_loadV0 ?_ | refine G_loadV2 ?_ | (refine G_append ?_; intro _ _) | (refine G_appendN ?_; intro _ _) | refine G_conv64 ?_ | refine G_conv8 ?_ | refine G_convu ?_ | refine G_conv ?_ | refine G_cat ?_ | refine G_eql_agg ?_ | refine G_bytesP ?_ | refine G_bytesstr ?_ | (refine G_box ?_; intro _) | (refine G_buildSlice ?_; intro _) | (refine G_strrow ?_; intro _ _))
      | (show spl _ _ _; first | refine spl_no rfl ?_ | refine spl_yes rfl ?_)
      | (show evC _ _ _ _ _; first | refine c_seq ?_ | refine c_region (by exact rfl) ?_ | refine c_cond (by exact rfl) ?_ | refine c_ret ?_ | refine c_skip ?_ | refine c_block ?_ | refine c_exit ?_ | (show evC _ (.region 6 _ true) _ _ _; refine c_draw (l := [(1, 0), (2, 0), (3, 0), (4, 0), (5, 0), (6, 0), (7, 0), (8, 0), (9, 0), (10, 0), (11, 1), (0, 1), (12, 1), (13, 1)]) (by decide +kernel) (by decide +kernel) (by exact rfl) ?_) | refine std ?_)
      | (show Br _ _ _; first | refine Br.t rfl ?_ | refine Br.f rfl ?_ | refine brs ?_ | (first | refine Br.mkN (fun h => ?_) (fun h => ?_) | refine Br.mk (fun h => ?_) (fun h => ?_)) <;> (try (first | contradiction | (exfalso; omega) | (exfalso; simp at h; done))))
      | refine stp ?_
      | refine put_loop (R := R) (n := n) (w := 0) (s := s) (bs ++ s.data.toList) (by omega) (by simp; omega) (by exact entA) ⟨rfl, rfl, rfl, rfl, trivial⟩ (fun a C' hE => ?_))
    refine RETC ?_
    exact ret_of hE hK
  · simp only [pcB, h0, if_false, List.nil_append] at hK
    refine callT_intro mixed Try.func98 rfl (by decide) (by decide +kernel) (by exact Nat.le_of_ble_eq_true rfl) ?_
    repeat' (first
      | (show evG _ _ _ _ _ _ _; first | refine G_add64 ?_ | refine G_sub64 ?_ | refine G_mul64 ?_ | refine G_shr ?_ | refine G_pure0 ?_ | refine G_load ?_ | refine evG_nil ?_ | refine G_br ?_ ?_ | refine G_field ?_ | refine G_pure ?_ | refine G_store ?_ | refine G_loadV ?_ | refine G_loadV0 ?_ | refine G_loadV2 ?_ | (refine G_append ?_; intro _ _) | (refine G_appendN ?_; intro _ _) | refine G_conv64 ?_ | refine G_conv8 ?_ | refine G_convu ?_ | refine G_conv ?_ | refine G_cat ?_ | refine G_eql_agg ?_ | refine G_bytesP ?_ | refine G_bytesstr ?_ | (refine G_box ?_; intro _) | (refine G_buildSlice ?_; intro _) | (refine G_strrow ?_; intro _ _))
      | (show spl _ _ _; first | refine spl_no rfl ?_ | refine spl_yes rfl ?_)
      | (show evC _ _ _ _ _; first | refine c_seq ?_ | refine c_region (by exact rfl) ?_ | refine c_cond (by exact rfl) ?_ | refine c_ret ?_ | refine c_skip ?_ | refine c_block ?_ | refine c_exit ?_ | (show evC _ (.region 6 _ true) _ _ _; refine c_draw (l := [(1, 0), (2, 0), (3, 0), (4, 0), (5, 0), (6, 0), (7, 0), (8, 0), (9, 0), (10, 0), (11, 1), (0, 1), (12, 1), (13, 1)]) (by decide +kernel) (by decide +kernel) (by exact rfl) ?_) | refine std ?_)
      | (show Br _ _ _; first | refine Br.t rfl ?_ | refine Br.f rfl ?_ | refine brs ?_ | (first | refine Br.mkN (fun h => ?_) (fun h => ?_) | refine Br.mk (fun h => ?_) (fun h => ?_)) <;> (try (first | contradiction | (exfalso; omega) | (exfalso; simp at h; done))))
      | refine stp ?_
      | refine put_loop (R := R) (n := n) (w := w) (s := s) bs (by omega) (by omega) (by exact entA) ⟨rfl, rfl, rfl, rfl, trivial⟩ (fun a C' hE => ?_))
    refine RETC ?_
    exact ret_of hE hK
end Go.Proofs.Ythoagholmkiknaa

