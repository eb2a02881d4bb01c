/- Frame: payload. Frame: a payload by the document; both are the same: lemmas; each with the conditions that it states. -/
import Derived.Test.YthoagholmkiknaaFh
import Derived.Test.YthoagholmkiknaaK4
import Derived.Test.YthoagholmkiknaaJ0
import Derived.Test.YthoagholmkiknaaFe

namespace Go.Proofs.Ythoagholmkiknaa
open Go Go.Proofs Go.Sl
set_option maxRecDepth 100000
set_option maxHeartbeats 4000000
set_option linter.unusedSimpArgs false
set_option linter.unusedVariables false
attribute [local irreducible] evG evC spl thenC inBlockC noGotoC CallT retC RetG TurnG CutG pt ro exP star sep pureP
variable {R C : List HP} {K : Value → List HP → Prop}
/-- a cell that holds a list of pieces -/
def pcsP (r : Nat) (xs : List Pc) : HP := exP fun A => exP fun c => sep (pt r [.slice A xs.length c] 138) (row A c 141 pcC xs)
theorem padd_ok {r n c : Nat} {A : Option Addr} {xs ys : List Pc} (hv : View R A pcC ys) (hn : ys.length = n) (hl : xs.length + n < 1000000000) (hK : K (.tuple #[]) (pcsP r (xs ++ ys) :: R)) :
    CallT Try.prog 85 #[.slice A n c, .pointer (some ⟨r, 0, none⟩)] (pcsP r xs :: R) K := by
  refine CallT.ex fun A => CallT.ex fun c => CallT.sep ?_
  refine callT_intro mixed Try.func85 rfl (by decide) (by decide +kernel) (by exact Nat.le_of_ble_eq_true rfl) ?_
  repeat' (first
    | (show evG _ _ _ _ _ _ _; first | refine G_pure0 ?_ | refine G_load ?_ | refine evG_nil ?_ | refine G_br ?_ ?_ | refine G_pure ?_ | refine G_store ?_ | refine G_loadV ?_ | refine G_loadV0 ?_ | refine G_loadV2 ?_ | (refine G_append ?_; intro _ _) | (refine G_appendN ?_; intro _ _))
    | (show spl _ _ _; first | refine spl_no rfl ?_ | refine spl_yes rfl ?_)
    | (show evC _ _ _ _ _; first | refine c_seq ?_ | refine c_region (by exact rfl) ?_ | refine c_cond (by exact rfl) ?_ | refine c_ret ?_ | refine c_skip ?_ | refine c_block ?_ | refine c_exit ?_ | refine std ?_)
    | (show Br _ _ _; first | refine Br.t rfl ?_ | refine Br.f rfl ?_ | refine brs ?_ | (first | refine Br.mkN (fun h => ?_) (fun h => ?_) | refine Br.mk (fun h => ?_) (fun h => ?_)) <;> (try (first | contradiction | (exfalso; omega) | (exfalso; simp at h; done))))
    | refine stp ?_)
  refine RETC ?_
  exact ret_of (by exact entA) hK
theorem pfour_ok {n : Int} (hK : K (.agg #[.int .i64 n, .int .i64 4, .string ⟨#[]⟩]) R) : CallT Try.prog 86 #[.int .i64 n] R K := by
  refine callT_intro mixed Try.func86 rfl (by decide) (by decide +kernel) (by exact Nat.le_of_ble_eq_true rfl) ?_
  repeat' (first
    | (show evG _ _ _ _ _ _ _; first | refine G_pure0 ?_ | refine evG_nil ?_ | refine G_br ?_ ?_ | refine G_pure ?_ | refine G_store ?_ | refine G_call ?_ | refine G_call0 ?_ | (refine G_alloc ?_; intro _))
    | (show spl _ _ _; first | refine spl_no rfl ?_ | refine spl_yes rfl ?_)
    | (show evC _ _ _ _ _; first | refine c_seq ?_ | refine c_region (by exact rfl) ?_ | refine c_cond (by exact rfl) ?_ | refine c_ret ?_ | refine c_skip ?_ | refine c_block ?_ | refine c_exit ?_ | refine std ?_)
    | (show Br _ _ _; first | refine Br.t rfl ?_ | refine Br.f rfl ?_ | refine brs ?_ | (first | refine Br.mkN (fun h => ?_) (fun h => ?_) | refine Br.mk (fun h => ?_) (fun h => ?_)) <;> (try (first | contradiction | (exfalso; omega) | (exfalso; simp at h; done))))
    | refine stp ?_
    | (show CallT _ 87 _ _ _; refine CA (h := u_ok ?_)))
  (show retC _ _ _ _ _ _; refine RETC ?_; exact ret_done (hK))
theorem fbit_ok {e : Bool} (hK : K (.int .i64 (bitI e)) R) : CallT Try.prog 89 #[.bool e] R K := by
  refine callT_intro mixed Try.func89 rfl (by decide) (by decide +kernel) (by exact Nat.le_of_ble_eq_true rfl) ?_
  cases e
  all_goals
    repeat' (first
      | (show evG _ _ _ _ _ _ _; first | refine G_pure0 ?_ | refine evG_nil ?_ | refine G_br ?_ ?_ | refine G_pure ?_)
      | (show spl _ _ _; first | refine spl_no rfl ?_ | refine spl_yes rfl ?_)
      | (show evC _ _ _ _ _; first | refine c_seq ?_ | refine c_region (by exact rfl) ?_ | refine c_cond (by exact rfl) ?_ | refine c_ret ?_ | refine c_skip ?_ | refine c_block ?_ | refine c_exit ?_ | refine std ?_)
      | (show Br _ _ _; first | refine Br.t rfl ?_ | refine Br.f rfl ?_ | refine brs ?_ | (first | refine Br.mkN (fun h => ?_) (fun h => ?_) | refine Br.mk (fun h => ?_) (fun h => ?_)) <;> (try (first | contradiction | (exfalso; omega) | (exfalso; simp at h; done))))
      | refine stp ?_)
    (show retC _ _ _ _ _ _; refine RETC ?_; exact ret_done (hK))
def headPs (t : Int) (d : ByteArray) (k on w : Int) (x : Bool) (c la n : Int) : List Pc := if t = 0 ∨ t = 1 ∨ t = 7 ∨ t = 8 then [⟨0, 0, d⟩] else if t = 2 ∨ t = 3 then [⟨k, 1, ⟨#[]⟩⟩, ⟨bitI x, 1, ⟨#[]⟩⟩, ⟨w - 1, 1, ⟨#[]⟩⟩, ⟨0, 1, ⟨#[]⟩⟩, ⟨on, 4, ⟨#[]⟩⟩] else if t = 4 then [⟨c, 4, ⟨#[]⟩⟩] else if t = 9 then [⟨la, 4, ⟨#[]⟩⟩, ⟨c, 4, ⟨#[]⟩⟩] else if t = 10 ∨ t = 11 then [⟨n, 4, ⟨#[]⟩⟩] else []
def psPs (ps : List Pr) : List Pc := ps.flatMap fun p => [⟨p.i, 2, ⟨#[]⟩⟩, ⟨p.v, 4, ⟨#[]⟩⟩]
section
variable {t : Int} {d : ByteArray} {k on w : Int} {x : Bool} {c la n : Int}
theorem hp1 (h : t = 0 ∨ t = 1 ∨ t = 7 ∨ t = 8) : headPs t d k on w x c la n = [⟨0, 0, d⟩] := by unfold headPs; rw [if_pos h]
theorem hp2 (h : t = 2 ∨ t = 3) : headPs t d k on w x c la n = [⟨k, 1, ⟨#[]⟩⟩, ⟨bitI x, 1, ⟨#[]⟩⟩, ⟨w - 1, 1, ⟨#[]⟩⟩, ⟨0, 1, ⟨#[]⟩⟩, ⟨on, 4, ⟨#[]⟩⟩] := by unfold headPs; rw [if_neg (by omega), if_pos h]
theorem hp3 (h : t = 4) : headPs t d k on w x c la n = [⟨c, 4, ⟨#[]⟩⟩] := by unfold headPs; rw [if_neg (by omega), if_neg (by omega), if_pos h]
theorem hp4 (h : t = 9) : headPs t d k on w x c la n = [⟨la, 4, ⟨#[]⟩⟩, ⟨c, 4, ⟨#[]⟩⟩] := by unfold headPs; rw [if_neg (by omega), if_neg (by omega), if_neg (by omega), if_pos h]
theorem hp5 (h : t = 10 ∨ t = 11) : headPs t d k on w x c la n = [⟨n, 4, ⟨#[]⟩⟩] := by unfold headPs; rw [if_neg (by omega), if_neg (by omega), if_neg (by omega), if_neg (by omega), if_pos h]
theorem hp6 (h : ¬(t = 0 ∨ t = 1 ∨ t = 7 ∨ t = 8) ∧ ¬(t = 2 ∨ t = 3) ∧ ¬t = 4 ∧ ¬t = 9 ∧ ¬(t = 10 ∨ t = 11)) : headPs t d k on w x c la n = [] := by unfold headPs; rw [if_neg h.1, if_neg h.2.1, if_neg h.2.2.1, if_neg h.2.2.2.1, if_neg h.2.2.2.2]
end
theorem headPs_le (t : Int) (d : ByteArray) (k on w : Int) (x : Bool) (c la n : Int) : (headPs t d k on w x c la n).length ≤ 5 := by
  unfold headPs
  (repeat' split) <;> simp
theorem psPs_len : ∀ ps : List Pr, (psPs ps).length = 2 * ps.length
  | [] => rfl
  | p :: l => by
    have := psPs_len l
    unfold psPs at this ⊢
    simp only [List.flatMap_cons, List.length_append, List.length_cons, List.length_nil, this]
    omega
theorem psPs_take {ps : List Pr} {j : Nat} {y : Pr} (h : ps[j]? = some y) : psPs (ps.take (j + 1)) = psPs (ps.take j) ++ [⟨y.i, 2, ⟨#[]⟩⟩, ⟨y.v, 4, ⟨#[]⟩⟩] := by
  unfold psPs
  rw [List.take_add_one, h]
  simp
theorem payload_ok {t st : Int} {e : Bool} {d : ByteArray} {k on w : Int} {x : Bool} {c la n : Int} {pa : Option Addr} {pn pc : Nat} {ps : List Pr} (hv : View C pa prC ps) (hn : ps.length = pn) (hn2 : pn < 100000000) (hk : 1 ≤ w ∧ w ≤ 1000 ∨ ¬(t = 2 ∨ t = 3)) (hK : K (.string (layS (headPs t d k on w x c la n ++ psPs ps))) C) : CallT Try.prog 68 #[.agg #[.int .i64 t, .int .i64 st, .bool e, .string d, .int .i64 k, .int .i64 on, .int .i64 w, .bool x, .int .i64 c, .int .i64 la, .int .i64 n, .slice pa pn pc]] C K := by
  subst hn
  have hh := headPs_le t d k on w x c la n
  refine callT_intro mixed Try.func68 rfl (by decide) (by decide +kernel) (by exact Nat.le_of_ble_eq_true rfl) ?_
  repeat' (first
    | (show evC _ (.block 0 _) _ _ _; refine c_cutB (fun a C' => ∃ b r : Nat, C' = pcsP r (headPs t d k on w x c la n) :: pt b [.int .i64 t, .int .i64 st, .bool e, .string d, .int .i64 k, .int .i64 on, .int .i64 w, .bool x, .int .i64 c, .int .i64 la, .int .i64 n, .slice pa ps.length pc] 38 :: C ∧ Agree a [(1, .pointer (some ⟨b, 0, none⟩)), (3, .pointer (some ⟨r, 0, none⟩)), (4, .func (.func 85) #[] #[.pointer (some ⟨r, 0, none⟩)]), (5, .func (.func 86) #[] #[])]) ?_ (fun a C' hI => ?_))
    | (show evG _ _ _ _ _ _ _; first | refine G_add64 ?_ | refine G_sub64 ?_ | refine G_pure0 ?_ | refine G_load ?_ | refine evG_nil ?_ | refine G_br ?_ ?_ | refine G_field ?_ | refine G_pure ?_ | refine G_store ?_ | refine G_loadV ?_ | refine G_loadV0 ?_ | refine G_loadV2 ?_ | refine G_index ?_ | refine G_indexA ?_ | refine G_cat ?_ | refine G_eql_agg ?_ | refine G_call ?_ | refine G_call0 ?_ | refine G_callv ?_ | refine G_callv0 ?_ | (refine G_box ?_; intro _) | (refine G_alloc ?_; intro _) | (refine G_buildSlice ?_; intro _) | (refine G_indexV ?_; intro _ _ hA; subst hA))
    | (show spl _ _ _; first | refine spl_no rfl ?_ | refine spl_yes rfl ?_)
    | (show evC _ _ _ _ _; first | refine c_seq ?_ | refine c_region (by exact rfl) ?_ | refine c_cond (by exact rfl) ?_ | refine c_ret ?_ | refine c_skip ?_ | refine c_block ?_ | refine c_exit ?_ | (show evC _ (.region 12 _ true) _ _ _; refine c_drawB (bl := [0, 0, 2, 6, 0, 16, 48, 126, 254, 0, 512, 1536, 3584, 8190, 16382, 0, 0, 65536, 196608, 524286, 1048574, 2097151]) (br := [2097151, 1048574, 524286, 196608, 65536, 0, 0, 16382, 8190, 3584, 1536, 512, 0, 254, 126, 48, 16, 0, 6, 2, 0, 0]) (l := [(1, 0), (2, 0), (3, 1), (4, 1), (5, 1), (6, 1), (7, 1), (8, 1), (9, 3), (10, 3), (11, 3), (12, 3), (13, 1), (14, 1), (15, 5), (16, 5), (17, 5), (18, 5), (19, 1), (20, 1), (0, 7), (21, 1)]) (by decide +kernel) (by decide +kernel) (by decide +kernel) (by decide +kernel) (by exact rfl) ?_) | (show evC _ (.region 16 _ true) _ _ _; refine c_draw (l := [(1, 0), (2, 0), (3, 0), (4, 1), (5, 1), (6, 1), (7, 1), (8, 1), (9, 1), (0, 3), (10, 1)]) (by decide +kernel) (by decide +kernel) (by exact rfl) ?_) | (show evC _ (.region 23 _ true) _ _ _; refine c_draw (l := [(1, 0), (2, 0), (3, 1), (4, 1), (5, 1), (6, 1), (7, 1), (8, 1), (0, 3), (9, 1)]) (by decide +kernel) (by decide +kernel) (by exact rfl) ?_) | refine std ?_)
    | (show Br _ _ _; first | refine Br.t rfl ?_ | refine Br.f rfl ?_ | refine brs ?_ | (first | refine Br.mkN (fun h => ?_) (fun h => ?_) | refine Br.mk (fun h => ?_) (fun h => ?_)) <;> (try (first | contradiction | (exfalso; omega) | (exfalso; simp at h; done))))
    | refine stp ?_
    | (show CallT _ 85 _ _ _; refine CA (h := padd_ok (xs := []) (by exact viewA) (by exact rfl) (by decide) ?_))
    | (show CallT _ 86 _ _ _; refine CA (h := pfour_ok ?_))
    | (show CallT _ 89 _ _ _; refine CA (h := fbit_ok ?_))
    | (show CallT _ 87 _ _ _; refine CA (h := u_ok ?_))
    | (show CallT _ 88 _ _ _; refine CA (h := t_ok ?_)))
  all_goals first
    | (show CutG _ _ _
       first
         | rw [hp1 (by omega)]
         | rw [hp2 (by omega)]
         | rw [hp3 (by omega)]
         | rw [hp4 (by omega)]
         | rw [hp5 (by omega)]
         | rw [hp6 (by omega)]
       exact cut_done ⟨_, _, rfl, rfl, rfl, rfl, rfl, trivial⟩)
    | skip
  obtain ⟨b, r, rfl, ha⟩ := hI
  refine ⟨?_⟩
  refine t_n ?_
  refine c_fr _ ha ?_
  simp only [updL]
  repeat' (first
    | (show evG _ _ _ _ _ _ _; first | refine G_add64 ?_ | refine G_sub64 ?_ | refine G_pure0 ?_ | refine G_load ?_ | refine evG_nil ?_ | refine G_br ?_ ?_ | refine G_field ?_ | refine G_pure ?_ | refine G_store ?_ | refine G_loadV ?_ | refine G_loadV0 ?_ | refine G_loadV2 ?_ | refine G_index ?_ | refine G_indexA ?_ | refine G_cat ?_ | refine G_eql_agg ?_ | refine G_call ?_ | refine G_call0 ?_ | refine G_callv ?_ | refine G_callv0 ?_ | (refine G_box ?_; intro _) | (refine G_alloc ?_; intro _) | (refine G_buildSlice ?_; intro _) | (refine G_indexV ?_; intro _ _ hA; subst hA))
    | (show spl _ _ _; first | refine spl_no rfl ?_ | refine spl_yes rfl ?_)
    | (show evC _ _ _ _ _; first | refine c_seq ?_ | refine c_region (by exact rfl) ?_ | refine c_cond (by exact rfl) ?_ | refine c_ret ?_ | refine c_skip ?_ | refine c_block ?_ | refine c_exit ?_ | (show evC _ (.region 12 _ true) _ _ _; refine c_drawB (bl := [0, 0, 2, 6, 0, 16, 48, 126, 254, 0, 512, 1536, 3584, 8190, 16382, 0, 0, 65536, 196608, 524286, 1048574, 2097151]) (br := [2097151, 1048574, 524286, 196608, 65536, 0, 0, 16382, 8190, 3584, 1536, 512, 0, 254, 126, 48, 16, 0, 6, 2, 0, 0]) (l := [(1, 0), (2, 0), (3, 1), (4, 1), (5, 1), (6, 1), (7, 1), (8, 1), (9, 3), (10, 3), (11, 3), (12, 3), (13, 1), (14, 1), (15, 5), (16, 5), (17, 5), (18, 5), (19, 1), (20, 1), (0, 7), (21, 1)]) (by decide +kernel) (by decide +kernel) (by decide +kernel) (by decide +kernel) (by exact rfl) ?_) | (show evC _ (.region 16 _ true) _ _ _; refine c_draw (l := [(1, 0), (2, 0), (3, 0), (4, 1), (5, 1), (6, 1), (7, 1), (8, 1), (9, 1), (0, 3), (10, 1)]) (by decide +kernel) (by decide +kernel) (by exact rfl) ?_) | (show evC _ (.region 23 _ true) _ _ _; refine c_draw (l := [(1, 0), (2, 0), (3, 1), (4, 1), (5, 1), (6, 1), (7, 1), (8, 1), (0, 3), (9, 1)]) (by decide +kernel) (by decide +kernel) (by exact rfl) ?_) | refine std ?_)
    | (show Br _ _ _; first | refine Br.t rfl ?_ | refine Br.f rfl ?_ | refine brs ?_ | (first | refine Br.mkN (fun h => ?_) (fun h => ?_) | refine Br.mk (fun h => ?_) (fun h => ?_)) <;> (try (first | contradiction | (exfalso; omega) | (exfalso; simp at h; done))))
    | refine stp ?_)
  have hpl := psPs_len ps
  have e0 : headPs t d k on w x c la n = headPs t d k on w x c la n ++ psPs (ps.take 0) := by rw [List.take_zero]; exact (List.append_nil _).symm
  rw [e0]
  have hv2 : View (pt b [.int .i64 t, .int .i64 st, .bool e, .string d, .int .i64 k, .int .i64 on, .int .i64 w, .bool x, .int .i64 c, .int .i64 la, .int .i64 n, .slice pa ps.length pc] 38 :: C) pa prC ps := view_there hv
  refine LOOP (fun m a C' => ∃ j : Nat, j + m = ps.length ∧ C' = pcsP r (headPs t d k on w x c la n ++ psPs (ps.take j)) :: pt b [.int .i64 t, .int .i64 st, .bool e, .string d, .int .i64 k, .int .i64 on, .int .i64 w, .bool x, .int .i64 c, .int .i64 la, .int .i64 n, .slice pa ps.length pc] 38 :: C ∧ Agree a [(3, .pointer (some ⟨r, 0, none⟩)), (4, .func (.func 85) #[] #[.pointer (some ⟨r, 0, none⟩)]), (5, .func (.func 86) #[] #[]), (82, .slice pa ps.length pc), (83, .int .i64 ps.length), (84, .int .i64 j)]) ps.length (turn ps.length ⟨0, by omega, rfl, rfl, rfl, rfl, rfl, rfl, rfl, trivial⟩) ?_
  rintro n1 a C' ⟨j, hj, rfl, ha⟩
  refine c_fr _ ha ?_
  simp only [updL]
  by_cases hlt : j < ps.length
  · obtain ⟨y, hy, hd⟩ := at_drop (l := ps) (j := j) (by omega)
    have ht := psPs_take hy
    have hl2 : (headPs t d k on w x c la n ++ psPs (ps.take j)).length + 2 < 1000000000 := by
      rw [List.length_append, psPs_len, List.length_take]; omega
    repeat' (first
      | (show evG _ _ _ _ _ _ _; first | refine G_add64 ?_ | refine G_sub64 ?_ | refine G_pure0 ?_ | refine G_load ?_ | refine evG_nil ?_ | refine G_br ?_ ?_ | refine G_field ?_ | refine G_pure ?_ | refine G_store ?_ | refine G_loadV ?_ | refine G_loadV0 ?_ | refine G_loadV2 ?_ | refine G_index ?_ | refine G_indexA ?_ | refine G_cat ?_ | refine G_eql_agg ?_ | refine G_call ?_ | refine G_call0 ?_ | refine G_callv ?_ | refine G_callv0 ?_ | (refine G_box ?_; intro _) | (refine G_alloc ?_; intro _) | (refine G_buildSlice ?_; intro _) | (refine G_indexV ?_; intro _ _ hA; subst hA))
      | (show spl _ _ _; first | refine spl_no rfl ?_ | refine spl_yes rfl ?_)
      | (show evC _ _ _ _ _; first | refine c_seq ?_ | refine c_region (by exact rfl) ?_ | refine c_cond (by exact rfl) ?_ | refine c_ret ?_ | refine c_skip ?_ | refine c_block ?_ | refine c_exit ?_ | (show evC _ (.region 12 _ true) _ _ _; refine c_drawB (bl := [0, 0, 2, 6, 0, 16, 48, 126, 254, 0, 512, 1536, 3584, 8190, 16382, 0, 0, 65536, 196608, 524286, 1048574, 2097151]) (br := [2097151, 1048574, 524286, 196608, 65536, 0, 0, 16382, 8190, 3584, 1536, 512, 0, 254, 126, 48, 16, 0, 6, 2, 0, 0]) (l := [(1, 0), (2, 0), (3, 1), (4, 1), (5, 1), (6, 1), (7, 1), (8, 1), (9, 3), (10, 3), (11, 3), (12, 3), (13, 1), (14, 1), (15, 5), (16, 5), (17, 5), (18, 5), (19, 1), (20, 1), (0, 7), (21, 1)]) (by decide +kernel) (by decide +kernel) (by decide +kernel) (by decide +kernel) (by exact rfl) ?_) | (show evC _ (.region 16 _ true) _ _ _; refine c_draw (l := [(1, 0), (2, 0), (3, 0), (4, 1), (5, 1), (6, 1), (7, 1), (8, 1), (9, 1), (0, 3), (10, 1)]) (by decide +kernel) (by decide +kernel) (by exact rfl) ?_) | (show evC _ (.region 23 _ true) _ _ _; refine c_draw (l := [(1, 0), (2, 0), (3, 1), (4, 1), (5, 1), (6, 1), (7, 1), (8, 1), (0, 3), (9, 1)]) (by decide +kernel) (by decide +kernel) (by exact rfl) ?_) | refine std ?_)
      | (show Br _ _ _; first | refine Br.t rfl ?_ | refine Br.f rfl ?_ | refine brs ?_ | (first | refine Br.mkN (fun h => ?_) (fun h => ?_) | refine Br.mk (fun h => ?_) (fun h => ?_)) <;> (try (first | contradiction | (exfalso; omega) | (exfalso; simp at h; done))))
      | refine stp ?_
      | (show CallT _ 85 _ _ _; refine CA (h := padd_ok (xs := headPs t d k on w x c la n ++ psPs (ps.take j)) (by exact viewA) (by exact rfl) hl2 ?_))
      | (show CallT _ 86 _ _ _; refine CA (h := pfour_ok ?_))
      | (show CallT _ 87 _ _ _; refine CA (h := u_ok ?_)))
    all_goals exact turn (n1 - 1) ⟨j + 1, by omega, by rw [ht, ← List.append_assoc], rfl, rfl, rfl, rfl, rfl, rfl, trivial⟩
  · obtain rfl : j = ps.length := by omega
    rw [List.take_of_length_le (Nat.le_refl _)]
    refine evC_ex fun A => evC_ex fun c' => evC_sep ?_
    have hl2 : (headPs t d k on w x c la n ++ psPs ps).length = (headPs t d k on w x c la n).length + (psPs ps).length := List.length_append
    repeat' (first
      | (show evG _ _ _ _ _ _ _; first | refine G_add64 ?_ | refine G_sub64 ?_ | refine G_pure0 ?_ | refine G_load ?_ | refine evG_nil ?_ | refine G_br ?_ ?_ | refine G_field ?_ | refine G_pure ?_ | refine G_store ?_ | refine G_loadV ?_ | refine G_loadV0 ?_ | refine G_loadV2 ?_ | refine G_index ?_ | refine G_indexA ?_ | refine G_cat ?_ | refine G_eql_agg ?_ | refine G_call ?_ | refine G_call0 ?_ | refine G_callv ?_ | refine G_callv0 ?_ | (refine G_box ?_; intro _) | (refine G_alloc ?_; intro _) | (refine G_buildSlice ?_; intro _) | (refine G_indexV ?_; intro _ _ hA; subst hA))
      | (show spl _ _ _; first | refine spl_no rfl ?_ | refine spl_yes rfl ?_)
      | (show evC _ _ _ _ _; first | refine c_seq ?_ | refine c_region (by exact rfl) ?_ | refine c_cond (by exact rfl) ?_ | refine c_ret ?_ | refine c_skip ?_ | refine c_block ?_ | refine c_exit ?_ | (show evC _ (.region 12 _ true) _ _ _; refine c_drawB (bl := [0, 0, 2, 6, 0, 16, 48, 126, 254, 0, 512, 1536, 3584, 8190, 16382, 0, 0, 65536, 196608, 524286, 1048574, 2097151]) (br := [2097151, 1048574, 524286, 196608, 65536, 0, 0, 16382, 8190, 3584, 1536, 512, 0, 254, 126, 48, 16, 0, 6, 2, 0, 0]) (l := [(1, 0), (2, 0), (3, 1), (4, 1), (5, 1), (6, 1), (7, 1), (8, 1), (9, 3), (10, 3), (11, 3), (12, 3), (13, 1), (14, 1), (15, 5), (16, 5), (17, 5), (18, 5), (19, 1), (20, 1), (0, 7), (21, 1)]) (by decide +kernel) (by decide +kernel) (by decide +kernel) (by decide +kernel) (by exact rfl) ?_) | (show evC _ (.region 16 _ true) _ _ _; refine c_draw (l := [(1, 0), (2, 0), (3, 0), (4, 1), (5, 1), (6, 1), (7, 1), (8, 1), (9, 1), (0, 3), (10, 1)]) (by decide +kernel) (by decide +kernel) (by exact rfl) ?_) | (show evC _ (.region 23 _ true) _ _ _; refine c_draw (l := [(1, 0), (2, 0), (3, 1), (4, 1), (5, 1), (6, 1), (7, 1), (8, 1), (0, 3), (9, 1)]) (by decide +kernel) (by decide +kernel) (by exact rfl) ?_) | refine std ?_)
      | (show Br _ _ _; first | refine Br.t rfl ?_ | refine Br.f rfl ?_ | refine brs ?_ | (first | refine Br.mkN (fun h => ?_) (fun h => ?_) | refine Br.mk (fun h => ?_) (fun h => ?_)) <;> (try (first | contradiction | (exfalso; omega) | (exfalso; simp at h; done))))
      | refine stp ?_
      | (show CallT _ 90 _ _ _; refine CA (h := lay_ok (ps := headPs t d k on w x c la n ++ psPs ps) (by exact viewA) rfl (by omega) ?_)))
    (show retC _ _ _ _ _ _; refine RETC ?_; exact ret_done (hK))
end Go.Proofs.Ythoagholmkiknaa


namespace Go.Proofs.Ythoagholmkiknaa
open Go Go.Proofs Go.Sl
set_option maxRecDepth 100000
set_option maxHeartbeats 4000000
set_option linter.unusedSimpArgs false
set_option linter.unusedVariables false
attribute [local irreducible] evG evC spl thenC inBlockC noGotoC CallT retC RetG TurnG CutG pt ro exP star sep pureP
variable {R C : List HP} {K : Value → List HP → Prop}
theorem szL_small : ∀ (ps : List Pc) (n : Int), 0 ≤ n → firstE ps = 0 → n + (allB ps).length ≤ 4096 → szL ps n ≤ 4096
  | [], n, _, _, h => by simp [szL, allB] at h ⊢; omega
  | p :: l, n, h0, he, h => by
    obtain ⟨h1, h2⟩ := firstE_cons he
    have hl := pcB_len (n := p.n) (s := p.s) (pcMay_w h1)
    have hc : ((allB (p :: l)).length : Int) = pcSize p.w p.s + (allB l).length := by rw [← hl]; simp [allB]
    have hnn := pcSize_nn p.w p.s
    have hm : min (pcSize p.w p.s) 4097 = pcSize p.w p.s := by omega
    unfold szL
    rw [hm, if_neg (by omega)]
    exact szL_small l _ (by omega) h2 (by omega)
theorem lay_of {ps : List Pc} (h : firstE ps = 0) (h2 : (allB ps).length ≤ 4096) : layS ps = ⟨(allB ps).toArray⟩ := by
  have h3 := szL_small ps 0 (by omega) h (by omega)
  have he : layE ps = 0 := by
    unfold layE
    rw [if_pos h, if_neg (by omega)]
  unfold layS
  rw [if_pos he]
theorem firstE_app : ∀ (a b : List Pc), firstE a = 0 → firstE b = 0 → firstE (a ++ b) = 0
  | [], b, _, h => h
  | p :: l, b, h1, h => by
    obtain ⟨h2, h3⟩ := firstE_cons h1
    show (if pcMay p.n p.w = 0 then firstE (l ++ b) else _) = 0
    rw [if_pos h2]
    exact firstE_app l b h3 h
def psL (ps : List Pr) : List UInt8 := ps.flatMap fun p => wB p.i 2 ++ wB p.v 4
/-- a payload by the document -/
def payL (t : Int) (d : ByteArray) (k on w : Int) (x : Bool) (c la n : Int) (ps : List Pr) : List UInt8 := if t = 2 ∨ t = 3 then wB k 1 ++ (wB (bitI x) 1 ++ (wB (w - 1) 1 ++ (wB 0 1 ++ wB on 4))) else if t = 4 then wB c 4 else if t = 9 then wB la 4 ++ wB c 4 else if t = 10 ∨ t = 11 then wB n 4 else d.data.toList ++ psL ps
theorem psL_len : ∀ ps : List Pr, (psL ps).length = 6 * ps.length
  | [] => rfl
  | p :: l => by
    have := psL_len l
    unfold psL at this ⊢
    simp only [List.flatMap_cons, List.length_append, List.length_cons, this, wB_len]
    have a2 : (2 : Int).toNat = 2 := rfl
    have a4 : (4 : Int).toNat = 4 := rfl
    omega
theorem psL_take {ps : List Pr} {j : Nat} {y : Pr} (h : ps[j]? = some y) : psL (ps.take (j + 1)) = psL (ps.take j) ++ (wB y.i 2 ++ wB y.v 4) := by
  unfold psL
  rw [List.take_add_one, h]
  simp
theorem may31 {n : Int} (h : n31 n = true) : pcMay n 4 = 0 := by
  obtain ⟨p1, p3, p4⟩ := pow256
  have m := may_of (n := n) (w := 4) (by decide)
  rw [show (4 : Int).toNat = 4 from rfl, p4] at m
  have := (n31_iff n).1 h
  exact m.2 (by omega)
theorem may16 {n : Int} (h : 0 ≤ n ∧ n ≤ 65535) : pcMay n 2 = 0 := by
  have m := may_of (n := n) (w := 2) (by decide)
  rw [show (2 : Int).toNat = 2 from rfl, pow256_2] at m
  exact m.2 (by omega)
theorem may8 {n : Int} (h : 0 ≤ n ∧ n ≤ 255) : pcMay n 1 = 0 := by
  obtain ⟨p1, p3, p4⟩ := pow256
  have m := may_of (n := n) (w := 1) (by decide)
  rw [show (1 : Int).toNat = 1 from rfl, p1] at m
  exact m.2 (by omega)
theorem psPs_first : ∀ {ps : List Pr}, psB ps = true → firstE (psPs ps) = 0
  | [], _ => rfl
  | p :: l, h => by
    simp only [psB, List.all_cons, Bool.and_eq_true, decide_eq_true_eq] at h
    have := psPs_first (ps := l) (by unfold psB; simpa using h.2)
    show firstE (⟨p.i, 2, ⟨#[]⟩⟩ :: ⟨p.v, 4, ⟨#[]⟩⟩ :: psPs l) = 0
    simp only [firstE]
    rw [if_pos (may16 h.1.1), if_pos (may31 h.1.2)]
    exact this
theorem psPs_all : ∀ ps : List Pr, allB (psPs ps) = psL ps
  | [] => rfl
  | p :: l => by
    have := psPs_all l
    show allB (⟨p.i, 2, ⟨#[]⟩⟩ :: ⟨p.v, 4, ⟨#[]⟩⟩ :: psPs l) = psL (p :: l)
    unfold allB at this ⊢
    rw [List.flatMap_cons, List.flatMap_cons, this]
    simp [pcB, psL]
theorem allB_app (a b : List Pc) : allB (a ++ b) = allB a ++ allB b := by unfold allB; simp
theorem pay_law {t st : Int} {e : Bool} {d : ByteArray} {k on w : Int} {x : Bool} {c la n : Int} {ps : List Pr} (h : RightP t st e d k on w x c la n ps) : layS (headPs t d k on w x c la n ++ psPs ps) = ⟨(payL t d k on w x c la n ps).toArray⟩ ∧ (payL t d k on w x c la n ps).length ≤ 256 := by
  obtain ⟨h1, h2, h3, h4, h5, h6, h7, h8, h9, h10, h11, h12, h13, h14, h15, h16, h17, h18, h19, h20, h21⟩ := h
  have hd : d.data.toList.length = d.size := by simp
  have hp := psPs_first h17
  have hl := psL_len ps
  have a1 : (1 : Int).toNat = 1 := rfl
  have a4 : (4 : Int).toNat = 4 := rfl
  have key : ∀ hs : List Pc, headPs t d k on w x c la n = hs → firstE hs = 0 → allB hs ++ psL ps = payL t d k on w x c la n ps → (payL t d k on w x c la n ps).length ≤ 256 → layS (headPs t d k on w x c la n ++ psPs ps) = ⟨(payL t d k on w x c la n ps).toArray⟩ ∧ (payL t d k on w x c la n ps).length ≤ 256 := by
    intro hs e1 e2 e3 e4
    rw [e1, lay_of (firstE_app _ _ e2 hp) (by rw [allB_app, psPs_all, e3]; omega), allB_app, psPs_all, e3]
    exact ⟨rfl, e4⟩
  have hps : ¬ t = 5 → psL ps = [] := fun h => by
    have : ps.length = 0 := by
      rcases Nat.eq_zero_or_pos ps.length with h' | h'
      · exact h'
      · exact absurd (h10 h') h
    rw [List.length_eq_zero_iff.1 this]; rfl
  rcases (by omega : (t = 0 ∨ t = 1 ∨ t = 7 ∨ t = 8) ∨ (t = 2 ∨ t = 3) ∨ t = 4 ∨ t = 9 ∨ (t = 10 ∨ t = 11) ∨ t = 5 ∨ t = 6) with h | h | h | h | h | h | h
  · refine key [⟨0, 0, d⟩] (by unfold headPs; rw [if_pos h]) rfl ?_ ?_
    · rw [hps (by omega)]
      unfold payL
      rw [if_neg (by omega), if_neg (by omega), if_neg (by omega), if_neg (by omega), hps (by omega)]
      simp [allB, pcB, show wB 0 0 = [] from rfl]
    · unfold payL
      rw [if_neg (by omega), if_neg (by omega), if_neg (by omega), if_neg (by omega), hps (by omega)]
      rw [List.append_nil, hd]
      by_cases h' : t ≤ 1
      · exact h13 h'
      · have := h14 (by omega); omega
  · have hdep := h16 h
    unfold depB at hdep
    simp only [Bool.and_eq_true, decide_eq_true_eq] at hdep
    have hb := bitI_rng x
    have hk : 0 ≤ k ∧ k ≤ 255 := by
      by_cases h2 : t = 2
      · have := h15 h2; omega
      · have : k = 0 := Classical.byContradiction fun h' => h2 (h6 h')
        omega
    refine key [⟨k, 1, ⟨#[]⟩⟩, ⟨bitI x, 1, ⟨#[]⟩⟩, ⟨w - 1, 1, ⟨#[]⟩⟩, ⟨0, 1, ⟨#[]⟩⟩, ⟨on, 4, ⟨#[]⟩⟩] (by unfold headPs; rw [if_neg (by omega), if_pos h]) ?_ ?_ ?_
    · simp only [firstE]
      rw [if_pos (may8 hk), if_pos (may8 (by omega)), if_pos (may8 (by omega)), if_pos (may8 (by omega)), if_pos (may31 hdep.1)]
    · rw [hps (by omega)]
      unfold payL
      rw [if_pos h]
      simp [allB, pcB]
    · unfold payL
      rw [if_pos h]
      simp only [List.length_append, wB_len]
      omega
  · refine key [⟨c, 4, ⟨#[]⟩⟩] (by unfold headPs; rw [if_neg (by omega), if_neg (by omega), if_pos h]) ?_ ?_ ?_
    · simp only [firstE]
      rw [if_pos (may31 h18)]
    · rw [hps (by omega)]
      unfold payL
      rw [if_neg (by omega), if_pos h]
      simp [allB, pcB]
    · unfold payL
      rw [if_neg (by omega), if_pos h, wB_len]
      omega
  · refine key [⟨la, 4, ⟨#[]⟩⟩, ⟨c, 4, ⟨#[]⟩⟩] (by unfold headPs; rw [if_neg (by omega), if_neg (by omega), if_neg (by omega), if_pos h]) ?_ ?_ ?_
    · simp only [firstE]
      rw [if_pos (may31 h19), if_pos (may31 h18)]
    · rw [hps (by omega)]
      unfold payL
      rw [if_neg (by omega), if_neg (by omega), if_pos h]
      simp [allB, pcB]
    · unfold payL
      rw [if_neg (by omega), if_neg (by omega), if_pos h, List.length_append, wB_len, wB_len]
      omega
  · refine key [⟨n, 4, ⟨#[]⟩⟩] (by unfold headPs; rw [if_neg (by omega), if_neg (by omega), if_neg (by omega), if_neg (by omega), if_pos h]) ?_ ?_ ?_
    · simp only [firstE]
      rw [if_pos (may31 h20)]
    · rw [hps (by omega)]
      unfold payL
      rw [if_neg (by omega), if_neg (by omega), if_neg (by omega), if_pos h]
      simp [allB, pcB]
    · unfold payL
      rw [if_neg (by omega), if_neg (by omega), if_neg (by omega), if_pos h, wB_len]
      omega
  all_goals
    have hd0 : d.data.toList = [] := by
      rcases Nat.eq_zero_or_pos d.size with h' | h'
      · exact List.length_eq_zero_iff.1 (by omega)
      · have := h12 h'; omega
    refine key [] (by unfold headPs; rw [if_neg (by omega), if_neg (by omega), if_neg (by omega), if_neg (by omega), if_neg (by omega)]) rfl ?_ ?_
    · unfold payL
      rw [if_neg (by omega), if_neg (by omega), if_neg (by omega), if_neg (by omega), hd0]
      rfl
    · unfold payL
      rw [if_neg (by omega), if_neg (by omega), if_neg (by omega), if_neg (by omega), hd0, List.nil_append]
      omega
end Go.Proofs.Ythoagholmkiknaa

