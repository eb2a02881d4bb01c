/- Frame: the document's Right, its first regions. Frame: the document's Right, its next regions: lemmas; each with the conditions that it states. -/
import Derived.Test.YthoagholmkiknaaFh
import Derived.Test.YthoagholmkiknaaK4
import Derived.Test.YthoagholmkiknaaFe

namespace Go.Proofs.Ythoagholmkiknaa
open Go Go.Proofs Go.Sl
set_option maxRecDepth 100000
set_option maxHeartbeats 4000000
set_option linter.unusedSimpArgs false
set_option linter.unusedVariables false
attribute [local irreducible] evG evC spl thenC inBlockC noGotoC CallT retC RetG TurnG CutG pt ro exP star sep pureP
variable {R C : List HP} {K : Value → List HP → Prop}
def b2 (t st : Int) : Bool := !(decide (0 ≤ t) && decide (t ≤ 11) && streamB t st)
def b4 (t : Int) (e : Bool) (k c la n : Int) (m : Nat) : Bool := (e && decide (1 < t)) || (!decide (k = 0) && !decide (t = 2)) || (!decide (c = 0) && !decide (t = 4) && !decide (t = 9)) || (!decide (la = 0) && !decide (t = 9)) || (!decide (n = 0) && decide (t < 10)) || (decide (0 < m) && !decide (t = 5))
theorem rreg2 {Q : Exit → Fr → List HP → Prop} {a : Fr} {t st : Int} {e : Bool} {d : ByteArray} {k on w : Int} {x : Bool} {c la n : Int} {pa : Option Addr} {pn pc : Nat} {r : Nat} (ha : Agree a [(1, .pointer (some ⟨r, 0, none⟩)), (2, .bool false), (3, .int .i64 t)]) (hK : ∀ a, Q .normal (updL a [(1, .pointer (some ⟨r, 0, none⟩)), (2, .bool false), (3, .int .i64 t), (38, .bool (b2 t st))]) (pt r [.int .i64 t, .int .i64 st, .bool e, .string d, .int .i64 k, .int .i64 on, .int .i64 w, .bool x, .int .i64 c, .int .i64 la, .int .i64 n, .slice pa pn pc] 38 :: C)) : evC Try.prog (regionAt Try.f14 2) Q a (pt r [.int .i64 t, .int .i64 st, .bool e, .string d, .int .i64 k, .int .i64 on, .int .i64 w, .bool x, .int .i64 c, .int .i64 la, .int .i64 n, .slice pa pn pc] 38 :: C) := by
  have hst := n31_iff st
  have hno := n31_no st
  refine c_fr _ ha ?_
  simp only [updL]
  repeat' (first
    | (show evG _ _ _ _ _ _ _; first | refine G_add64 ?_ | refine G_pure0 ?_ | refine G_load ?_ | refine evG_nil ?_ | refine G_br ?_ ?_ | refine G_field ?_ | refine G_pure ?_ | refine G_loadV ?_ | refine G_loadV0 ?_ | refine G_loadV2 ?_ | refine G_not ?_ | refine G_index ?_ | refine G_indexA ?_ | refine G_cat ?_ | refine G_eql_agg ?_ | refine G_neq_agg ?_ | refine G_call ?_ | refine G_call0 ?_ | (refine G_box ?_; intro _) | (refine G_indexV ?_; intro _ _ hA; subst hA) | refine G_skip ?_ | refine G_skip0 ?_)
    | (show spl _ _ _; first | refine spl_no rfl ?_ | refine spl_yes rfl ?_)
    | (show evC _ _ _ _ _; first | refine c_seq ?_ | refine c_region (by exact rfl) ?_ | refine c_cond (by exact rfl) ?_ | refine c_ret ?_ | refine c_skip ?_ | refine c_block ?_ | refine c_exit ?_ | refine std ?_)
    | (show Br _ _ _; first | refine Br.t rfl ?_ | refine Br.f rfl ?_ | refine brs ?_ | (first | refine Br.mkN (fun h => ?_) (fun h => ?_) | refine Br.mk (fun h => ?_) (fun h => ?_)) <;> (try (first | contradiction | (exfalso; omega) | (exfalso; simp at h; done))))
    | refine stp ?_
    | (show CallT _ 28 _ _ _; refine CA (h := rfour_ok ?_))
    | (show CallT _ 29 _ _ _; refine CA (h := zeroR_ok ?_))
    | (show CallT _ 30 _ _ _; refine CA (h := oneR_ok ?_)))
  all_goals exact at_updL (p := fun a => Q .normal a _) [(1, .pointer (some ⟨r, 0, none⟩)), (2, .bool false), (3, .int .i64 t), (38, .bool (b2 t st))] ⟨rfl, rfl, rfl, congrArg Value.bool (by unfold b2 streamB; grind), trivial⟩ (hK _)
theorem rreg4 {Q : Exit → Fr → List HP → Prop} {a : Fr} {t st : Int} {e : Bool} {d : ByteArray} {k on w : Int} {x : Bool} {c la n : Int} {pa : Option Addr} {pn pc : Nat} {r : Nat} (ha : Agree a [(1, .pointer (some ⟨r, 0, none⟩)), (2, .bool false), (3, .int .i64 t)]) (hK : ∀ a, Q .normal (updL a [(1, .pointer (some ⟨r, 0, none⟩)), (2, .bool false), (3, .int .i64 t), (94, .bool (b4 t e k c la n pn))]) (pt r [.int .i64 t, .int .i64 st, .bool e, .string d, .int .i64 k, .int .i64 on, .int .i64 w, .bool x, .int .i64 c, .int .i64 la, .int .i64 n, .slice pa pn pc] 38 :: C)) : evC Try.prog (regionAt Try.f14 4) Q a (pt r [.int .i64 t, .int .i64 st, .bool e, .string d, .int .i64 k, .int .i64 on, .int .i64 w, .bool x, .int .i64 c, .int .i64 la, .int .i64 n, .slice pa pn pc] 38 :: C) := by
  refine c_fr _ ha ?_
  simp only [updL]
  repeat' (first
    | (show evG _ _ _ _ _ _ _; first | refine G_add64 ?_ | refine G_pure0 ?_ | refine G_load ?_ | refine evG_nil ?_ | refine G_br ?_ ?_ | refine G_field ?_ | refine G_pure ?_ | refine G_loadV ?_ | refine G_loadV0 ?_ | refine G_loadV2 ?_ | refine G_not ?_ | refine G_index ?_ | refine G_indexA ?_ | refine G_cat ?_ | refine G_eql_agg ?_ | refine G_neq_agg ?_ | refine G_call ?_ | refine G_call0 ?_ | (refine G_box ?_; intro _) | (refine G_indexV ?_; intro _ _ hA; subst hA) | refine G_skip ?_ | refine G_skip0 ?_)
    | (show spl _ _ _; first | refine spl_no rfl ?_ | refine spl_yes rfl ?_)
    | (show evC _ _ _ _ _; first | refine c_seq ?_ | refine c_region (by exact rfl) ?_ | refine c_cond (by exact rfl) ?_ | refine c_ret ?_ | refine c_skip ?_ | refine c_block ?_ | refine c_exit ?_ | refine std ?_)
    | (show Br _ _ _; first | refine Br.t rfl ?_ | refine Br.f rfl ?_ | refine brs ?_ | (first | refine Br.mkN (fun h => ?_) (fun h => ?_) | refine Br.mk (fun h => ?_) (fun h => ?_)) <;> (try (first | contradiction | (exfalso; omega) | (exfalso; simp at h; done))))
    | refine stp ?_)
  all_goals exact at_updL (p := fun a => Q .normal a _) [(1, .pointer (some ⟨r, 0, none⟩)), (2, .bool false), (3, .int .i64 t), (94, .bool (b4 t e k c la n pn))] ⟨rfl, rfl, rfl, congrArg Value.bool (by unfold b4; grind), trivial⟩ (hK _)
end Go.Proofs.Ythoagholmkiknaa


namespace Go.Proofs.Ythoagholmkiknaa
open Go Go.Proofs Go.Sl
set_option maxRecDepth 100000
set_option maxHeartbeats 4000000
set_option linter.unusedSimpArgs false
set_option linter.unusedVariables false
attribute [local irreducible] evG evC spl thenC inBlockC noGotoC CallT retC RetG TurnG CutG pt ro exP star sep pureP
variable {R C : List HP} {K : Value → List HP → Prop}
def b6 (t : Int) (d : ByteArray) (on w : Int) (x : Bool) : Bool := (!noneB on w x && !decide (t = 2) && !decide (t = 3)) || (!decide (d = ⟨#[]⟩) && decide (1 < t) && !decide (t = 7) && !decide (t = 8))
def b8 (t : Int) (d : ByteArray) (k on w : Int) : Bool := (decide (t ≤ 1) && decide (256 < d.size)) || ((decide (t = 7) || decide (t = 8)) && !decide (d.size = 8)) || (decide (t = 2) && !decide (k = 1) && !decide (k = 2)) || ((decide (t = 2) || decide (t = 3)) && !depB on w)
theorem rreg6 {Q : Exit → Fr → List HP → Prop} {a : Fr} {t st : Int} {e : Bool} {d : ByteArray} {k on w : Int} {x : Bool} {c la n : Int} {pa : Option Addr} {pn pc : Nat} {r : Nat} (ha : Agree a [(1, .pointer (some ⟨r, 0, none⟩)), (2, .bool false), (3, .int .i64 t)]) (hK : ∀ a, Q .normal (updL a [(1, .pointer (some ⟨r, 0, none⟩)), (2, .bool false), (3, .int .i64 t), (123, .bool (b6 t d on w x))]) (pt r [.int .i64 t, .int .i64 st, .bool e, .string d, .int .i64 k, .int .i64 on, .int .i64 w, .bool x, .int .i64 c, .int .i64 la, .int .i64 n, .slice pa pn pc] 38 :: C)) : evC Try.prog (regionAt Try.f14 6) Q a (pt r [.int .i64 t, .int .i64 st, .bool e, .string d, .int .i64 k, .int .i64 on, .int .i64 w, .bool x, .int .i64 c, .int .i64 la, .int .i64 n, .slice pa pn pc] 38 :: C) := by
  refine c_fr _ ha ?_
  simp only [updL]
  have hs := @str_eq d ⟨#[]⟩
  repeat' (first
    | (show evG _ _ _ _ _ _ _; first | refine G_add64 ?_ | refine G_pure0 ?_ | refine G_load ?_ | refine evG_nil ?_ | refine G_br ?_ ?_ | refine G_field ?_ | refine G_pure ?_ | refine G_loadV ?_ | refine G_loadV0 ?_ | refine G_loadV2 ?_ | refine G_not ?_ | refine G_index ?_ | refine G_indexA ?_ | refine G_cat ?_ | refine G_eql_agg ?_ | refine G_neq_agg ?_ | refine G_call ?_ | refine G_call0 ?_ | (refine G_box ?_; intro _) | (refine G_indexV ?_; intro _ _ hA; subst hA) | refine G_skip ?_ | refine G_skip0 ?_)
    | (show spl _ _ _; first | refine spl_no rfl ?_ | refine spl_yes rfl ?_)
    | (show evC _ _ _ _ _; first | refine c_seq ?_ | refine c_region (by exact rfl) ?_ | refine c_cond (by exact rfl) ?_ | refine c_ret ?_ | refine c_skip ?_ | refine c_block ?_ | refine c_exit ?_ | refine std ?_)
    | (show Br _ _ _; first | refine Br.t rfl ?_ | refine Br.f rfl ?_ | refine brs ?_ | (first | refine Br.mkN (fun h => ?_) (fun h => ?_) | refine Br.mk (fun h => ?_) (fun h => ?_)) <;> (try (first | contradiction | (exfalso; omega) | (exfalso; simp at h; done))))
    | refine stp ?_
    | (show CallT _ 31 _ _ _; refine CA (h := rnone_ok ?_)))
  all_goals exact at_updL (p := fun a => Q .normal a _) [(1, .pointer (some ⟨r, 0, none⟩)), (2, .bool false), (3, .int .i64 t), (123, .bool (b6 t d on w x))] ⟨rfl, rfl, rfl, congrArg Value.bool (by clear ha hK; unfold b6; grind), trivial⟩ (hK _)
theorem rreg8 {Q : Exit → Fr → List HP → Prop} {a : Fr} {t st : Int} {e : Bool} {d : ByteArray} {k on w : Int} {x : Bool} {c la n : Int} {pa : Option Addr} {pn pc : Nat} {r : Nat} (ha : Agree a [(1, .pointer (some ⟨r, 0, none⟩)), (2, .bool false), (3, .int .i64 t)]) (hK : ∀ a, Q .normal (updL a [(1, .pointer (some ⟨r, 0, none⟩)), (2, .bool false), (3, .int .i64 t), (173, .bool (b8 t d k on w))]) (pt r [.int .i64 t, .int .i64 st, .bool e, .string d, .int .i64 k, .int .i64 on, .int .i64 w, .bool x, .int .i64 c, .int .i64 la, .int .i64 n, .slice pa pn pc] 38 :: C)) : evC Try.prog (regionAt Try.f14 8) Q a (pt r [.int .i64 t, .int .i64 st, .bool e, .string d, .int .i64 k, .int .i64 on, .int .i64 w, .bool x, .int .i64 c, .int .i64 la, .int .i64 n, .slice pa pn pc] 38 :: C) := by
  refine c_fr _ ha ?_
  simp only [updL]
  repeat' (first
    | (show evG _ _ _ _ _ _ _; first | refine G_add64 ?_ | refine G_pure0 ?_ | refine G_load ?_ | refine evG_nil ?_ | refine G_br ?_ ?_ | refine G_field ?_ | refine G_pure ?_ | refine G_loadV ?_ | refine G_loadV0 ?_ | refine G_loadV2 ?_ | refine G_not ?_ | refine G_index ?_ | refine G_indexA ?_ | refine G_cat ?_ | refine G_eql_agg ?_ | refine G_neq_agg ?_ | refine G_call ?_ | refine G_call0 ?_ | (refine G_box ?_; intro _) | (refine G_indexV ?_; intro _ _ hA; subst hA) | refine G_skip ?_ | refine G_skip0 ?_)
    | (show spl _ _ _; first | refine spl_no rfl ?_ | refine spl_yes rfl ?_)
    | (show evC _ _ _ _ _; first | refine c_seq ?_ | refine c_region (by exact rfl) ?_ | refine c_cond (by exact rfl) ?_ | refine c_ret ?_ | refine c_skip ?_ | refine c_block ?_ | refine c_exit ?_ | refine std ?_)
    | (show Br _ _ _; first | refine Br.t rfl ?_ | refine Br.f rfl ?_ | refine brs ?_ | (first | refine Br.mkN (fun h => ?_) (fun h => ?_) | refine Br.mk (fun h => ?_) (fun h => ?_)) <;> (try (first | contradiction | (exfalso; omega) | (exfalso; simp at h; done))))
    | refine stp ?_
    | (show CallT _ 32 _ _ _; refine CA (h := rdep_ok ?_)))
  all_goals exact at_updL (p := fun a => Q .normal a _) [(1, .pointer (some ⟨r, 0, none⟩)), (2, .bool false), (3, .int .i64 t), (173, .bool (b8 t d k on w))] ⟨rfl, rfl, rfl, congrArg Value.bool (by clear ha hK; unfold b8; grind), trivial⟩ (hK _)
end Go.Proofs.Ythoagholmkiknaa

