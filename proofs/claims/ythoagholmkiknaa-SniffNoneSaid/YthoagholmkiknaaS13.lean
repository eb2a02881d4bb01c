/- Sniff: settings, acknowledgements: lemmas; each with the conditions that it states. -/
import Derived.Test.YthoagholmkiknaaFh
import Derived.Test.YthoagholmkiknaaS12

namespace Go.Proofs.Ythoagholmkiknaa
open Go Go.Proofs Go.Sl
set_option maxRecDepth 100000
set_option maxHeartbeats 4000000
set_option linter.unusedSimpArgs false
set_option linter.unusedVariables false
attribute [local irreducible] evG evC spl thenC inBlockC noGotoC CallT retC RetG TurnG CutG pt ro exP star sep pureP
attribute [local irreducible] mp mit
variable {R C : List HP} {K : Value → List HP → Prop}
theorem gwithin_ok {n mm : Int} (hK : K (.bool (decide (0 ≤ n) && decide (n ≤ mm))) R) : CallT Try.prog 69 #[.int .i64 n, .int .i64 mm] R K := by
  refine callT_intro mixed Try.func69 rfl (by decide) (by decide +kernel) (by exact Nat.le_of_ble_eq_true rfl) ?_
  repeat' (first
    | (show evG _ _ _ _ _ _ _; first | refine G_pure0 ?_ | refine evG_nil ?_ | refine G_br ?_ ?_ | refine G_pure ?_ | refine G_skip ?_ | refine G_skip0 ?_)
    | (show spl _ _ _; first | refine spl_no rfl ?_ | refine spl_yes rfl ?_)
    | (show evC _ _ _ _ _; first | refine c_seq ?_ | refine c_region (by exact rfl) ?_ | refine c_cond (by exact rfl) ?_ | refine c_ret ?_ | refine c_skip ?_ | refine c_block ?_ | refine c_exit ?_ | refine std ?_)
    | (show Br _ _ _; first | refine Br.t rfl ?_ | refine Br.f rfl ?_ | refine brs ?_ | (first | refine Br.mkN (fun h => ?_) (fun h => ?_) | refine Br.mk (fun h => ?_) (fun h => ?_)) <;> (try (first | contradiction | (exfalso; omega) | (exfalso; simp at h; done))))
    | refine stp ?_)
  all_goals (show retC _ _ _ _ _ _; refine RETC ?_; exact ret_done (kb hK (by simp <;> omega)))
/-- a setting that may be -/
def inW (n : Int) : Bool := decide (0 ≤ n) && decide (n ≤ 2147483647)
theorem gwinW_ok {n : Int} {b : Bool} (hb : inW n = b) (hK : K (.bool b) R) : CallT Try.prog 69 #[.int .i64 n, .int .i64 2147483647] R K := gwithin_ok (by unfold inW at hb; rw [hb]; exact hK)
def ap1 (s : St3) (p : Pr) : St3 := if p.i = 1 then ⟨p.v, s.st, s.it⟩ else if p.i = 2 then ⟨s.w, p.v, s.it⟩ else if p.i = 3 then ⟨s.w, s.st, p.v⟩ else s
def apL : St3 → List Pr → Option St3
  | s, [] => some s
  | s, p :: ps => if 0 ≤ p.v ∧ p.v ≤ 2147483647 then apL (ap1 s p) ps else none
theorem apL_at {s : St3} {ps : List Pr} {j : Nat} {p : Pr} (h : ps[j]? = some p) : apL s (ps.drop j) = if 0 ≤ p.v ∧ p.v ≤ 2147483647 then apL (ap1 s p) (ps.drop (j + 1)) else none := by
  have hj := (List.getElem?_eq_some_iff.1 h).1
  rw [List.drop_eq_getElem_cons hj]
  have := (List.getElem?_eq_some_iff.1 h).2
  rw [this]
  rfl
def apV (o : Option St3) : Value := match o with
  | some s => .tuple #[.agg #[.int .i64 s.w, .int .i64 s.st, .int .i64 s.it], .int .i64 0]
  | none => .tuple #[.agg #[.int .i64 0, .int .i64 0, .int .i64 0], .int .i64 4]
theorem gapply_ok {s : St3} {A : Option Addr} {n c : Nat} {ps : List Pr} (hv : View R A prC ps) (hn : ps.length = n ∧ n < 1000000000000000) (hK : K (apV (apL s ps)) R) : CallT Try.prog 46 #[.agg #[.int .i64 s.w, .int .i64 s.st, .int .i64 s.it], .slice A n c] R K := by
  obtain ⟨hn, hnb⟩ := hn
  subst hn
  refine callT_intro mixed Try.func46 rfl (by decide) (by decide +kernel) (by exact Nat.le_of_ble_eq_true rfl) ?_
  repeat' (first
    | (show evG _ _ _ _ _ _ _; first | refine G_add64 ?_ | refine G_pure0 ?_ | refine G_load ?_ | refine evG_nil ?_ | refine G_br ?_ ?_ | refine G_field ?_ | refine G_pure ?_ | refine G_store ?_ | refine G_loadV ?_ | refine G_loadV0 ?_ | refine G_loadV2 ?_ | refine G_not ?_ | refine G_index ?_ | refine G_indexA ?_ | refine G_build ?_ | refine G_cat ?_ | refine G_eql_agg ?_ | refine G_call ?_ | refine G_call0 ?_ | (refine G_box ?_; intro _) | (refine G_alloc ?_; intro _) | (refine G_indexV ?_; intro _ _ hA; subst hA))
    | (show spl _ _ _; first | refine spl_no rfl ?_ | refine spl_yes rfl ?_)
    | (show evC _ _ _ _ _; first | refine c_seq ?_ | refine c_region (by exact rfl) ?_ | refine c_cond (by exact rfl) ?_ | refine c_ret ?_ | refine c_skip ?_ | refine c_block ?_ | refine c_exit ?_ | refine std ?_)
    | (show Br _ _ _; first | refine Br.t rfl ?_ | refine Br.f rfl ?_ | refine brs ?_ | (first | refine Br.mkN (fun h => ?_) (fun h => ?_) | refine Br.mk (fun h => ?_) (fun h => ?_)) <;> (try (first | contradiction | (exfalso; omega) | (exfalso; simp at h; done))))
    | refine stp ?_)
  rename_i r2 r4
  refine LOOP (fun kk a C' => ∃ (j : Nat) (z : St3), j + kk = ps.length ∧ apL s ps = apL z (ps.drop j) ∧ Agree a [(2, .pointer (some ⟨r2, 0, none⟩)), (4, .pointer (some ⟨r4, 0, none⟩)), (8, .slice A ps.length c), (9, .int .i64 ps.length), (10, .int .i64 j)] ∧ C' = pt r4 [.int .i64 0, .int .i64 0, .int .i64 0] 58 :: pt r2 [.int .i64 z.w, .int .i64 z.st, .int .i64 z.it] 58 :: R) ps.length (turn ps.length ⟨0, s, by omega, rfl, ⟨rfl, rfl, rfl, rfl, rfl, trivial⟩, rfl⟩ (by omega)) ?_
  rintro kk a C' ⟨j, z, hj, hap, ha, rfl⟩
  have hv' : View (pt r4 [.int .i64 0, .int .i64 0, .int .i64 0] 58 :: pt r2 [.int .i64 z.w, .int .i64 z.st, .int .i64 z.it] 58 :: R) A prC ps := view_there (view_there hv)
  refine c_fr _ ha ?_
  simp only [updL]
  by_cases hlt : j < ps.length
  · obtain ⟨p, hp⟩ : ∃ p, ps[j]? = some p := ⟨_, List.getElem?_eq_getElem hlt⟩
    rw [apL_at hp] at hap
    by_cases hw : 0 ≤ p.v ∧ p.v ≤ 2147483647
    · rw [if_pos hw] at hap
      have hwd : inW p.v = true := by unfold inW; simp [hw]
      clear hw
      by_cases h1 : p.i = 1
      · have e : ap1 z p = ⟨p.v, z.st, z.it⟩ := by unfold ap1; rw [if_pos h1]
        rw [e] at hap
        repeat' (first
          | (show evG _ _ _ _ _ _ _; refine G_indexV ?_ (hv := hv') (h0 := Int.natCast_nonneg j) (h1 := Int.ofNat_lt.2 hlt); intro _ _ hA; subst hA)
          | (show evG _ _ _ _ _ _ _; first | refine G_add64 ?_ | refine G_pure0 ?_ | refine G_load ?_ | refine evG_nil ?_ | refine G_br ?_ ?_ | refine G_field ?_ | refine G_pure ?_ | refine G_store ?_ | refine G_loadV ?_ | refine G_loadV0 ?_ | refine G_loadV2 ?_ | refine G_not ?_ | refine G_index ?_ | refine G_indexA ?_ | refine G_build ?_ | refine G_cat ?_ | refine G_eql_agg ?_ | refine G_call ?_ | refine G_call0 ?_ | (refine G_box ?_; intro _) | (refine G_alloc ?_; intro _) | (refine G_indexV ?_; intro _ _ hA; subst hA))
          | (show spl _ _ _; first | refine spl_no rfl ?_ | refine spl_yes rfl ?_)
          | (show evC _ _ _ _ _; first | refine c_seq ?_ | refine c_region (by exact rfl) ?_ | refine c_cond (by exact rfl) ?_ | refine c_ret ?_ | refine c_skip ?_ | refine c_block ?_ | refine c_exit ?_ | refine std ?_)
          | (show Br _ _ _; first | refine Br.t rfl ?_ | refine Br.f rfl ?_ | refine brs ?_ | (first | refine Br.mkN (fun h => ?_) (fun h => ?_) | refine Br.mk (fun h => ?_) (fun h => ?_)) <;> (try (first | contradiction | (exfalso; omega) | (exfalso; simp at h; done))))
          | refine stp ?_
          | (show CallT _ 69 _ _ _; refine CA (h := gwinW_ok hwd ?_)))
        all_goals (show TurnG _ _ _ _; exact turn (kk - 1) ⟨j + 1, _, by omega, hap, ⟨rfl, rfl, rfl, rfl, rfl, trivial⟩, rfl⟩)
      · by_cases h2 : p.i = 2
        · have e : ap1 z p = ⟨z.w, p.v, z.it⟩ := by unfold ap1; rw [if_neg h1, if_pos h2]
          rw [e] at hap
          repeat' (first
            | (show evG _ _ _ _ _ _ _; refine G_indexV ?_ (hv := hv') (h0 := Int.natCast_nonneg j) (h1 := Int.ofNat_lt.2 hlt); intro _ _ hA; subst hA)
            | (show evG _ _ _ _ _ _ _; first | refine G_add64 ?_ | refine G_pure0 ?_ | refine G_load ?_ | refine evG_nil ?_ | refine G_br ?_ ?_ | refine G_field ?_ | refine G_pure ?_ | refine G_store ?_ | refine G_loadV ?_ | refine G_loadV0 ?_ | refine G_loadV2 ?_ | refine G_not ?_ | refine G_index ?_ | refine G_indexA ?_ | refine G_build ?_ | refine G_cat ?_ | refine G_eql_agg ?_ | refine G_call ?_ | refine G_call0 ?_ | (refine G_box ?_; intro _) | (refine G_alloc ?_; intro _) | (refine G_indexV ?_; intro _ _ hA; subst hA))
            | (show spl _ _ _; first | refine spl_no rfl ?_ | refine spl_yes rfl ?_)
            | (show evC _ _ _ _ _; first | refine c_seq ?_ | refine c_region (by exact rfl) ?_ | refine c_cond (by exact rfl) ?_ | refine c_ret ?_ | refine c_skip ?_ | refine c_block ?_ | refine c_exit ?_ | refine std ?_)
            | (show Br _ _ _; first | refine Br.t rfl ?_ | refine Br.f rfl ?_ | refine brs ?_ | (first | refine Br.mkN (fun h => ?_) (fun h => ?_) | refine Br.mk (fun h => ?_) (fun h => ?_)) <;> (try (first | contradiction | (exfalso; omega) | (exfalso; simp at h; done))))
            | refine stp ?_
            | (show CallT _ 69 _ _ _; refine CA (h := gwinW_ok hwd ?_)))
          all_goals (show TurnG _ _ _ _; exact turn (kk - 1) ⟨j + 1, _, by omega, hap, ⟨rfl, rfl, rfl, rfl, rfl, trivial⟩, rfl⟩)
        · by_cases h3 : p.i = 3
          · have e : ap1 z p = ⟨z.w, z.st, p.v⟩ := by unfold ap1; rw [if_neg h1, if_neg h2, if_pos h3]
            rw [e] at hap
            repeat' (first
              | (show evG _ _ _ _ _ _ _; refine G_indexV ?_ (hv := hv') (h0 := Int.natCast_nonneg j) (h1 := Int.ofNat_lt.2 hlt); intro _ _ hA; subst hA)
              | (show evG _ _ _ _ _ _ _; first | refine G_add64 ?_ | refine G_pure0 ?_ | refine G_load ?_ | refine evG_nil ?_ | refine G_br ?_ ?_ | refine G_field ?_ | refine G_pure ?_ | refine G_store ?_ | refine G_loadV ?_ | refine G_loadV0 ?_ | refine G_loadV2 ?_ | refine G_not ?_ | refine G_index ?_ | refine G_indexA ?_ | refine G_build ?_ | refine G_cat ?_ | refine G_eql_agg ?_ | refine G_call ?_ | refine G_call0 ?_ | (refine G_box ?_; intro _) | (refine G_alloc ?_; intro _) | (refine G_indexV ?_; intro _ _ hA; subst hA))
              | (show spl _ _ _; first | refine spl_no rfl ?_ | refine spl_yes rfl ?_)
              | (show evC _ _ _ _ _; first | refine c_seq ?_ | refine c_region (by exact rfl) ?_ | refine c_cond (by exact rfl) ?_ | refine c_ret ?_ | refine c_skip ?_ | refine c_block ?_ | refine c_exit ?_ | refine std ?_)
              | (show Br _ _ _; first | refine Br.t rfl ?_ | refine Br.f rfl ?_ | refine brs ?_ | (first | refine Br.mkN (fun h => ?_) (fun h => ?_) | refine Br.mk (fun h => ?_) (fun h => ?_)) <;> (try (first | contradiction | (exfalso; omega) | (exfalso; simp at h; done))))
              | refine stp ?_
              | (show CallT _ 69 _ _ _; refine CA (h := gwinW_ok hwd ?_)))
            all_goals (show TurnG _ _ _ _; exact turn (kk - 1) ⟨j + 1, _, by omega, hap, ⟨rfl, rfl, rfl, rfl, rfl, trivial⟩, rfl⟩)
          · have e : ap1 z p = z := by unfold ap1; rw [if_neg h1, if_neg h2, if_neg h3]
            rw [e] at hap
            repeat' (first
              | (show evG _ _ _ _ _ _ _; refine G_indexV ?_ (hv := hv') (h0 := Int.natCast_nonneg j) (h1 := Int.ofNat_lt.2 hlt); intro _ _ hA; subst hA)
              | (show evG _ _ _ _ _ _ _; first | refine G_add64 ?_ | refine G_pure0 ?_ | refine G_load ?_ | refine evG_nil ?_ | refine G_br ?_ ?_ | refine G_field ?_ | refine G_pure ?_ | refine G_store ?_ | refine G_loadV ?_ | refine G_loadV0 ?_ | refine G_loadV2 ?_ | refine G_not ?_ | refine G_index ?_ | refine G_indexA ?_ | refine G_build ?_ | refine G_cat ?_ | refine G_eql_agg ?_ | refine G_call ?_ | refine G_call0 ?_ | (refine G_box ?_; intro _) | (refine G_alloc ?_; intro _) | (refine G_indexV ?_; intro _ _ hA; subst hA))
              | (show spl _ _ _; first | refine spl_no rfl ?_ | refine spl_yes rfl ?_)
              | (show evC _ _ _ _ _; first | refine c_seq ?_ | refine c_region (by exact rfl) ?_ | refine c_cond (by exact rfl) ?_ | refine c_ret ?_ | refine c_skip ?_ | refine c_block ?_ | refine c_exit ?_ | refine std ?_)
              | (show Br _ _ _; first | refine Br.t rfl ?_ | refine Br.f rfl ?_ | refine brs ?_ | (first | refine Br.mkN (fun h => ?_) (fun h => ?_) | refine Br.mk (fun h => ?_) (fun h => ?_)) <;> (try (first | contradiction | (exfalso; omega) | (exfalso; simp at h; done))))
              | refine stp ?_
              | (show CallT _ 69 _ _ _; refine CA (h := gwinW_ok hwd ?_)))
            all_goals (show TurnG _ _ _ _; exact turn (kk - 1) ⟨j + 1, _, by omega, hap, ⟨rfl, rfl, rfl, rfl, rfl, trivial⟩, rfl⟩)
    · rw [if_neg hw] at hap
      rw [hap] at hK
      have hwd : inW p.v = false := by
        unfold inW
        rw [Bool.and_eq_false_iff]; simp only [decide_eq_false_iff_not]; omega
      clear hw
      repeat' (first
        | (show evG _ _ _ _ _ _ _; refine G_indexV ?_ (hv := hv') (h0 := Int.natCast_nonneg j) (h1 := Int.ofNat_lt.2 hlt); intro _ _ hA; subst hA)
        | (show evG _ _ _ _ _ _ _; first | refine G_add64 ?_ | refine G_pure0 ?_ | refine G_load ?_ | refine evG_nil ?_ | refine G_br ?_ ?_ | refine G_field ?_ | refine G_pure ?_ | refine G_store ?_ | refine G_loadV ?_ | refine G_loadV0 ?_ | refine G_loadV2 ?_ | refine G_not ?_ | refine G_index ?_ | refine G_indexA ?_ | refine G_build ?_ | refine G_cat ?_ | refine G_eql_agg ?_ | refine G_call ?_ | refine G_call0 ?_ | (refine G_box ?_; intro _) | (refine G_alloc ?_; intro _) | (refine G_indexV ?_; intro _ _ hA; subst hA))
        | (show spl _ _ _; first | refine spl_no rfl ?_ | refine spl_yes rfl ?_)
        | (show evC _ _ _ _ _; first | refine c_seq ?_ | refine c_region (by exact rfl) ?_ | refine c_cond (by exact rfl) ?_ | refine c_ret ?_ | refine c_skip ?_ | refine c_block ?_ | refine c_exit ?_ | refine std ?_)
        | (show Br _ _ _; first | refine Br.t rfl ?_ | refine Br.f rfl ?_ | refine brs ?_ | (first | refine Br.mkN (fun h => ?_) (fun h => ?_) | refine Br.mk (fun h => ?_) (fun h => ?_)) <;> (try (first | contradiction | (exfalso; omega) | (exfalso; simp at h; done))))
        | refine stp ?_
        | (show CallT _ 69 _ _ _; refine CA (h := gwinW_ok hwd ?_)))
      all_goals (show retC _ _ _ _ _ _; refine RETC ?_; exact ret_done (hK))
  · have hjl : j = ps.length := by omega
    rw [List.drop_eq_nil_of_le (by omega)] at hap
    rw [hap] at hK
    repeat' (first
      | (show evG _ _ _ _ _ _ _; first | refine G_add64 ?_ | refine G_pure0 ?_ | refine G_load ?_ | refine evG_nil ?_ | refine G_br ?_ ?_ | refine G_field ?_ | refine G_pure ?_ | refine G_store ?_ | refine G_loadV ?_ | refine G_loadV0 ?_ | refine G_loadV2 ?_ | refine G_not ?_ | refine G_index ?_ | refine G_indexA ?_ | refine G_build ?_ | refine G_cat ?_ | refine G_eql_agg ?_ | refine G_call ?_ | refine G_call0 ?_ | (refine G_box ?_; intro _) | (refine G_alloc ?_; intro _) | (refine G_indexV ?_; intro _ _ hA; subst hA))
      | (show spl _ _ _; first | refine spl_no rfl ?_ | refine spl_yes rfl ?_)
      | (show evC _ _ _ _ _; first | refine c_seq ?_ | refine c_region (by exact rfl) ?_ | refine c_cond (by exact rfl) ?_ | refine c_ret ?_ | refine c_skip ?_ | refine c_block ?_ | refine c_exit ?_ | refine std ?_)
      | (show Br _ _ _; first | refine Br.t rfl ?_ | refine Br.f rfl ?_ | refine brs ?_ | (first | refine Br.mkN (fun h => ?_) (fun h => ?_) | refine Br.mk (fun h => ?_) (fun h => ?_)) <;> (try (first | contradiction | (exfalso; omega) | (exfalso; simp at h; done))))
      | refine stp ?_)
    all_goals (show retC _ _ _ _ _ _; refine RETC ?_; exact ret_done (hK))
variable {x i0 i1 m ck k0 k1 a0 a1 : Nat} {A0 A1 : Option Addr} {s0 s1 : List St3} {c0 c1 : Int} {l : List En} {id : Int}
/-- settings with others, or as they were -/
def apS (s : St3) (ps : List Pr) : St3 := (apL s ps).getD s
set_option maxHeartbeats 40000000 in
theorem gset0_ok {tf stf : Int} {ef : Bool} {df : ByteArray} {kf onf wf : Int} {xf : Bool} {cf laf nf : Int} {paf : Option Addr} {pnf pcf : Nat} {ws : St3} {ps : List Pr} (hl0 : s0.length ≤ 1000000) (hl1 : s0 ≠ []) (hws : s0[(((s0.length : Nat) : Int) - 1).toNat]? = some ws) (hv : View R paf prC ps) (hn : ps.length = pnf ∧ pnf < 1000000000000000) (hK : ∀ A' k', K (.tuple #[]) (pt x [.pointer (some ⟨i0, 0, none⟩), .pointer (some ⟨i1, 0, none⟩), .slice A' (s0 ++ [apS ws ps]).length k', .slice A1 s1.length k1, .int .i64 (a0 : Nat), .int .i64 (a1 : Nat), .int .i64 c0, .int .i64 c1, .map (some m)] 55 :: row A' k' 58 st3C (s0 ++ [apS ws ps]) :: R)) : CallT Try.prog 36 #[.pointer (some ⟨x, 0, none⟩), .int .i64 0, .agg #[.int .i64 tf, .int .i64 stf, .bool ef, .string df, .int .i64 kf, .int .i64 onf, .int .i64 wf, .bool xf, .int .i64 cf, .int .i64 laf, .int .i64 nf, .slice paf pnf pcf]] (pt x [.pointer (some ⟨i0, 0, none⟩), .pointer (some ⟨i1, 0, none⟩), .slice A0 s0.length k0, .slice A1 s1.length k1, .int .i64 (a0 : Nat), .int .i64 (a1 : Nat), .int .i64 c0, .int .i64 c1, .map (some m)] 55 :: row A0 k0 58 st3C s0 :: R) K := by
  have hlp : 0 < s0.length := List.length_pos_iff.2 hl1
  cases hap : apL ws ps with
  | none =>
    have e : apS ws ps = ws := by unfold apS; rw [hap]; rfl
    rw [e] at hK
    refine callT_intro mixed Try.func36 rfl (by decide) (by decide +kernel) (by exact Nat.le_of_ble_eq_true rfl) ?_
    repeat' (first
      | (show evG _ _ _ _ _ _ _; first | refine G_sub64 ?_ | refine G_pure0 ?_ | refine G_load ?_ | refine evG_nil ?_ | refine G_br ?_ ?_ | refine G_field ?_ | refine G_pure ?_ | refine G_store ?_ | refine G_loadV ?_ | refine G_loadV0 ?_ | refine G_loadV2 ?_ | (refine G_append ?_; intro _ _) | (refine G_appendN ?_; intro _ _) | refine G_index ?_ | refine G_indexA ?_ | refine G_eql_agg ?_ | refine G_call ?_ | refine G_call0 ?_ | (refine G_box ?_; intro _) | (refine G_alloc ?_; intro _) | (refine G_buildSlice ?_; intro _) | (refine G_indexV ?_; intro _ _ hA; subst hA))
      | (show spl _ _ _; first | refine spl_no rfl ?_ | refine spl_yes rfl ?_)
      | (show evC _ _ _ _ _; first | refine c_seq ?_ | refine c_region (by exact rfl) ?_ | refine c_cond (by exact rfl) ?_ | refine c_ret ?_ | refine c_skip ?_ | refine c_block ?_ | refine c_exit ?_ | (show evC _ (.region 1 _ true) _ _ _; refine c_draw (l := [(16, 1), (0, 1), (1, 1), (2, 1), (3, 1), (4, 1), (5, 1), (6, 1), (7, 1), (8, 1), (9, 1), (10, 1), (11, 1), (12, 1), (13, 1), (14, 1), (15, 1), (17, 1)]) (by decide +kernel) (by decide +kernel) (by exact rfl) ?_) | (show evC _ (.region 5 _ true) _ _ _; refine c_draw (l := [(8, 0), (9, 1), (2, 1), (3, 1), (4, 1), (5, 1), (6, 1), (7, 1), (10, 1), (0, 2), (1, 2), (11, 2), (12, 2), (13, 0), (14, 1)]) (by decide +kernel) (by decide +kernel) (by exact rfl) ?_) | refine std ?_)
      | (show Br _ _ _; first | refine Br.t rfl ?_ | refine Br.f rfl ?_ | refine brs ?_ | (first | refine Br.mkN (fun h => ?_) (fun h => ?_) | refine Br.mk (fun h => ?_) (fun h => ?_)) <;> (try (first | contradiction | (exfalso; omega) | (exfalso; simp at h; done))))
      | refine stp ?_
      | (show CallT _ 46 _ _ _; refine CA (h := gapply_ok (s := ws) (ps := ps) (by exact viewA) hn ?_); rw [hap])
      | (show evG _ _ _ _ _ _ _; first | (refine G_append (E := st3C) (ys := [ws]) ?_; intro _ _) | (refine G_appendU (E := st3C) (ys := [ws]) ?_; intro _ _)))
    all_goals (show retC _ _ _ _ _ _; refine RETC ?_; exact ret_done (hK _ _))
  | some z =>
    have e : apS ws ps = z := by unfold apS; rw [hap]; rfl
    rw [e] at hK
    refine callT_intro mixed Try.func36 rfl (by decide) (by decide +kernel) (by exact Nat.le_of_ble_eq_true rfl) ?_
    repeat' (first
      | (show evG _ _ _ _ _ _ _; first | refine G_sub64 ?_ | refine G_pure0 ?_ | refine G_load ?_ | refine evG_nil ?_ | refine G_br ?_ ?_ | refine G_field ?_ | refine G_pure ?_ | refine G_store ?_ | refine G_loadV ?_ | refine G_loadV0 ?_ | refine G_loadV2 ?_ | (refine G_append ?_; intro _ _) | (refine G_appendN ?_; intro _ _) | refine G_index ?_ | refine G_indexA ?_ | refine G_eql_agg ?_ | refine G_call ?_ | refine G_call0 ?_ | (refine G_box ?_; intro _) | (refine G_alloc ?_; intro _) | (refine G_buildSlice ?_; intro _) | (refine G_indexV ?_; intro _ _ hA; subst hA))
      | (show spl _ _ _; first | refine spl_no rfl ?_ | refine spl_yes rfl ?_)
      | (show evC _ _ _ _ _; first | refine c_seq ?_ | refine c_region (by exact rfl) ?_ | refine c_cond (by exact rfl) ?_ | refine c_ret ?_ | refine c_skip ?_ | refine c_block ?_ | refine c_exit ?_ | (show evC _ (.region 1 _ true) _ _ _; refine c_draw (l := [(16, 1), (0, 1), (1, 1), (2, 1), (3, 1), (4, 1), (5, 1), (6, 1), (7, 1), (8, 1), (9, 1), (10, 1), (11, 1), (12, 1), (13, 1), (14, 1), (15, 1), (17, 1)]) (by decide +kernel) (by decide +kernel) (by exact rfl) ?_) | (show evC _ (.region 5 _ true) _ _ _; refine c_draw (l := [(8, 0), (9, 1), (2, 1), (3, 1), (4, 1), (5, 1), (6, 1), (7, 1), (10, 1), (0, 2), (1, 2), (11, 2), (12, 2), (13, 0), (14, 1)]) (by decide +kernel) (by decide +kernel) (by exact rfl) ?_) | refine std ?_)
      | (show Br _ _ _; first | refine Br.t rfl ?_ | refine Br.f rfl ?_ | refine brs ?_ | (first | refine Br.mkN (fun h => ?_) (fun h => ?_) | refine Br.mk (fun h => ?_) (fun h => ?_)) <;> (try (first | contradiction | (exfalso; omega) | (exfalso; simp at h; done))))
      | refine stp ?_
      | (show CallT _ 46 _ _ _; refine CA (h := gapply_ok (s := ws) (ps := ps) (by exact viewA) hn ?_); rw [hap])
      | (show evG _ _ _ _ _ _ _; first | (refine G_append (E := st3C) (ys := [z]) ?_; intro _ _) | (refine G_appendU (E := st3C) (ys := [z]) ?_; intro _ _)))
    all_goals (show retC _ _ _ _ _ _; refine RETC ?_; exact ret_done (hK _ _))
set_option maxHeartbeats 40000000 in
theorem gset1_ok {tf stf : Int} {ef : Bool} {df : ByteArray} {kf onf wf : Int} {xf : Bool} {cf laf nf : Int} {paf : Option Addr} {pnf pcf : Nat} {ws : St3} {ps : List Pr} (hl0 : s1.length ≤ 1000000) (hl1 : s1 ≠ []) (hws : s1[(((s1.length : Nat) : Int) - 1).toNat]? = some ws) (hv : View R paf prC ps) (hn : ps.length = pnf ∧ pnf < 1000000000000000) (hK : ∀ A' k', K (.tuple #[]) (pt x [.pointer (some ⟨i0, 0, none⟩), .pointer (some ⟨i1, 0, none⟩), .slice A0 s0.length k0, .slice A' (s1 ++ [apS ws ps]).length k', .int .i64 (a0 : Nat), .int .i64 (a1 : Nat), .int .i64 c0, .int .i64 c1, .map (some m)] 55 :: row A' k' 58 st3C (s1 ++ [apS ws ps]) :: R)) : CallT Try.prog 36 #[.pointer (some ⟨x, 0, none⟩), .int .i64 1, .agg #[.int .i64 tf, .int .i64 stf, .bool ef, .string df, .int .i64 kf, .int .i64 onf, .int .i64 wf, .bool xf, .int .i64 cf, .int .i64 laf, .int .i64 nf, .slice paf pnf pcf]] (pt x [.pointer (some ⟨i0, 0, none⟩), .pointer (some ⟨i1, 0, none⟩), .slice A0 s0.length k0, .slice A1 s1.length k1, .int .i64 (a0 : Nat), .int .i64 (a1 : Nat), .int .i64 c0, .int .i64 c1, .map (some m)] 55 :: row A1 k1 58 st3C s1 :: R) K := by
  have hlp : 0 < s1.length := List.length_pos_iff.2 hl1
  cases hap : apL ws ps with
  | none =>
    have e : apS ws ps = ws := by unfold apS; rw [hap]; rfl
    rw [e] at hK
    refine callT_intro mixed Try.func36 rfl (by decide) (by decide +kernel) (by exact Nat.le_of_ble_eq_true rfl) ?_
    repeat' (first
      | (show evG _ _ _ _ _ _ _; first | refine G_sub64 ?_ | refine G_pure0 ?_ | refine G_load ?_ | refine evG_nil ?_ | refine G_br ?_ ?_ | refine G_field ?_ | refine G_pure ?_ | refine G_store ?_ | refine G_loadV ?_ | refine G_loadV0 ?_ | refine G_loadV2 ?_ | (refine G_append ?_; intro _ _) | (refine G_appendN ?_; intro _ _) | refine G_index ?_ | refine G_indexA ?_ | refine G_eql_agg ?_ | refine G_call ?_ | refine G_call0 ?_ | (refine G_box ?_; intro _) | (refine G_alloc ?_; intro _) | (refine G_buildSlice ?_; intro _) | (refine G_indexV ?_; intro _ _ hA; subst hA))
      | (show spl _ _ _; first | refine spl_no rfl ?_ | refine spl_yes rfl ?_)
      | (show evC _ _ _ _ _; first | refine c_seq ?_ | refine c_region (by exact rfl) ?_ | refine c_cond (by exact rfl) ?_ | refine c_ret ?_ | refine c_skip ?_ | refine c_block ?_ | refine c_exit ?_ | (show evC _ (.region 1 _ true) _ _ _; refine c_draw (l := [(16, 1), (0, 1), (1, 1), (2, 1), (3, 1), (4, 1), (5, 1), (6, 1), (7, 1), (8, 1), (9, 1), (10, 1), (11, 1), (12, 1), (13, 1), (14, 1), (15, 1), (17, 1)]) (by decide +kernel) (by decide +kernel) (by exact rfl) ?_) | (show evC _ (.region 5 _ true) _ _ _; refine c_draw (l := [(8, 0), (9, 1), (2, 1), (3, 1), (4, 1), (5, 1), (6, 1), (7, 1), (10, 1), (0, 2), (1, 2), (11, 2), (12, 2), (13, 0), (14, 1)]) (by decide +kernel) (by decide +kernel) (by exact rfl) ?_) | refine std ?_)
      | (show Br _ _ _; first | refine Br.t rfl ?_ | refine Br.f rfl ?_ | refine brs ?_ | (first | refine Br.mkN (fun h => ?_) (fun h => ?_) | refine Br.mk (fun h => ?_) (fun h => ?_)) <;> (try (first | contradiction | (exfalso; omega) | (exfalso; simp at h; done))))
      | refine stp ?_
      | (show CallT _ 46 _ _ _; refine CA (h := gapply_ok (s := ws) (ps := ps) (by exact viewA) hn ?_); rw [hap])
      | (show evG _ _ _ _ _ _ _; first | (refine G_append (E := st3C) (ys := [ws]) ?_; intro _ _) | (refine G_appendU (E := st3C) (ys := [ws]) ?_; intro _ _)))
    all_goals (show retC _ _ _ _ _ _; refine RETC ?_; exact ret_done (hK _ _))
  | some z =>
    have e : apS ws ps = z := by unfold apS; rw [hap]; rfl
    rw [e] at hK
    refine callT_intro mixed Try.func36 rfl (by decide) (by decide +kernel) (by exact Nat.le_of_ble_eq_true rfl) ?_
    repeat' (first
      | (show evG _ _ _ _ _ _ _; first | refine G_sub64 ?_ | refine G_pure0 ?_ | refine G_load ?_ | refine evG_nil ?_ | refine G_br ?_ ?_ | refine G_field ?_ | refine G_pure ?_ | refine G_store ?_ | refine G_loadV ?_ | refine G_loadV0 ?_ | refine G_loadV2 ?_ | (refine G_append ?_; intro _ _) | (refine G_appendN ?_; intro _ _) | refine G_index ?_ | refine G_indexA ?_ | refine G_eql_agg ?_ | refine G_call ?_ | refine G_call0 ?_ | (refine G_box ?_; intro _) | (refine G_alloc ?_; intro _) | (refine G_buildSlice ?_; intro _) | (refine G_indexV ?_; intro _ _ hA; subst hA))
      | (show spl _ _ _; first | refine spl_no rfl ?_ | refine spl_yes rfl ?_)
      | (show evC _ _ _ _ _; first | refine c_seq ?_ | refine c_region (by exact rfl) ?_ | refine c_cond (by exact rfl) ?_ | refine c_ret ?_ | refine c_skip ?_ | refine c_block ?_ | refine c_exit ?_ | (show evC _ (.region 1 _ true) _ _ _; refine c_draw (l := [(16, 1), (0, 1), (1, 1), (2, 1), (3, 1), (4, 1), (5, 1), (6, 1), (7, 1), (8, 1), (9, 1), (10, 1), (11, 1), (12, 1), (13, 1), (14, 1), (15, 1), (17, 1)]) (by decide +kernel) (by decide +kernel) (by exact rfl) ?_) | (show evC _ (.region 5 _ true) _ _ _; refine c_draw (l := [(8, 0), (9, 1), (2, 1), (3, 1), (4, 1), (5, 1), (6, 1), (7, 1), (10, 1), (0, 2), (1, 2), (11, 2), (12, 2), (13, 0), (14, 1)]) (by decide +kernel) (by decide +kernel) (by exact rfl) ?_) | refine std ?_)
      | (show Br _ _ _; first | refine Br.t rfl ?_ | refine Br.f rfl ?_ | refine brs ?_ | (first | refine Br.mkN (fun h => ?_) (fun h => ?_) | refine Br.mk (fun h => ?_) (fun h => ?_)) <;> (try (first | contradiction | (exfalso; omega) | (exfalso; simp at h; done))))
      | refine stp ?_
      | (show CallT _ 46 _ _ _; refine CA (h := gapply_ok (s := ws) (ps := ps) (by exact viewA) hn ?_); rw [hap])
      | (show evG _ _ _ _ _ _ _; first | (refine G_append (E := st3C) (ys := [z]) ?_; intro _ _) | (refine G_appendU (E := st3C) (ys := [z]) ?_; intro _ _)))
    all_goals (show retC _ _ _ _ _ _; refine RETC ?_; exact ret_done (hK _ _))
end Go.Proofs.Ythoagholmkiknaa

