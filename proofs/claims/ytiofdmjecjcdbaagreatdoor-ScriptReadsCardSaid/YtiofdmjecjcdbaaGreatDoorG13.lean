/- Script: the document's lines, read: lemmas; each with the conditions that it states. -/
import Derived.Test.YtiofdmjecjcdbaaGreatDoorFh
import Derived.Test.YtiofdmjecjcdbaaGreatDoorG12
import Derived.Test.YtiofdmjecjcdbaaGreatDoorG14
import Derived.Test.YtiofdmjecjcdbaaGreatDoorG15
import Derived.Test.YtiofdmjecjcdbaaGreatDoorG10

namespace Go.Proofs.YtiofdmjecjcdbaaGreatDoor
open Go Go.Proofs Go.Sl
set_option maxRecDepth 100000
set_option maxHeartbeats 4000000
set_option linter.unusedSimpArgs false
set_option linter.unusedVariables false
attribute [local irreducible] evG evC spl thenC inBlockC noGotoC CallT retC RetG TurnG CutG pt ro exP star sep pureP
variable {R C : List HP} {K : Value → List HP → Prop}
/-- what is not set yet is as it was -/
def zerF (k : Int) (cs : List UInt8) (i : Nat) (a : AC) : Prop := ∀ d, isL d → d ∉ cs.take i → eqF d (AC0 k) a
theorem zer_step {k : Int} {cs : List UInt8} {i : Nat} {a a' : AC} {c : UInt8} {l : List UInt8} (hc : cs[i]? = some c) (hL : isL c) (h : zerF k cs i a) (hs : setA a c l = some a') : zerF k cs (i + 1) a' := by
  intro d hd hn
  rw [List.take_add_one, hc] at hn
  simp only [Option.toList_some, List.mem_append, List.mem_singleton, not_or] at hn
  exact eqF_trans (h d hd hn.1) ((set_spec hL hs).2.2.2 d hd hn.2)
def wdB (k i : Nat) (c : UInt8) (l : List UInt8) : Bool := !((wdF k)[i]? == some c) || l.all fun d => !((wdF k).take i).contains d
theorem wdB_of {k i : Nat} {c : UInt8} {l : List UInt8} (h : wdB k i c l = true) (hc : (wdF k)[i]? = some c) : ∀ d ∈ l, d ∉ (wdF k).take i := by
  intro d hd
  unfold wdB at h
  rw [hc] at h
  simp at h
  exact h d hd
theorem wd_o1 : ((List.range 15).all fun k => (List.range 6).all fun i => wdB k i 111 [119, 120]) = true := by decide
theorem wd_o2 : ((List.range 15).all fun k => (List.range 6).all fun i => wdB k i 119 [120]) = true := by decide
theorem wd_o3 : ((List.range 15).all fun k => (List.range 6).all fun i => wdB k i 112 [113, 114]) = true := by decide
theorem wd_o4 : ((List.range 15).all fun k => (List.range 6).all fun i => wdB k i 113 [114]) = true := by decide
theorem wd_at {c : UInt8} {l : List UInt8} (h : ((List.range 15).all fun k => (List.range 6).all fun i => wdB k i c l) = true) {k i : Nat} (hk : k < 15) (hi : i < 6) : wdB k i c l = true :=
  List.all_eq_true.1 (List.all_eq_true.1 h k (List.mem_range.2 hk)) i (List.mem_range.2 hi)
theorem wd_ord {k i : Nat} (hk : k < 15) (hi : i < 6) : ((wdF k)[i]? = some 111 → 119 ∉ (wdF k).take i ∧ 120 ∉ (wdF k).take i) ∧ ((wdF k)[i]? = some 119 → 120 ∉ (wdF k).take i) ∧ ((wdF k)[i]? = some 112 → 113 ∉ (wdF k).take i ∧ 114 ∉ (wdF k).take i) ∧ ((wdF k)[i]? = some 113 → 114 ∉ (wdF k).take i) :=
  ⟨fun h => ⟨wdB_of (wd_at wd_o1 hk hi) h 119 (by simp), wdB_of (wd_at wd_o1 hk hi) h 120 (by simp)⟩, fun h => wdB_of (wd_at wd_o2 hk hi) h 120 (by simp), fun h => ⟨wdB_of (wd_at wd_o3 hk hi) h 113 (by simp), wdB_of (wd_at wd_o3 hk hi) h 114 (by simp)⟩, fun h => wdB_of (wd_at wd_o4 hk hi) h 114 (by simp)⟩
theorem zer_ww {k : Int} {cs : List UInt8} {i : Nat} {a : AC} (h : zerF k cs i a) (hn : 119 ∉ cs.take i) : a.ww = 0 := (h 119 (by decide) hn : (0 : Int) = a.ww).symm
theorem zer_xx {k : Int} {cs : List UInt8} {i : Nat} {a : AC} (h : zerF k cs i a) (hn : 120 ∉ cs.take i) : a.xx = false := (h 120 (by decide) hn : false = a.xx).symm
theorem zer_xs {k : Int} {cs : List UInt8} {i : Nat} {a : AC} (h : zerF k cs i a) (hn : 113 ∉ cs.take i) : a.xs = 0 := (h 113 (by decide) hn : (0 : Int) = a.xs).symm
theorem zer_xi {k : Int} {cs : List UInt8} {i : Nat} {a : AC} (h : zerF k cs i a) (hn : 114 ∉ cs.take i) : a.xi = 0 := (h 114 (by decide) hn : (0 : Int) = a.xi).symm
set_option maxHeartbeats 40000000 in
theorem rfieldsY_ok {k : Int} {A : Option Addr} {n cp : Nat} {ps : List (List UInt8)} {af : AC} (hk : 1 ≤ k ∧ k ≤ 14) (hv : View C A sgC (ps.map bq)) (hn : ps.length = n) (hps : ∀ p ∈ ps, p.length ≤ 1000000) (h : foldA (AC0 k) (wdF k.toNat) ps = some af) (hK : K (.tuple #[.agg #[.int .i64 af.kd, .int .i64 af.sd, .int .i64 af.id, .int .i64 af.n, .int .i64 af.cd, .string af.s, .int .i64 af.on, .int .i64 af.ww, .bool af.xx, .int .i64 af.xw, .int .i64 af.xs, .int .i64 af.xi], .bool true]) C) : CallT Tryz.prog 29 #[.int .i64 k, .slice A n cp] C K := by
  have hk15 : k.toNat < 15 := by omega
  have hfd := h
  have hlen := fold_len h
  have h6 := wdF_len k.toNat hk15
  have hfs := bq_size (wdF k.toNat)
  have hml : (ps.map bq).length = n := by simp; omega
  refine callT_intro mixed Tryz.func29 rfl (by decide) (by decide +kernel) (by exact Nat.le_of_ble_eq_true rfl) ?_
  repeat' (first
    | (show evG _ _ _ _ _ _ _; first | refine G_add64 ?_ | refine G_pure0 ?_ | refine G_load ?_ | refine evG_nil ?_ | refine G_br ?_ ?_ | refine G_field ?_ | refine G_pure ?_ | refine G_store ?_ | refine G_loadV ?_ | refine G_loadV0 ?_ | refine G_loadV2 ?_ | refine G_not ?_ | refine G_index ?_ | refine G_indexA ?_ | refine G_indexS ?_ | refine G_build ?_ | refine G_cat ?_ | refine G_eql_agg ?_ | refine G_neq_agg ?_ | refine G_call ?_ | refine G_call0 ?_ | (refine G_alloc ?_; intro _) | (refine G_indexV ?_; intro _ _ hA; subst hA) | refine G_skip ?_ | refine G_skip0 ?_)
    | (show spl _ _ _; first | refine spl_no rfl ?_ | refine spl_yes rfl ?_)
    | (show evC _ _ _ _ _; first | refine c_seq ?_ | refine c_region (by exact rfl) ?_ | refine c_cond (by exact rfl) ?_ | refine c_ret ?_ | refine c_skip ?_ | refine c_block ?_ | refine c_exit ?_ | refine std ?_)
    | (show Br _ _ _; first | refine Br.t rfl ?_ | refine Br.f rfl ?_ | refine brs ?_ | (first | refine Br.mkN (fun h => ?_) (fun h => ?_) | refine Br.mk (fun h => ?_) (fun h => ?_)) <;> (try (first | contradiction | (exfalso; omega) | (exfalso; simp at h; done))))
    | refine stp ?_
    | (show CallT _ 42 _ _ _; refine CA (h := rflds_ok hk ?_)))
  rename_i q b7
  refine LOOP (fun m f C' => ∃ (i : Nat) (ai : AC), i + m = (wdF k.toNat).length ∧ foldA ai ((wdF k.toNat).drop i) (ps.drop i) = some af ∧ zerF k (wdF k.toNat) i ai ∧ C' = pt b7 [.int .i64 ai.kd, .int .i64 ai.sd, .int .i64 ai.id, .int .i64 ai.n, .int .i64 ai.cd, .string ai.s, .int .i64 ai.on, .int .i64 ai.ww, .bool ai.xx, .int .i64 ai.xw, .int .i64 ai.xs, .int .i64 ai.xi] 28 :: pt q [.int .i64 0, .int .i64 0, .int .i64 0, .int .i64 0, .int .i64 0, .string ⟨#[]⟩, .int .i64 0, .int .i64 0, .bool false, .int .i64 0, .int .i64 0, .int .i64 0] 28 :: C ∧ Agree f [(1, .slice A n cp), (4, .pointer (some ⟨q, 0, none⟩)), (6, .string (bq (wdF k.toNat))), (7, .pointer (some ⟨b7, 0, none⟩)), (8, .int .i64 i)]) (wdF k.toNat).length (turn (wdF k.toNat).length ⟨0, AC0 k, by omega, hfd, fun d hd _ => by rcases hd with rfl | rfl | rfl | rfl | rfl | rfl | rfl | rfl | rfl | rfl | rfl <;> rfl, rfl, rfl, rfl, rfl, rfl, rfl, trivial⟩) ?_
  rintro n1 f C' ⟨i, ai, hi, hf, hz, rfl, hA⟩
  refine c_fr _ hA ?_
  simp only [updL]
  by_cases hlt : i < (wdF k.toNat).length
  · obtain ⟨c, hc⟩ : ∃ c, (wdF k.toNat)[i]? = some c := ⟨_, List.getElem?_eq_getElem hlt⟩
    obtain ⟨l', hl'⟩ : ∃ c, ps[i]? = some c := ⟨_, List.getElem?_eq_getElem (by omega)⟩
    rw [fold_at hc hl'] at hf
    obtain ⟨a', hs1, hs2⟩ := Option.bind_eq_some_iff.1 hf
    have hcL : isL c := wdF_L _ hk15 c (List.mem_of_getElem? hc)
    have hz2 := zer_step hc hcL hz hs1
    have hll : l'.length ≤ 1000000 := hps l' (List.mem_of_getElem? hl')
    have x1 : (bq (wdF k.toNat))[((i : Nat) : Int).toNat]? = some c := by rw [bget_bq]; exact hc
    have x2 : (ps.map bq)[((i : Nat) : Int).toNat]? = some (bq l') := map_at hl'
    obtain ⟨o1, o2, o3, o4⟩ := wd_ord hk15 (i := i) (by omega)
    have hvv : View (pt b7 [.int .i64 ai.kd, .int .i64 ai.sd, .int .i64 ai.id, .int .i64 ai.n, .int .i64 ai.cd, .string ai.s, .int .i64 ai.on, .int .i64 ai.ww, .bool ai.xx, .int .i64 ai.xw, .int .i64 ai.xs, .int .i64 ai.xi] 28 :: pt q [.int .i64 0, .int .i64 0, .int .i64 0, .int .i64 0, .int .i64 0, .string ⟨#[]⟩, .int .i64 0, .int .i64 0, .bool false, .int .i64 0, .int .i64 0, .int .i64 0] 28 :: C) A sgC (ps.map bq) := view_there (view_there hv)
    have hnum : ∀ {R : List HP} {K : Value → List HP → Prop}, (∀ m b, (b = true → rdI l' = some m) → (b = false → rdI l' = none) → K (.tuple #[.int .i64 m, .bool b]) R) → CallT Tryz.prog 52 #[.string (bq l')] R K := fun {R K} hK => by
      cases hr : rdI l' with
      | none => exact rnumN_ok hr hll fun m => hK m false (fun h => by cases h) fun _ => hr
      | some m => exact rnumY_ok hr (hK m true (fun _ => hr) fun h => by cases h)
    rcases hcL with rfl | rfl | rfl | rfl | rfl | rfl | rfl | rfl | rfl | rfl | rfl <;> simp +decide only [setA, reduceIte] at hs1
    case inr.inr.inr.inr.inl =>
      obtain ⟨t, ht, rfl⟩ := Option.map_eq_some_iff.1 hs1
      repeat' (first
        | (show evG _ _ _ _ _ _ _; first | refine G_add64 ?_ | refine G_pure0 ?_ | refine G_load ?_ | refine evG_nil ?_ | refine G_br ?_ ?_ | refine G_field ?_ | refine G_pure ?_ | refine G_store ?_ | refine G_loadV ?_ | refine G_loadV0 ?_ | refine G_loadV2 ?_ | refine G_not ?_ | refine G_index ?_ | refine G_indexA ?_ | refine G_indexS ?_ | refine G_build ?_ | refine G_cat ?_ | refine G_eql_agg ?_ | refine G_neq_agg ?_ | refine G_call ?_ | refine G_call0 ?_ | (refine G_alloc ?_; intro _) | (refine G_indexV ?_; intro _ _ hA; subst hA) | refine G_skip ?_ | refine G_skip0 ?_)
        | (show spl _ _ _; first | refine spl_no rfl ?_ | refine spl_yes rfl ?_)
        | (show evC _ _ _ _ _; first | refine c_seq ?_ | refine c_region (by exact rfl) ?_ | refine c_cond (by exact rfl) ?_ | refine c_ret ?_ | refine c_skip ?_ | refine c_block ?_ | refine c_exit ?_ | refine std ?_)
        | (show Br _ _ _; first | refine Br.t (by decide +kernel) ?_ | refine Br.f (by decide +kernel) ?_ | refine Br.t rfl ?_ | refine Br.f rfl ?_ | refine brs ?_ | (first | refine Br.mkN (fun h => ?_) (fun h => ?_) | refine Br.mk (fun h => ?_) (fun h => ?_)) <;> (try (first | contradiction | (exfalso; omega) | (exfalso; simp at h; done))))
        | refine stp ?_
        | (show CallT _ 52 _ _ _; refine CA (h := hnum fun _ _ _ _ => ?_))
        | (show CallT _ 53 _ _ _; refine CA (h := runtextY_ok ht ?_)))
      all_goals (show TurnG _ _ _ _; exact turn (n1 - 1) ⟨i + 1, _, by omega, hs2, hz2, rfl, rfl, rfl, rfl, rfl, rfl, trivial⟩)
    case inr.inr.inr.inr.inr.inl =>
      obtain ⟨m, hm, rfl⟩ := Option.map_eq_some_iff.1 hs1
      have e1 := zer_ww hz (o1 hc).1
      have e2 := zer_xx hz (o1 hc).2
      repeat' (first
        | (show evG _ _ _ _ _ _ _; first | refine G_add64 ?_ | refine G_pure0 ?_ | refine G_load ?_ | refine evG_nil ?_ | refine G_br ?_ ?_ | refine G_field ?_ | refine G_pure ?_ | refine G_store ?_ | refine G_loadV ?_ | refine G_loadV0 ?_ | refine G_loadV2 ?_ | refine G_not ?_ | refine G_index ?_ | refine G_indexA ?_ | refine G_indexS ?_ | refine G_build ?_ | refine G_cat ?_ | refine G_eql_agg ?_ | refine G_neq_agg ?_ | refine G_call ?_ | refine G_call0 ?_ | (refine G_alloc ?_; intro _) | (refine G_indexV ?_; intro _ _ hA; subst hA) | refine G_skip ?_ | refine G_skip0 ?_)
        | (show spl _ _ _; first | refine spl_no rfl ?_ | refine spl_yes rfl ?_)
        | (show evC _ _ _ _ _; first | refine c_seq ?_ | refine c_region (by exact rfl) ?_ | refine c_cond (by exact rfl) ?_ | refine c_ret ?_ | refine c_skip ?_ | refine c_block ?_ | refine c_exit ?_ | refine std ?_)
        | (show Br _ _ _; first | refine Br.t (by decide +kernel) ?_ | refine Br.f (by decide +kernel) ?_ | refine Br.t rfl ?_ | refine Br.f rfl ?_ | refine brs ?_ | (first | refine Br.mkN (fun h => ?_) (fun h => ?_) | refine Br.mk (fun h => ?_) (fun h => ?_)) <;> (try (first | contradiction | (exfalso; omega) | (exfalso; simp at h; done))))
        | refine stp ?_
        | (show CallT _ 52 _ _ _; refine CA (h := rnumY_ok hm ?_)))
      all_goals (show TurnG _ _ _ _; exact turn (n1 - 1) ⟨i + 1, { ai with on := m }, by omega, hs2, hz2, by simp only [e1, e2]; rfl, rfl, rfl, rfl, rfl, rfl, trivial⟩)
    case inr.inr.inr.inr.inr.inr.inl =>
      obtain ⟨m, hm, rfl⟩ := Option.map_eq_some_iff.1 hs1
      have e2 := zer_xx hz (o2 hc)
      repeat' (first
        | (show evG _ _ _ _ _ _ _; first | refine G_add64 ?_ | refine G_pure0 ?_ | refine G_load ?_ | refine evG_nil ?_ | refine G_br ?_ ?_ | refine G_field ?_ | refine G_pure ?_ | refine G_store ?_ | refine G_loadV ?_ | refine G_loadV0 ?_ | refine G_loadV2 ?_ | refine G_not ?_ | refine G_index ?_ | refine G_indexA ?_ | refine G_indexS ?_ | refine G_build ?_ | refine G_cat ?_ | refine G_eql_agg ?_ | refine G_neq_agg ?_ | refine G_call ?_ | refine G_call0 ?_ | (refine G_alloc ?_; intro _) | (refine G_indexV ?_; intro _ _ hA; subst hA) | refine G_skip ?_ | refine G_skip0 ?_)
        | (show spl _ _ _; first | refine spl_no rfl ?_ | refine spl_yes rfl ?_)
        | (show evC _ _ _ _ _; first | refine c_seq ?_ | refine c_region (by exact rfl) ?_ | refine c_cond (by exact rfl) ?_ | refine c_ret ?_ | refine c_skip ?_ | refine c_block ?_ | refine c_exit ?_ | refine std ?_)
        | (show Br _ _ _; first | refine Br.t (by decide +kernel) ?_ | refine Br.f (by decide +kernel) ?_ | refine Br.t rfl ?_ | refine Br.f rfl ?_ | refine brs ?_ | (first | refine Br.mkN (fun h => ?_) (fun h => ?_) | refine Br.mk (fun h => ?_) (fun h => ?_)) <;> (try (first | contradiction | (exfalso; omega) | (exfalso; simp at h; done))))
        | refine stp ?_
        | (show CallT _ 52 _ _ _; refine CA (h := rnumY_ok hm ?_)))
      all_goals (show TurnG _ _ _ _; exact turn (n1 - 1) ⟨i + 1, { ai with ww := m }, by omega, hs2, hz2, by simp only [e2]; rfl, rfl, rfl, rfl, rfl, rfl, trivial⟩)
    case inr.inr.inr.inr.inr.inr.inr.inl =>
      obtain ⟨m, hm, h2⟩ := Option.bind_eq_some_iff.1 hs1
      split at h2
      · rename_i h0
        subst h0
        cases h2
        repeat' (first
          | (show evG _ _ _ _ _ _ _; first | refine G_add64 ?_ | refine G_pure0 ?_ | refine G_load ?_ | refine evG_nil ?_ | refine G_br ?_ ?_ | refine G_field ?_ | refine G_pure ?_ | refine G_store ?_ | refine G_loadV ?_ | refine G_loadV0 ?_ | refine G_loadV2 ?_ | refine G_not ?_ | refine G_index ?_ | refine G_indexA ?_ | refine G_indexS ?_ | refine G_build ?_ | refine G_cat ?_ | refine G_eql_agg ?_ | refine G_neq_agg ?_ | refine G_call ?_ | refine G_call0 ?_ | (refine G_alloc ?_; intro _) | (refine G_indexV ?_; intro _ _ hA; subst hA) | refine G_skip ?_ | refine G_skip0 ?_)
          | (show spl _ _ _; first | refine spl_no rfl ?_ | refine spl_yes rfl ?_)
          | (show evC _ _ _ _ _; first | refine c_seq ?_ | refine c_region (by exact rfl) ?_ | refine c_cond (by exact rfl) ?_ | refine c_ret ?_ | refine c_skip ?_ | refine c_block ?_ | refine c_exit ?_ | refine std ?_)
          | (show Br _ _ _; first | refine Br.t (by decide +kernel) ?_ | refine Br.f (by decide +kernel) ?_ | refine Br.t rfl ?_ | refine Br.f rfl ?_ | refine brs ?_ | (first | refine Br.mkN (fun h => ?_) (fun h => ?_) | refine Br.mk (fun h => ?_) (fun h => ?_)) <;> (try (first | contradiction | (exfalso; omega) | (exfalso; simp at h; done))))
          | refine stp ?_
          | (show CallT _ 52 _ _ _; refine CA (h := rnumY_ok hm ?_)))
        all_goals (show TurnG _ _ _ _; exact turn (n1 - 1) ⟨i + 1, { ai with xx := false }, by omega, hs2, hz2, rfl, rfl, rfl, rfl, rfl, rfl, trivial⟩)
      · split at h2
        · rename_i h0
          subst h0
          cases h2
          repeat' (first
            | (show evG _ _ _ _ _ _ _; first | refine G_add64 ?_ | refine G_pure0 ?_ | refine G_load ?_ | refine evG_nil ?_ | refine G_br ?_ ?_ | refine G_field ?_ | refine G_pure ?_ | refine G_store ?_ | refine G_loadV ?_ | refine G_loadV0 ?_ | refine G_loadV2 ?_ | refine G_not ?_ | refine G_index ?_ | refine G_indexA ?_ | refine G_indexS ?_ | refine G_build ?_ | refine G_cat ?_ | refine G_eql_agg ?_ | refine G_neq_agg ?_ | refine G_call ?_ | refine G_call0 ?_ | (refine G_alloc ?_; intro _) | (refine G_indexV ?_; intro _ _ hA; subst hA) | refine G_skip ?_ | refine G_skip0 ?_)
            | (show spl _ _ _; first | refine spl_no rfl ?_ | refine spl_yes rfl ?_)
            | (show evC _ _ _ _ _; first | refine c_seq ?_ | refine c_region (by exact rfl) ?_ | refine c_cond (by exact rfl) ?_ | refine c_ret ?_ | refine c_skip ?_ | refine c_block ?_ | refine c_exit ?_ | refine std ?_)
            | (show Br _ _ _; first | refine Br.t (by decide +kernel) ?_ | refine Br.f (by decide +kernel) ?_ | refine Br.t rfl ?_ | refine Br.f rfl ?_ | refine brs ?_ | (first | refine Br.mkN (fun h => ?_) (fun h => ?_) | refine Br.mk (fun h => ?_) (fun h => ?_)) <;> (try (first | contradiction | (exfalso; omega) | (exfalso; simp at h; done))))
            | refine stp ?_
            | (show CallT _ 52 _ _ _; refine CA (h := rnumY_ok hm ?_)))
          all_goals (show TurnG _ _ _ _; exact turn (n1 - 1) ⟨i + 1, { ai with xx := true }, by omega, hs2, hz2, rfl, rfl, rfl, rfl, rfl, rfl, trivial⟩)
        · cases h2
    case inr.inr.inr.inr.inr.inr.inr.inr.inl =>
      obtain ⟨m, hm, rfl⟩ := Option.map_eq_some_iff.1 hs1
      have e1 := zer_xs hz (o3 hc).1
      have e2 := zer_xi hz (o3 hc).2
      repeat' (first
        | (show evG _ _ _ _ _ _ _; first | refine G_add64 ?_ | refine G_pure0 ?_ | refine G_load ?_ | refine evG_nil ?_ | refine G_br ?_ ?_ | refine G_field ?_ | refine G_pure ?_ | refine G_store ?_ | refine G_loadV ?_ | refine G_loadV0 ?_ | refine G_loadV2 ?_ | refine G_not ?_ | refine G_index ?_ | refine G_indexA ?_ | refine G_indexS ?_ | refine G_build ?_ | refine G_cat ?_ | refine G_eql_agg ?_ | refine G_neq_agg ?_ | refine G_call ?_ | refine G_call0 ?_ | (refine G_alloc ?_; intro _) | (refine G_indexV ?_; intro _ _ hA; subst hA) | refine G_skip ?_ | refine G_skip0 ?_)
        | (show spl _ _ _; first | refine spl_no rfl ?_ | refine spl_yes rfl ?_)
        | (show evC _ _ _ _ _; first | refine c_seq ?_ | refine c_region (by exact rfl) ?_ | refine c_cond (by exact rfl) ?_ | refine c_ret ?_ | refine c_skip ?_ | refine c_block ?_ | refine c_exit ?_ | refine std ?_)
        | (show Br _ _ _; first | refine Br.t (by decide +kernel) ?_ | refine Br.f (by decide +kernel) ?_ | refine Br.t rfl ?_ | refine Br.f rfl ?_ | refine brs ?_ | (first | refine Br.mkN (fun h => ?_) (fun h => ?_) | refine Br.mk (fun h => ?_) (fun h => ?_)) <;> (try (first | contradiction | (exfalso; omega) | (exfalso; simp at h; done))))
        | refine stp ?_
        | (show CallT _ 52 _ _ _; refine CA (h := rnumY_ok hm ?_)))
      all_goals (show TurnG _ _ _ _; exact turn (n1 - 1) ⟨i + 1, { ai with xw := m }, by omega, hs2, hz2, by simp only [e1, e2]; rfl, rfl, rfl, rfl, rfl, rfl, trivial⟩)
    case inr.inr.inr.inr.inr.inr.inr.inr.inr.inl =>
      obtain ⟨m, hm, rfl⟩ := Option.map_eq_some_iff.1 hs1
      have e2 := zer_xi hz (o4 hc)
      repeat' (first
        | (show evG _ _ _ _ _ _ _; first | refine G_add64 ?_ | refine G_pure0 ?_ | refine G_load ?_ | refine evG_nil ?_ | refine G_br ?_ ?_ | refine G_field ?_ | refine G_pure ?_ | refine G_store ?_ | refine G_loadV ?_ | refine G_loadV0 ?_ | refine G_loadV2 ?_ | refine G_not ?_ | refine G_index ?_ | refine G_indexA ?_ | refine G_indexS ?_ | refine G_build ?_ | refine G_cat ?_ | refine G_eql_agg ?_ | refine G_neq_agg ?_ | refine G_call ?_ | refine G_call0 ?_ | (refine G_alloc ?_; intro _) | (refine G_indexV ?_; intro _ _ hA; subst hA) | refine G_skip ?_ | refine G_skip0 ?_)
        | (show spl _ _ _; first | refine spl_no rfl ?_ | refine spl_yes rfl ?_)
        | (show evC _ _ _ _ _; first | refine c_seq ?_ | refine c_region (by exact rfl) ?_ | refine c_cond (by exact rfl) ?_ | refine c_ret ?_ | refine c_skip ?_ | refine c_block ?_ | refine c_exit ?_ | refine std ?_)
        | (show Br _ _ _; first | refine Br.t (by decide +kernel) ?_ | refine Br.f (by decide +kernel) ?_ | refine Br.t rfl ?_ | refine Br.f rfl ?_ | refine brs ?_ | (first | refine Br.mkN (fun h => ?_) (fun h => ?_) | refine Br.mk (fun h => ?_) (fun h => ?_)) <;> (try (first | contradiction | (exfalso; omega) | (exfalso; simp at h; done))))
        | refine stp ?_
        | (show CallT _ 52 _ _ _; refine CA (h := rnumY_ok hm ?_)))
      all_goals (show TurnG _ _ _ _; exact turn (n1 - 1) ⟨i + 1, { ai with xs := m }, by omega, hs2, hz2, by simp only [e2]; rfl, rfl, rfl, rfl, rfl, rfl, trivial⟩)
    all_goals
      obtain ⟨m, hm, rfl⟩ := Option.map_eq_some_iff.1 hs1
      repeat' (first
        | (show evG _ _ _ _ _ _ _; first | refine G_add64 ?_ | refine G_pure0 ?_ | refine G_load ?_ | refine evG_nil ?_ | refine G_br ?_ ?_ | refine G_field ?_ | refine G_pure ?_ | refine G_store ?_ | refine G_loadV ?_ | refine G_loadV0 ?_ | refine G_loadV2 ?_ | refine G_not ?_ | refine G_index ?_ | refine G_indexA ?_ | refine G_indexS ?_ | refine G_build ?_ | refine G_cat ?_ | refine G_eql_agg ?_ | refine G_neq_agg ?_ | refine G_call ?_ | refine G_call0 ?_ | (refine G_alloc ?_; intro _) | (refine G_indexV ?_; intro _ _ hA; subst hA) | refine G_skip ?_ | refine G_skip0 ?_)
        | (show spl _ _ _; first | refine spl_no rfl ?_ | refine spl_yes rfl ?_)
        | (show evC _ _ _ _ _; first | refine c_seq ?_ | refine c_region (by exact rfl) ?_ | refine c_cond (by exact rfl) ?_ | refine c_ret ?_ | refine c_skip ?_ | refine c_block ?_ | refine c_exit ?_ | refine std ?_)
        | (show Br _ _ _; first | refine Br.t (by decide +kernel) ?_ | refine Br.f (by decide +kernel) ?_ | refine Br.t rfl ?_ | refine Br.f rfl ?_ | refine brs ?_ | (first | refine Br.mkN (fun h => ?_) (fun h => ?_) | refine Br.mk (fun h => ?_) (fun h => ?_)) <;> (try (first | contradiction | (exfalso; omega) | (exfalso; simp at h; done))))
        | refine stp ?_
        | (show CallT _ 52 _ _ _; refine CA (h := rnumY_ok hm ?_)))
      all_goals (show TurnG _ _ _ _; exact turn (n1 - 1) ⟨i + 1, _, by omega, hs2, hz2, rfl, rfl, rfl, rfl, rfl, rfl, trivial⟩)
  · have hi2 : i = (wdF k.toNat).length := by omega
    rw [fold_end hi2 (by omega)] at hf
    cases hf
    repeat' (first
      | (show evG _ _ _ _ _ _ _; first | refine G_add64 ?_ | refine G_pure0 ?_ | refine G_load ?_ | refine evG_nil ?_ | refine G_br ?_ ?_ | refine G_field ?_ | refine G_pure ?_ | refine G_store ?_ | refine G_loadV ?_ | refine G_loadV0 ?_ | refine G_loadV2 ?_ | refine G_not ?_ | refine G_index ?_ | refine G_indexA ?_ | refine G_indexS ?_ | refine G_build ?_ | refine G_cat ?_ | refine G_eql_agg ?_ | refine G_neq_agg ?_ | refine G_call ?_ | refine G_call0 ?_ | (refine G_alloc ?_; intro _) | (refine G_indexV ?_; intro _ _ hA; subst hA) | refine G_skip ?_ | refine G_skip0 ?_)
      | (show spl _ _ _; first | refine spl_no rfl ?_ | refine spl_yes rfl ?_)
      | (show evC _ _ _ _ _; first | refine c_seq ?_ | refine c_region (by exact rfl) ?_ | refine c_cond (by exact rfl) ?_ | refine c_ret ?_ | refine c_skip ?_ | refine c_block ?_ | refine c_exit ?_ | refine std ?_)
      | (show Br _ _ _; first | refine Br.t rfl ?_ | refine Br.f rfl ?_ | refine brs ?_ | (first | refine Br.mkN (fun h => ?_) (fun h => ?_) | refine Br.mk (fun h => ?_) (fun h => ?_)) <;> (try (first | contradiction | (exfalso; omega) | (exfalso; simp at h; done))))
      | refine stp ?_)
    all_goals (show retC _ _ _ _ _ _; refine RETC ?_; exact ret_done (hK))
set_option maxHeartbeats 40000000 in
theorem rfieldsN_ok {k : Int} {A : Option Addr} {n cp : Nat} {ps : List (List UInt8)} (hk : 1 ≤ k ∧ k ≤ 14) (hv : View C A sgC (ps.map bq)) (hn : ps.length = n) (hns : n ≤ 2000000) (hps : ∀ p ∈ ps, p.length ≤ 1000000) (h : foldA (AC0 k) (wdF k.toNat) ps = none) (hK : ∀ (kd sd id n cd : Int) (s : ByteArray) (on ww : Int) (xx : Bool) (xw xs xi : Int), K (.tuple #[.agg #[.int .i64 kd, .int .i64 sd, .int .i64 id, .int .i64 n, .int .i64 cd, .string s, .int .i64 on, .int .i64 ww, .bool xx, .int .i64 xw, .int .i64 xs, .int .i64 xi], .bool false]) C) : CallT Tryz.prog 29 #[.int .i64 k, .slice A n cp] C K := by
  have hk15 : k.toNat < 15 := by omega
  have h6 := wdF_len k.toNat hk15
  have hfs := bq_size (wdF k.toNat)
  have hml : (ps.map bq).length = n := by simp; omega
  have hfd := h
  by_cases hlen : ps.length = (wdF k.toNat).length
  · refine callT_intro mixed Tryz.func29 rfl (by decide) (by decide +kernel) (by exact Nat.le_of_ble_eq_true rfl) ?_
    repeat' (first
      | (show evG _ _ _ _ _ _ _; first | refine G_add64 ?_ | refine G_pure0 ?_ | refine G_load ?_ | refine evG_nil ?_ | refine G_br ?_ ?_ | refine G_field ?_ | refine G_pure ?_ | refine G_store ?_ | refine G_loadV ?_ | refine G_loadV0 ?_ | refine G_loadV2 ?_ | refine G_not ?_ | refine G_index ?_ | refine G_indexA ?_ | refine G_indexS ?_ | refine G_build ?_ | refine G_cat ?_ | refine G_eql_agg ?_ | refine G_neq_agg ?_ | refine G_call ?_ | refine G_call0 ?_ | (refine G_alloc ?_; intro _) | (refine G_indexV ?_; intro _ _ hA; subst hA) | refine G_skip ?_ | refine G_skip0 ?_)
      | (show spl _ _ _; first | refine spl_no rfl ?_ | refine spl_yes rfl ?_)
      | (show evC _ _ _ _ _; first | refine c_seq ?_ | refine c_region (by exact rfl) ?_ | refine c_cond (by exact rfl) ?_ | refine c_ret ?_ | refine c_skip ?_ | refine c_block ?_ | refine c_exit ?_ | refine std ?_)
      | (show Br _ _ _; first | refine Br.t rfl ?_ | refine Br.f rfl ?_ | refine brs ?_ | (first | refine Br.mkN (fun h => ?_) (fun h => ?_) | refine Br.mk (fun h => ?_) (fun h => ?_)) <;> (try (first | contradiction | (exfalso; omega) | (exfalso; simp at h; done))))
      | refine stp ?_
      | (show CallT _ 42 _ _ _; refine CA (h := rflds_ok hk ?_)))
    rename_i q b7
    refine LOOP (fun m f C' => ∃ (i : Nat) (ai : AC), i + m = (wdF k.toNat).length ∧ foldA ai ((wdF k.toNat).drop i) (ps.drop i) = none ∧ zerF k (wdF k.toNat) i ai ∧ C' = pt b7 [.int .i64 ai.kd, .int .i64 ai.sd, .int .i64 ai.id, .int .i64 ai.n, .int .i64 ai.cd, .string ai.s, .int .i64 ai.on, .int .i64 ai.ww, .bool ai.xx, .int .i64 ai.xw, .int .i64 ai.xs, .int .i64 ai.xi] 28 :: pt q [.int .i64 0, .int .i64 0, .int .i64 0, .int .i64 0, .int .i64 0, .string ⟨#[]⟩, .int .i64 0, .int .i64 0, .bool false, .int .i64 0, .int .i64 0, .int .i64 0] 28 :: C ∧ Agree f [(1, .slice A n cp), (4, .pointer (some ⟨q, 0, none⟩)), (6, .string (bq (wdF k.toNat))), (7, .pointer (some ⟨b7, 0, none⟩)), (8, .int .i64 i)]) (wdF k.toNat).length (turn (wdF k.toNat).length ⟨0, AC0 k, by omega, hfd, fun d hd _ => by rcases hd with rfl | rfl | rfl | rfl | rfl | rfl | rfl | rfl | rfl | rfl | rfl <;> rfl, rfl, rfl, rfl, rfl, rfl, rfl, trivial⟩) ?_
    rintro n1 f C' ⟨i, ai, hi, hf, hz, rfl, hA⟩
    refine c_fr _ hA ?_
    simp only [updL]
    by_cases hlt : i < (wdF k.toNat).length
    · obtain ⟨c, hc⟩ : ∃ c, (wdF k.toNat)[i]? = some c := ⟨_, List.getElem?_eq_getElem hlt⟩
      obtain ⟨l', hl'⟩ : ∃ c, ps[i]? = some c := ⟨_, List.getElem?_eq_getElem (by omega)⟩
      rw [fold_at hc hl'] at hf
      have hcL : isL c := wdF_L _ hk15 c (List.mem_of_getElem? hc)
      have hll : l'.length ≤ 1000000 := hps l' (List.mem_of_getElem? hl')
      have x1 : (bq (wdF k.toNat))[((i : Nat) : Int).toNat]? = some c := by rw [bget_bq]; exact hc
      have x2 : (ps.map bq)[((i : Nat) : Int).toNat]? = some (bq l') := map_at hl'
      obtain ⟨o1, o2, o3, o4⟩ := wd_ord hk15 (i := i) (by omega)
      have hvv : View (pt b7 [.int .i64 ai.kd, .int .i64 ai.sd, .int .i64 ai.id, .int .i64 ai.n, .int .i64 ai.cd, .string ai.s, .int .i64 ai.on, .int .i64 ai.ww, .bool ai.xx, .int .i64 ai.xw, .int .i64 ai.xs, .int .i64 ai.xi] 28 :: pt q [.int .i64 0, .int .i64 0, .int .i64 0, .int .i64 0, .int .i64 0, .string ⟨#[]⟩, .int .i64 0, .int .i64 0, .bool false, .int .i64 0, .int .i64 0, .int .i64 0] 28 :: C) A sgC (ps.map bq) := view_there (view_there hv)
      have hnum : ∀ {R : List HP} {K : Value → List HP → Prop}, (∀ m b, K (.tuple #[.int .i64 m, .bool b]) R) → CallT Tryz.prog 52 #[.string (bq l')] R K := fun {R K} hK => by
        cases hr : rdI l' with
        | none => exact rnumN_ok hr hll fun m => hK m false
        | some m => exact rnumY_ok hr (hK m true)
      cases hsA : setA ai c l' with
      | none =>
        rcases hcL with rfl | rfl | rfl | rfl | rfl | rfl | rfl | rfl | rfl | rfl | rfl <;> simp +decide only [setA, reduceIte] at hsA
        case inr.inr.inr.inr.inl =>
          have ht := Option.map_eq_none_iff.1 hsA
          repeat' (first
            | (show evG _ _ _ _ _ _ _; first | refine G_add64 ?_ | refine G_pure0 ?_ | refine G_load ?_ | refine evG_nil ?_ | refine G_br ?_ ?_ | refine G_field ?_ | refine G_pure ?_ | refine G_store ?_ | refine G_loadV ?_ | refine G_loadV0 ?_ | refine G_loadV2 ?_ | refine G_not ?_ | refine G_index ?_ | refine G_indexA ?_ | refine G_indexS ?_ | refine G_build ?_ | refine G_cat ?_ | refine G_eql_agg ?_ | refine G_neq_agg ?_ | refine G_call ?_ | refine G_call0 ?_ | (refine G_alloc ?_; intro _) | (refine G_indexV ?_; intro _ _ hA; subst hA) | refine G_skip ?_ | refine G_skip0 ?_)
            | (show spl _ _ _; first | refine spl_no rfl ?_ | refine spl_yes rfl ?_)
            | (show evC _ _ _ _ _; first | refine c_seq ?_ | refine c_region (by exact rfl) ?_ | refine c_cond (by exact rfl) ?_ | refine c_ret ?_ | refine c_skip ?_ | refine c_block ?_ | refine c_exit ?_ | refine std ?_)
            | (show Br _ _ _; first | refine Br.t (by decide +kernel) ?_ | refine Br.f (by decide +kernel) ?_ | refine Br.t rfl ?_ | refine Br.f rfl ?_ | refine brs ?_ | (first | refine Br.mkN (fun h => ?_) (fun h => ?_) | refine Br.mk (fun h => ?_) (fun h => ?_)) <;> (try (first | contradiction | (exfalso; omega) | (exfalso; simp at h; done))))
            | refine stp ?_
            | (show CallT _ 52 _ _ _; refine CA (h := hnum fun _ _ => ?_))
            | (show CallT _ 53 _ _ _; refine CA (h := runtextN_ok ht hll (fun s => ?_))))
          all_goals (show retC _ _ _ _ _ _; refine RETC ?_; exact ret_done (hK _ _ _ _ _ _ _ _ _ _ _ _))
        case inr.inr.inr.inr.inr.inr.inr.inl =>
          cases hm : rdI l' with
          | none =>
            repeat' (first
              | (show evG _ _ _ _ _ _ _; first | refine G_add64 ?_ | refine G_pure0 ?_ | refine G_load ?_ | refine evG_nil ?_ | refine G_br ?_ ?_ | refine G_field ?_ | refine G_pure ?_ | refine G_store ?_ | refine G_loadV ?_ | refine G_loadV0 ?_ | refine G_loadV2 ?_ | refine G_not ?_ | refine G_index ?_ | refine G_indexA ?_ | refine G_indexS ?_ | refine G_build ?_ | refine G_cat ?_ | refine G_eql_agg ?_ | refine G_neq_agg ?_ | refine G_call ?_ | refine G_call0 ?_ | (refine G_alloc ?_; intro _) | (refine G_indexV ?_; intro _ _ hA; subst hA) | refine G_skip ?_ | refine G_skip0 ?_)
              | (show spl _ _ _; first | refine spl_no rfl ?_ | refine spl_yes rfl ?_)
              | (show evC _ _ _ _ _; first | refine c_seq ?_ | refine c_region (by exact rfl) ?_ | refine c_cond (by exact rfl) ?_ | refine c_ret ?_ | refine c_skip ?_ | refine c_block ?_ | refine c_exit ?_ | refine std ?_)
              | (show Br _ _ _; first | refine Br.t (by decide +kernel) ?_ | refine Br.f (by decide +kernel) ?_ | refine Br.t rfl ?_ | refine Br.f rfl ?_ | refine brs ?_ | (first | refine Br.mkN (fun h => ?_) (fun h => ?_) | refine Br.mk (fun h => ?_) (fun h => ?_)) <;> (try (first | contradiction | (exfalso; omega) | (exfalso; simp at h; done))))
              | refine stp ?_
              | (show CallT _ 52 _ _ _; refine CA (h := rnumN_ok hm hll (fun m => ?_))))
            all_goals (show retC _ _ _ _ _ _; refine RETC ?_; exact ret_done (hK _ _ _ _ _ _ _ _ _ _ _ _))
          | some m =>
            rw [hm] at hsA
            simp only [Option.bind_some] at hsA
            have hm0 : ¬ m = 0 := fun e => by rw [if_pos e] at hsA; cases hsA
            have hm1 : ¬ m = 1 := fun e => by rw [if_neg hm0, if_pos e] at hsA; cases hsA
            repeat' (first
              | (show evG _ _ _ _ _ _ _; first | refine G_add64 ?_ | refine G_pure0 ?_ | refine G_load ?_ | refine evG_nil ?_ | refine G_br ?_ ?_ | refine G_field ?_ | refine G_pure ?_ | refine G_store ?_ | refine G_loadV ?_ | refine G_loadV0 ?_ | refine G_loadV2 ?_ | refine G_not ?_ | refine G_index ?_ | refine G_indexA ?_ | refine G_indexS ?_ | refine G_build ?_ | refine G_cat ?_ | refine G_eql_agg ?_ | refine G_neq_agg ?_ | refine G_call ?_ | refine G_call0 ?_ | (refine G_alloc ?_; intro _) | (refine G_indexV ?_; intro _ _ hA; subst hA) | refine G_skip ?_ | refine G_skip0 ?_)
              | (show spl _ _ _; first | refine spl_no rfl ?_ | refine spl_yes rfl ?_)
              | (show evC _ _ _ _ _; first | refine c_seq ?_ | refine c_region (by exact rfl) ?_ | refine c_cond (by exact rfl) ?_ | refine c_ret ?_ | refine c_skip ?_ | refine c_block ?_ | refine c_exit ?_ | refine std ?_)
              | (show Br _ _ _; first | refine Br.t rfl ?_ | refine Br.f rfl ?_ | refine brs ?_ | (first | refine Br.mkN (fun h => ?_) (fun h => ?_) | refine Br.mk (fun h => ?_) (fun h => ?_)) <;> (try (first | contradiction | (exfalso; omega) | (exfalso; simp at h; done))))
              | refine stp ?_
              | (show CallT _ 52 _ _ _; refine CA (h := rnumY_ok hm ?_)))
            all_goals (show retC _ _ _ _ _ _; refine RETC ?_; exact ret_done (hK _ _ _ _ _ _ _ _ _ _ _ _))
        all_goals
          have hm := Option.map_eq_none_iff.1 hsA
          repeat' (first
            | (show evG _ _ _ _ _ _ _; first | refine G_add64 ?_ | refine G_pure0 ?_ | refine G_load ?_ | refine evG_nil ?_ | refine G_br ?_ ?_ | refine G_field ?_ | refine G_pure ?_ | refine G_store ?_ | refine G_loadV ?_ | refine G_loadV0 ?_ | refine G_loadV2 ?_ | refine G_not ?_ | refine G_index ?_ | refine G_indexA ?_ | refine G_indexS ?_ | refine G_build ?_ | refine G_cat ?_ | refine G_eql_agg ?_ | refine G_neq_agg ?_ | refine G_call ?_ | refine G_call0 ?_ | (refine G_alloc ?_; intro _) | (refine G_indexV ?_; intro _ _ hA; subst hA) | refine G_skip ?_ | refine G_skip0 ?_)
            | (show spl _ _ _; first | refine spl_no rfl ?_ | refine spl_yes rfl ?_)
            | (show evC _ _ _ _ _; first | refine c_seq ?_ | refine c_region (by exact rfl) ?_ | refine c_cond (by exact rfl) ?_ | refine c_ret ?_ | refine c_skip ?_ | refine c_block ?_ | refine c_exit ?_ | refine std ?_)
            | (show Br _ _ _; first | refine Br.t (by decide +kernel) ?_ | refine Br.f (by decide +kernel) ?_ | refine Br.t rfl ?_ | refine Br.f rfl ?_ | refine brs ?_ | (first | refine Br.mkN (fun h => ?_) (fun h => ?_) | refine Br.mk (fun h => ?_) (fun h => ?_)) <;> (try (first | contradiction | (exfalso; omega) | (exfalso; simp at h; done))))
            | refine stp ?_
            | (show CallT _ 52 _ _ _; refine CA (h := rnumN_ok hm hll (fun m => ?_))))
          all_goals (show retC _ _ _ _ _ _; refine RETC ?_; exact ret_done (hK _ _ _ _ _ _ _ _ _ _ _ _))
      | some a' =>
        rw [hsA] at hf
        replace hf : foldA a' ((wdF k.toNat).drop (i + 1)) (ps.drop (i + 1)) = none := hf
        have hs1 := hsA
        have hz2 := zer_step hc hcL hz hs1
        rcases hcL with rfl | rfl | rfl | rfl | rfl | rfl | rfl | rfl | rfl | rfl | rfl <;> simp +decide only [setA, reduceIte] at hs1
        case inr.inr.inr.inr.inl =>
          obtain ⟨t, ht, rfl⟩ := Option.map_eq_some_iff.1 hs1
          repeat' (first
            | (show evG _ _ _ _ _ _ _; first | refine G_add64 ?_ | refine G_pure0 ?_ | refine G_load ?_ | refine evG_nil ?_ | refine G_br ?_ ?_ | refine G_field ?_ | refine G_pure ?_ | refine G_store ?_ | refine G_loadV ?_ | refine G_loadV0 ?_ | refine G_loadV2 ?_ | refine G_not ?_ | refine G_index ?_ | refine G_indexA ?_ | refine G_indexS ?_ | refine G_build ?_ | refine G_cat ?_ | refine G_eql_agg ?_ | refine G_neq_agg ?_ | refine G_call ?_ | refine G_call0 ?_ | (refine G_alloc ?_; intro _) | (refine G_indexV ?_; intro _ _ hA; subst hA) | refine G_skip ?_ | refine G_skip0 ?_)
            | (show spl _ _ _; first | refine spl_no rfl ?_ | refine spl_yes rfl ?_)
            | (show evC _ _ _ _ _; first | refine c_seq ?_ | refine c_region (by exact rfl) ?_ | refine c_cond (by exact rfl) ?_ | refine c_ret ?_ | refine c_skip ?_ | refine c_block ?_ | refine c_exit ?_ | refine std ?_)
            | (show Br _ _ _; first | refine Br.t (by decide +kernel) ?_ | refine Br.f (by decide +kernel) ?_ | refine Br.t rfl ?_ | refine Br.f rfl ?_ | refine brs ?_ | (first | refine Br.mkN (fun h => ?_) (fun h => ?_) | refine Br.mk (fun h => ?_) (fun h => ?_)) <;> (try (first | contradiction | (exfalso; omega) | (exfalso; simp at h; done))))
            | refine stp ?_
            | (show CallT _ 52 _ _ _; refine CA (h := hnum fun _ _ => ?_))
            | (show CallT _ 53 _ _ _; refine CA (h := runtextY_ok ht ?_)))
          all_goals (show TurnG _ _ _ _; exact turn (n1 - 1) ⟨i + 1, _, by omega, hf, hz2, rfl, rfl, rfl, rfl, rfl, rfl, trivial⟩)
        case inr.inr.inr.inr.inr.inl =>
          obtain ⟨m, hm, rfl⟩ := Option.map_eq_some_iff.1 hs1
          have e1 := zer_ww hz (o1 hc).1
          have e2 := zer_xx hz (o1 hc).2
          repeat' (first
            | (show evG _ _ _ _ _ _ _; first | refine G_add64 ?_ | refine G_pure0 ?_ | refine G_load ?_ | refine evG_nil ?_ | refine G_br ?_ ?_ | refine G_field ?_ | refine G_pure ?_ | refine G_store ?_ | refine G_loadV ?_ | refine G_loadV0 ?_ | refine G_loadV2 ?_ | refine G_not ?_ | refine G_index ?_ | refine G_indexA ?_ | refine G_indexS ?_ | refine G_build ?_ | refine G_cat ?_ | refine G_eql_agg ?_ | refine G_neq_agg ?_ | refine G_call ?_ | refine G_call0 ?_ | (refine G_alloc ?_; intro _) | (refine G_indexV ?_; intro _ _ hA; subst hA) | refine G_skip ?_ | refine G_skip0 ?_)
            | (show spl _ _ _; first | refine spl_no rfl ?_ | refine spl_yes rfl ?_)
            | (show evC _ _ _ _ _; first | refine c_seq ?_ | refine c_region (by exact rfl) ?_ | refine c_cond (by exact rfl) ?_ | refine c_ret ?_ | refine c_skip ?_ | refine c_block ?_ | refine c_exit ?_ | refine std ?_)
            | (show Br _ _ _; first | refine Br.t (by decide +kernel) ?_ | refine Br.f (by decide +kernel) ?_ | refine Br.t rfl ?_ | refine Br.f rfl ?_ | refine brs ?_ | (first | refine Br.mkN (fun h => ?_) (fun h => ?_) | refine Br.mk (fun h => ?_) (fun h => ?_)) <;> (try (first | contradiction | (exfalso; omega) | (exfalso; simp at h; done))))
            | refine stp ?_
            | (show CallT _ 52 _ _ _; refine CA (h := rnumY_ok hm ?_)))
          all_goals (show TurnG _ _ _ _; exact turn (n1 - 1) ⟨i + 1, { ai with on := m }, by omega, hf, hz2, by simp only [e1, e2]; rfl, rfl, rfl, rfl, rfl, rfl, trivial⟩)
        case inr.inr.inr.inr.inr.inr.inl =>
          obtain ⟨m, hm, rfl⟩ := Option.map_eq_some_iff.1 hs1
          have e2 := zer_xx hz (o2 hc)
          repeat' (first
            | (show evG _ _ _ _ _ _ _; first | refine G_add64 ?_ | refine G_pure0 ?_ | refine G_load ?_ | refine evG_nil ?_ | refine G_br ?_ ?_ | refine G_field ?_ | refine G_pure ?_ | refine G_store ?_ | refine G_loadV ?_ | refine G_loadV0 ?_ | refine G_loadV2 ?_ | refine G_not ?_ | refine G_index ?_ | refine G_indexA ?_ | refine G_indexS ?_ | refine G_build ?_ | refine G_cat ?_ | refine G_eql_agg ?_ | refine G_neq_agg ?_ | refine G_call ?_ | refine G_call0 ?_ | (refine G_alloc ?_; intro _) | (refine G_indexV ?_; intro _ _ hA; subst hA) | refine G_skip ?_ | refine G_skip0 ?_)
            | (show spl _ _ _; first | refine spl_no rfl ?_ | refine spl_yes rfl ?_)
            | (show evC _ _ _ _ _; first | refine c_seq ?_ | refine c_region (by exact rfl) ?_ | refine c_cond (by exact rfl) ?_ | refine c_ret ?_ | refine c_skip ?_ | refine c_block ?_ | refine c_exit ?_ | refine std ?_)
            | (show Br _ _ _; first | refine Br.t (by decide +kernel) ?_ | refine Br.f (by decide +kernel) ?_ | refine Br.t rfl ?_ | refine Br.f rfl ?_ | refine brs ?_ | (first | refine Br.mkN (fun h => ?_) (fun h => ?_) | refine Br.mk (fun h => ?_) (fun h => ?_)) <;> (try (first | contradiction | (exfalso; omega) | (exfalso; simp at h; done))))
            | refine stp ?_
            | (show CallT _ 52 _ _ _; refine CA (h := rnumY_ok hm ?_)))
          all_goals (show TurnG _ _ _ _; exact turn (n1 - 1) ⟨i + 1, { ai with ww := m }, by omega, hf, hz2, by simp only [e2]; rfl, rfl, rfl, rfl, rfl, rfl, trivial⟩)
        case inr.inr.inr.inr.inr.inr.inr.inl =>
          obtain ⟨m, hm, h2⟩ := Option.bind_eq_some_iff.1 hs1
          split at h2
          · rename_i h0
            subst h0
            cases h2
            repeat' (first
              | (show evG _ _ _ _ _ _ _; first | refine G_add64 ?_ | refine G_pure0 ?_ | refine G_load ?_ | refine evG_nil ?_ | refine G_br ?_ ?_ | refine G_field ?_ | refine G_pure ?_ | refine G_store ?_ | refine G_loadV ?_ | refine G_loadV0 ?_ | refine G_loadV2 ?_ | refine G_not ?_ | refine G_index ?_ | refine G_indexA ?_ | refine G_indexS ?_ | refine G_build ?_ | refine G_cat ?_ | refine G_eql_agg ?_ | refine G_neq_agg ?_ | refine G_call ?_ | refine G_call0 ?_ | (refine G_alloc ?_; intro _) | (refine G_indexV ?_; intro _ _ hA; subst hA) | refine G_skip ?_ | refine G_skip0 ?_)
              | (show spl _ _ _; first | refine spl_no rfl ?_ | refine spl_yes rfl ?_)
              | (show evC _ _ _ _ _; first | refine c_seq ?_ | refine c_region (by exact rfl) ?_ | refine c_cond (by exact rfl) ?_ | refine c_ret ?_ | refine c_skip ?_ | refine c_block ?_ | refine c_exit ?_ | refine std ?_)
              | (show Br _ _ _; first | refine Br.t (by decide +kernel) ?_ | refine Br.f (by decide +kernel) ?_ | refine Br.t rfl ?_ | refine Br.f rfl ?_ | refine brs ?_ | (first | refine Br.mkN (fun h => ?_) (fun h => ?_) | refine Br.mk (fun h => ?_) (fun h => ?_)) <;> (try (first | contradiction | (exfalso; omega) | (exfalso; simp at h; done))))
              | refine stp ?_
              | (show CallT _ 52 _ _ _; refine CA (h := rnumY_ok hm ?_)))
            all_goals (show TurnG _ _ _ _; exact turn (n1 - 1) ⟨i + 1, { ai with xx := false }, by omega, hf, hz2, rfl, rfl, rfl, rfl, rfl, rfl, trivial⟩)
          · split at h2
            · rename_i h0
              subst h0
              cases h2
              repeat' (first
                | (show evG _ _ _ _ _ _ _; first | refine G_add64 ?_ | refine G_pure0 ?_ | refine G_load ?_ | refine evG_nil ?_ | refine G_br ?_ ?_ | refine G_field ?_ | refine G_pure ?_ | refine G_store ?_ | refine G_loadV ?_ | refine G_loadV0 ?_ | refine G_loadV2 ?_ | refine G_not ?_ | refine G_index ?_ | refine G_indexA ?_ | refine G_indexS ?_ | refine G_build ?_ | refine G_cat ?_ | refine G_eql_agg ?_ | refine G_neq_agg ?_ | refine G_call ?_ | refine G_call0 ?_ | (refine G_alloc ?_; intro _) | (refine G_indexV ?_; intro _ _ hA; subst hA) | refine G_skip ?_ | refine G_skip0 ?_)
                | (show spl _ _ _; first | refine spl_no rfl ?_ | refine spl_yes rfl ?_)
                | (show evC _ _ _ _ _; first | refine c_seq ?_ | refine c_region (by exact rfl) ?_ | refine c_cond (by exact rfl) ?_ | refine c_ret ?_ | refine c_skip ?_ | refine c_block ?_ | refine c_exit ?_ | refine std ?_)
                | (show Br _ _ _; first | refine Br.t (by decide +kernel) ?_ | refine Br.f (by decide +kernel) ?_ | refine Br.t rfl ?_ | refine Br.f rfl ?_ | refine brs ?_ | (first | refine Br.mkN (fun h => ?_) (fun h => ?_) | refine Br.mk (fun h => ?_) (fun h => ?_)) <;> (try (first | contradiction | (exfalso; omega) | (exfalso; simp at h; done))))
                | refine stp ?_
                | (show CallT _ 52 _ _ _; refine CA (h := rnumY_ok hm ?_)))
              all_goals (show TurnG _ _ _ _; exact turn (n1 - 1) ⟨i + 1, { ai with xx := true }, by omega, hf, hz2, rfl, rfl, rfl, rfl, rfl, rfl, trivial⟩)
            · cases h2
        case inr.inr.inr.inr.inr.inr.inr.inr.inl =>
          obtain ⟨m, hm, rfl⟩ := Option.map_eq_some_iff.1 hs1
          have e1 := zer_xs hz (o3 hc).1
          have e2 := zer_xi hz (o3 hc).2
          repeat' (first
            | (show evG _ _ _ _ _ _ _; first | refine G_add64 ?_ | refine G_pure0 ?_ | refine G_load ?_ | refine evG_nil ?_ | refine G_br ?_ ?_ | refine G_field ?_ | refine G_pure ?_ | refine G_store ?_ | refine G_loadV ?_ | refine G_loadV0 ?_ | refine G_loadV2 ?_ | refine G_not ?_ | refine G_index ?_ | refine G_indexA ?_ | refine G_indexS ?_ | refine G_build ?_ | refine G_cat ?_ | refine G_eql_agg ?_ | refine G_neq_agg ?_ | refine G_call ?_ | refine G_call0 ?_ | (refine G_alloc ?_; intro _) | (refine G_indexV ?_; intro _ _ hA; subst hA) | refine G_skip ?_ | refine G_skip0 ?_)
            | (show spl _ _ _; first | refine spl_no rfl ?_ | refine spl_yes rfl ?_)
            | (show evC _ _ _ _ _; first | refine c_seq ?_ | refine c_region (by exact rfl) ?_ | refine c_cond (by exact rfl) ?_ | refine c_ret ?_ | refine c_skip ?_ | refine c_block ?_ | refine c_exit ?_ | refine std ?_)
            | (show Br _ _ _; first | refine Br.t (by decide +kernel) ?_ | refine Br.f (by decide +kernel) ?_ | refine Br.t rfl ?_ | refine Br.f rfl ?_ | refine brs ?_ | (first | refine Br.mkN (fun h => ?_) (fun h => ?_) | refine Br.mk (fun h => ?_) (fun h => ?_)) <;> (try (first | contradiction | (exfalso; omega) | (exfalso; simp at h; done))))
            | refine stp ?_
            | (show CallT _ 52 _ _ _; refine CA (h := rnumY_ok hm ?_)))
          all_goals (show TurnG _ _ _ _; exact turn (n1 - 1) ⟨i + 1, { ai with xw := m }, by omega, hf, hz2, by simp only [e1, e2]; rfl, rfl, rfl, rfl, rfl, rfl, trivial⟩)
        case inr.inr.inr.inr.inr.inr.inr.inr.inr.inl =>
          obtain ⟨m, hm, rfl⟩ := Option.map_eq_some_iff.1 hs1
          have e2 := zer_xi hz (o4 hc)
          repeat' (first
            | (show evG _ _ _ _ _ _ _; first | refine G_add64 ?_ | refine G_pure0 ?_ | refine G_load ?_ | refine evG_nil ?_ | refine G_br ?_ ?_ | refine G_field ?_ | refine G_pure ?_ | refine G_store ?_ | refine G_loadV ?_ | refine G_loadV0 ?_ | refine G_loadV2 ?_ | refine G_not ?_ | refine G_index ?_ | refine G_indexA ?_ | refine G_indexS ?_ | refine G_build ?_ | refine G_cat ?_ | refine G_eql_agg ?_ | refine G_neq_agg ?_ | refine G_call ?_ | refine G_call0 ?_ | (refine G_alloc ?_; intro _) | (refine G_indexV ?_; intro _ _ hA; subst hA) | refine G_skip ?_ | refine G_skip0 ?_)
            | (show spl _ _ _; first | refine spl_no rfl ?_ | refine spl_yes rfl ?_)
            | (show evC _ _ _ _ _; first | refine c_seq ?_ | refine c_region (by exact rfl) ?_ | refine c_cond (by exact rfl) ?_ | refine c_ret ?_ | refine c_skip ?_ | refine c_block ?_ | refine c_exit ?_ | refine std ?_)
            | (show Br _ _ _; first | refine Br.t (by decide +kernel) ?_ | refine Br.f (by decide +kernel) ?_ | refine Br.t rfl ?_ | refine Br.f rfl ?_ | refine brs ?_ | (first | refine Br.mkN (fun h => ?_) (fun h => ?_) | refine Br.mk (fun h => ?_) (fun h => ?_)) <;> (try (first | contradiction | (exfalso; omega) | (exfalso; simp at h; done))))
            | refine stp ?_
            | (show CallT _ 52 _ _ _; refine CA (h := rnumY_ok hm ?_)))
          all_goals (show TurnG _ _ _ _; exact turn (n1 - 1) ⟨i + 1, { ai with xs := m }, by omega, hf, hz2, by simp only [e2]; rfl, rfl, rfl, rfl, rfl, rfl, trivial⟩)
        all_goals
          obtain ⟨m, hm, rfl⟩ := Option.map_eq_some_iff.1 hs1
          repeat' (first
            | (show evG _ _ _ _ _ _ _; first | refine G_add64 ?_ | refine G_pure0 ?_ | refine G_load ?_ | refine evG_nil ?_ | refine G_br ?_ ?_ | refine G_field ?_ | refine G_pure ?_ | refine G_store ?_ | refine G_loadV ?_ | refine G_loadV0 ?_ | refine G_loadV2 ?_ | refine G_not ?_ | refine G_index ?_ | refine G_indexA ?_ | refine G_indexS ?_ | refine G_build ?_ | refine G_cat ?_ | refine G_eql_agg ?_ | refine G_neq_agg ?_ | refine G_call ?_ | refine G_call0 ?_ | (refine G_alloc ?_; intro _) | (refine G_indexV ?_; intro _ _ hA; subst hA) | refine G_skip ?_ | refine G_skip0 ?_)
            | (show spl _ _ _; first | refine spl_no rfl ?_ | refine spl_yes rfl ?_)
            | (show evC _ _ _ _ _; first | refine c_seq ?_ | refine c_region (by exact rfl) ?_ | refine c_cond (by exact rfl) ?_ | refine c_ret ?_ | refine c_skip ?_ | refine c_block ?_ | refine c_exit ?_ | refine std ?_)
            | (show Br _ _ _; first | refine Br.t (by decide +kernel) ?_ | refine Br.f (by decide +kernel) ?_ | refine Br.t rfl ?_ | refine Br.f rfl ?_ | refine brs ?_ | (first | refine Br.mkN (fun h => ?_) (fun h => ?_) | refine Br.mk (fun h => ?_) (fun h => ?_)) <;> (try (first | contradiction | (exfalso; omega) | (exfalso; simp at h; done))))
            | refine stp ?_
            | (show CallT _ 52 _ _ _; refine CA (h := rnumY_ok hm ?_)))
          all_goals (show TurnG _ _ _ _; exact turn (n1 - 1) ⟨i + 1, _, by omega, hf, hz2, rfl, rfl, rfl, rfl, rfl, rfl, trivial⟩)
    · have hi2 : i = (wdF k.toNat).length := by omega
      rw [fold_end hi2 (by omega)] at hf
      cases hf
  · refine callT_intro mixed Tryz.func29 rfl (by decide) (by decide +kernel) (by exact Nat.le_of_ble_eq_true rfl) ?_
    repeat' (first
      | (show evG _ _ _ _ _ _ _; first | refine G_add64 ?_ | refine G_pure0 ?_ | refine G_load ?_ | refine evG_nil ?_ | refine G_br ?_ ?_ | refine G_field ?_ | refine G_pure ?_ | refine G_store ?_ | refine G_loadV ?_ | refine G_loadV0 ?_ | refine G_loadV2 ?_ | refine G_not ?_ | refine G_index ?_ | refine G_indexA ?_ | refine G_indexS ?_ | refine G_build ?_ | refine G_cat ?_ | refine G_eql_agg ?_ | refine G_neq_agg ?_ | refine G_call ?_ | refine G_call0 ?_ | (refine G_alloc ?_; intro _) | (refine G_indexV ?_; intro _ _ hA; subst hA) | refine G_skip ?_ | refine G_skip0 ?_)
      | (show spl _ _ _; first | refine spl_no rfl ?_ | refine spl_yes rfl ?_)
      | (show evC _ _ _ _ _; first | refine c_seq ?_ | refine c_region (by exact rfl) ?_ | refine c_cond (by exact rfl) ?_ | refine c_ret ?_ | refine c_skip ?_ | refine c_block ?_ | refine c_exit ?_ | refine std ?_)
      | (show Br _ _ _; first | refine Br.t rfl ?_ | refine Br.f rfl ?_ | refine brs ?_ | (first | refine Br.mkN (fun h => ?_) (fun h => ?_) | refine Br.mk (fun h => ?_) (fun h => ?_)) <;> (try (first | contradiction | (exfalso; omega) | (exfalso; simp at h; done))))
      | refine stp ?_
      | (show CallT _ 42 _ _ _; refine CA (h := rflds_ok hk ?_)))
    all_goals first
      | (show retC _ _ _ _ _ _; refine RETC ?_; exact ret_done (hK _ _ _ _ _ _ _ _ _ _ _ _))
      | (exfalso; omega)
end Go.Proofs.YtiofdmjecjcdbaaGreatDoor

