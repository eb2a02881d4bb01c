/- Script: Line: lemmas; each with the conditions that it states. -/
import Derived.Test.YtiofdmjecjcdbaaGreatDoorFh
import Derived.Test.YtiofdmjecjcdbaaGreatDoorG9

namespace Go.Proofs.YtiofdmjecjcdbaaGreatDoor
open Go Go.Proofs Go.Sl
set_option maxRecDepth 100000
set_option maxHeartbeats 4000000
set_option linter.unusedSimpArgs false
set_option linter.unusedVariables false
attribute [local irreducible] evG evC spl thenC inBlockC noGotoC CallT retC RetG TurnG CutG pt ro exP star sep pureP
variable {R C : List HP} {K : Value → List HP → Prop}
theorem AC_ext {a b : AC} : a = b ↔ a.kd = b.kd ∧ a.sd = b.sd ∧ a.id = b.id ∧ a.n = b.n ∧ a.cd = b.cd ∧ a.s = b.s ∧ a.on = b.on ∧ a.ww = b.ww ∧ a.xx = b.xx ∧ a.xw = b.xw ∧ a.xs = b.xs ∧ a.xi = b.xi := by
  cases a; cases b; simp
/-- are two acts the same? -/
theorem eqV_act (a b : AC) : ∃ r, eqV Tryz.prog 20 28 (.agg #[.int .i64 a.kd, .int .i64 a.sd, .int .i64 a.id, .int .i64 a.n, .int .i64 a.cd, .string a.s, .int .i64 a.on, .int .i64 a.ww, .bool a.xx, .int .i64 a.xw, .int .i64 a.xs, .int .i64 a.xi]) (.agg #[.int .i64 b.kd, .int .i64 b.sd, .int .i64 b.id, .int .i64 b.n, .int .i64 b.cd, .string b.s, .int .i64 b.on, .int .i64 b.ww, .bool b.xx, .int .i64 b.xw, .int .i64 b.xs, .int .i64 b.xi]) = some r ∧ (r = true ↔ a = b) := by
  refine ⟨_, rfl, ?_⟩
  rw [AC_ext]
  simp [Bool.and_eq_true, and_assoc]
  intro _ _ _ _ _ _ _ _ _ _ _
  exact ⟨tl_inj, fun h => by rw [h]⟩
theorem fld_len {a : AC} (ha : InA a) (hs : a.s.size ≤ 600) (c : UInt8) : (fld a c).length ≤ 1801 := by
  have hd : ∀ n, inR n → (dgL n).length ≤ 20 := fun n hn => by
    obtain ⟨h0, h1⟩ := hn
    unfold dgL
    split
    · have := upL_len 18 (-n).toNat (by omega)
      simp; omega
    · have := upL_len 18 n.toNat (by omega)
      omega
  have ht : (txtL a.s.data.toList).length ≤ 1801 := by
    unfold txtL
    split
    · simp
    · have := esc_le a.s.data.toList
      rw [bqlen] at this
      omega
  obtain ⟨h1, h2, h3, h4, h5, h6, h7, h8, h9⟩ := ha
  have e1 := hd _ h1
  have e2 := hd _ h2
  have e3 := hd _ h3
  have e4 := hd _ h4
  have e5 := hd _ h5
  have e6 := hd _ h6
  have e7 := hd _ h7
  have e8 := hd _ h8
  have e9 := hd _ h9
  unfold fld
  repeat' split
  all_goals first | omega | simp
theorem lineP_len {a : AC} (h : okK a) (ha : InA a) : ∀ p ∈ lineP a, p.length ≤ 1801 := fun p hp => by
  obtain ⟨h1, h2, h3⟩ := h
  rcases List.mem_cons.1 hp with rfl | hp
  · have := wdN_len a.kd.toNat (by omega); omega
  · obtain ⟨c, _, rfl⟩ := List.mem_map.1 hp
    exact fld_len ha h3 c
theorem lineP_n {a : AC} (h : okK a) : (lineP a).length ≤ 7 := by
  obtain ⟨h1, h2, h3⟩ := h
  have := wdF_len a.kd.toNat (by omega)
  simp [lineP]; omega
theorem lineS_len {a : AC} (h : okK a) (ha : InA a) : (lineS a).length ≤ 12614 := by
  have := joi_len (c := 32) (lineP a) (lineP_len h ha)
  have h7 := lineP_n h
  have : (lineP a).length * (1801 + 1) ≤ 7 * 1802 := Nat.mul_le_mul_right _ h7
  unfold lineS
  omega
theorem fld_snoc {a : AC} {w : List UInt8} {cs : List UInt8} {i : Nat} {c : UInt8} (h : cs[i]? = some c) : (w :: (cs.take (i + 1)).map (fld a)).map bq = (w :: (cs.take i).map (fld a)).map bq ++ [bq (fld a c)] := by
  rw [List.take_add_one, h]
  simp
set_option maxHeartbeats 40000000 in
theorem lineG_ok {a : AC} (h : okK a) (ha : InA a) (hY : cano a = a → K (.tuple #[.string (bq (lineS a)), .int .i64 0]) R) (hN : cano a ≠ a → K (.tuple #[.string ⟨#[]⟩, .int .i64 30]) R) : CallT Tryz.prog 18 #[.agg #[.int .i64 a.kd, .int .i64 a.sd, .int .i64 a.id, .int .i64 a.n, .int .i64 a.cd, .string a.s, .int .i64 a.on, .int .i64 a.ww, .bool a.xx, .int .i64 a.xw, .int .i64 a.xs, .int .i64 a.xi]] R K := by
  have hpr := prs_line h ha
  have hll := lineS_len h ha
  have hll2 : (lineS a).length ≤ 1000000 := by omega
  have hPn : lineP a ≠ [] := by simp [lineP]
  have hP7 := lineP_n h
  obtain ⟨h1, h2, h3⟩ := h
  have hwp := wpartI h1 h2
  have hk15 : a.kd.toNat < 15 := by omega
  have hF := wdF_L a.kd.toNat hk15
  have hfl := wdF_len a.kd.toNat hk15
  have hfs := bq_size (wdF a.kd.toNat)
  have h36 : a.s.size ≤ 1000000 := by omega
  obtain ⟨r, hr1, hr2⟩ := eqV_act a (cano a)
  refine callT_intro mixed Tryz.func18 rfl (by decide) (by decide +kernel) (by exact Nat.le_of_ble_eq_true rfl) ?_
  repeat' (first
    | (show evG _ _ _ _ _ _ _; refine G_indexArr (hv := hwp) ?_)
    | (show evG _ _ _ _ _ _ _; first | refine G_add64 ?_ | refine G_pure0 ?_ | refine G_load ?_ | refine evG_nil ?_ | refine G_br ?_ ?_ | refine G_field ?_ | refine G_pure ?_ | refine G_store ?_ | refine G_loadV ?_ | refine G_loadV0 ?_ | refine G_loadV2 ?_ | (refine G_append ?_; intro _ _) | (refine G_appendN ?_; intro _ _) | refine G_indexS ?_ | refine G_cat ?_ | refine G_neq_agg ?_ | refine G_call ?_ | refine G_call0 ?_ | (refine G_box ?_; intro _) | (refine G_alloc ?_; intro _) | (refine G_buildSlice ?_; intro _) | refine G_skip ?_ | refine G_skip0 ?_)
    | (show spl _ _ _; first | refine spl_no rfl ?_ | refine spl_yes rfl ?_)
    | (show evC _ _ _ _ _; first | refine c_seq ?_ | refine c_region (by exact rfl) ?_ | refine c_cond (by exact rfl) ?_ | refine c_ret ?_ | refine c_skip ?_ | refine c_block ?_ | refine c_exit ?_ | (show evC _ (.region 3 _ true) _ _ _; refine c_drawT (t := (.br (.st 0 2 (.st 4 2 (.st 1 2 (.st 2 2 (.st 3 1 (.st 5 1 .nil)))))) (.st 4 2 (.st 0 2 (.st 1 2 (.st 2 2 (.st 3 1 (.st 5 1 .nil)))))))) (by kernel_rfl) (by decide +kernel) (by exact rfl) ?_) | (show evC _ (.region 8 _ true) _ _ _; refine c_draw (l := [(1, 0), (2, 0), (3, 0), (4, 0), (5, 0), (6, 1), (0, 1), (7, 1), (8, 0)]) (by decide +kernel) (by decide +kernel) (by exact rfl) ?_) | refine std ?_)
    | (show Br _ _ _; first | refine Br.t rfl ?_ | refine Br.f rfl ?_ | refine brs ?_ | (first | refine Br.mkN (fun h => ?_) (fun h => ?_) | refine Br.mk (fun h => ?_) (fun h => ?_)) <;> (try (first | contradiction | (exfalso; omega) | (exfalso; simp at h; done))))
    | refine stp ?_
    | (show CallT _ 25 _ _ _; refine CA (h := words_ok ?_)))
  all_goals
    rename_i t1 _ _ t4 r5
    refine evC_ent (C' := row (some ⟨r5, 0, none⟩) 1 9 sgC [bq (wdN a.kd.toNat)] :: pt t4 [.string (bq (wdN a.kd.toNat)), .string (bq (wdF a.kd.toNat))] 61 :: pt t1 [.int .i64 a.kd, .int .i64 a.sd, .int .i64 a.id, .int .i64 a.n, .int .i64 a.cd, .string a.s, .int .i64 a.on, .int .i64 a.ww, .bool a.xx, .int .i64 a.xw, .int .i64 a.xs, .int .i64 a.xi] 28 :: R) (Ent.trans (B := pt r5 [.string (bq (wdN a.kd.toNat))] 9 :: pt t4 [.string (bq (wdN a.kd.toNat)), .string (bq (wdF a.kd.toNat))] 61 :: pt t1 [.int .i64 a.kd, .int .i64 a.sd, .int .i64 a.id, .int .i64 a.n, .int .i64 a.cd, .string a.s, .int .i64 a.on, .int .i64 a.ww, .bool a.xx, .int .i64 a.xw, .int .i64 a.xs, .int .i64 a.xi] 28 :: R) (by exact entA) (Ent.ptRow1 (E := sgC) (xs := [bq (wdN a.kd.toNat)]) (v := Value.string) (fun _ => rfl) rfl)) ?_
    refine LOOP (fun m f C' => ∃ (i n c : Nat) (A : Option Addr), i + m = (wdF a.kd.toNat).length ∧ n = i + 1 ∧ C' = row A c 9 sgC ((wdN a.kd.toNat :: ((wdF a.kd.toNat).take i).map (fld a)).map bq) :: pt t4 [.string (bq (wdN a.kd.toNat)), .string (bq (wdF a.kd.toNat))] 61 :: pt t1 [.int .i64 a.kd, .int .i64 a.sd, .int .i64 a.id, .int .i64 a.n, .int .i64 a.cd, .string a.s, .int .i64 a.on, .int .i64 a.ww, .bool a.xx, .int .i64 a.xw, .int .i64 a.xs, .int .i64 a.xi] 28 :: R ∧ Agree f [(1, .pointer (some ⟨t1, 0, none⟩)), (4, .pointer (some ⟨t4, 0, none⟩)), (5, .slice A n c), (33, .int .i64 (wdF a.kd.toNat).length), (34, .int .i64 i)]) (wdF a.kd.toNat).length (turn (wdF a.kd.toNat).length ⟨0, 1, 1, some ⟨r5, 0, none⟩, by omega, rfl, rfl, rfl, rfl, rfl, by rw [← hfs]; rfl, rfl, trivial⟩) ?_
    rintro n1 f C' ⟨i, n, c, A, hi, hn, rfl, hA⟩
    refine c_fr _ hA ?_
    simp only [updL]
    have hrl : ((wdN a.kd.toNat :: ((wdF a.kd.toNat).take i).map (fld a)).map bq).length = n := by simp; omega
    by_cases hlt : i < (wdF a.kd.toNat).length
    · obtain ⟨d, hd⟩ : ∃ c, (wdF a.kd.toNat)[i]? = some c := ⟨_, List.getElem?_eq_getElem hlt⟩
      have hcL : isL d := hF d (List.mem_of_getElem? hd)
      have x1 : (bq (wdF a.kd.toNat))[((i : Nat) : Int).toNat]? = some d := by rw [bget_bq]; exact hd
      have hsn := fld_snoc (a := a) (w := wdN a.kd.toNat) hd
      repeat' (first
        | (show evG _ _ _ _ _ _ _; first | refine G_add64 ?_ | refine G_pure0 ?_ | refine G_load ?_ | refine evG_nil ?_ | refine G_br ?_ ?_ | refine G_field ?_ | refine G_pure ?_ | refine G_store ?_ | refine G_loadV ?_ | refine G_loadV0 ?_ | refine G_loadV2 ?_ | (refine G_append ?_; intro _ _) | (refine G_appendN ?_; intro _ _) | refine G_indexS ?_ | refine G_cat ?_ | refine G_neq_agg ?_ | refine G_call ?_ | refine G_call0 ?_ | (refine G_box ?_; intro _) | (refine G_alloc ?_; intro _) | (refine G_buildSlice ?_; intro _) | refine G_skip ?_ | refine G_skip0 ?_)
        | (show spl _ _ _; first | refine spl_no rfl ?_ | refine spl_yes rfl ?_)
        | (show evC _ _ _ _ _; first | refine c_seq ?_ | refine c_region (by exact rfl) ?_ | refine c_cond (by exact rfl) ?_ | refine c_ret ?_ | refine c_skip ?_ | refine c_block ?_ | refine c_exit ?_ | (show evC _ (.region 3 _ true) _ _ _; refine c_drawT (t := (.br (.st 0 2 (.st 4 2 (.st 1 2 (.st 2 2 (.st 3 1 (.st 5 1 .nil)))))) (.st 4 2 (.st 0 2 (.st 1 2 (.st 2 2 (.st 3 1 (.st 5 1 .nil)))))))) (by kernel_rfl) (by decide +kernel) (by exact rfl) ?_) | (show evC _ (.region 8 _ true) _ _ _; refine c_draw (l := [(1, 0), (2, 0), (3, 0), (4, 0), (5, 0), (6, 1), (0, 1), (7, 1), (8, 0)]) (by decide +kernel) (by decide +kernel) (by exact rfl) ?_) | refine std ?_)
        | (show Br _ _ _; first | refine Br.t rfl ?_ | refine Br.f rfl ?_ | refine brs ?_ | (first | refine Br.mkN (fun h => ?_) (fun h => ?_) | refine Br.mk (fun h => ?_) (fun h => ?_)) <;> (try (first | contradiction | (exfalso; omega) | (exfalso; simp at h; done))))
        | refine stp ?_
        | (show CallT _ 41 _ _ _; refine CA (h := field_ok hcL ha h36 (fun _ => ?_))))
      all_goals (show TurnG _ _ _ _; exact turn (n1 - 1) ⟨i + 1, _, _, _, by omega, (by simp; omega), by rw [hsn], rfl, rfl, rfl, rfl, rfl, trivial⟩)
    · have hi2 : i = (wdF a.kd.toNat).length := by omega
      subst hi2
      rw [List.take_length] at hrl ⊢
      have hn2 : (lineP a).length = n := by simpa [lineP] using hrl
      have hc2 : n ≤ 1000000 := by omega
      have hjl : (joi 32 (lineP a)).length ≤ 100000000 := by have : (joi 32 (lineP a)).length = (lineS a).length := rfl
                                                             omega
      cases r
      · have hne : cano a ≠ a := fun e => by cases hr2.2 e.symm
        repeat' (first
          | (show evG _ _ _ _ _ _ _; refine G_neq_agg (he := hr1) ?_)
          | (show evG _ _ _ _ _ _ _; first | refine G_add64 ?_ | refine G_pure0 ?_ | refine G_load ?_ | refine evG_nil ?_ | refine G_br ?_ ?_ | refine G_field ?_ | refine G_pure ?_ | refine G_store ?_ | refine G_loadV ?_ | refine G_loadV0 ?_ | refine G_loadV2 ?_ | (refine G_append ?_; intro _ _) | (refine G_appendN ?_; intro _ _) | refine G_indexS ?_ | refine G_cat ?_ | refine G_neq_agg ?_ | refine G_call ?_ | refine G_call0 ?_ | (refine G_box ?_; intro _) | (refine G_alloc ?_; intro _) | (refine G_buildSlice ?_; intro _) | refine G_skip ?_ | refine G_skip0 ?_)
          | (show spl _ _ _; first | refine spl_no rfl ?_ | refine spl_yes rfl ?_)
          | (show evC _ _ _ _ _; first | refine c_seq ?_ | refine c_region (by exact rfl) ?_ | refine c_cond (by exact rfl) ?_ | refine c_ret ?_ | refine c_skip ?_ | refine c_block ?_ | refine c_exit ?_ | (show evC _ (.region 3 _ true) _ _ _; refine c_drawT (t := (.br (.st 0 2 (.st 4 2 (.st 1 2 (.st 2 2 (.st 3 1 (.st 5 1 .nil)))))) (.st 4 2 (.st 0 2 (.st 1 2 (.st 2 2 (.st 3 1 (.st 5 1 .nil)))))))) (by kernel_rfl) (by decide +kernel) (by exact rfl) ?_) | (show evC _ (.region 8 _ true) _ _ _; refine c_draw (l := [(1, 0), (2, 0), (3, 0), (4, 0), (5, 0), (6, 1), (0, 1), (7, 1), (8, 0)]) (by decide +kernel) (by decide +kernel) (by exact rfl) ?_) | refine std ?_)
          | (show Br _ _ _; first | refine Br.t rfl ?_ | refine Br.f rfl ?_ | refine brs ?_ | (first | refine Br.mkN (fun h => ?_) (fun h => ?_) | refine Br.mk (fun h => ?_) (fun h => ?_)) <;> (try (first | contradiction | (exfalso; omega) | (exfalso; simp at h; done))))
          | refine stp ?_
          | (show CallT _ 37 _ _ _; refine CA (h := joins_ok (ps := lineP a) hn2 hPn hc2 hjl ?_))
          | (show CallT _ 10 _ _ _; refine CA (h := parseY_ok (l := lineS a) hll2 hpr ?_)))
        all_goals (show retC _ _ _ _ _ _; refine RETC ?_; exact ret_done (hN hne))
      · have hee : cano a = a := (hr2.1 rfl).symm
        repeat' (first
          | (show evG _ _ _ _ _ _ _; refine G_neq_agg (he := hr1) ?_)
          | (show evG _ _ _ _ _ _ _; first | refine G_add64 ?_ | refine G_pure0 ?_ | refine G_load ?_ | refine evG_nil ?_ | refine G_br ?_ ?_ | refine G_field ?_ | refine G_pure ?_ | refine G_store ?_ | refine G_loadV ?_ | refine G_loadV0 ?_ | refine G_loadV2 ?_ | (refine G_append ?_; intro _ _) | (refine G_appendN ?_; intro _ _) | refine G_indexS ?_ | refine G_cat ?_ | refine G_neq_agg ?_ | refine G_call ?_ | refine G_call0 ?_ | (refine G_box ?_; intro _) | (refine G_alloc ?_; intro _) | (refine G_buildSlice ?_; intro _) | refine G_skip ?_ | refine G_skip0 ?_)
          | (show spl _ _ _; first | refine spl_no rfl ?_ | refine spl_yes rfl ?_)
          | (show evC _ _ _ _ _; first | refine c_seq ?_ | refine c_region (by exact rfl) ?_ | refine c_cond (by exact rfl) ?_ | refine c_ret ?_ | refine c_skip ?_ | refine c_block ?_ | refine c_exit ?_ | (show evC _ (.region 3 _ true) _ _ _; refine c_drawT (t := (.br (.st 0 2 (.st 4 2 (.st 1 2 (.st 2 2 (.st 3 1 (.st 5 1 .nil)))))) (.st 4 2 (.st 0 2 (.st 1 2 (.st 2 2 (.st 3 1 (.st 5 1 .nil)))))))) (by kernel_rfl) (by decide +kernel) (by exact rfl) ?_) | (show evC _ (.region 8 _ true) _ _ _; refine c_draw (l := [(1, 0), (2, 0), (3, 0), (4, 0), (5, 0), (6, 1), (0, 1), (7, 1), (8, 0)]) (by decide +kernel) (by decide +kernel) (by exact rfl) ?_) | refine std ?_)
          | (show Br _ _ _; first | refine Br.t rfl ?_ | refine Br.f rfl ?_ | refine brs ?_ | (first | refine Br.mkN (fun h => ?_) (fun h => ?_) | refine Br.mk (fun h => ?_) (fun h => ?_)) <;> (try (first | contradiction | (exfalso; omega) | (exfalso; simp at h; done))))
          | refine stp ?_
          | (show CallT _ 37 _ _ _; refine CA (h := joins_ok (ps := lineP a) hn2 hPn hc2 hjl ?_))
          | (show CallT _ 10 _ _ _; refine CA (h := parseY_ok (l := lineS a) hll2 hpr ?_)))
        all_goals (show retC _ _ _ _ _ _; refine RETC ?_; exact ret_done (hY hee))
theorem lineX_ok {a : AC} (h : ¬ okK a) (hK : K (.tuple #[.string ⟨#[]⟩, .int .i64 30]) R) : CallT Tryz.prog 18 #[.agg #[.int .i64 a.kd, .int .i64 a.sd, .int .i64 a.id, .int .i64 a.n, .int .i64 a.cd, .string a.s, .int .i64 a.on, .int .i64 a.ww, .bool a.xx, .int .i64 a.xw, .int .i64 a.xs, .int .i64 a.xi]] R K := by
  unfold okK at h
  refine callT_intro mixed Tryz.func18 rfl (by decide) (by decide +kernel) (by exact Nat.le_of_ble_eq_true rfl) ?_
  by_cases h1 : a.kd < 1
  · repeat' (first
      | (show evG _ _ _ _ _ _ _; first | refine G_add64 ?_ | refine G_pure0 ?_ | refine G_load ?_ | refine evG_nil ?_ | refine G_br ?_ ?_ | refine G_field ?_ | refine G_pure ?_ | refine G_store ?_ | refine G_loadV ?_ | refine G_loadV0 ?_ | refine G_loadV2 ?_ | (refine G_append ?_; intro _ _) | (refine G_appendN ?_; intro _ _) | refine G_indexS ?_ | refine G_cat ?_ | refine G_neq_agg ?_ | refine G_call ?_ | refine G_call0 ?_ | (refine G_box ?_; intro _) | (refine G_alloc ?_; intro _) | (refine G_buildSlice ?_; intro _) | refine G_skip ?_ | refine G_skip0 ?_)
      | (show spl _ _ _; first | refine spl_no rfl ?_ | refine spl_yes rfl ?_)
      | (show evC _ _ _ _ _; first | refine c_seq ?_ | refine c_region (by exact rfl) ?_ | refine c_cond (by exact rfl) ?_ | refine c_ret ?_ | refine c_skip ?_ | refine c_block ?_ | refine c_exit ?_ | (show evC _ (.region 3 _ true) _ _ _; refine c_drawT (t := (.br (.st 0 2 (.st 4 2 (.st 1 2 (.st 2 2 (.st 3 1 (.st 5 1 .nil)))))) (.st 4 2 (.st 0 2 (.st 1 2 (.st 2 2 (.st 3 1 (.st 5 1 .nil)))))))) (by kernel_rfl) (by decide +kernel) (by exact rfl) ?_) | (show evC _ (.region 8 _ true) _ _ _; refine c_draw (l := [(1, 0), (2, 0), (3, 0), (4, 0), (5, 0), (6, 1), (0, 1), (7, 1), (8, 0)]) (by decide +kernel) (by decide +kernel) (by exact rfl) ?_) | refine std ?_)
      | (show Br _ _ _; first | refine Br.t rfl ?_ | refine Br.f rfl ?_ | refine brs ?_ | (first | refine Br.mkN (fun h => ?_) (fun h => ?_) | refine Br.mk (fun h => ?_) (fun h => ?_)) <;> (try (first | contradiction | (exfalso; omega) | (exfalso; simp at h; done))))
      | refine stp ?_)
    all_goals (show retC _ _ _ _ _ _; refine RETC ?_; exact ret_done (hK))
  · by_cases h2 : 14 < a.kd
    · repeat' (first
        | (show evG _ _ _ _ _ _ _; first | refine G_add64 ?_ | refine G_pure0 ?_ | refine G_load ?_ | refine evG_nil ?_ | refine G_br ?_ ?_ | refine G_field ?_ | refine G_pure ?_ | refine G_store ?_ | refine G_loadV ?_ | refine G_loadV0 ?_ | refine G_loadV2 ?_ | (refine G_append ?_; intro _ _) | (refine G_appendN ?_; intro _ _) | refine G_indexS ?_ | refine G_cat ?_ | refine G_neq_agg ?_ | refine G_call ?_ | refine G_call0 ?_ | (refine G_box ?_; intro _) | (refine G_alloc ?_; intro _) | (refine G_buildSlice ?_; intro _) | refine G_skip ?_ | refine G_skip0 ?_)
        | (show spl _ _ _; first | refine spl_no rfl ?_ | refine spl_yes rfl ?_)
        | (show evC _ _ _ _ _; first | refine c_seq ?_ | refine c_region (by exact rfl) ?_ | refine c_cond (by exact rfl) ?_ | refine c_ret ?_ | refine c_skip ?_ | refine c_block ?_ | refine c_exit ?_ | (show evC _ (.region 3 _ true) _ _ _; refine c_drawT (t := (.br (.st 0 2 (.st 4 2 (.st 1 2 (.st 2 2 (.st 3 1 (.st 5 1 .nil)))))) (.st 4 2 (.st 0 2 (.st 1 2 (.st 2 2 (.st 3 1 (.st 5 1 .nil)))))))) (by kernel_rfl) (by decide +kernel) (by exact rfl) ?_) | (show evC _ (.region 8 _ true) _ _ _; refine c_draw (l := [(1, 0), (2, 0), (3, 0), (4, 0), (5, 0), (6, 1), (0, 1), (7, 1), (8, 0)]) (by decide +kernel) (by decide +kernel) (by exact rfl) ?_) | refine std ?_)
        | (show Br _ _ _; first | refine Br.t rfl ?_ | refine Br.f rfl ?_ | refine brs ?_ | (first | refine Br.mkN (fun h => ?_) (fun h => ?_) | refine Br.mk (fun h => ?_) (fun h => ?_)) <;> (try (first | contradiction | (exfalso; omega) | (exfalso; simp at h; done))))
        | refine stp ?_)
      all_goals (show retC _ _ _ _ _ _; refine RETC ?_; exact ret_done (hK))
    · have h3 : 600 < a.s.size := by omega
      repeat' (first
        | (show evG _ _ _ _ _ _ _; first | refine G_add64 ?_ | refine G_pure0 ?_ | refine G_load ?_ | refine evG_nil ?_ | refine G_br ?_ ?_ | refine G_field ?_ | refine G_pure ?_ | refine G_store ?_ | refine G_loadV ?_ | refine G_loadV0 ?_ | refine G_loadV2 ?_ | (refine G_append ?_; intro _ _) | (refine G_appendN ?_; intro _ _) | refine G_indexS ?_ | refine G_cat ?_ | refine G_neq_agg ?_ | refine G_call ?_ | refine G_call0 ?_ | (refine G_box ?_; intro _) | (refine G_alloc ?_; intro _) | (refine G_buildSlice ?_; intro _) | refine G_skip ?_ | refine G_skip0 ?_)
        | (show spl _ _ _; first | refine spl_no rfl ?_ | refine spl_yes rfl ?_)
        | (show evC _ _ _ _ _; first | refine c_seq ?_ | refine c_region (by exact rfl) ?_ | refine c_cond (by exact rfl) ?_ | refine c_ret ?_ | refine c_skip ?_ | refine c_block ?_ | refine c_exit ?_ | (show evC _ (.region 3 _ true) _ _ _; refine c_drawT (t := (.br (.st 0 2 (.st 4 2 (.st 1 2 (.st 2 2 (.st 3 1 (.st 5 1 .nil)))))) (.st 4 2 (.st 0 2 (.st 1 2 (.st 2 2 (.st 3 1 (.st 5 1 .nil)))))))) (by kernel_rfl) (by decide +kernel) (by exact rfl) ?_) | (show evC _ (.region 8 _ true) _ _ _; refine c_draw (l := [(1, 0), (2, 0), (3, 0), (4, 0), (5, 0), (6, 1), (0, 1), (7, 1), (8, 0)]) (by decide +kernel) (by decide +kernel) (by exact rfl) ?_) | refine std ?_)
        | (show Br _ _ _; first | refine Br.t rfl ?_ | refine Br.f rfl ?_ | refine brs ?_ | (first | refine Br.mkN (fun h => ?_) (fun h => ?_) | refine Br.mk (fun h => ?_) (fun h => ?_)) <;> (try (first | contradiction | (exfalso; omega) | (exfalso; simp at h; done))))
        | refine stp ?_)
      all_goals (show retC _ _ _ _ _ _; refine RETC ?_; exact ret_done (hK))
theorem lineY_ok {a : AC} {l : List UInt8} (ha : InA a) (h : lineF a = some l) (hK : K (.tuple #[.string (bq l), .int .i64 0]) R) : CallT Tryz.prog 18 #[.agg #[.int .i64 a.kd, .int .i64 a.sd, .int .i64 a.id, .int .i64 a.n, .int .i64 a.cd, .string a.s, .int .i64 a.on, .int .i64 a.ww, .bool a.xx, .int .i64 a.xw, .int .i64 a.xs, .int .i64 a.xi]] R K := by
  obtain ⟨⟨h1, h2⟩, rfl⟩ := lineF_some.1 h
  exact lineG_ok h1 ha (fun _ => hK) fun hn => absurd h2 hn
theorem lineN_ok {a : AC} (ha : InA a) (h : lineF a = none) (hK : K (.tuple #[.string ⟨#[]⟩, .int .i64 30]) R) : CallT Tryz.prog 18 #[.agg #[.int .i64 a.kd, .int .i64 a.sd, .int .i64 a.id, .int .i64 a.n, .int .i64 a.cd, .string a.s, .int .i64 a.on, .int .i64 a.ww, .bool a.xx, .int .i64 a.xw, .int .i64 a.xs, .int .i64 a.xi]] R K := by
  by_cases h1 : okK a
  · refine lineG_ok h1 ha (fun hc => ?_) fun _ => hK
    rw [lineF_some.2 ⟨⟨h1, hc⟩, rfl⟩] at h
    cases h
  · exact lineX_ok h1 hK
end Go.Proofs.YtiofdmjecjcdbaaGreatDoor

