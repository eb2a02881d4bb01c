/- Script: the document's Line: lemmas; each with the conditions that it states. -/
import Derived.Test.YtiofdmjecjcdbaaGreatDoorFh
import Derived.Test.YtiofdmjecjcdbaaGreatDoorG16

namespace Go.Proofs.YtiofdmjecjcdbaaGreatDoor
open Go Go.Proofs Go.Sl
set_option maxRecDepth 100000
set_option maxHeartbeats 4000000
set_option linter.unusedSimpArgs false
set_option linter.unusedVariables false
attribute [local irreducible] evG evC spl thenC inBlockC noGotoC CallT retC RetG TurnG CutG pt ro exP star sep pureP
variable {R C : List HP} {K : Value → List HP → Prop}
def cpR (a : AC) (b : AC) (c : UInt8) : AC := if c = 115 ∨ c = 105 ∨ c = 110 ∨ c = 99 ∨ c = 116 then cpA a b c else b
def baseR (a : AC) : AC := (wdF a.kd.toNat).foldl (cpR a) (AC0 a.kd)
theorem finR {a : AC} (h1 : 1 ≤ a.kd) (h2 : a.kd ≤ 14) : ((a.kd = 1 ∨ a.kd = 7) → { baseR a with on := a.on, ww := a.ww, xx := a.xx } = cano a) ∧ (a.kd = 10 → { baseR a with xw := a.xw, xs := a.xs, xi := a.xi } = cano a) ∧ (¬ (a.kd = 1 ∨ a.kd = 7) → ¬ a.kd = 10 → baseR a = cano a) := by
  have : a.kd = 1 ∨ a.kd = 2 ∨ a.kd = 3 ∨ a.kd = 4 ∨ a.kd = 5 ∨ a.kd = 6 ∨ a.kd = 7 ∨ a.kd = 8 ∨ a.kd = 9 ∨ a.kd = 10 ∨ a.kd = 11 ∨ a.kd = 12 ∨ a.kd = 13 ∨ a.kd = 14 := by omega
  cases a
  simp only at this h1 h2 ⊢
  rcases this with rfl | rfl | rfl | rfl | rfl | rfl | rfl | rfl | rfl | rfl | rfl | rfl | rfl | rfl <;> simp +decide [baseR, cano, wdF, cpR, cpA, AC0]
theorem joi_snoc {c : UInt8} {p : List UInt8} : ∀ {ps : List (List UInt8)}, ps ≠ [] → joi c (ps ++ [p]) = joi c ps ++ c :: p
  | [], h => absurd rfl h
  | [q], _ => rfl
  | q :: r :: t, _ => by
    have ih := joi_snoc (c := c) (p := p) (ps := r :: t) (by simp)
    rw [show q :: r :: t ++ [p] = q :: (r :: t ++ [p]) from rfl, joi_cons (by simp), ih, joi_cons (p := q) (q := r :: t) (by simp)]
    simp
theorem line_step {a : AC} {w : List UInt8} {cs : List UInt8} {i : Nat} {c : UInt8} (h : cs[i]? = some c) : bq (joi 32 (w :: (cs.take (i + 1)).map (fld a))) = bq (joi 32 (w :: (cs.take i).map (fld a))) ++ ⟨#[32]⟩ ++ bq (fld a c) := by
  rw [List.take_add_one, h]
  have : w :: ((cs.take i ++ (some c).toList).map (fld a)) = (w :: (cs.take i).map (fld a)) ++ [fld a c] := by simp
  rw [this, joi_snoc (by simp), show (⟨#[32]⟩ : ByteArray) = bq [32] from rfl, bq_app, bq_app]
  simp
theorem base_step {a b : AC} {cs : List UInt8} {i : Nat} {c : UInt8} (h : cs[i]? = some c) : (cs.take (i + 1)).foldl (cpR a) b = cpR a ((cs.take i).foldl (cpR a) b) c := by
  rw [List.take_add_one, h, List.foldl_append]
  rfl
theorem pre_len {a : AC} (h : okK a) (ha : InA a) (i : Nat) : (joi 32 (wdN a.kd.toNat :: ((wdF a.kd.toNat).take i).map (fld a))).length ≤ 12614 := by
  obtain ⟨h1, h2, h3⟩ := h
  have := joi_len (c := 32) (m := 1801) (wdN a.kd.toNat :: ((wdF a.kd.toNat).take i).map (fld a)) fun p hp => by
    rcases List.mem_cons.1 hp with rfl | hp
    · have := wdN_len a.kd.toNat (by omega); omega
    · obtain ⟨c, _, rfl⟩ := List.mem_map.1 hp
      exact fld_len ha h3 c
  have h7 : (wdN a.kd.toNat :: ((wdF a.kd.toNat).take i).map (fld a)).length ≤ 7 := by
    have := wdF_len a.kd.toNat (by omega)
    simp; omega
  have : (wdN a.kd.toNat :: ((wdF a.kd.toNat).take i).map (fld a)).length * (1801 + 1) ≤ 7 * 1802 := Nat.mul_le_mul_right _ h7
  omega
set_option maxHeartbeats 40000000 in
theorem rline_ok {a : AC} (h : okK a) (ha : InA a) (hK : ∀ r, (r = true ↔ cano a = a) → K (.tuple #[.string (bq (lineS a)), .bool r]) R) : CallT Tryz.prog 19 #[.agg #[.int .i64 a.kd, .int .i64 a.sd, .int .i64 a.id, .int .i64 a.n, .int .i64 a.cd, .string a.s, .int .i64 a.on, .int .i64 a.ww, .bool a.xx, .int .i64 a.xw, .int .i64 a.xs, .int .i64 a.xi]] R K := by
  have hpl := pre_len h ha
  have hfl := fld_len ha h.2.2
  obtain ⟨h1, h2, h3⟩ := h
  have hk15 : a.kd.toNat < 15 := by omega
  have hF := wdF_L a.kd.toNat hk15
  have hfs := bq_size (wdF a.kd.toNat)
  have h6 := wdF_len a.kd.toNat hk15
  have hkk : 1 ≤ a.kd ∧ a.kd ≤ 14 := ⟨h1, h2⟩
  obtain ⟨r, hr1, hr2⟩ := eqV_act a (cano a)
  have hK2 := hK r (hr2.trans ⟨fun e => e.symm, fun e => e.symm⟩)
  obtain ⟨f1, f2, f3⟩ := finR h1 h2
  have hin := ha
  obtain ⟨i1, i2, i3, i4, i5, i6, i7, i8, i9⟩ := hin
  have h36 : a.s.size ≤ 1000000 := by omega
  have hdz : ∀ n, inR n → (bq (dgL n)).size ≤ 20 := fun n hn => by
    obtain ⟨h0, h1⟩ := hn
    rw [bq_size]
    unfold dgL
    split
    · have := upL_len 18 (-n).toNat (by omega)
      simp; omega
    · have := upL_len 18 n.toNat (by omega)
      omega
  have htz : (bq (txtL a.s.data.toList)).size ≤ 1801 := by have := hfl 116; rw [bq_size]; exact this
  have y1 := hdz _ i1
  have y2 := hdz _ i2
  have y3 := hdz _ i3
  have y4 := hdz _ i4
  have y5 := hdz _ i5
  have y6 := hdz _ i6
  have y7 := hdz _ i7
  have y8 := hdz _ i8
  have y9 := hdz _ i9
  refine callT_intro mixed Tryz.func19 rfl (by decide) (by decide +kernel) (by exact Nat.le_of_ble_eq_true rfl) ?_
  repeat' (first
    | (show evG _ _ _ _ _ _ _; first | refine G_add64 ?_ | refine G_pure0 ?_ | refine G_load ?_ | refine evG_nil ?_ | refine G_br ?_ ?_ | refine G_field ?_ | refine G_pure ?_ | refine G_store ?_ | refine G_loadV ?_ | refine G_loadV0 ?_ | refine G_loadV2 ?_ | refine G_indexS ?_ | refine G_build ?_ | refine G_cat ?_ | refine G_eql_agg ?_ | refine G_call ?_ | refine G_call0 ?_ | (refine G_box ?_; intro _) | (refine G_alloc ?_; intro _) | refine G_skip ?_ | refine G_skip0 ?_)
    | (show spl _ _ _; first | refine spl_no rfl ?_ | refine spl_yes rfl ?_)
    | (show evC _ _ _ _ _; first | refine c_seq ?_ | refine c_region (by exact rfl) ?_ | refine c_cond (by exact rfl) ?_ | refine c_ret ?_ | refine c_skip ?_ | refine c_block ?_ | refine c_exit ?_ | (show evC _ (.region 11 _ true) _ _ _; refine c_draw (l := [(0, 0), (1, 0), (2, 0), (3, 0), (4, 1), (5, 0)]) (by decide +kernel) (by decide +kernel) (by exact rfl) ?_) | (show evC _ (.region 32 _ true) _ _ _; refine c_draw (l := [(0, 0), (1, 0), (2, 0), (3, 0), (4, 0), (5, 0)]) (by decide +kernel) (by decide +kernel) (by exact rfl) ?_) | refine std ?_)
    | (show Br _ _ _; first | refine Br.t rfl ?_ | refine Br.f rfl ?_ | refine brs ?_ | (first | refine Br.mkN (fun h => ?_) (fun h => ?_) | refine Br.mk (fun h => ?_) (fun h => ?_)) <;> (try (first | contradiction | (exfalso; omega) | (exfalso; simp at h; done))))
    | refine stp ?_
    | (show CallT _ 28 _ _ _; refine CA (h := rname_ok hkk ?_))
    | (show CallT _ 42 _ _ _; refine CA (h := rflds_ok hkk ?_)))
  all_goals
    rename_i t1 _ _ t5
    refine LOOP (fun m f C' => ∃ (i : Nat), i + m = (wdF a.kd.toNat).length ∧ C' = pt t5 [.int .i64 (((wdF a.kd.toNat).take i).foldl (cpR a) (AC0 a.kd)).kd, .int .i64 (((wdF a.kd.toNat).take i).foldl (cpR a) (AC0 a.kd)).sd, .int .i64 (((wdF a.kd.toNat).take i).foldl (cpR a) (AC0 a.kd)).id, .int .i64 (((wdF a.kd.toNat).take i).foldl (cpR a) (AC0 a.kd)).n, .int .i64 (((wdF a.kd.toNat).take i).foldl (cpR a) (AC0 a.kd)).cd, .string (((wdF a.kd.toNat).take i).foldl (cpR a) (AC0 a.kd)).s, .int .i64 (((wdF a.kd.toNat).take i).foldl (cpR a) (AC0 a.kd)).on, .int .i64 (((wdF a.kd.toNat).take i).foldl (cpR a) (AC0 a.kd)).ww, .bool (((wdF a.kd.toNat).take i).foldl (cpR a) (AC0 a.kd)).xx, .int .i64 (((wdF a.kd.toNat).take i).foldl (cpR a) (AC0 a.kd)).xw, .int .i64 (((wdF a.kd.toNat).take i).foldl (cpR a) (AC0 a.kd)).xs, .int .i64 (((wdF a.kd.toNat).take i).foldl (cpR a) (AC0 a.kd)).xi] 28 :: pt t1 [.int .i64 a.kd, .int .i64 a.sd, .int .i64 a.id, .int .i64 a.n, .int .i64 a.cd, .string a.s, .int .i64 a.on, .int .i64 a.ww, .bool a.xx, .int .i64 a.xw, .int .i64 a.xs, .int .i64 a.xi] 28 :: R ∧ Agree f [(1, .pointer (some ⟨t1, 0, none⟩)), (4, .string (bq (joi 32 (wdN a.kd.toNat :: ((wdF a.kd.toNat).take i).map (fld a))))), (5, .pointer (some ⟨t5, 0, none⟩)), (6, .string (bq (wdF a.kd.toNat))), (7, .int .i64 i)]) (wdF a.kd.toNat).length (turn (wdF a.kd.toNat).length ⟨0, by omega, rfl, rfl, rfl, rfl, rfl, rfl, trivial⟩) ?_
    rintro n1 f C' ⟨i, hi, rfl, hA⟩
    refine c_fr _ hA ?_
    simp only [updL]
    by_cases hlt : i < (wdF a.kd.toNat).length
    · obtain ⟨c, hc⟩ : ∃ c, (wdF a.kd.toNat)[i]? = some c := ⟨_, List.getElem?_eq_getElem hlt⟩
      have hcL : isL c := hF c (List.mem_of_getElem? hc)
      have x1 : (bq (wdF a.kd.toNat))[((i : Nat) : Int).toNat]? = some c := by rw [bget_bq]; exact hc
      have hls := line_step (a := a) (w := wdN a.kd.toNat) hc
      have hbs := base_step (a := a) (b := AC0 a.kd) hc
      have z1 := hpl i
      have z2 := hfl c
      have z3 := bq_size (joi 32 (wdN a.kd.toNat :: ((wdF a.kd.toNat).take i).map (fld a)))
      have z4 := bq_size (fld a c)
      have zJ : (bq (joi 32 (wdN a.kd.toNat :: ((wdF a.kd.toNat).take i).map (fld a)))).size ≤ 12614 := by omega
      clear z1 z3
      generalize bq (joi 32 (wdN a.kd.toNat :: ((wdF a.kd.toNat).take i).map (fld a))) = J at zJ hls ⊢
      generalize hB : ((wdF a.kd.toNat).take i).foldl (cpR a) (AC0 a.kd) = B at hbs ⊢
      have hrest : ∀ {R : List HP} {K : Value → List HP → Prop} {d : UInt8}, d = c → (d = 111 ∨ d = 119 ∨ d = 120 ∨ d = 112 ∨ d = 113 ∨ d = 114) → K (.string (bq (fld a c))) R → CallT Tryz.prog 45 #[.agg #[.int .i64 a.kd, .int .i64 a.sd, .int .i64 a.id, .int .i64 a.n, .int .i64 a.cd, .string a.s, .int .i64 a.on, .int .i64 a.ww, .bool a.xx, .int .i64 a.xw, .int .i64 a.xs, .int .i64 a.xi], .int .u8 d.toNat] R K := fun e hd hK => by subst e; exact rrest_ok hd ha hK
      rcases hcL with rfl | rfl | rfl | rfl | rfl | rfl | rfl | rfl | rfl | rfl | rfl
      all_goals
        simp +decide only [cpR, cpA, reduceIte, or_true, true_or, or_false, false_or] at hbs
        have hx : ∀ d : UInt8, fld a d = fld a d := fun _ => rfl
        repeat' (first
          | (show evG _ _ _ _ _ _ _; first | refine G_add64 ?_ | refine G_pure0 ?_ | refine G_load ?_ | refine evG_nil ?_ | refine G_br ?_ ?_ | refine G_field ?_ | refine G_pure ?_ | refine G_store ?_ | refine G_loadV ?_ | refine G_loadV0 ?_ | refine G_loadV2 ?_ | refine G_indexS ?_ | refine G_build ?_ | refine G_cat ?_ | refine G_eql_agg ?_ | refine G_call ?_ | refine G_call0 ?_ | (refine G_box ?_; intro _) | (refine G_alloc ?_; intro _) | refine G_skip ?_ | refine G_skip0 ?_)
          | (show spl _ _ _; first | refine spl_no rfl ?_ | refine spl_yes rfl ?_)
          | (show evC _ _ _ _ _; first | refine c_seq ?_ | refine c_region (by exact rfl) ?_ | refine c_cond (by exact rfl) ?_ | refine c_ret ?_ | refine c_skip ?_ | refine c_block ?_ | refine c_exit ?_ | (show evC _ (.region 11 _ true) _ _ _; refine c_draw (l := [(0, 0), (1, 0), (2, 0), (3, 0), (4, 1), (5, 0)]) (by decide +kernel) (by decide +kernel) (by exact rfl) ?_) | (show evC _ (.region 32 _ true) _ _ _; refine c_draw (l := [(0, 0), (1, 0), (2, 0), (3, 0), (4, 0), (5, 0)]) (by decide +kernel) (by decide +kernel) (by exact rfl) ?_) | refine std ?_)
          | (show Br _ _ _; first | refine Br.t (by decide +kernel) ?_ | refine Br.f (by decide +kernel) ?_ | refine Br.t rfl ?_ | refine Br.f rfl ?_ | refine brs ?_ | (first | refine Br.mkN (fun h => ?_) (fun h => ?_) | refine Br.mk (fun h => ?_) (fun h => ?_)) <;> (try (first | contradiction | (exfalso; omega) | (exfalso; simp at h; done))))
          | refine stp ?_
          | (show CallT _ 43 _ _ _; refine CA (h := rdig_ok (by assumption) ?_))
          | (show CallT _ 44 _ _ _; refine CA (h := rtext_ok h36 ?_))
          | (show CallT _ 45 _ _ _; refine CA (h := hrest rfl (by decide) ?_)))
        all_goals (show TurnG _ _ _ _; exact turn (n1 - 1) ⟨i + 1, by omega, by rw [hbs], rfl, by rw [hls]; rfl, rfl, rfl, rfl, trivial⟩)
    · have hi2 : i = (wdF a.kd.toNat).length := by omega
      subst hi2
      rw [List.take_length]
      rw [show (wdF a.kd.toNat).foldl (cpR a) (AC0 a.kd) = baseR a from rfl]
      generalize baseR a = B at f1 f2 f3 ⊢
      by_cases hk1 : a.kd = 1 ∨ a.kd = 7
      · have hr1' : eqV Tryz.prog 20 28 (.agg #[.int .i64 a.kd, .int .i64 a.sd, .int .i64 a.id, .int .i64 a.n, .int .i64 a.cd, .string a.s, .int .i64 a.on, .int .i64 a.ww, .bool a.xx, .int .i64 a.xw, .int .i64 a.xs, .int .i64 a.xi]) (.agg #[.int .i64 B.kd, .int .i64 B.sd, .int .i64 B.id, .int .i64 B.n, .int .i64 B.cd, .string B.s, .int .i64 a.on, .int .i64 a.ww, .bool a.xx, .int .i64 B.xw, .int .i64 B.xs, .int .i64 B.xi]) = some r := by
          have := hr1
          rw [← f1 hk1] at this
          exact this
        repeat' (first
          | (show evG _ _ _ _ _ _ _; refine G_eql_agg (he := hr1') ?_)
          | (show evG _ _ _ _ _ _ _; first | refine G_add64 ?_ | refine G_pure0 ?_ | refine G_load ?_ | refine evG_nil ?_ | refine G_br ?_ ?_ | refine G_field ?_ | refine G_pure ?_ | refine G_store ?_ | refine G_loadV ?_ | refine G_loadV0 ?_ | refine G_loadV2 ?_ | refine G_indexS ?_ | refine G_build ?_ | refine G_cat ?_ | refine G_eql_agg ?_ | refine G_call ?_ | refine G_call0 ?_ | (refine G_box ?_; intro _) | (refine G_alloc ?_; intro _) | refine G_skip ?_ | refine G_skip0 ?_)
          | (show spl _ _ _; first | refine spl_no rfl ?_ | refine spl_yes rfl ?_)
          | (show evC _ _ _ _ _; first | refine c_seq ?_ | refine c_region (by exact rfl) ?_ | refine c_cond (by exact rfl) ?_ | refine c_ret ?_ | refine c_skip ?_ | refine c_block ?_ | refine c_exit ?_ | (show evC _ (.region 11 _ true) _ _ _; refine c_draw (l := [(0, 0), (1, 0), (2, 0), (3, 0), (4, 1), (5, 0)]) (by decide +kernel) (by decide +kernel) (by exact rfl) ?_) | (show evC _ (.region 32 _ true) _ _ _; refine c_draw (l := [(0, 0), (1, 0), (2, 0), (3, 0), (4, 0), (5, 0)]) (by decide +kernel) (by decide +kernel) (by exact rfl) ?_) | refine std ?_)
          | (show Br _ _ _; first | refine Br.t rfl ?_ | refine Br.f rfl ?_ | refine brs ?_ | (first | refine Br.mkN (fun h => ?_) (fun h => ?_) | refine Br.mk (fun h => ?_) (fun h => ?_)) <;> (try (first | contradiction | (exfalso; omega) | (exfalso; simp at h; done))))
          | refine stp ?_)
        all_goals first
          | (show retC _ _ _ _ _ _; refine RETC ?_; exact ret_done (hK2))
          | (exfalso; omega)
      · by_cases hk10 : a.kd = 10
        · have hr1' : eqV Tryz.prog 20 28 (.agg #[.int .i64 a.kd, .int .i64 a.sd, .int .i64 a.id, .int .i64 a.n, .int .i64 a.cd, .string a.s, .int .i64 a.on, .int .i64 a.ww, .bool a.xx, .int .i64 a.xw, .int .i64 a.xs, .int .i64 a.xi]) (.agg #[.int .i64 B.kd, .int .i64 B.sd, .int .i64 B.id, .int .i64 B.n, .int .i64 B.cd, .string B.s, .int .i64 B.on, .int .i64 B.ww, .bool B.xx, .int .i64 a.xw, .int .i64 a.xs, .int .i64 a.xi]) = some r := by
            have := hr1
            rw [← f2 hk10] at this
            exact this
          repeat' (first
            | (show evG _ _ _ _ _ _ _; refine G_eql_agg (he := hr1') ?_)
            | (show evG _ _ _ _ _ _ _; first | refine G_add64 ?_ | refine G_pure0 ?_ | refine G_load ?_ | refine evG_nil ?_ | refine G_br ?_ ?_ | refine G_field ?_ | refine G_pure ?_ | refine G_store ?_ | refine G_loadV ?_ | refine G_loadV0 ?_ | refine G_loadV2 ?_ | refine G_indexS ?_ | refine G_build ?_ | refine G_cat ?_ | refine G_eql_agg ?_ | refine G_call ?_ | refine G_call0 ?_ | (refine G_box ?_; intro _) | (refine G_alloc ?_; intro _) | refine G_skip ?_ | refine G_skip0 ?_)
            | (show spl _ _ _; first | refine spl_no rfl ?_ | refine spl_yes rfl ?_)
            | (show evC _ _ _ _ _; first | refine c_seq ?_ | refine c_region (by exact rfl) ?_ | refine c_cond (by exact rfl) ?_ | refine c_ret ?_ | refine c_skip ?_ | refine c_block ?_ | refine c_exit ?_ | (show evC _ (.region 11 _ true) _ _ _; refine c_draw (l := [(0, 0), (1, 0), (2, 0), (3, 0), (4, 1), (5, 0)]) (by decide +kernel) (by decide +kernel) (by exact rfl) ?_) | (show evC _ (.region 32 _ true) _ _ _; refine c_draw (l := [(0, 0), (1, 0), (2, 0), (3, 0), (4, 0), (5, 0)]) (by decide +kernel) (by decide +kernel) (by exact rfl) ?_) | refine std ?_)
            | (show Br _ _ _; first | refine Br.t rfl ?_ | refine Br.f rfl ?_ | refine brs ?_ | (first | refine Br.mkN (fun h => ?_) (fun h => ?_) | refine Br.mk (fun h => ?_) (fun h => ?_)) <;> (try (first | contradiction | (exfalso; omega) | (exfalso; simp at h; done))))
            | refine stp ?_)
          all_goals first
            | (show retC _ _ _ _ _ _; refine RETC ?_; exact ret_done (hK2))
            | (exfalso; omega)
        · have hr1' : eqV Tryz.prog 20 28 (.agg #[.int .i64 a.kd, .int .i64 a.sd, .int .i64 a.id, .int .i64 a.n, .int .i64 a.cd, .string a.s, .int .i64 a.on, .int .i64 a.ww, .bool a.xx, .int .i64 a.xw, .int .i64 a.xs, .int .i64 a.xi]) (.agg #[.int .i64 B.kd, .int .i64 B.sd, .int .i64 B.id, .int .i64 B.n, .int .i64 B.cd, .string B.s, .int .i64 B.on, .int .i64 B.ww, .bool B.xx, .int .i64 B.xw, .int .i64 B.xs, .int .i64 B.xi]) = some r := by
            have := hr1
            rw [← f3 hk1 hk10] at this
            exact this
          repeat' (first
            | (show evG _ _ _ _ _ _ _; refine G_eql_agg (he := hr1') ?_)
            | (show evG _ _ _ _ _ _ _; first | refine G_add64 ?_ | refine G_pure0 ?_ | refine G_load ?_ | refine evG_nil ?_ | refine G_br ?_ ?_ | refine G_field ?_ | refine G_pure ?_ | refine G_store ?_ | refine G_loadV ?_ | refine G_loadV0 ?_ | refine G_loadV2 ?_ | refine G_indexS ?_ | refine G_build ?_ | refine G_cat ?_ | refine G_eql_agg ?_ | refine G_call ?_ | refine G_call0 ?_ | (refine G_box ?_; intro _) | (refine G_alloc ?_; intro _) | refine G_skip ?_ | refine G_skip0 ?_)
            | (show spl _ _ _; first | refine spl_no rfl ?_ | refine spl_yes rfl ?_)
            | (show evC _ _ _ _ _; first | refine c_seq ?_ | refine c_region (by exact rfl) ?_ | refine c_cond (by exact rfl) ?_ | refine c_ret ?_ | refine c_skip ?_ | refine c_block ?_ | refine c_exit ?_ | (show evC _ (.region 11 _ true) _ _ _; refine c_draw (l := [(0, 0), (1, 0), (2, 0), (3, 0), (4, 1), (5, 0)]) (by decide +kernel) (by decide +kernel) (by exact rfl) ?_) | (show evC _ (.region 32 _ true) _ _ _; refine c_draw (l := [(0, 0), (1, 0), (2, 0), (3, 0), (4, 0), (5, 0)]) (by decide +kernel) (by decide +kernel) (by exact rfl) ?_) | refine std ?_)
            | (show Br _ _ _; first | refine Br.t rfl ?_ | refine Br.f rfl ?_ | refine brs ?_ | (first | refine Br.mkN (fun h => ?_) (fun h => ?_) | refine Br.mk (fun h => ?_) (fun h => ?_)) <;> (try (first | contradiction | (exfalso; omega) | (exfalso; simp at h; done))))
            | refine stp ?_)
          all_goals first
            | (show retC _ _ _ _ _ _; refine RETC ?_; exact ret_done (hK2))
            | (exfalso; omega)
theorem rlineX_ok {a : AC} (h : ¬ okK a) (hK : K (.tuple #[.string ⟨#[]⟩, .bool false]) R) : CallT Tryz.prog 19 #[.agg #[.int .i64 a.kd, .int .i64 a.sd, .int .i64 a.id, .int .i64 a.n, .int .i64 a.cd, .string a.s, .int .i64 a.on, .int .i64 a.ww, .bool a.xx, .int .i64 a.xw, .int .i64 a.xs, .int .i64 a.xi]] R K := by
  unfold okK at h
  refine callT_intro mixed Tryz.func19 rfl (by decide) (by decide +kernel) (by exact Nat.le_of_ble_eq_true rfl) ?_
  by_cases h1 : a.kd < 1
  · repeat' (first
      | (show evG _ _ _ _ _ _ _; first | refine G_add64 ?_ | refine G_pure0 ?_ | refine G_load ?_ | refine evG_nil ?_ | refine G_br ?_ ?_ | refine G_field ?_ | refine G_pure ?_ | refine G_store ?_ | refine G_loadV ?_ | refine G_loadV0 ?_ | refine G_loadV2 ?_ | refine G_indexS ?_ | refine G_build ?_ | refine G_cat ?_ | refine G_eql_agg ?_ | refine G_call ?_ | refine G_call0 ?_ | (refine G_box ?_; intro _) | (refine G_alloc ?_; intro _) | refine G_skip ?_ | refine G_skip0 ?_)
      | (show spl _ _ _; first | refine spl_no rfl ?_ | refine spl_yes rfl ?_)
      | (show evC _ _ _ _ _; first | refine c_seq ?_ | refine c_region (by exact rfl) ?_ | refine c_cond (by exact rfl) ?_ | refine c_ret ?_ | refine c_skip ?_ | refine c_block ?_ | refine c_exit ?_ | (show evC _ (.region 11 _ true) _ _ _; refine c_draw (l := [(0, 0), (1, 0), (2, 0), (3, 0), (4, 1), (5, 0)]) (by decide +kernel) (by decide +kernel) (by exact rfl) ?_) | (show evC _ (.region 32 _ true) _ _ _; refine c_draw (l := [(0, 0), (1, 0), (2, 0), (3, 0), (4, 0), (5, 0)]) (by decide +kernel) (by decide +kernel) (by exact rfl) ?_) | refine std ?_)
      | (show Br _ _ _; first | refine Br.t rfl ?_ | refine Br.f rfl ?_ | refine brs ?_ | (first | refine Br.mkN (fun h => ?_) (fun h => ?_) | refine Br.mk (fun h => ?_) (fun h => ?_)) <;> (try (first | contradiction | (exfalso; omega) | (exfalso; simp at h; done))))
      | refine stp ?_)
    all_goals (show retC _ _ _ _ _ _; refine RETC ?_; exact ret_done (hK))
  · by_cases h2 : 14 < a.kd
    · repeat' (first
        | (show evG _ _ _ _ _ _ _; first | refine G_add64 ?_ | refine G_pure0 ?_ | refine G_load ?_ | refine evG_nil ?_ | refine G_br ?_ ?_ | refine G_field ?_ | refine G_pure ?_ | refine G_store ?_ | refine G_loadV ?_ | refine G_loadV0 ?_ | refine G_loadV2 ?_ | refine G_indexS ?_ | refine G_build ?_ | refine G_cat ?_ | refine G_eql_agg ?_ | refine G_call ?_ | refine G_call0 ?_ | (refine G_box ?_; intro _) | (refine G_alloc ?_; intro _) | refine G_skip ?_ | refine G_skip0 ?_)
        | (show spl _ _ _; first | refine spl_no rfl ?_ | refine spl_yes rfl ?_)
        | (show evC _ _ _ _ _; first | refine c_seq ?_ | refine c_region (by exact rfl) ?_ | refine c_cond (by exact rfl) ?_ | refine c_ret ?_ | refine c_skip ?_ | refine c_block ?_ | refine c_exit ?_ | (show evC _ (.region 11 _ true) _ _ _; refine c_draw (l := [(0, 0), (1, 0), (2, 0), (3, 0), (4, 1), (5, 0)]) (by decide +kernel) (by decide +kernel) (by exact rfl) ?_) | (show evC _ (.region 32 _ true) _ _ _; refine c_draw (l := [(0, 0), (1, 0), (2, 0), (3, 0), (4, 0), (5, 0)]) (by decide +kernel) (by decide +kernel) (by exact rfl) ?_) | refine std ?_)
        | (show Br _ _ _; first | refine Br.t rfl ?_ | refine Br.f rfl ?_ | refine brs ?_ | (first | refine Br.mkN (fun h => ?_) (fun h => ?_) | refine Br.mk (fun h => ?_) (fun h => ?_)) <;> (try (first | contradiction | (exfalso; omega) | (exfalso; simp at h; done))))
        | refine stp ?_)
      all_goals (show retC _ _ _ _ _ _; refine RETC ?_; exact ret_done (hK))
    · have h3 : 600 < a.s.size := by omega
      repeat' (first
        | (show evG _ _ _ _ _ _ _; first | refine G_add64 ?_ | refine G_pure0 ?_ | refine G_load ?_ | refine evG_nil ?_ | refine G_br ?_ ?_ | refine G_field ?_ | refine G_pure ?_ | refine G_store ?_ | refine G_loadV ?_ | refine G_loadV0 ?_ | refine G_loadV2 ?_ | refine G_indexS ?_ | refine G_build ?_ | refine G_cat ?_ | refine G_eql_agg ?_ | refine G_call ?_ | refine G_call0 ?_ | (refine G_box ?_; intro _) | (refine G_alloc ?_; intro _) | refine G_skip ?_ | refine G_skip0 ?_)
        | (show spl _ _ _; first | refine spl_no rfl ?_ | refine spl_yes rfl ?_)
        | (show evC _ _ _ _ _; first | refine c_seq ?_ | refine c_region (by exact rfl) ?_ | refine c_cond (by exact rfl) ?_ | refine c_ret ?_ | refine c_skip ?_ | refine c_block ?_ | refine c_exit ?_ | (show evC _ (.region 11 _ true) _ _ _; refine c_draw (l := [(0, 0), (1, 0), (2, 0), (3, 0), (4, 1), (5, 0)]) (by decide +kernel) (by decide +kernel) (by exact rfl) ?_) | (show evC _ (.region 32 _ true) _ _ _; refine c_draw (l := [(0, 0), (1, 0), (2, 0), (3, 0), (4, 0), (5, 0)]) (by decide +kernel) (by decide +kernel) (by exact rfl) ?_) | refine std ?_)
        | (show Br _ _ _; first | refine Br.t rfl ?_ | refine Br.f rfl ?_ | refine brs ?_ | (first | refine Br.mkN (fun h => ?_) (fun h => ?_) | refine Br.mk (fun h => ?_) (fun h => ?_)) <;> (try (first | contradiction | (exfalso; omega) | (exfalso; simp at h; done))))
        | refine stp ?_)
      all_goals (show retC _ _ _ _ _ _; refine RETC ?_; exact ret_done (hK))
end Go.Proofs.YtiofdmjecjcdbaaGreatDoor

