/- Script: fields and words: lemmas; each with the conditions that it states. -/
import Derived.Test.YtiofdmjecjcdbaaGreatDoorFh
import Derived.Test.YtiofdmjecjcdbaaGreatDoorG7
import Derived.Test.YtiofdmjecjcdbaaGreatDoorFg

namespace Go.Proofs.YtiofdmjecjcdbaaGreatDoor
open Go Go.Proofs Go.Sl
set_option maxRecDepth 100000
set_option maxHeartbeats 4000000
set_option linter.unusedSimpArgs false
set_option linter.unusedVariables false
attribute [local irreducible] evG evC spl thenC inBlockC noGotoC CallT retC RetG TurnG CutG pt ro exP star sep pureP
variable {R C : List HP} {K : Value → List HP → Prop}
theorem bit_dg (n : Int) : ((bq (if (n == 1) then [49] else [48])).toList == (bq (dgL n)).toList) = decide (n = 0 ∨ n = 1) := by
  rw [bq_beq]
  by_cases h1 : n = 1
  · subst h1; rw [dgL_one]; rfl
  · rw [if_neg (by simpa using h1), ← dgL_zero]
    by_cases h0 : n = 0
    · subst h0; rfl
    · rw [decide_eq_false fun e => h0 (dgL_inj e).symm, decide_eq_false (by omega)]
theorem setY_ok {p : Nat} {a a' : AC} {c : UInt8} {l : List UInt8} (hc : isL c) (hl : l.length ≤ 1000000) (h : setA a c l = some a') (hK : K (.bool true) (pt p [.int .i64 a'.kd, .int .i64 a'.sd, .int .i64 a'.id, .int .i64 a'.n, .int .i64 a'.cd, .string a'.s, .int .i64 a'.on, .int .i64 a'.ww, .bool a'.xx, .int .i64 a'.xw, .int .i64 a'.xs, .int .i64 a'.xi] 28 :: R)) : CallT Tryz.prog 26 #[.pointer (some ⟨p, 0, none⟩), .int .u8 c.toNat, .string (bq l)] (pt p [.int .i64 a.kd, .int .i64 a.sd, .int .i64 a.id, .int .i64 a.n, .int .i64 a.cd, .string a.s, .int .i64 a.on, .int .i64 a.ww, .bool a.xx, .int .i64 a.xw, .int .i64 a.xs, .int .i64 a.xi] 28 :: R) K := by
  rcases hc with rfl | rfl | rfl | rfl | rfl | rfl | rfl | rfl | rfl | rfl | rfl <;> simp +decide only [setA, reduceIte] at h
  case inr.inr.inr.inr.inl =>
    obtain ⟨t, ht, rfl⟩ := Option.map_eq_some_iff.1 h
    refine callT_intro mixed Tryz.func26 rfl (by decide) (by decide +kernel) (by exact Nat.le_of_ble_eq_true rfl) ?_
    repeat' (first
      | (show evG _ _ _ _ _ _ _; first | refine G_pure0 ?_ | refine evG_nil ?_ | refine G_br ?_ ?_ | refine G_field ?_ | refine G_pure ?_ | refine G_store ?_ | refine G_eql_agg ?_ | refine G_call ?_ | refine G_call0 ?_ | refine G_skip ?_ | refine G_skip0 ?_)
      | (show spl _ _ _; first | refine spl_no rfl ?_ | refine spl_yes rfl ?_)
      | (show evC _ _ _ _ _; first | refine c_seq ?_ | refine c_region (by exact rfl) ?_ | refine c_cond (by exact rfl) ?_ | refine c_ret ?_ | refine c_skip ?_ | refine c_block ?_ | refine c_exit ?_ | refine std ?_)
      | (show Br _ _ _; first | refine Br.t (by decide +kernel) ?_ | refine Br.f (by decide +kernel) ?_ | refine Br.t rfl ?_ | refine Br.f rfl ?_ | refine brs ?_ | (first | refine Br.mkN (fun h => ?_) (fun h => ?_) | refine Br.mk (fun h => ?_) (fun h => ?_)) <;> (try (first | contradiction | (exfalso; omega) | (exfalso; simp at h; done))))
      | refine stp ?_
      | (show CallT _ 50 _ _ _; refine CA (h := read_ok hl fun _ _ => ?_))
      | (show CallT _ 51 _ _ _; refine CA (h := untextY_ok ht ?_)))
    all_goals (show retC _ _ _ _ _ _; refine RETC ?_; exact ret_done (hK))
  case inr.inr.inr.inr.inr.inr.inr.inl =>
    obtain ⟨n, hn, h2⟩ := Option.bind_eq_some_iff.1 h
    have hd : l = dgL n := (rd_two hn).symm
    split at h2
    · rename_i h0
      subst h0
      cases h2
      have hb : ((bq (if ((0 : Int) == 1) = true then [49] else [48])).toList == (bq l).toList) = true := by rw [hd, bit_dg]; rfl
      refine callT_intro mixed Tryz.func26 rfl (by decide) (by decide +kernel) (by exact Nat.le_of_ble_eq_true rfl) ?_
      repeat' (first
        | (show evG _ _ _ _ _ _ _; first | refine G_pure0 ?_ | refine evG_nil ?_ | refine G_br ?_ ?_ | refine G_field ?_ | refine G_pure ?_ | refine G_store ?_ | refine G_eql_agg ?_ | refine G_call ?_ | refine G_call0 ?_ | refine G_skip ?_ | refine G_skip0 ?_)
        | (show spl _ _ _; first | refine spl_no rfl ?_ | refine spl_yes rfl ?_)
        | (show evC _ _ _ _ _; first | refine c_seq ?_ | refine c_region (by exact rfl) ?_ | refine c_cond (by exact rfl) ?_ | refine c_ret ?_ | refine c_skip ?_ | refine c_block ?_ | refine c_exit ?_ | refine std ?_)
        | (show Br _ _ _; first | refine Br.t (by decide +kernel) ?_ | refine Br.f (by decide +kernel) ?_ | refine Br.t rfl ?_ | refine Br.f rfl ?_ | refine brs ?_ | (first | refine Br.mkN (fun h => ?_) (fun h => ?_) | refine Br.mk (fun h => ?_) (fun h => ?_)) <;> (try (first | contradiction | (exfalso; omega) | (exfalso; simp at h; done))))
        | refine stp ?_
        | (show CallT _ 50 _ _ _; refine CA (h := readY_ok hn ?_))
        | (show CallT _ 36 _ _ _; refine CA (h := sbit_ok ?_)))
      all_goals first
        | (show retC _ _ _ _ _ _; refine RETC ?_; exact ret_done (kb hK (by simp_all)))
        | (show retC _ _ _ _ _ _; refine RETC ?_; exact ret_done (hK))
    · split at h2
      · rename_i h0
        subst h0
        cases h2
        have hb : ((bq (if ((1 : Int) == 1) = true then [49] else [48])).toList == (bq l).toList) = true := by rw [hd, bit_dg]; rfl
        refine callT_intro mixed Tryz.func26 rfl (by decide) (by decide +kernel) (by exact Nat.le_of_ble_eq_true rfl) ?_
        repeat' (first
          | (show evG _ _ _ _ _ _ _; first | refine G_pure0 ?_ | refine evG_nil ?_ | refine G_br ?_ ?_ | refine G_field ?_ | refine G_pure ?_ | refine G_store ?_ | refine G_eql_agg ?_ | refine G_call ?_ | refine G_call0 ?_ | refine G_skip ?_ | refine G_skip0 ?_)
          | (show spl _ _ _; first | refine spl_no rfl ?_ | refine spl_yes rfl ?_)
          | (show evC _ _ _ _ _; first | refine c_seq ?_ | refine c_region (by exact rfl) ?_ | refine c_cond (by exact rfl) ?_ | refine c_ret ?_ | refine c_skip ?_ | refine c_block ?_ | refine c_exit ?_ | refine std ?_)
          | (show Br _ _ _; first | refine Br.t (by decide +kernel) ?_ | refine Br.f (by decide +kernel) ?_ | refine Br.t rfl ?_ | refine Br.f rfl ?_ | refine brs ?_ | (first | refine Br.mkN (fun h => ?_) (fun h => ?_) | refine Br.mk (fun h => ?_) (fun h => ?_)) <;> (try (first | contradiction | (exfalso; omega) | (exfalso; simp at h; done))))
          | refine stp ?_
          | (show CallT _ 50 _ _ _; refine CA (h := readY_ok hn ?_))
          | (show CallT _ 36 _ _ _; refine CA (h := sbit_ok ?_)))
        all_goals first
          | (show retC _ _ _ _ _ _; refine RETC ?_; exact ret_done (kb hK (by simp_all)))
          | (show retC _ _ _ _ _ _; refine RETC ?_; exact ret_done (hK))
      · cases h2
  all_goals
    obtain ⟨n, hn, rfl⟩ := Option.map_eq_some_iff.1 h
    refine callT_intro mixed Tryz.func26 rfl (by decide) (by decide +kernel) (by exact Nat.le_of_ble_eq_true rfl) ?_
    repeat' (first
      | (show evG _ _ _ _ _ _ _; first | refine G_pure0 ?_ | refine evG_nil ?_ | refine G_br ?_ ?_ | refine G_field ?_ | refine G_pure ?_ | refine G_store ?_ | refine G_eql_agg ?_ | refine G_call ?_ | refine G_call0 ?_ | refine G_skip ?_ | refine G_skip0 ?_)
      | (show spl _ _ _; first | refine spl_no rfl ?_ | refine spl_yes rfl ?_)
      | (show evC _ _ _ _ _; first | refine c_seq ?_ | refine c_region (by exact rfl) ?_ | refine c_cond (by exact rfl) ?_ | refine c_ret ?_ | refine c_skip ?_ | refine c_block ?_ | refine c_exit ?_ | refine std ?_)
      | (show Br _ _ _; first | refine Br.t (by decide +kernel) ?_ | refine Br.f (by decide +kernel) ?_ | refine Br.t rfl ?_ | refine Br.f rfl ?_ | refine brs ?_ | (first | refine Br.mkN (fun h => ?_) (fun h => ?_) | refine Br.mk (fun h => ?_) (fun h => ?_)) <;> (try (first | contradiction | (exfalso; omega) | (exfalso; simp at h; done))))
      | refine stp ?_
      | (show CallT _ 50 _ _ _; refine CA (h := readY_ok hn ?_)))
    all_goals (show retC _ _ _ _ _ _; refine RETC ?_; exact ret_done (hK))
theorem setN_ok {p : Nat} {a : AC} {c : UInt8} {l : List UInt8} (hc : isL c) (hl : l.length ≤ 1000000) (h : setA a c l = none) (hK : ∀ (kd sd id n cd : Int) (s : ByteArray) (on ww : Int) (xx : Bool) (xw xs xi : Int), K (.bool false) (pt p [.int .i64 kd, .int .i64 sd, .int .i64 id, .int .i64 n, .int .i64 cd, .string s, .int .i64 on, .int .i64 ww, .bool xx, .int .i64 xw, .int .i64 xs, .int .i64 xi] 28 :: R)) : CallT Tryz.prog 26 #[.pointer (some ⟨p, 0, none⟩), .int .u8 c.toNat, .string (bq l)] (pt p [.int .i64 a.kd, .int .i64 a.sd, .int .i64 a.id, .int .i64 a.n, .int .i64 a.cd, .string a.s, .int .i64 a.on, .int .i64 a.ww, .bool a.xx, .int .i64 a.xw, .int .i64 a.xs, .int .i64 a.xi] 28 :: R) K := by
  rcases hc with rfl | rfl | rfl | rfl | rfl | rfl | rfl | rfl | rfl | rfl | rfl <;> simp +decide only [setA, reduceIte] at h
  case inr.inr.inr.inr.inl =>
    have ht := Option.map_eq_none_iff.1 h
    refine callT_intro mixed Tryz.func26 rfl (by decide) (by decide +kernel) (by exact Nat.le_of_ble_eq_true rfl) ?_
    repeat' (first
      | (show evG _ _ _ _ _ _ _; first | refine G_pure0 ?_ | refine evG_nil ?_ | refine G_br ?_ ?_ | refine G_field ?_ | refine G_pure ?_ | refine G_store ?_ | refine G_eql_agg ?_ | refine G_call ?_ | refine G_call0 ?_ | refine G_skip ?_ | refine G_skip0 ?_)
      | (show spl _ _ _; first | refine spl_no rfl ?_ | refine spl_yes rfl ?_)
      | (show evC _ _ _ _ _; first | refine c_seq ?_ | refine c_region (by exact rfl) ?_ | refine c_cond (by exact rfl) ?_ | refine c_ret ?_ | refine c_skip ?_ | refine c_block ?_ | refine c_exit ?_ | refine std ?_)
      | (show Br _ _ _; first | refine Br.t (by decide +kernel) ?_ | refine Br.f (by decide +kernel) ?_ | refine Br.t rfl ?_ | refine Br.f rfl ?_ | refine brs ?_ | (first | refine Br.mkN (fun h => ?_) (fun h => ?_) | refine Br.mk (fun h => ?_) (fun h => ?_)) <;> (try (first | contradiction | (exfalso; omega) | (exfalso; simp at h; done))))
      | refine stp ?_
      | (show CallT _ 50 _ _ _; refine CA (h := read_ok hl fun _ _ => ?_))
      | (show CallT _ 51 _ _ _; refine CA (h := untextN_ok ht hl (fun s => ?_))))
    all_goals (show retC _ _ _ _ _ _; refine RETC ?_; exact ret_done (hK _ _ _ _ _ _ _ _ _ _ _ _))
  case inr.inr.inr.inr.inr.inr.inr.inl =>
    cases hn : rdI l with
    | none =>
      refine callT_intro mixed Tryz.func26 rfl (by decide) (by decide +kernel) (by exact Nat.le_of_ble_eq_true rfl) ?_
      repeat' (first
        | (show evG _ _ _ _ _ _ _; first | refine G_pure0 ?_ | refine evG_nil ?_ | refine G_br ?_ ?_ | refine G_field ?_ | refine G_pure ?_ | refine G_store ?_ | refine G_eql_agg ?_ | refine G_call ?_ | refine G_call0 ?_ | refine G_skip ?_ | refine G_skip0 ?_)
        | (show spl _ _ _; first | refine spl_no rfl ?_ | refine spl_yes rfl ?_)
        | (show evC _ _ _ _ _; first | refine c_seq ?_ | refine c_region (by exact rfl) ?_ | refine c_cond (by exact rfl) ?_ | refine c_ret ?_ | refine c_skip ?_ | refine c_block ?_ | refine c_exit ?_ | refine std ?_)
        | (show Br _ _ _; first | refine Br.t (by decide +kernel) ?_ | refine Br.f (by decide +kernel) ?_ | refine Br.t rfl ?_ | refine Br.f rfl ?_ | refine brs ?_ | (first | refine Br.mkN (fun h => ?_) (fun h => ?_) | refine Br.mk (fun h => ?_) (fun h => ?_)) <;> (try (first | contradiction | (exfalso; omega) | (exfalso; simp at h; done))))
        | refine stp ?_
        | (show CallT _ 50 _ _ _; refine CA (h := readN_ok hn hl (fun m => ?_)))
        | (show CallT _ 36 _ _ _; refine CA (h := sbit_ok ?_)))
      all_goals (show retC _ _ _ _ _ _; refine RETC ?_; exact ret_done (hK _ _ _ _ _ _ _ _ _ _ _ _))
    | some n =>
      rw [hn] at h
      simp only [Option.bind_some] at h
      have hd : l = dgL n := (rd_two hn).symm
      have hb : ((bq (if (n == 1) = true then [49] else [48])).toList == (bq l).toList) = false := by
        rw [hd, bit_dg]
        refine decide_eq_false fun e => ?_
        rcases e with e | e
        · rw [if_pos e] at h; cases h
        · subst e; rw [if_neg (by decide), if_pos rfl] at h; cases h
      refine callT_intro mixed Tryz.func26 rfl (by decide) (by decide +kernel) (by exact Nat.le_of_ble_eq_true rfl) ?_
      repeat' (first
        | (show evG _ _ _ _ _ _ _; first | refine G_pure0 ?_ | refine evG_nil ?_ | refine G_br ?_ ?_ | refine G_field ?_ | refine G_pure ?_ | refine G_store ?_ | refine G_eql_agg ?_ | refine G_call ?_ | refine G_call0 ?_ | refine G_skip ?_ | refine G_skip0 ?_)
        | (show spl _ _ _; first | refine spl_no rfl ?_ | refine spl_yes rfl ?_)
        | (show evC _ _ _ _ _; first | refine c_seq ?_ | refine c_region (by exact rfl) ?_ | refine c_cond (by exact rfl) ?_ | refine c_ret ?_ | refine c_skip ?_ | refine c_block ?_ | refine c_exit ?_ | refine std ?_)
        | (show Br _ _ _; first | refine Br.t (by decide +kernel) ?_ | refine Br.f (by decide +kernel) ?_ | refine Br.t rfl ?_ | refine Br.f rfl ?_ | refine brs ?_ | (first | refine Br.mkN (fun h => ?_) (fun h => ?_) | refine Br.mk (fun h => ?_) (fun h => ?_)) <;> (try (first | contradiction | (exfalso; omega) | (exfalso; simp at h; done))))
        | refine stp ?_
        | (show CallT _ 50 _ _ _; refine CA (h := readY_ok hn ?_))
        | (show CallT _ 36 _ _ _; refine CA (h := sbit_ok ?_)))
      all_goals first
        | (show retC _ _ _ _ _ _; refine RETC ?_; exact ret_done (kb (hK _ _ _ _ _ _ _ _ _ _ _ _) (by simp_all)))
        | (show retC _ _ _ _ _ _; refine RETC ?_; exact ret_done (hK _ _ _ _ _ _ _ _ _ _ _ _))
  all_goals
    have hn := Option.map_eq_none_iff.1 h
    refine callT_intro mixed Tryz.func26 rfl (by decide) (by decide +kernel) (by exact Nat.le_of_ble_eq_true rfl) ?_
    repeat' (first
      | (show evG _ _ _ _ _ _ _; first | refine G_pure0 ?_ | refine evG_nil ?_ | refine G_br ?_ ?_ | refine G_field ?_ | refine G_pure ?_ | refine G_store ?_ | refine G_eql_agg ?_ | refine G_call ?_ | refine G_call0 ?_ | refine G_skip ?_ | refine G_skip0 ?_)
      | (show spl _ _ _; first | refine spl_no rfl ?_ | refine spl_yes rfl ?_)
      | (show evC _ _ _ _ _; first | refine c_seq ?_ | refine c_region (by exact rfl) ?_ | refine c_cond (by exact rfl) ?_ | refine c_ret ?_ | refine c_skip ?_ | refine c_block ?_ | refine c_exit ?_ | refine std ?_)
      | (show Br _ _ _; first | refine Br.t (by decide +kernel) ?_ | refine Br.f (by decide +kernel) ?_ | refine Br.t rfl ?_ | refine Br.f rfl ?_ | refine brs ?_ | (first | refine Br.mkN (fun h => ?_) (fun h => ?_) | refine Br.mk (fun h => ?_) (fun h => ?_)) <;> (try (first | contradiction | (exfalso; omega) | (exfalso; simp at h; done))))
      | refine stp ?_
      | (show CallT _ 50 _ _ _; refine CA (h := readN_ok hn hl (fun m => ?_))))
    all_goals (show retC _ _ _ _ _ _; refine RETC ?_; exact ret_done (hK _ _ _ _ _ _ _ _ _ _ _ _))
/-! ### words -/
abbrev wordsL : List Value := [.string (bq (wdN 0)), .string (bq (wdF 0)), .string (bq (wdN 1)), .string (bq (wdF 1)), .string (bq (wdN 2)), .string (bq (wdF 2)), .string (bq (wdN 3)), .string (bq (wdF 3)), .string (bq (wdN 4)), .string (bq (wdF 4)), .string (bq (wdN 5)), .string (bq (wdF 5)), .string (bq (wdN 6)), .string (bq (wdF 6)), .string (bq (wdN 7)), .string (bq (wdF 7)), .string (bq (wdN 8)), .string (bq (wdF 8)), .string (bq (wdN 9)), .string (bq (wdF 9)), .string (bq (wdN 10)), .string (bq (wdF 10)), .string (bq (wdN 11)), .string (bq (wdF 11)), .string (bq (wdN 12)), .string (bq (wdF 12)), .string (bq (wdN 13)), .string (bq (wdF 13)), .string (bq (wdN 14)), .string (bq (wdF 14))]
theorem words_ok (hK : K (.agg wordsL.toArray) R) : CallT Tryz.prog 25 #[] R K := by
  refine callT_intro mixed Tryz.func25 rfl (by decide) (by decide +kernel) (by exact Nat.le_of_ble_eq_true rfl) ?_
  repeat' (first
    | (show evG _ _ _ _ _ _ _; first | refine G_pure0 ?_ | refine evG_nil ?_ | refine G_br ?_ ?_ | refine G_pure ?_ | refine G_store ?_ | refine G_build ?_ | (refine G_alloc ?_; intro _))
    | (show spl _ _ _; first | refine spl_no rfl ?_ | refine spl_yes rfl ?_)
    | (show evC _ _ _ _ _; first | refine c_seq ?_ | refine c_region (by exact rfl) ?_ | refine c_cond (by exact rfl) ?_ | refine c_ret ?_ | refine c_skip ?_ | refine c_block ?_ | refine c_exit ?_ | refine std ?_)
    | (show Br _ _ _; first | refine Br.t rfl ?_ | refine Br.f rfl ?_ | refine brs ?_ | (first | refine Br.mkN (fun h => ?_) (fun h => ?_) | refine Br.mk (fun h => ?_) (fun h => ?_)) <;> (try (first | contradiction | (exfalso; omega) | (exfalso; simp at h; done))))
    | refine stp ?_)
  all_goals (show retC _ _ _ _ _ _; refine RETC ?_; exact ret_done (hK))
theorem wpart {j : Nat} (hj : j < 15) : partV Tryz.prog 61 wordsL.toArray.toList (((j : Nat) : Int).toNat * 2) = some (.agg #[.string (bq (wdN j)), .string (bq (wdF j))]) := by
  have : j = 0 ∨ j = 1 ∨ j = 2 ∨ j = 3 ∨ j = 4 ∨ j = 5 ∨ j = 6 ∨ j = 7 ∨ j = 8 ∨ j = 9 ∨ j = 10 ∨ j = 11 ∨ j = 12 ∨ j = 13 ∨ j = 14 := by omega
  rcases this with rfl | rfl | rfl | rfl | rfl | rfl | rfl | rfl | rfl | rfl | rfl | rfl | rfl | rfl | rfl <;> rfl
end Go.Proofs.YtiofdmjecjcdbaaGreatDoor

