/- Script: numbers and texts read: lemmas; each with the conditions that it states. -/
import Derived.Test.YtiofdmjecjcdbaaGreatDoorFh
import Derived.Test.YtiofdmjecjcdbaaGreatDoorG6

namespace Go.Proofs.YtiofdmjecjcdbaaGreatDoor
open Go Go.Proofs Go.Sl
set_option maxRecDepth 100000
set_option maxHeartbeats 4000000
set_option linter.unusedSimpArgs false
set_option linter.unusedVariables false
attribute [local irreducible] evG evC spl thenC inBlockC noGotoC CallT retC RetG TurnG CutG pt ro exP star sep pureP
variable {R C : List HP} {K : Value → List HP → Prop}
theorem bqlen {s : ByteArray} : s.data.toList.length = s.size := Array.length_toList
theorem bget_bq {l : List UInt8} {j : Nat} : (bq l)[j]? = l[j]? := by rw [bget_l, data_bq]
/-- digits of a number are read as it -/
theorem readY_ok {l : List UInt8} {n0 : Int} (h : rdI l = some n0) (hK : K (.tuple #[.int .i64 n0, .bool true]) R) : CallT Tryz.prog 50 #[.string (bq l)] R K := by
  obtain ⟨hr, rfl⟩ := rdI_some.1 h
  have hr' := hr
  obtain ⟨h0, h1⟩ := hr'
  have key : ∀ (D : List UInt8) (neg : Bool), D = upL n0.natAbs → (neg = true ↔ n0 < 0) → (∀ {R : List HP} {K : Value → List HP → Prop}, K (.tuple #[.string (bq D), .bool neg]) R → CallT Tryz.prog 74 #[.string (bq (dgL n0)), .string ⟨#[45]⟩] R K) → CallT Tryz.prog 50 #[.string (bq (dgL n0))] R K := by
    intro D neg hD hneg hcut
    have hv : valL D = n0.natAbs := by rw [hD, upL_val]
    have hdl : D.length ≤ 20 := by rw [hD]; exact upL_len 19 _ (by omega)
    have hsz := bq_size D
    refine callT_intro mixed Tryz.func50 rfl (by decide) (by decide +kernel) (by exact Nat.le_of_ble_eq_true rfl) ?_
    repeat' (first
      | (show evG _ _ _ _ _ _ _; first | refine G_add64 ?_ | refine G_sub64 ?_ | refine G_mul64 ?_ | refine G_quo ?_ | refine G_pure0 ?_ | refine evG_nil ?_ | refine G_br ?_ ?_ | refine G_pure ?_ | refine G_not ?_ | refine G_indexS ?_ | refine G_conv64 ?_ | refine G_conv8 ?_ | refine G_convu ?_ | refine G_conv ?_ | refine G_cat ?_ | refine G_neg64 ?_ | refine G_eql_agg ?_ | refine G_bytesP ?_ | refine G_bytesstr ?_ | refine G_call ?_ | refine G_call0 ?_ | (refine G_strrow ?_; intro _ _) | refine G_skip ?_ | refine G_skip0 ?_)
      | (show spl _ _ _; first | refine spl_no rfl ?_ | refine spl_yes rfl ?_)
      | (show evC _ _ _ _ _; first | refine c_seq ?_ | refine c_region (by exact rfl) ?_ | refine c_cond (by exact rfl) ?_ | refine c_ret ?_ | refine c_skip ?_ | refine c_block ?_ | refine c_exit ?_ | refine std ?_)
      | (show Br _ _ _; first | refine Br.t rfl ?_ | refine Br.f rfl ?_ | refine brs ?_ | (first | refine Br.mkN (fun h => ?_) (fun h => ?_) | refine Br.mk (fun h => ?_) (fun h => ?_)) <;> (try (first | contradiction | (exfalso; omega) | (exfalso; simp at h; done))))
      | refine stp ?_
      | (show CallT _ 74 _ _ _; refine CA (h := hcut ?_)))
    refine LOOP (fun m a C' => ∃ j : Nat, j + m = D.length ∧ C' = R ∧ Agree a [(0, .string (bq (dgL n0))), (4, .string (bq D)), (5, .bool neg), (6, .int .i64 (-(valL (D.take j) : Nat))), (15, .int .i64 D.length), (16, .int .i64 j)]) D.length (turn D.length ⟨0, by omega, rfl, rfl, rfl, rfl, rfl, by rw [← hsz]; rfl, rfl, trivial⟩) ?_
    rintro n1 a C' ⟨j, hj, rfl, ha⟩
    refine c_fr _ ha ?_
    simp only [updL]
    by_cases hlt : j < D.length
    · obtain ⟨b, hb⟩ : ∃ b, D[j]? = some b := ⟨_, List.getElem?_eq_getElem hlt⟩
      have hb1 : (bq D)[((j : Nat) : Int).toNat]? = some b := by rw [bget_bq]; exact hb
      have hdig : isD b := upL_dig n0.natAbs b (by rw [← hD]; exact List.mem_of_getElem? hb)
      obtain ⟨d1, d2⟩ := hdig
      have ht := valL_take hb
      have hle := valL_le D (j + 1)
      repeat' (first
        | (show evG _ _ _ _ _ _ _; refine G_quoM ?_)
        | (show evG _ _ _ _ _ _ _; first | refine G_add64 ?_ | refine G_sub64 ?_ | refine G_mul64 ?_ | refine G_quo ?_ | refine G_pure0 ?_ | refine evG_nil ?_ | refine G_br ?_ ?_ | refine G_pure ?_ | refine G_not ?_ | refine G_indexS ?_ | refine G_conv64 ?_ | refine G_conv8 ?_ | refine G_convu ?_ | refine G_conv ?_ | refine G_cat ?_ | refine G_neg64 ?_ | refine G_eql_agg ?_ | refine G_bytesP ?_ | refine G_bytesstr ?_ | refine G_call ?_ | refine G_call0 ?_ | (refine G_strrow ?_; intro _ _) | refine G_skip ?_ | refine G_skip0 ?_)
        | (show spl _ _ _; first | refine spl_no rfl ?_ | refine spl_yes rfl ?_)
        | (show evC _ _ _ _ _; first | refine c_seq ?_ | refine c_region (by exact rfl) ?_ | refine c_cond (by exact rfl) ?_ | refine c_ret ?_ | refine c_skip ?_ | refine c_block ?_ | refine c_exit ?_ | refine std ?_)
        | (show Br _ _ _; first | refine Br.t rfl ?_ | refine Br.f rfl ?_ | refine brs ?_ | (first | refine Br.mkN (fun h => ?_) (fun h => ?_) | refine Br.mk (fun h => ?_) (fun h => ?_)) <;> (try (first | contradiction | (exfalso; omega) | (exfalso; simp at h; done))))
        | refine stp ?_)
      all_goals (show TurnG _ _ _ _; exact turn (n1 - 1) ⟨j + 1, by omega, rfl, rfl, rfl, rfl, congrArg (Value.int IntKind.i64) (by rw [ht]; omega), rfl, rfl, trivial⟩)
    · obtain rfl : j = D.length := by omega
      rw [List.take_length, hv]
      cases neg
      · have hp : 0 ≤ n0 := by have : ¬ n0 < 0 := fun h => by cases hneg.2 h
                               omega
        have e1 : 0 - (-((n0.natAbs : Nat) : Int)) = n0 := by omega
        have hr2 : inR (0 - (-((n0.natAbs : Nat) : Int))) := by rw [e1]; exact hr
        repeat' (first
          | (show evG _ _ _ _ _ _ _; first | refine G_add64 ?_ | refine G_sub64 ?_ | refine G_mul64 ?_ | refine G_quo ?_ | refine G_pure0 ?_ | refine evG_nil ?_ | refine G_br ?_ ?_ | refine G_pure ?_ | refine G_not ?_ | refine G_indexS ?_ | refine G_conv64 ?_ | refine G_conv8 ?_ | refine G_convu ?_ | refine G_conv ?_ | refine G_cat ?_ | refine G_neg64 ?_ | refine G_eql_agg ?_ | refine G_bytesP ?_ | refine G_bytesstr ?_ | refine G_call ?_ | refine G_call0 ?_ | (refine G_strrow ?_; intro _ _) | refine G_skip ?_ | refine G_skip0 ?_)
          | (show spl _ _ _; first | refine spl_no rfl ?_ | refine spl_yes rfl ?_)
          | (show evC _ _ _ _ _; first | refine c_seq ?_ | refine c_region (by exact rfl) ?_ | refine c_cond (by exact rfl) ?_ | refine c_ret ?_ | refine c_skip ?_ | refine c_block ?_ | refine c_exit ?_ | refine std ?_)
          | (show Br _ _ _; first | refine Br.t rfl ?_ | refine Br.f rfl ?_ | refine brs ?_ | (first | refine Br.mkN (fun h => ?_) (fun h => ?_) | refine Br.mk (fun h => ?_) (fun h => ?_)) <;> (try (first | contradiction | (exfalso; omega) | (exfalso; simp at h; done))))
          | refine stp ?_
          | (show CallT _ 34 _ _ _; refine CA (h := number_ok hr2 ?_)))
        all_goals (show retC _ _ _ _ _ _; refine RETC ?_; exact ret_done ((by rw [e1, bq_beq, decide_eq_true rfl]; exact hK)))
      · have hp : n0 < 0 := hneg.1 rfl
        have e1 : (-((n0.natAbs : Nat) : Int)) = n0 := by omega
        have hr2 : inR (-((n0.natAbs : Nat) : Int)) := by rw [e1]; exact hr
        repeat' (first
          | (show evG _ _ _ _ _ _ _; first | refine G_add64 ?_ | refine G_sub64 ?_ | refine G_mul64 ?_ | refine G_quo ?_ | refine G_pure0 ?_ | refine evG_nil ?_ | refine G_br ?_ ?_ | refine G_pure ?_ | refine G_not ?_ | refine G_indexS ?_ | refine G_conv64 ?_ | refine G_conv8 ?_ | refine G_convu ?_ | refine G_conv ?_ | refine G_cat ?_ | refine G_neg64 ?_ | refine G_eql_agg ?_ | refine G_bytesP ?_ | refine G_bytesstr ?_ | refine G_call ?_ | refine G_call0 ?_ | (refine G_strrow ?_; intro _ _) | refine G_skip ?_ | refine G_skip0 ?_)
          | (show spl _ _ _; first | refine spl_no rfl ?_ | refine spl_yes rfl ?_)
          | (show evC _ _ _ _ _; first | refine c_seq ?_ | refine c_region (by exact rfl) ?_ | refine c_cond (by exact rfl) ?_ | refine c_ret ?_ | refine c_skip ?_ | refine c_block ?_ | refine c_exit ?_ | refine std ?_)
          | (show Br _ _ _; first | refine Br.t rfl ?_ | refine Br.f rfl ?_ | refine brs ?_ | (first | refine Br.mkN (fun h => ?_) (fun h => ?_) | refine Br.mk (fun h => ?_) (fun h => ?_)) <;> (try (first | contradiction | (exfalso; omega) | (exfalso; simp at h; done))))
          | refine stp ?_
          | (show CallT _ 34 _ _ _; refine CA (h := number_ok hr2 ?_)))
        all_goals (show retC _ _ _ _ _ _; refine RETC ?_; exact ret_done ((by rw [e1, bq_beq, decide_eq_true rfl]; exact hK)))
  by_cases hn : n0 < 0
  · have hd := dgL_neg hn
    have e : (-n0).toNat = n0.natAbs := by omega
    rw [e] at hd
    exact key (upL n0.natAbs) true rfl (by simp [hn]) fun hK => cutpreY_ok (by rw [data_bq, hd]) hK
  · have hd := dgL_pos (n := n0) (by omega)
    have e : n0.toNat = n0.natAbs := by omega
    rw [e] at hd
    refine key (upL n0.natAbs) false rfl (by simp [hn]) fun hK => cutpreN_ok (fun r hr => ?_) (by rw [hd]; exact hK)
    rw [data_bq, hd] at hr
    exact upL_no45 _ _ hr
theorem readN_ok {l : List UInt8} (h : rdI l = none) (hs : l.length ≤ 1000000) (hK : ∀ m, K (.tuple #[.int .i64 m, .bool false]) R) : CallT Tryz.prog 50 #[.string (bq l)] R K := by
  have hno := rdI_none h
  have key : ∀ (t : ByteArray) (neg : Bool), t.size ≤ 1000000 → (∀ {R : List HP} {K : Value → List HP → Prop}, K (.tuple #[.string t, .bool neg]) R → CallT Tryz.prog 74 #[.string (bq l), .string ⟨#[45]⟩] R K) → CallT Tryz.prog 50 #[.string (bq l)] R K := by
    intro t neg hts hcut
    refine callT_intro mixed Tryz.func50 rfl (by decide) (by decide +kernel) (by exact Nat.le_of_ble_eq_true rfl) ?_
    repeat' (first
      | (show evG _ _ _ _ _ _ _; first | refine G_add64 ?_ | refine G_sub64 ?_ | refine G_mul64 ?_ | refine G_quo ?_ | refine G_pure0 ?_ | refine evG_nil ?_ | refine G_br ?_ ?_ | refine G_pure ?_ | refine G_not ?_ | refine G_indexS ?_ | refine G_conv64 ?_ | refine G_conv8 ?_ | refine G_convu ?_ | refine G_conv ?_ | refine G_cat ?_ | refine G_neg64 ?_ | refine G_eql_agg ?_ | refine G_bytesP ?_ | refine G_bytesstr ?_ | refine G_call ?_ | refine G_call0 ?_ | (refine G_strrow ?_; intro _ _) | refine G_skip ?_ | refine G_skip0 ?_)
      | (show spl _ _ _; first | refine spl_no rfl ?_ | refine spl_yes rfl ?_)
      | (show evC _ _ _ _ _; first | refine c_seq ?_ | refine c_region (by exact rfl) ?_ | refine c_cond (by exact rfl) ?_ | refine c_ret ?_ | refine c_skip ?_ | refine c_block ?_ | refine c_exit ?_ | refine std ?_)
      | (show Br _ _ _; first | refine Br.t rfl ?_ | refine Br.f rfl ?_ | refine brs ?_ | (first | refine Br.mkN (fun h => ?_) (fun h => ?_) | refine Br.mk (fun h => ?_) (fun h => ?_)) <;> (try (first | contradiction | (exfalso; omega) | (exfalso; simp at h; done))))
      | refine stp ?_
      | (show CallT _ 74 _ _ _; refine CA (h := hcut ?_)))
    refine LOOP (fun m a C' => ∃ (j : Nat) (z : Int), j + m = t.size ∧ (-9223372036854775808 ≤ z ∧ z ≤ 0) ∧ C' = R ∧ Agree a [(0, .string (bq l)), (4, .string t), (5, .bool neg), (6, .int .i64 z), (15, .int .i64 t.size), (16, .int .i64 j)]) t.size (turn t.size ⟨0, 0, by omega, by omega, rfl, rfl, rfl, rfl, rfl, rfl, rfl, trivial⟩) ?_
    rintro n1 a C' ⟨j, z, hj, hz, rfl, ha⟩
    refine c_fr _ ha ?_
    simp only [updL]
    by_cases hlt : j < t.size
    · obtain ⟨b, hb⟩ : ∃ b, t.data.toList[j]? = some b := ⟨_, List.getElem?_eq_getElem (by rw [bqlen]; exact hlt)⟩
      have hb1 : t[((j : Nat) : Int).toNat]? = some b := by rw [bget_l]; exact hb
      have hbl := b.toNat_lt
      repeat' (first
        | (show evG _ _ _ _ _ _ _; refine G_quoM ?_)
        | (show evG _ _ _ _ _ _ _; first | refine G_add64 ?_ | refine G_sub64 ?_ | refine G_mul64 ?_ | refine G_quo ?_ | refine G_pure0 ?_ | refine evG_nil ?_ | refine G_br ?_ ?_ | refine G_pure ?_ | refine G_not ?_ | refine G_indexS ?_ | refine G_conv64 ?_ | refine G_conv8 ?_ | refine G_convu ?_ | refine G_conv ?_ | refine G_cat ?_ | refine G_neg64 ?_ | refine G_eql_agg ?_ | refine G_bytesP ?_ | refine G_bytesstr ?_ | refine G_call ?_ | refine G_call0 ?_ | (refine G_strrow ?_; intro _ _) | refine G_skip ?_ | refine G_skip0 ?_)
        | (show spl _ _ _; first | refine spl_no rfl ?_ | refine spl_yes rfl ?_)
        | (show evC _ _ _ _ _; first | refine c_seq ?_ | refine c_region (by exact rfl) ?_ | refine c_cond (by exact rfl) ?_ | refine c_ret ?_ | refine c_skip ?_ | refine c_block ?_ | refine c_exit ?_ | refine std ?_)
        | (show Br _ _ _; first | refine Br.t rfl ?_ | refine Br.f rfl ?_ | refine brs ?_ | (first | refine Br.mkN (fun h => ?_) (fun h => ?_) | refine Br.mk (fun h => ?_) (fun h => ?_)) <;> (try (first | contradiction | (exfalso; omega) | (exfalso; simp at h; done))))
        | refine stp ?_)
      all_goals first
        | (show retC _ _ _ _ _ _; refine RETC ?_; exact ret_done (hK _))
        | (show TurnG _ _ _ _; exact turn (n1 - 1) ⟨j + 1, _, by omega, by omega, rfl, rfl, rfl, rfl, rfl, rfl, rfl, trivial⟩)
    · obtain rfl : j = t.size := by omega
      have hd1 : inR z := ⟨by omega, by omega⟩
      cases neg
      · by_cases hm : z = -9223372036854775808
        · subst hm
          repeat' (first
            | (show evG _ _ _ _ _ _ _; first | refine G_add64 ?_ | refine G_sub64 ?_ | refine G_mul64 ?_ | refine G_quo ?_ | refine G_pure0 ?_ | refine evG_nil ?_ | refine G_br ?_ ?_ | refine G_pure ?_ | refine G_not ?_ | refine G_indexS ?_ | refine G_conv64 ?_ | refine G_conv8 ?_ | refine G_convu ?_ | refine G_conv ?_ | refine G_cat ?_ | refine G_neg64 ?_ | refine G_eql_agg ?_ | refine G_bytesP ?_ | refine G_bytesstr ?_ | refine G_call ?_ | refine G_call0 ?_ | (refine G_strrow ?_; intro _ _) | refine G_skip ?_ | refine G_skip0 ?_)
            | (show spl _ _ _; first | refine spl_no rfl ?_ | refine spl_yes rfl ?_)
            | (show evC _ _ _ _ _; first | refine c_seq ?_ | refine c_region (by exact rfl) ?_ | refine c_cond (by exact rfl) ?_ | refine c_ret ?_ | refine c_skip ?_ | refine c_block ?_ | refine c_exit ?_ | refine std ?_)
            | (show Br _ _ _; first | refine Br.t rfl ?_ | refine Br.f rfl ?_ | refine brs ?_ | (first | refine Br.mkN (fun h => ?_) (fun h => ?_) | refine Br.mk (fun h => ?_) (fun h => ?_)) <;> (try (first | contradiction | (exfalso; omega) | (exfalso; simp at h; done))))
            | refine stp ?_)
          all_goals (show retC _ _ _ _ _ _; refine RETC ?_; exact ret_done (hK _))
        · have hd2 : inR (0 - z) := ⟨by omega, by omega⟩
          have hne := hno _ hd2
          repeat' (first
            | (show evG _ _ _ _ _ _ _; first | refine G_add64 ?_ | refine G_sub64 ?_ | refine G_mul64 ?_ | refine G_quo ?_ | refine G_pure0 ?_ | refine evG_nil ?_ | refine G_br ?_ ?_ | refine G_pure ?_ | refine G_not ?_ | refine G_indexS ?_ | refine G_conv64 ?_ | refine G_conv8 ?_ | refine G_convu ?_ | refine G_conv ?_ | refine G_cat ?_ | refine G_neg64 ?_ | refine G_eql_agg ?_ | refine G_bytesP ?_ | refine G_bytesstr ?_ | refine G_call ?_ | refine G_call0 ?_ | (refine G_strrow ?_; intro _ _) | refine G_skip ?_ | refine G_skip0 ?_)
            | (show spl _ _ _; first | refine spl_no rfl ?_ | refine spl_yes rfl ?_)
            | (show evC _ _ _ _ _; first | refine c_seq ?_ | refine c_region (by exact rfl) ?_ | refine c_cond (by exact rfl) ?_ | refine c_ret ?_ | refine c_skip ?_ | refine c_block ?_ | refine c_exit ?_ | refine std ?_)
            | (show Br _ _ _; first | refine Br.t rfl ?_ | refine Br.f rfl ?_ | refine brs ?_ | (first | refine Br.mkN (fun h => ?_) (fun h => ?_) | refine Br.mk (fun h => ?_) (fun h => ?_)) <;> (try (first | contradiction | (exfalso; omega) | (exfalso; simp at h; done))))
            | refine stp ?_
            | (show CallT _ 34 _ _ _; refine CA (h := number_ok hd2 ?_)))
          all_goals first
            | (show retC _ _ _ _ _ _; refine RETC ?_; exact ret_done ((by rw [bq_beq, decide_eq_false hne]; exact hK _)))
            | (exfalso; omega)
      · have hne := hno _ hd1
        repeat' (first
          | (show evG _ _ _ _ _ _ _; first | refine G_add64 ?_ | refine G_sub64 ?_ | refine G_mul64 ?_ | refine G_quo ?_ | refine G_pure0 ?_ | refine evG_nil ?_ | refine G_br ?_ ?_ | refine G_pure ?_ | refine G_not ?_ | refine G_indexS ?_ | refine G_conv64 ?_ | refine G_conv8 ?_ | refine G_convu ?_ | refine G_conv ?_ | refine G_cat ?_ | refine G_neg64 ?_ | refine G_eql_agg ?_ | refine G_bytesP ?_ | refine G_bytesstr ?_ | refine G_call ?_ | refine G_call0 ?_ | (refine G_strrow ?_; intro _ _) | refine G_skip ?_ | refine G_skip0 ?_)
          | (show spl _ _ _; first | refine spl_no rfl ?_ | refine spl_yes rfl ?_)
          | (show evC _ _ _ _ _; first | refine c_seq ?_ | refine c_region (by exact rfl) ?_ | refine c_cond (by exact rfl) ?_ | refine c_ret ?_ | refine c_skip ?_ | refine c_block ?_ | refine c_exit ?_ | refine std ?_)
          | (show Br _ _ _; first | refine Br.t rfl ?_ | refine Br.f rfl ?_ | refine brs ?_ | (first | refine Br.mkN (fun h => ?_) (fun h => ?_) | refine Br.mk (fun h => ?_) (fun h => ?_)) <;> (try (first | contradiction | (exfalso; omega) | (exfalso; simp at h; done))))
          | refine stp ?_
          | (show CallT _ 34 _ _ _; refine CA (h := number_ok hd1 ?_)))
        all_goals (show retC _ _ _ _ _ _; refine RETC ?_; exact ret_done ((by rw [bq_beq, decide_eq_false hne]; exact hK _)))
  cases l with
  | nil => exact key (bq []) false (by decide) fun hK => cutpreN_ok (fun r hr => by rw [data_bq] at hr; cases hr) hK
  | cons b r =>
    by_cases hb : b = 45
    · subst hb
      exact key (bq r) true (by rw [bq_size]; simp at hs; omega) fun hK => cutpreY_ok (by rw [data_bq]) hK
    · exact key (bq (b :: r)) false (by rw [bq_size]; exact hs) fun hK => cutpreN_ok (fun q hq => by rw [data_bq] at hq; exact hb (List.cons.inj hq).1) hK
/-- whatever is read -/
theorem read_ok {l : List UInt8} (hs : l.length ≤ 1000000) (hK : ∀ m b, K (.tuple #[.int .i64 m, .bool b]) R) : CallT Tryz.prog 50 #[.string (bq l)] R K := by
  cases h : rdI l with
  | none => exact readN_ok h hs fun m => hK m false
  | some n => exact readY_ok h (hK n true)
/-- a word of a text is read as it -/
theorem esc_drop {t : List UInt8} {k : Nat} {b : UInt8} (hb : t[k]? = some b) : (t.flatMap escL).drop ((t.take k).flatMap escL).length = escL b ++ (t.drop (k + 1)).flatMap escL := by
  have hlt := (List.getElem?_eq_some_iff.1 hb)
  obtain ⟨hlt, he⟩ := hlt
  have e : t = t.take k ++ b :: t.drop (k + 1) := by rw [← he, List.getElem_cons_drop hlt, List.take_append_drop]
  conv => lhs; rw [e]
  rw [List.flatMap_append, List.flatMap_cons, ← e, List.drop_left]
theorem drop_get {l d : List UInt8} {j i : Nat} {b : UInt8} (h : l.drop j = d) (hb : d[i]? = some b) : l[j + i]? = some b := by
  rw [← List.getElem?_drop, h]
  exact hb
theorem escs_lt {t : List UInt8} {k : Nat} {b : UInt8} (hb : t[k]? = some b) : ((t.take k).flatMap escL).length + (escL b).length ≤ (t.flatMap escL).length := by
  have := congrArg List.length (esc_drop hb)
  rw [List.length_drop, List.length_append] at this
  have := (escL_len b).1
  omega
theorem untextY_ok {l t : List UInt8} (h : rdT l = some t) (hK : K (.tuple #[.string (bq t), .bool true]) R) : CallT Tryz.prog 51 #[.string (bq l)] R K := by
  obtain ⟨h6, rfl⟩ := rdT_some.1 h
  by_cases ht : t = []
  · subst ht
    refine callT_intro mixed Tryz.func51 rfl (by decide) (by decide +kernel) (by exact Nat.le_of_ble_eq_true rfl) ?_
    repeat' (first
      | (show evG _ _ _ _ _ _ _; first | refine G_add64 ?_ | refine G_mul64 ?_ | refine G_pure0 ?_ | refine evG_nil ?_ | refine G_br ?_ ?_ | refine G_pure ?_ | (refine G_append ?_; intro _ _) | (refine G_appendN ?_; intro _ _) | refine G_indexS ?_ | refine G_conv64 ?_ | refine G_conv8 ?_ | refine G_convu ?_ | refine G_conv ?_ | refine G_cat ?_ | refine G_eql_agg ?_ | refine G_bytesP ?_ | refine G_bytesstr ?_ | refine G_call ?_ | refine G_call0 ?_ | (refine G_buildSlice ?_; intro _) | (refine G_strrow ?_; intro _ _) | refine G_skip ?_ | refine G_skip0 ?_)
      | (show spl _ _ _; first | refine spl_no rfl ?_ | refine spl_yes rfl ?_)
      | (show evC _ _ _ _ _; first | refine c_seq ?_ | refine c_region (by exact rfl) ?_ | refine c_cond (by exact rfl) ?_ | refine c_ret ?_ | refine c_skip ?_ | refine c_block ?_ | refine c_exit ?_ | (show evC _ (.region 11 _ true) _ _ _; refine c_draw (l := [(0, 0), (1, 0), (2, 0), (3, 0), (4, 1), (6, 1), (7, 1), (8, 1), (9, 1), (10, 1), (5, 1), (11, 0), (12, 0), (13, 0)]) (by decide +kernel) (by decide +kernel) (by exact rfl) ?_) | (show evC _ (.region 14 _ true) _ _ _; refine c_drawT (t := (.br (.st 0 2 (.st 1 3 (.st 2 1 (.st 3 1 (.st 4 1 (.st 5 1 (.st 6 1 (.st 7 1 (.st 8 1 (.st 9 1 (.st 10 1 (.st 11 1 (.st 12 2 (.st 13 2 (.st 14 3 (.st 15 1 (.st 16 1 (.st 17 0 (.st 18 0 .nil))))))))))))))))))) (.st 2 1 (.st 3 1 (.st 4 1 (.st 5 1 (.st 6 1 (.st 7 1 (.st 8 1 (.st 9 1 (.st 10 1 (.st 11 1 (.st 12 2 (.br (.st 0 2 (.st 1 3 (.st 13 2 (.st 14 3 (.st 15 1 (.st 16 1 (.st 17 0 (.st 18 0 .nil)))))))) (.st 13 2 (.st 0 2 (.st 1 3 (.st 14 3 (.st 15 1 (.st 16 1 (.st 17 0 (.st 18 0 .nil)))))))))))))))))))))) (by kernel_rfl) (by decide +kernel) (by exact rfl) ?_) | refine std ?_)
      | (show Br _ _ _; first | refine Br.t (by decide +kernel) ?_ | refine Br.f (by decide +kernel) ?_ | refine Br.t rfl ?_ | refine Br.f rfl ?_ | refine brs ?_ | (first | refine Br.mkN (fun h => ?_) (fun h => ?_) | refine Br.mk (fun h => ?_) (fun h => ?_)) <;> (try (first | contradiction | (exfalso; omega) | (exfalso; simp at h; done))))
      | refine stp ?_)
    all_goals (show retC _ _ _ _ _ _; refine RETC ?_; exact ret_done (hK))
  · have htx : txtL t = t.flatMap escL := by unfold txtL; rw [if_neg ht]
    have hn46 : ((bq (txtL t)).toList == (⟨#[46]⟩ : ByteArray).toList) = false := by
      rw [show (⟨#[46]⟩ : ByteArray) = bq [46] from rfl, bq_beq, htx]
      exact decide_eq_false (esc_no46 t)
    have hle := esc_le t
    have hsz := bq_size (txtL t)
    rw [htx] at hsz hn46 ⊢
    refine callT_intro mixed Tryz.func51 rfl (by decide) (by decide +kernel) (by exact Nat.le_of_ble_eq_true rfl) ?_
    repeat' (first
      | (show evG _ _ _ _ _ _ _; first | refine G_add64 ?_ | refine G_mul64 ?_ | refine G_pure0 ?_ | refine evG_nil ?_ | refine G_br ?_ ?_ | refine G_pure ?_ | (refine G_append ?_; intro _ _) | (refine G_appendN ?_; intro _ _) | refine G_indexS ?_ | refine G_conv64 ?_ | refine G_conv8 ?_ | refine G_convu ?_ | refine G_conv ?_ | refine G_cat ?_ | refine G_eql_agg ?_ | refine G_bytesP ?_ | refine G_bytesstr ?_ | refine G_call ?_ | refine G_call0 ?_ | (refine G_buildSlice ?_; intro _) | (refine G_strrow ?_; intro _ _) | refine G_skip ?_ | refine G_skip0 ?_)
      | (show spl _ _ _; first | refine spl_no rfl ?_ | refine spl_yes rfl ?_)
      | (show evC _ _ _ _ _; first | refine c_seq ?_ | refine c_region (by exact rfl) ?_ | refine c_cond (by exact rfl) ?_ | refine c_ret ?_ | refine c_skip ?_ | refine c_block ?_ | refine c_exit ?_ | (show evC _ (.region 11 _ true) _ _ _; refine c_draw (l := [(0, 0), (1, 0), (2, 0), (3, 0), (4, 1), (6, 1), (7, 1), (8, 1), (9, 1), (10, 1), (5, 1), (11, 0), (12, 0), (13, 0)]) (by decide +kernel) (by decide +kernel) (by exact rfl) ?_) | (show evC _ (.region 14 _ true) _ _ _; refine c_drawT (t := (.br (.st 0 2 (.st 1 3 (.st 2 1 (.st 3 1 (.st 4 1 (.st 5 1 (.st 6 1 (.st 7 1 (.st 8 1 (.st 9 1 (.st 10 1 (.st 11 1 (.st 12 2 (.st 13 2 (.st 14 3 (.st 15 1 (.st 16 1 (.st 17 0 (.st 18 0 .nil))))))))))))))))))) (.st 2 1 (.st 3 1 (.st 4 1 (.st 5 1 (.st 6 1 (.st 7 1 (.st 8 1 (.st 9 1 (.st 10 1 (.st 11 1 (.st 12 2 (.br (.st 0 2 (.st 1 3 (.st 13 2 (.st 14 3 (.st 15 1 (.st 16 1 (.st 17 0 (.st 18 0 .nil)))))))) (.st 13 2 (.st 0 2 (.st 1 3 (.st 14 3 (.st 15 1 (.st 16 1 (.st 17 0 (.st 18 0 .nil)))))))))))))))))))))) (by kernel_rfl) (by decide +kernel) (by exact rfl) ?_) | refine std ?_)
      | (show Br _ _ _; first | refine Br.t rfl ?_ | refine Br.f rfl ?_ | refine brs ?_ | (first | refine Br.mkN (fun h => ?_) (fun h => ?_) | refine Br.mk (fun h => ?_) (fun h => ?_)) <;> (try (first | contradiction | (exfalso; omega) | (exfalso; simp at h; done))))
      | refine stp ?_)
    refine LOOP (fun m a C' => ∃ (k j n c : Nat) (A : Option Addr), k + m = t.length ∧ j = ((t.take k).flatMap escL).length ∧ n = (t.take k).length ∧ C' = row A c 5 byteC (t.take k) :: R ∧ Agree a [(0, .string (bq (t.flatMap escL))), (4, .slice A n c), (5, .int .i64 j)]) t.length (turn t.length ⟨0, 0, 0, 0, none, by omega, rfl, rfl, rfl, rfl, rfl, rfl, trivial⟩) ?_
    rintro n1 a C' ⟨k, j, n, c, A, hk, hj, hn, rfl, ha⟩
    refine c_fr _ ha ?_
    simp only [updL]
    have hnk : n ≤ 600 := by rw [hn]; simp; omega
    by_cases hlt : k < t.length
    · obtain ⟨b, hb⟩ : ∃ b, t[k]? = some b := ⟨_, List.getElem?_eq_getElem hlt⟩
      have hd := esc_drop hb
      have hel := escs_lt hb
      have het := esc_take hb
      have htk : t.take (k + 1) = t.take k ++ [b] := by rw [List.take_add_one, hb]; rfl
      rw [← hj] at hd hel
      have hbl := b.toNat_lt
      cases hp : plB b
      · have ee : escL b = [37, hexD (b.toNat / 16), hexD (b.toNat % 16)] := by unfold escL; rw [hp]; rfl
        rw [ee] at hd hel het
        have x0 : (bq (t.flatMap escL))[((j : Nat) : Int).toNat]? = some 37 := by rw [bget_bq]; exact drop_get (i := 0) hd rfl
        have x1 : (bq (t.flatMap escL))[(((j : Nat) : Int) + 1).toNat]? = some (hexD (b.toNat / 16)) := by rw [bget_bq, show (((j : Nat) : Int) + 1).toNat = j + 1 by omega]; exact drop_get (i := 1) hd rfl
        have x2 : (bq (t.flatMap escL))[(((j : Nat) : Int) + 2).toNat]? = some (hexD (b.toNat % 16)) := by rw [bget_bq, show (((j : Nat) : Int) + 2).toNat = j + 2 by omega]; exact drop_get (i := 2) hd rfl
        simp only [List.length_cons, List.length_nil] at hel
        have u1 : unhex (hexD (b.toNat / 16)) = ((b.toNat / 16 : Nat) : Int) := unhex_hexD (by omega)
        have u2 : unhex (hexD (b.toNat % 16)) = ((b.toNat % 16 : Nat) : Int) := unhex_hexD (by omega)
        have eb : byteI (16 * ((b.toNat / 16 : Nat) : Int) + ((b.toNat % 16 : Nat) : Int)) = b := by
          unfold byteI
          rw [show (16 * ((b.toNat / 16 : Nat) : Int) + ((b.toNat % 16 : Nat) : Int)) % 256 = ((b.toNat : Nat) : Int) by omega, Int.toNat_natCast]
          exact UInt8.ofNat_toNat
        repeat' (first
          | (show evG _ _ _ _ _ _ _; first | refine G_add64 ?_ | refine G_mul64 ?_ | refine G_pure0 ?_ | refine evG_nil ?_ | refine G_br ?_ ?_ | refine G_pure ?_ | (refine G_append ?_; intro _ _) | (refine G_appendN ?_; intro _ _) | refine G_indexS ?_ | refine G_conv64 ?_ | refine G_conv8 ?_ | refine G_convu ?_ | refine G_conv ?_ | refine G_cat ?_ | refine G_eql_agg ?_ | refine G_bytesP ?_ | refine G_bytesstr ?_ | refine G_call ?_ | refine G_call0 ?_ | (refine G_buildSlice ?_; intro _) | (refine G_strrow ?_; intro _ _) | refine G_skip ?_ | refine G_skip0 ?_)
          | (show spl _ _ _; first | refine spl_no rfl ?_ | refine spl_yes rfl ?_)
          | (show evC _ _ _ _ _; first | refine c_seq ?_ | refine c_region (by exact rfl) ?_ | refine c_cond (by exact rfl) ?_ | refine c_ret ?_ | refine c_skip ?_ | refine c_block ?_ | refine c_exit ?_ | (show evC _ (.region 11 _ true) _ _ _; refine c_draw (l := [(0, 0), (1, 0), (2, 0), (3, 0), (4, 1), (6, 1), (7, 1), (8, 1), (9, 1), (10, 1), (5, 1), (11, 0), (12, 0), (13, 0)]) (by decide +kernel) (by decide +kernel) (by exact rfl) ?_) | (show evC _ (.region 14 _ true) _ _ _; refine c_drawT (t := (.br (.st 0 2 (.st 1 3 (.st 2 1 (.st 3 1 (.st 4 1 (.st 5 1 (.st 6 1 (.st 7 1 (.st 8 1 (.st 9 1 (.st 10 1 (.st 11 1 (.st 12 2 (.st 13 2 (.st 14 3 (.st 15 1 (.st 16 1 (.st 17 0 (.st 18 0 .nil))))))))))))))))))) (.st 2 1 (.st 3 1 (.st 4 1 (.st 5 1 (.st 6 1 (.st 7 1 (.st 8 1 (.st 9 1 (.st 10 1 (.st 11 1 (.st 12 2 (.br (.st 0 2 (.st 1 3 (.st 13 2 (.st 14 3 (.st 15 1 (.st 16 1 (.st 17 0 (.st 18 0 .nil)))))))) (.st 13 2 (.st 0 2 (.st 1 3 (.st 14 3 (.st 15 1 (.st 16 1 (.st 17 0 (.st 18 0 .nil)))))))))))))))))))))) (by kernel_rfl) (by decide +kernel) (by exact rfl) ?_) | refine std ?_)
          | (show Br _ _ _; first | refine Br.t rfl ?_ | refine Br.f rfl ?_ | refine brs ?_ | (first | refine Br.mkN (fun h => ?_) (fun h => ?_) | refine Br.mk (fun h => ?_) (fun h => ?_)) <;> (try (first | contradiction | (exfalso; omega) | (exfalso; simp at h; done))))
          | refine stp ?_
          | (show CallT _ 75 _ _ _; first | (refine CA (h := digit_ok (c := hexD (b.toNat / 16)) ?_); rw [u1]) | (refine CA (h := digit_ok (c := hexD (b.toNat % 16)) ?_); rw [u2])))
        all_goals (show TurnG _ _ _ _; exact turn (n1 - 1) ⟨k + 1, _, _, _, _, by omega, by rw [het, List.length_append, ← hj], by rw [htk]; simp, by rw [htk, ← eb], rfl, rfl, by simp only [List.length_cons, List.length_nil]; congr 1, trivial⟩)
      · have ee : escL b = [b] := by unfold escL; rw [hp]; rfl
        rw [ee] at hd hel het
        have x0 : (bq (t.flatMap escL))[((j : Nat) : Int).toNat]? = some b := by rw [bget_bq]; exact drop_get (i := 0) hd rfl
        simp only [List.length_cons, List.length_nil] at hel
        have hb37 : ¬ ((b.toNat : Nat) : Int) = 37 := fun e => by
          have : b = 37 := UInt8.toNat_inj.1 (by simpa using (by omega : b.toNat = 37))
          rw [this, pl37] at hp
          cases hp
        repeat' (first
          | (show evG _ _ _ _ _ _ _; (refine G_append (hsrc := src_bts (ys := [b]) rfl rfl) ?_; intro _ _))
          | (show evG _ _ _ _ _ _ _; first | refine G_add64 ?_ | refine G_mul64 ?_ | refine G_pure0 ?_ | refine evG_nil ?_ | refine G_br ?_ ?_ | refine G_pure ?_ | (refine G_append ?_; intro _ _) | (refine G_appendN ?_; intro _ _) | refine G_indexS ?_ | refine G_conv64 ?_ | refine G_conv8 ?_ | refine G_convu ?_ | refine G_conv ?_ | refine G_cat ?_ | refine G_eql_agg ?_ | refine G_bytesP ?_ | refine G_bytesstr ?_ | refine G_call ?_ | refine G_call0 ?_ | (refine G_buildSlice ?_; intro _) | (refine G_strrow ?_; intro _ _) | refine G_skip ?_ | refine G_skip0 ?_)
          | (show spl _ _ _; first | refine spl_no rfl ?_ | refine spl_yes rfl ?_)
          | (show evC _ _ _ _ _; first | refine c_seq ?_ | refine c_region (by exact rfl) ?_ | refine c_cond (by exact rfl) ?_ | refine c_ret ?_ | refine c_skip ?_ | refine c_block ?_ | refine c_exit ?_ | (show evC _ (.region 11 _ true) _ _ _; refine c_draw (l := [(0, 0), (1, 0), (2, 0), (3, 0), (4, 1), (6, 1), (7, 1), (8, 1), (9, 1), (10, 1), (5, 1), (11, 0), (12, 0), (13, 0)]) (by decide +kernel) (by decide +kernel) (by exact rfl) ?_) | (show evC _ (.region 14 _ true) _ _ _; refine c_drawT (t := (.br (.st 0 2 (.st 1 3 (.st 2 1 (.st 3 1 (.st 4 1 (.st 5 1 (.st 6 1 (.st 7 1 (.st 8 1 (.st 9 1 (.st 10 1 (.st 11 1 (.st 12 2 (.st 13 2 (.st 14 3 (.st 15 1 (.st 16 1 (.st 17 0 (.st 18 0 .nil))))))))))))))))))) (.st 2 1 (.st 3 1 (.st 4 1 (.st 5 1 (.st 6 1 (.st 7 1 (.st 8 1 (.st 9 1 (.st 10 1 (.st 11 1 (.st 12 2 (.br (.st 0 2 (.st 1 3 (.st 13 2 (.st 14 3 (.st 15 1 (.st 16 1 (.st 17 0 (.st 18 0 .nil)))))))) (.st 13 2 (.st 0 2 (.st 1 3 (.st 14 3 (.st 15 1 (.st 16 1 (.st 17 0 (.st 18 0 .nil)))))))))))))))))))))) (by kernel_rfl) (by decide +kernel) (by exact rfl) ?_) | refine std ?_)
          | (show Br _ _ _; first | refine Br.t rfl ?_ | refine Br.f rfl ?_ | refine brs ?_ | (first | refine Br.mkN (fun h => ?_) (fun h => ?_) | refine Br.mk (fun h => ?_) (fun h => ?_)) <;> (try (first | contradiction | (exfalso; omega) | (exfalso; simp at h; done))))
          | refine stp ?_)
        all_goals (show TurnG _ _ _ _; exact turn (n1 - 1) ⟨k + 1, _, _, _, _, by omega, by rw [het, List.length_append, ← hj], by rw [htk], by rw [htk], rfl, rfl, by simp only [List.length_cons, List.length_nil]; congr 1, trivial⟩)
    · obtain rfl : k = t.length := by omega
      rw [List.take_length] at hj hn ⊢
      have hns := hn.symm
      have hpos : 0 < t.length := List.length_pos_iff.2 ht
      have hts : (bq t).size ≤ 1000000 := by rw [bq_size]; omega
      have hfin : K (.tuple #[.string (bq t), .bool ((bq (txtL (bq t).data.toList)).toList == (bq (t.flatMap escL)).toList)]) R := by
        rw [data_bq, htx, bq_beq, decide_eq_true rfl]; exact hK
      repeat' (first
        | (show evG _ _ _ _ _ _ _; first | refine G_add64 ?_ | refine G_mul64 ?_ | refine G_pure0 ?_ | refine evG_nil ?_ | refine G_br ?_ ?_ | refine G_pure ?_ | (refine G_append ?_; intro _ _) | (refine G_appendN ?_; intro _ _) | refine G_indexS ?_ | refine G_conv64 ?_ | refine G_conv8 ?_ | refine G_convu ?_ | refine G_conv ?_ | refine G_cat ?_ | refine G_eql_agg ?_ | refine G_bytesP ?_ | refine G_bytesstr ?_ | refine G_call ?_ | refine G_call0 ?_ | (refine G_buildSlice ?_; intro _) | (refine G_strrow ?_; intro _ _) | refine G_skip ?_ | refine G_skip0 ?_)
        | (show spl _ _ _; first | refine spl_no rfl ?_ | refine spl_yes rfl ?_)
        | (show evC _ _ _ _ _; first | refine c_seq ?_ | refine c_region (by exact rfl) ?_ | refine c_cond (by exact rfl) ?_ | refine c_ret ?_ | refine c_skip ?_ | refine c_block ?_ | refine c_exit ?_ | (show evC _ (.region 11 _ true) _ _ _; refine c_draw (l := [(0, 0), (1, 0), (2, 0), (3, 0), (4, 1), (6, 1), (7, 1), (8, 1), (9, 1), (10, 1), (5, 1), (11, 0), (12, 0), (13, 0)]) (by decide +kernel) (by decide +kernel) (by exact rfl) ?_) | (show evC _ (.region 14 _ true) _ _ _; refine c_drawT (t := (.br (.st 0 2 (.st 1 3 (.st 2 1 (.st 3 1 (.st 4 1 (.st 5 1 (.st 6 1 (.st 7 1 (.st 8 1 (.st 9 1 (.st 10 1 (.st 11 1 (.st 12 2 (.st 13 2 (.st 14 3 (.st 15 1 (.st 16 1 (.st 17 0 (.st 18 0 .nil))))))))))))))))))) (.st 2 1 (.st 3 1 (.st 4 1 (.st 5 1 (.st 6 1 (.st 7 1 (.st 8 1 (.st 9 1 (.st 10 1 (.st 11 1 (.st 12 2 (.br (.st 0 2 (.st 1 3 (.st 13 2 (.st 14 3 (.st 15 1 (.st 16 1 (.st 17 0 (.st 18 0 .nil)))))))) (.st 13 2 (.st 0 2 (.st 1 3 (.st 14 3 (.st 15 1 (.st 16 1 (.st 17 0 (.st 18 0 .nil)))))))))))))))))))))) (by kernel_rfl) (by decide +kernel) (by exact rfl) ?_) | refine std ?_)
        | (show Br _ _ _; first | refine Br.t rfl ?_ | refine Br.f rfl ?_ | refine brs ?_ | (first | refine Br.mkN (fun h => ?_) (fun h => ?_) | refine Br.mk (fun h => ?_) (fun h => ?_)) <;> (try (first | contradiction | (exfalso; omega) | (exfalso; simp at h; done))))
        | refine stp ?_
        | (show CallT _ 35 _ _ _; refine CA (h := text_ok hts ?_)))
      all_goals first
        | (show retC _ _ _ _ _ _; refine RETC ?_; exact ret_done (hfin))
        | (exfalso; omega)
theorem untextN_ok {l : List UInt8} (h : rdT l = none) (hs : l.length ≤ 1000000) (hK : ∀ s, K (.tuple #[.string s, .bool false]) R) : CallT Tryz.prog 51 #[.string (bq l)] R K := by
  have hno := rdT_none h
  have hn46 : ((bq l).toList == (⟨#[46]⟩ : ByteArray).toList) = false := by
    rw [show (⟨#[46]⟩ : ByteArray) = bq [46] from rfl, bq_beq]
    exact decide_eq_false fun e => hno [] (by simp) (by rw [e]; rfl)
  have hsz := bq_size l
  refine callT_intro mixed Tryz.func51 rfl (by decide) (by decide +kernel) (by exact Nat.le_of_ble_eq_true rfl) ?_
  repeat' (first
    | (show evG _ _ _ _ _ _ _; first | refine G_add64 ?_ | refine G_mul64 ?_ | refine G_pure0 ?_ | refine evG_nil ?_ | refine G_br ?_ ?_ | refine G_pure ?_ | (refine G_append ?_; intro _ _) | (refine G_appendN ?_; intro _ _) | refine G_indexS ?_ | refine G_conv64 ?_ | refine G_conv8 ?_ | refine G_convu ?_ | refine G_conv ?_ | refine G_cat ?_ | refine G_eql_agg ?_ | refine G_bytesP ?_ | refine G_bytesstr ?_ | refine G_call ?_ | refine G_call0 ?_ | (refine G_buildSlice ?_; intro _) | (refine G_strrow ?_; intro _ _) | refine G_skip ?_ | refine G_skip0 ?_)
    | (show spl _ _ _; first | refine spl_no rfl ?_ | refine spl_yes rfl ?_)
    | (show evC _ _ _ _ _; first | refine c_seq ?_ | refine c_region (by exact rfl) ?_ | refine c_cond (by exact rfl) ?_ | refine c_ret ?_ | refine c_skip ?_ | refine c_block ?_ | refine c_exit ?_ | (show evC _ (.region 11 _ true) _ _ _; refine c_draw (l := [(0, 0), (1, 0), (2, 0), (3, 0), (4, 1), (6, 1), (7, 1), (8, 1), (9, 1), (10, 1), (5, 1), (11, 0), (12, 0), (13, 0)]) (by decide +kernel) (by decide +kernel) (by exact rfl) ?_) | (show evC _ (.region 14 _ true) _ _ _; refine c_drawT (t := (.br (.st 0 2 (.st 1 3 (.st 2 1 (.st 3 1 (.st 4 1 (.st 5 1 (.st 6 1 (.st 7 1 (.st 8 1 (.st 9 1 (.st 10 1 (.st 11 1 (.st 12 2 (.st 13 2 (.st 14 3 (.st 15 1 (.st 16 1 (.st 17 0 (.st 18 0 .nil))))))))))))))))))) (.st 2 1 (.st 3 1 (.st 4 1 (.st 5 1 (.st 6 1 (.st 7 1 (.st 8 1 (.st 9 1 (.st 10 1 (.st 11 1 (.st 12 2 (.br (.st 0 2 (.st 1 3 (.st 13 2 (.st 14 3 (.st 15 1 (.st 16 1 (.st 17 0 (.st 18 0 .nil)))))))) (.st 13 2 (.st 0 2 (.st 1 3 (.st 14 3 (.st 15 1 (.st 16 1 (.st 17 0 (.st 18 0 .nil)))))))))))))))))))))) (by kernel_rfl) (by decide +kernel) (by exact rfl) ?_) | refine std ?_)
    | (show Br _ _ _; first | refine Br.t rfl ?_ | refine Br.f rfl ?_ | refine brs ?_ | (first | refine Br.mkN (fun h => ?_) (fun h => ?_) | refine Br.mk (fun h => ?_) (fun h => ?_)) <;> (try (first | contradiction | (exfalso; omega) | (exfalso; simp at h; done))))
    | refine stp ?_)
  refine LOOP (fun m a C' => ∃ (j n c : Nat) (A : Option Addr) (bs : List UInt8), j + m = l.length ∧ n = bs.length ∧ n ≤ j ∧ C' = row A c 5 byteC bs :: R ∧ Agree a [(0, .string (bq l)), (4, .slice A n c), (5, .int .i64 j)]) l.length (turn l.length ⟨0, 0, 0, none, [], by omega, rfl, by omega, rfl, rfl, rfl, rfl, trivial⟩) ?_
  rintro n1 a C' ⟨j, n, c, A, bs, hj, hn, hnj, rfl, ha⟩
  refine c_fr _ ha ?_
  simp only [updL]
  by_cases hlt : j < l.length
  · obtain ⟨b, hb⟩ : ∃ b, l[j]? = some b := ⟨_, List.getElem?_eq_getElem hlt⟩
    have x0 : (bq l)[((j : Nat) : Int).toNat]? = some b := by rw [bget_bq]; exact hb
    have hbl := b.toNat_lt
    by_cases h2 : j + 2 < l.length
    · obtain ⟨b1, hb1⟩ : ∃ b, l[j + 1]? = some b := ⟨_, List.getElem?_eq_getElem (by omega)⟩
      obtain ⟨b2, hb2⟩ : ∃ b, l[j + 2]? = some b := ⟨_, List.getElem?_eq_getElem h2⟩
      have x1 : (bq l)[(((j : Nat) : Int) + 1).toNat]? = some b1 := by rw [bget_bq, show (((j : Nat) : Int) + 1).toNat = j + 1 by omega]; exact hb1
      have x2 : (bq l)[(((j : Nat) : Int) + 2).toNat]? = some b2 := by rw [bget_bq, show (((j : Nat) : Int) + 2).toNat = j + 2 by omega]; exact hb2
      have hu1 : unhex b1 < 16 := by unfold unhex; split <;> (try split) <;> omega
      have hu2 : unhex b2 < 16 := by unfold unhex; split <;> (try split) <;> omega
      have hv1 : -1 ≤ unhex b1 := by unfold unhex; split <;> (try split) <;> omega
      have hv2 : -1 ≤ unhex b2 := by unfold unhex; split <;> (try split) <;> omega
      repeat' (first
        | (show evG _ _ _ _ _ _ _; (refine G_append (hsrc := src_bts (ys := [b]) rfl rfl) ?_; intro _ _))
        | (show evG _ _ _ _ _ _ _; first | refine G_add64 ?_ | refine G_mul64 ?_ | refine G_pure0 ?_ | refine evG_nil ?_ | refine G_br ?_ ?_ | refine G_pure ?_ | (refine G_append ?_; intro _ _) | (refine G_appendN ?_; intro _ _) | refine G_indexS ?_ | refine G_conv64 ?_ | refine G_conv8 ?_ | refine G_convu ?_ | refine G_conv ?_ | refine G_cat ?_ | refine G_eql_agg ?_ | refine G_bytesP ?_ | refine G_bytesstr ?_ | refine G_call ?_ | refine G_call0 ?_ | (refine G_buildSlice ?_; intro _) | (refine G_strrow ?_; intro _ _) | refine G_skip ?_ | refine G_skip0 ?_)
        | (show spl _ _ _; first | refine spl_no rfl ?_ | refine spl_yes rfl ?_)
        | (show evC _ _ _ _ _; first | refine c_seq ?_ | refine c_region (by exact rfl) ?_ | refine c_cond (by exact rfl) ?_ | refine c_ret ?_ | refine c_skip ?_ | refine c_block ?_ | refine c_exit ?_ | (show evC _ (.region 11 _ true) _ _ _; refine c_draw (l := [(0, 0), (1, 0), (2, 0), (3, 0), (4, 1), (6, 1), (7, 1), (8, 1), (9, 1), (10, 1), (5, 1), (11, 0), (12, 0), (13, 0)]) (by decide +kernel) (by decide +kernel) (by exact rfl) ?_) | (show evC _ (.region 14 _ true) _ _ _; refine c_drawT (t := (.br (.st 0 2 (.st 1 3 (.st 2 1 (.st 3 1 (.st 4 1 (.st 5 1 (.st 6 1 (.st 7 1 (.st 8 1 (.st 9 1 (.st 10 1 (.st 11 1 (.st 12 2 (.st 13 2 (.st 14 3 (.st 15 1 (.st 16 1 (.st 17 0 (.st 18 0 .nil))))))))))))))))))) (.st 2 1 (.st 3 1 (.st 4 1 (.st 5 1 (.st 6 1 (.st 7 1 (.st 8 1 (.st 9 1 (.st 10 1 (.st 11 1 (.st 12 2 (.br (.st 0 2 (.st 1 3 (.st 13 2 (.st 14 3 (.st 15 1 (.st 16 1 (.st 17 0 (.st 18 0 .nil)))))))) (.st 13 2 (.st 0 2 (.st 1 3 (.st 14 3 (.st 15 1 (.st 16 1 (.st 17 0 (.st 18 0 .nil)))))))))))))))))))))) (by kernel_rfl) (by decide +kernel) (by exact rfl) ?_) | refine std ?_)
        | (show Br _ _ _; first | refine Br.t rfl ?_ | refine Br.f rfl ?_ | refine brs ?_ | (first | refine Br.mkN (fun h => ?_) (fun h => ?_) | refine Br.mk (fun h => ?_) (fun h => ?_)) <;> (try (first | contradiction | (exfalso; omega) | (exfalso; simp at h; done))))
        | refine stp ?_
        | (show CallT _ 75 _ _ _; refine CA (h := digit_ok ?_)))
      all_goals first
        | (show retC _ _ _ _ _ _; refine RETC ?_; exact ret_done (hK _))
        | (show TurnG _ _ _ _; exact turn (n1 - 1) ⟨j + 1, _, _, _, _, by omega, rfl, by simp; omega, rfl, rfl, rfl, rfl, trivial⟩)
        | (show TurnG _ _ _ _; exact turn (n1 - 3) ⟨j + 3, _, _, _, _, by omega, rfl, by simp; omega, rfl, rfl, rfl, by congr 1, trivial⟩)
    · repeat' (first
        | (show evG _ _ _ _ _ _ _; (refine G_append (hsrc := src_bts (ys := [b]) rfl rfl) ?_; intro _ _))
        | (show evG _ _ _ _ _ _ _; first | refine G_add64 ?_ | refine G_mul64 ?_ | refine G_pure0 ?_ | refine evG_nil ?_ | refine G_br ?_ ?_ | refine G_pure ?_ | (refine G_append ?_; intro _ _) | (refine G_appendN ?_; intro _ _) | refine G_indexS ?_ | refine G_conv64 ?_ | refine G_conv8 ?_ | refine G_convu ?_ | refine G_conv ?_ | refine G_cat ?_ | refine G_eql_agg ?_ | refine G_bytesP ?_ | refine G_bytesstr ?_ | refine G_call ?_ | refine G_call0 ?_ | (refine G_buildSlice ?_; intro _) | (refine G_strrow ?_; intro _ _) | refine G_skip ?_ | refine G_skip0 ?_)
        | (show spl _ _ _; first | refine spl_no rfl ?_ | refine spl_yes rfl ?_)
        | (show evC _ _ _ _ _; first | refine c_seq ?_ | refine c_region (by exact rfl) ?_ | refine c_cond (by exact rfl) ?_ | refine c_ret ?_ | refine c_skip ?_ | refine c_block ?_ | refine c_exit ?_ | (show evC _ (.region 11 _ true) _ _ _; refine c_draw (l := [(0, 0), (1, 0), (2, 0), (3, 0), (4, 1), (6, 1), (7, 1), (8, 1), (9, 1), (10, 1), (5, 1), (11, 0), (12, 0), (13, 0)]) (by decide +kernel) (by decide +kernel) (by exact rfl) ?_) | (show evC _ (.region 14 _ true) _ _ _; refine c_drawT (t := (.br (.st 0 2 (.st 1 3 (.st 2 1 (.st 3 1 (.st 4 1 (.st 5 1 (.st 6 1 (.st 7 1 (.st 8 1 (.st 9 1 (.st 10 1 (.st 11 1 (.st 12 2 (.st 13 2 (.st 14 3 (.st 15 1 (.st 16 1 (.st 17 0 (.st 18 0 .nil))))))))))))))))))) (.st 2 1 (.st 3 1 (.st 4 1 (.st 5 1 (.st 6 1 (.st 7 1 (.st 8 1 (.st 9 1 (.st 10 1 (.st 11 1 (.st 12 2 (.br (.st 0 2 (.st 1 3 (.st 13 2 (.st 14 3 (.st 15 1 (.st 16 1 (.st 17 0 (.st 18 0 .nil)))))))) (.st 13 2 (.st 0 2 (.st 1 3 (.st 14 3 (.st 15 1 (.st 16 1 (.st 17 0 (.st 18 0 .nil)))))))))))))))))))))) (by kernel_rfl) (by decide +kernel) (by exact rfl) ?_) | refine std ?_)
        | (show Br _ _ _; first | refine Br.t rfl ?_ | refine Br.f rfl ?_ | refine brs ?_ | (first | refine Br.mkN (fun h => ?_) (fun h => ?_) | refine Br.mk (fun h => ?_) (fun h => ?_)) <;> (try (first | contradiction | (exfalso; omega) | (exfalso; simp at h; done))))
        | refine stp ?_
        | (show CallT _ 75 _ _ _; refine CA (h := digit_ok ?_)))
      all_goals first
        | (show retC _ _ _ _ _ _; refine RETC ?_; exact ret_done (hK _))
        | (show TurnG _ _ _ _; exact turn (n1 - 1) ⟨j + 1, _, _, _, _, by omega, rfl, by simp; omega, rfl, rfl, rfl, rfl, trivial⟩)
  · obtain rfl : j = l.length := by omega
    have hns := hn.symm
    by_cases h6 : bs.length ≤ 600
    · have hts : (bq bs).size ≤ 1000000 := by rw [bq_size]; omega
      have hne := hno bs h6
      have hfin : K (.tuple #[.string (bq bs), .bool ((bq (txtL (bq bs).data.toList)).toList == (bq l).toList)]) R := by
        rw [data_bq, bq_beq, decide_eq_false hne]; exact hK _
      repeat' (first
        | (show evG _ _ _ _ _ _ _; first | refine G_add64 ?_ | refine G_mul64 ?_ | refine G_pure0 ?_ | refine evG_nil ?_ | refine G_br ?_ ?_ | refine G_pure ?_ | (refine G_append ?_; intro _ _) | (refine G_appendN ?_; intro _ _) | refine G_indexS ?_ | refine G_conv64 ?_ | refine G_conv8 ?_ | refine G_convu ?_ | refine G_conv ?_ | refine G_cat ?_ | refine G_eql_agg ?_ | refine G_bytesP ?_ | refine G_bytesstr ?_ | refine G_call ?_ | refine G_call0 ?_ | (refine G_buildSlice ?_; intro _) | (refine G_strrow ?_; intro _ _) | refine G_skip ?_ | refine G_skip0 ?_)
        | (show spl _ _ _; first | refine spl_no rfl ?_ | refine spl_yes rfl ?_)
        | (show evC _ _ _ _ _; first | refine c_seq ?_ | refine c_region (by exact rfl) ?_ | refine c_cond (by exact rfl) ?_ | refine c_ret ?_ | refine c_skip ?_ | refine c_block ?_ | refine c_exit ?_ | (show evC _ (.region 11 _ true) _ _ _; refine c_draw (l := [(0, 0), (1, 0), (2, 0), (3, 0), (4, 1), (6, 1), (7, 1), (8, 1), (9, 1), (10, 1), (5, 1), (11, 0), (12, 0), (13, 0)]) (by decide +kernel) (by decide +kernel) (by exact rfl) ?_) | (show evC _ (.region 14 _ true) _ _ _; refine c_drawT (t := (.br (.st 0 2 (.st 1 3 (.st 2 1 (.st 3 1 (.st 4 1 (.st 5 1 (.st 6 1 (.st 7 1 (.st 8 1 (.st 9 1 (.st 10 1 (.st 11 1 (.st 12 2 (.st 13 2 (.st 14 3 (.st 15 1 (.st 16 1 (.st 17 0 (.st 18 0 .nil))))))))))))))))))) (.st 2 1 (.st 3 1 (.st 4 1 (.st 5 1 (.st 6 1 (.st 7 1 (.st 8 1 (.st 9 1 (.st 10 1 (.st 11 1 (.st 12 2 (.br (.st 0 2 (.st 1 3 (.st 13 2 (.st 14 3 (.st 15 1 (.st 16 1 (.st 17 0 (.st 18 0 .nil)))))))) (.st 13 2 (.st 0 2 (.st 1 3 (.st 14 3 (.st 15 1 (.st 16 1 (.st 17 0 (.st 18 0 .nil)))))))))))))))))))))) (by kernel_rfl) (by decide +kernel) (by exact rfl) ?_) | refine std ?_)
        | (show Br _ _ _; first | refine Br.t rfl ?_ | refine Br.f rfl ?_ | refine brs ?_ | (first | refine Br.mkN (fun h => ?_) (fun h => ?_) | refine Br.mk (fun h => ?_) (fun h => ?_)) <;> (try (first | contradiction | (exfalso; omega) | (exfalso; simp at h; done))))
        | refine stp ?_
        | (show CallT _ 35 _ _ _; refine CA (h := text_ok hts ?_)))
      all_goals first
        | (show retC _ _ _ _ _ _; refine RETC ?_; exact ret_done (hfin))
        | (show retC _ _ _ _ _ _; refine RETC ?_; exact ret_done (hK _))
    · repeat' (first
        | (show evG _ _ _ _ _ _ _; first | refine G_add64 ?_ | refine G_mul64 ?_ | refine G_pure0 ?_ | refine evG_nil ?_ | refine G_br ?_ ?_ | refine G_pure ?_ | (refine G_append ?_; intro _ _) | (refine G_appendN ?_; intro _ _) | refine G_indexS ?_ | refine G_conv64 ?_ | refine G_conv8 ?_ | refine G_convu ?_ | refine G_conv ?_ | refine G_cat ?_ | refine G_eql_agg ?_ | refine G_bytesP ?_ | refine G_bytesstr ?_ | refine G_call ?_ | refine G_call0 ?_ | (refine G_buildSlice ?_; intro _) | (refine G_strrow ?_; intro _ _) | refine G_skip ?_ | refine G_skip0 ?_)
        | (show spl _ _ _; first | refine spl_no rfl ?_ | refine spl_yes rfl ?_)
        | (show evC _ _ _ _ _; first | refine c_seq ?_ | refine c_region (by exact rfl) ?_ | refine c_cond (by exact rfl) ?_ | refine c_ret ?_ | refine c_skip ?_ | refine c_block ?_ | refine c_exit ?_ | (show evC _ (.region 11 _ true) _ _ _; refine c_draw (l := [(0, 0), (1, 0), (2, 0), (3, 0), (4, 1), (6, 1), (7, 1), (8, 1), (9, 1), (10, 1), (5, 1), (11, 0), (12, 0), (13, 0)]) (by decide +kernel) (by decide +kernel) (by exact rfl) ?_) | (show evC _ (.region 14 _ true) _ _ _; refine c_drawT (t := (.br (.st 0 2 (.st 1 3 (.st 2 1 (.st 3 1 (.st 4 1 (.st 5 1 (.st 6 1 (.st 7 1 (.st 8 1 (.st 9 1 (.st 10 1 (.st 11 1 (.st 12 2 (.st 13 2 (.st 14 3 (.st 15 1 (.st 16 1 (.st 17 0 (.st 18 0 .nil))))))))))))))))))) (.st 2 1 (.st 3 1 (.st 4 1 (.st 5 1 (.st 6 1 (.st 7 1 (.st 8 1 (.st 9 1 (.st 10 1 (.st 11 1 (.st 12 2 (.br (.st 0 2 (.st 1 3 (.st 13 2 (.st 14 3 (.st 15 1 (.st 16 1 (.st 17 0 (.st 18 0 .nil)))))))) (.st 13 2 (.st 0 2 (.st 1 3 (.st 14 3 (.st 15 1 (.st 16 1 (.st 17 0 (.st 18 0 .nil)))))))))))))))))))))) (by kernel_rfl) (by decide +kernel) (by exact rfl) ?_) | refine std ?_)
        | (show Br _ _ _; first | refine Br.t rfl ?_ | refine Br.f rfl ?_ | refine brs ?_ | (first | refine Br.mkN (fun h => ?_) (fun h => ?_) | refine Br.mk (fun h => ?_) (fun h => ?_)) <;> (try (first | contradiction | (exfalso; omega) | (exfalso; simp at h; done))))
        | refine stp ?_)
      all_goals (show retC _ _ _ _ _ _; refine RETC ?_; exact ret_done (hK _))
end Go.Proofs.YtiofdmjecjcdbaaGreatDoor

