/- Script: the document's numbers and texts read: lemmas; each with the conditions that it states. -/
import Derived.Test.YtiofdmjecjcdbaaGreatDoorFh
import Derived.Test.YtiofdmjecjcdbaaGreatDoorG11

namespace Go.Proofs.YtiofdmjecjcdbaaGreatDoor
open Go Go.Proofs Go.Sl
set_option maxRecDepth 100000
set_option maxHeartbeats 4000000
set_option linter.unusedSimpArgs false
set_option linter.unusedVariables false
attribute [local irreducible] evG evC spl thenC inBlockC noGotoC CallT retC RetG TurnG CutG pt ro exP star sep pureP
variable {R C : List HP} {K : Value → List HP → Prop}
theorem ext_drop {l : List UInt8} {a : Nat} : (bq l).extract a (bq l).size = bq (l.drop a) := by
  rw [ext_bq, data_bq, bq_size, List.take_of_length_le (by simp)]
theorem rnumYn_ok {D : List UInt8} {n0 : Int} (hr : inR n0) (hneg : n0 < 0) (hD : D = upL n0.natAbs) (hdl : dgL n0 = 45 :: D) (hK : K (.tuple #[.int .i64 n0, .bool true]) R) : CallT Tryz.prog 52 #[.string (bq (45 :: D))] R K := by
  have hr' := hr
  obtain ⟨h0, h1⟩ := hr'
  have hcmp : ((bq (dgL n0)).toList == (bq (45 :: D)).toList) = true := by rw [hdl]; exact beq_self_eq_true _
  have hv : valL D = n0.natAbs := by rw [hD, upL_val]
  have hdl20 : D.length ≤ 19 := by rw [hD]; exact upL_len 18 _ (by omega)
  have hd0 : 0 < D.length := by rw [hD]; exact List.length_pos_iff.2 (upL_ne _)
  have hsz := bq_size D
  have hsz2 := bq_size (45 :: D)
  have x0 : (bq (45 :: D))[((0 : Int)).toNat]? = some 45 := by rw [bget_bq]; rfl
  have hex : (bq (45 :: D)).extract ((1 : Int)).toNat (bq (45 :: D)).size = bq D := ext_drop
  have hexs : ((bq (45 :: D)).extract ((1 : Int)).toNat (bq (45 :: D)).size).size = D.length := by rw [hex, hsz]
  rw [List.length_cons] at hsz2
  refine callT_intro mixed Tryz.func52 rfl (by decide) (by decide +kernel) (by exact Nat.le_of_ble_eq_true rfl) ?_
  repeat' (first
    | (show evG _ _ _ _ _ _ _; first | refine G_add64 ?_ | refine G_sub64 ?_ | refine G_mul64 ?_ | refine G_pure0 ?_ | refine evG_nil ?_ | refine G_br ?_ ?_ | refine G_pure ?_ | refine G_not ?_ | refine G_indexS ?_ | refine G_conv64 ?_ | refine G_conv8 ?_ | refine G_convu ?_ | refine G_conv ?_ | refine G_slh ?_ | refine G_slo ?_ | refine G_shi ?_ | refine G_cat ?_ | refine G_neg64 ?_ | refine G_eql_agg ?_ | refine G_neq_agg ?_ | refine G_bytesP ?_ | refine G_bytesstr ?_ | refine G_call ?_ | refine G_call0 ?_ | (refine G_strrow ?_; intro _ _) | (refine G_sliceR ?_; intro _) | (refine G_sliceO ?_; intro _) | refine G_skip ?_ | refine G_skip0 ?_)
    | (show spl _ _ _; first | refine spl_no rfl ?_ | refine spl_yes rfl ?_)
    | (show evC _ _ _ _ _; first | refine c_seq ?_ | refine c_region (by exact rfl) ?_ | refine c_cond (by exact rfl) ?_ | refine c_ret ?_ | refine c_skip ?_ | refine c_block ?_ | refine c_exit ?_ | refine std ?_)
    | (show Br _ _ _; first | refine Br.t rfl ?_ | refine Br.f rfl ?_ | refine brs ?_ | (first | refine Br.mkN (fun h => ?_) (fun h => ?_) | refine Br.mk (fun h => ?_) (fun h => ?_)) <;> (try (first | contradiction | (exfalso; omega) | (exfalso; simp at h; done))))
    | refine stp ?_)
  all_goals first
    | (exfalso; omega)
    | skip
  refine LOOP (fun m a C' => ∃ j : Nat, j + m = D.length ∧ C' = R ∧ Agree a [(0, .string (bq (45 :: D))), (4, .bool true), (5, .string (bq D)), (6, .int .i64 (-(valL (D.take j) : Nat))), (7, .int .i64 j)]) D.length (turn D.length ⟨0, by omega, rfl, rfl, rfl, (congrArg Value.string hex), rfl, rfl, trivial⟩) ?_
  rintro n1 a C' ⟨j, hj, rfl, ha⟩
  refine c_fr _ ha ?_
  simp only [updL]
  clear x0 hex hexs
  by_cases hlt : j < D.length
  · obtain ⟨b, hb⟩ : ∃ b, D[j]? = some b := ⟨_, List.getElem?_eq_getElem hlt⟩
    have hb1 : (bq D)[((j : Nat) : Int).toNat]? = some b := by rw [bget_bq]; exact hb
    have hdig : isD b := upL_dig n0.natAbs b (by rw [← hD]; exact List.mem_of_getElem? hb)
    obtain ⟨d1, d2⟩ := hdig
    have ht := valL_take hb
    have hle := valL_le D (j + 1)
    repeat' (first
      | (show evG _ _ _ _ _ _ _; first | refine G_add64 ?_ | refine G_sub64 ?_ | refine G_mul64 ?_ | refine G_pure0 ?_ | refine evG_nil ?_ | refine G_br ?_ ?_ | refine G_pure ?_ | refine G_not ?_ | refine G_indexS ?_ | refine G_conv64 ?_ | refine G_conv8 ?_ | refine G_convu ?_ | refine G_conv ?_ | refine G_slh ?_ | refine G_slo ?_ | refine G_shi ?_ | refine G_cat ?_ | refine G_neg64 ?_ | refine G_eql_agg ?_ | refine G_neq_agg ?_ | refine G_bytesP ?_ | refine G_bytesstr ?_ | refine G_call ?_ | refine G_call0 ?_ | (refine G_strrow ?_; intro _ _) | (refine G_sliceR ?_; intro _) | (refine G_sliceO ?_; intro _) | refine G_skip ?_ | refine G_skip0 ?_)
      | (show spl _ _ _; first | refine spl_no rfl ?_ | refine spl_yes rfl ?_)
      | (show evC _ _ _ _ _; first | refine c_seq ?_ | refine c_region (by exact rfl) ?_ | refine c_cond (by exact rfl) ?_ | refine c_ret ?_ | refine c_skip ?_ | refine c_block ?_ | refine c_exit ?_ | refine std ?_)
      | (show Br _ _ _; first | refine Br.t rfl ?_ | refine Br.f rfl ?_ | refine brs ?_ | (first | refine Br.mkN (fun h => ?_) (fun h => ?_) | refine Br.mk (fun h => ?_) (fun h => ?_)) <;> (try (first | contradiction | (exfalso; omega) | (exfalso; simp at h; done))))
      | refine stp ?_)
    all_goals first
      | (show TurnG _ _ _ _; exact turn (n1 - 1) ⟨j + 1, by omega, rfl, rfl, rfl, rfl, congrArg (Value.int IntKind.i64) (by rw [ht]; omega), rfl, trivial⟩)
      | (exfalso; omega)
  · obtain rfl : j = D.length := by omega
    rw [List.take_length, hv]
    have e1 : (-((n0.natAbs : Nat) : Int)) = n0 := by omega
    rw [e1]
    repeat' (first
      | (show evG _ _ _ _ _ _ _; first | refine G_add64 ?_ | refine G_sub64 ?_ | refine G_mul64 ?_ | refine G_pure0 ?_ | refine evG_nil ?_ | refine G_br ?_ ?_ | refine G_pure ?_ | refine G_not ?_ | refine G_indexS ?_ | refine G_conv64 ?_ | refine G_conv8 ?_ | refine G_convu ?_ | refine G_conv ?_ | refine G_slh ?_ | refine G_slo ?_ | refine G_shi ?_ | refine G_cat ?_ | refine G_neg64 ?_ | refine G_eql_agg ?_ | refine G_neq_agg ?_ | refine G_bytesP ?_ | refine G_bytesstr ?_ | refine G_call ?_ | refine G_call0 ?_ | (refine G_strrow ?_; intro _ _) | (refine G_sliceR ?_; intro _) | (refine G_sliceO ?_; intro _) | refine G_skip ?_ | refine G_skip0 ?_)
      | (show spl _ _ _; first | refine spl_no rfl ?_ | refine spl_yes rfl ?_)
      | (show evC _ _ _ _ _; first | refine c_seq ?_ | refine c_region (by exact rfl) ?_ | refine c_cond (by exact rfl) ?_ | refine c_ret ?_ | refine c_skip ?_ | refine c_block ?_ | refine c_exit ?_ | refine std ?_)
      | (show Br _ _ _; first | refine Br.t rfl ?_ | refine Br.f rfl ?_ | refine brs ?_ | (first | refine Br.mkN (fun h => ?_) (fun h => ?_) | refine Br.mk (fun h => ?_) (fun h => ?_)) <;> (try (first | contradiction | (exfalso; omega) | (exfalso; simp at h; done))))
      | refine stp ?_
      | (show CallT _ 43 _ _ _; refine CA (h := rdig_ok hr ?_)))
    all_goals (show retC _ _ _ _ _ _; refine RETC ?_; exact ret_done (hK))
theorem rnumYp_ok {D : List UInt8} {n0 : Int} (hr : inR n0) (hneg : 0 ≤ n0) (hD : D = upL n0.natAbs) (hdl : dgL n0 = D) (hK : K (.tuple #[.int .i64 n0, .bool true]) R) : CallT Tryz.prog 52 #[.string (bq (D))] R K := by
  have hr' := hr
  obtain ⟨h0, h1⟩ := hr'
  have hcmp : ((bq (dgL n0)).toList == (bq (D)).toList) = true := by rw [hdl]; exact beq_self_eq_true _
  have hv : valL D = n0.natAbs := by rw [hD, upL_val]
  have hdl20 : D.length ≤ 19 := by rw [hD]; exact upL_len 18 _ (by omega)
  have hd0 : 0 < D.length := by rw [hD]; exact List.length_pos_iff.2 (upL_ne _)
  have hsz := bq_size D
  have hsz2 := bq_size (D)
  obtain ⟨b0, hb0⟩ : ∃ b, D[0]? = some b := ⟨_, List.getElem?_eq_getElem hd0⟩
  have x0 : (bq D)[((0 : Int)).toNat]? = some b0 := by rw [bget_bq]; exact hb0
  have hb45 : ¬ ((b0.toNat : Nat) : Int) = 45 := fun e => by
    have := upL_dig n0.natAbs b0 (by rw [← hD]; exact List.mem_of_getElem? hb0)
    unfold isD at this
    omega
  have hb45b : (((b0.toNat : Nat) : Int) == 45) = false := by simpa using hb45
  refine callT_intro mixed Tryz.func52 rfl (by decide) (by decide +kernel) (by exact Nat.le_of_ble_eq_true rfl) ?_
  repeat' (first
    | (show evG _ _ _ _ _ _ _; first | refine G_add64 ?_ | refine G_sub64 ?_ | refine G_mul64 ?_ | refine G_pure0 ?_ | refine evG_nil ?_ | refine G_br ?_ ?_ | refine G_pure ?_ | refine G_not ?_ | refine G_indexS ?_ | refine G_conv64 ?_ | refine G_conv8 ?_ | refine G_convu ?_ | refine G_conv ?_ | refine G_slh ?_ | refine G_slo ?_ | refine G_shi ?_ | refine G_cat ?_ | refine G_neg64 ?_ | refine G_eql_agg ?_ | refine G_neq_agg ?_ | refine G_bytesP ?_ | refine G_bytesstr ?_ | refine G_call ?_ | refine G_call0 ?_ | (refine G_strrow ?_; intro _ _) | (refine G_sliceR ?_; intro _) | (refine G_sliceO ?_; intro _) | refine G_skip ?_ | refine G_skip0 ?_)
    | (show spl _ _ _; first | refine spl_no rfl ?_ | refine spl_yes rfl ?_)
    | (show evC _ _ _ _ _; first | refine c_seq ?_ | refine c_region (by exact rfl) ?_ | refine c_cond (by exact rfl) ?_ | refine c_ret ?_ | refine c_skip ?_ | refine c_block ?_ | refine c_exit ?_ | refine std ?_)
    | (show Br _ _ _; first | refine Br.t rfl ?_ | refine Br.f rfl ?_ | refine brs ?_ | (first | refine Br.mkN (fun h => ?_) (fun h => ?_) | refine Br.mk (fun h => ?_) (fun h => ?_)) <;> (try (first | contradiction | (exfalso; omega) | (exfalso; simp at h; done))))
    | refine stp ?_)
  all_goals first
    | (exfalso; omega)
    | skip
  refine LOOP (fun m a C' => ∃ j : Nat, j + m = D.length ∧ C' = R ∧ Agree a [(0, .string (bq (D))), (4, .bool false), (5, .string (bq D)), (6, .int .i64 (-(valL (D.take j) : Nat))), (7, .int .i64 j)]) D.length (turn D.length ⟨0, by omega, rfl, rfl, (congrArg Value.bool hb45b), rfl, rfl, rfl, trivial⟩) ?_
  rintro n1 a C' ⟨j, hj, rfl, ha⟩
  refine c_fr _ ha ?_
  simp only [updL]
  clear x0
  by_cases hlt : j < D.length
  · obtain ⟨b, hb⟩ : ∃ b, D[j]? = some b := ⟨_, List.getElem?_eq_getElem hlt⟩
    have hb1 : (bq D)[((j : Nat) : Int).toNat]? = some b := by rw [bget_bq]; exact hb
    have hdig : isD b := upL_dig n0.natAbs b (by rw [← hD]; exact List.mem_of_getElem? hb)
    obtain ⟨d1, d2⟩ := hdig
    have ht := valL_take hb
    have hle := valL_le D (j + 1)
    repeat' (first
      | (show evG _ _ _ _ _ _ _; first | refine G_add64 ?_ | refine G_sub64 ?_ | refine G_mul64 ?_ | refine G_pure0 ?_ | refine evG_nil ?_ | refine G_br ?_ ?_ | refine G_pure ?_ | refine G_not ?_ | refine G_indexS ?_ | refine G_conv64 ?_ | refine G_conv8 ?_ | refine G_convu ?_ | refine G_conv ?_ | refine G_slh ?_ | refine G_slo ?_ | refine G_shi ?_ | refine G_cat ?_ | refine G_neg64 ?_ | refine G_eql_agg ?_ | refine G_neq_agg ?_ | refine G_bytesP ?_ | refine G_bytesstr ?_ | refine G_call ?_ | refine G_call0 ?_ | (refine G_strrow ?_; intro _ _) | (refine G_sliceR ?_; intro _) | (refine G_sliceO ?_; intro _) | refine G_skip ?_ | refine G_skip0 ?_)
      | (show spl _ _ _; first | refine spl_no rfl ?_ | refine spl_yes rfl ?_)
      | (show evC _ _ _ _ _; first | refine c_seq ?_ | refine c_region (by exact rfl) ?_ | refine c_cond (by exact rfl) ?_ | refine c_ret ?_ | refine c_skip ?_ | refine c_block ?_ | refine c_exit ?_ | refine std ?_)
      | (show Br _ _ _; first | refine Br.t rfl ?_ | refine Br.f rfl ?_ | refine brs ?_ | (first | refine Br.mkN (fun h => ?_) (fun h => ?_) | refine Br.mk (fun h => ?_) (fun h => ?_)) <;> (try (first | contradiction | (exfalso; omega) | (exfalso; simp at h; done))))
      | refine stp ?_)
    all_goals first
      | (show TurnG _ _ _ _; exact turn (n1 - 1) ⟨j + 1, by omega, rfl, rfl, rfl, rfl, congrArg (Value.int IntKind.i64) (by rw [ht]; omega), rfl, trivial⟩)
      | (exfalso; omega)
  · obtain rfl : j = D.length := by omega
    rw [List.take_length, hv]
    have e1 : 0 - (-((n0.natAbs : Nat) : Int)) = n0 := by omega
    have hr2 : inR (0 - (-((n0.natAbs : Nat) : Int))) := by rw [e1]; exact hr
    repeat' (first
      | (show evG _ _ _ _ _ _ _; first | refine G_add64 ?_ | refine G_sub64 ?_ | refine G_mul64 ?_ | refine G_pure0 ?_ | refine evG_nil ?_ | refine G_br ?_ ?_ | refine G_pure ?_ | refine G_not ?_ | refine G_indexS ?_ | refine G_conv64 ?_ | refine G_conv8 ?_ | refine G_convu ?_ | refine G_conv ?_ | refine G_slh ?_ | refine G_slo ?_ | refine G_shi ?_ | refine G_cat ?_ | refine G_neg64 ?_ | refine G_eql_agg ?_ | refine G_neq_agg ?_ | refine G_bytesP ?_ | refine G_bytesstr ?_ | refine G_call ?_ | refine G_call0 ?_ | (refine G_strrow ?_; intro _ _) | (refine G_sliceR ?_; intro _) | (refine G_sliceO ?_; intro _) | refine G_skip ?_ | refine G_skip0 ?_)
      | (show spl _ _ _; first | refine spl_no rfl ?_ | refine spl_yes rfl ?_)
      | (show evC _ _ _ _ _; first | refine c_seq ?_ | refine c_region (by exact rfl) ?_ | refine c_cond (by exact rfl) ?_ | refine c_ret ?_ | refine c_skip ?_ | refine c_block ?_ | refine c_exit ?_ | refine std ?_)
      | (show Br _ _ _; first | refine Br.t rfl ?_ | refine Br.f rfl ?_ | refine brs ?_ | (first | refine Br.mkN (fun h => ?_) (fun h => ?_) | refine Br.mk (fun h => ?_) (fun h => ?_)) <;> (try (first | contradiction | (exfalso; omega) | (exfalso; simp at h; done))))
      | refine stp ?_
      | (show CallT _ 43 _ _ _; refine CA (h := rdig_ok hr2 ?_); rw [e1]))
    all_goals first
      | (show retC _ _ _ _ _ _; refine RETC ?_; exact ret_done ((by rw [e1]; exact hK)))
      | (show retC _ _ _ _ _ _; refine RETC ?_; exact ret_done (hK))
      | (exfalso; omega)
theorem rnumY_ok {l : List UInt8} {n0 : Int} (h : rdI l = some n0) (hK : K (.tuple #[.int .i64 n0, .bool true]) R) : CallT Tryz.prog 52 #[.string (bq l)] R K := by
  obtain ⟨hr, hd⟩ := rdI_some.1 h
  by_cases hn : n0 < 0
  · have e := dgL_neg hn
    rw [show (-n0).toNat = n0.natAbs by omega] at e
    rw [← hd, e]
    exact rnumYn_ok hr hn rfl e hK
  · have e := dgL_pos (n := n0) (by omega)
    rw [show n0.toNat = n0.natAbs by omega] at e
    rw [← hd, e]
    exact rnumYp_ok hr (by omega) rfl e hK
end Go.Proofs.YtiofdmjecjcdbaaGreatDoor

