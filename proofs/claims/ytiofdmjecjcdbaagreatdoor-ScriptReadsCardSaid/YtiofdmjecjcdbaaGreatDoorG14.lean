/- Script: the document's texts read: lemmas; each with the conditions that it states. -/
import Derived.Test.YtiofdmjecjcdbaaGreatDoorFh
import Derived.Test.YtiofdmjecjcdbaaGreatDoorG11

namespace Go.Proofs.YtiofdmjecjcdbaaGreatDoor
open Go Go.Proofs Go.Sl
set_option maxRecDepth 100000
set_option maxHeartbeats 4000000
set_option linter.unusedSimpArgs false
set_option linter.unusedVariables false
attribute [local irreducible] evG evC spl thenC inBlockC noGotoC CallT retC RetG TurnG CutG pt ro exP star sep pureP
variable {R C : List HP} {K : Value → List HP → Prop}
theorem runtextY_ok {l t : List UInt8} (h : rdT l = some t) (hK : K (.tuple #[.string (bq t), .bool true]) R) : CallT Tryz.prog 53 #[.string (bq l)] R K := by
  obtain ⟨h6, rfl⟩ := rdT_some.1 h
  by_cases ht : t = []
  · subst ht
    refine callT_intro mixed Tryz.func53 rfl (by decide) (by decide +kernel) (by exact Nat.le_of_ble_eq_true rfl) ?_
    repeat' (first
      | (show evG _ _ _ _ _ _ _; first | refine G_add64 ?_ | refine G_mul64 ?_ | refine G_pure0 ?_ | refine evG_nil ?_ | refine G_br ?_ ?_ | refine G_pure ?_ | (refine G_append ?_; intro _ _) | (refine G_appendN ?_; intro _ _) | refine G_indexS ?_ | refine G_conv64 ?_ | refine G_conv8 ?_ | refine G_convu ?_ | refine G_conv ?_ | refine G_cat ?_ | refine G_eql_agg ?_ | refine G_neq_agg ?_ | refine G_bytesP ?_ | refine G_bytesstr ?_ | refine G_call ?_ | refine G_call0 ?_ | (refine G_buildSlice ?_; intro _) | (refine G_strrow ?_; intro _ _) | refine G_skip ?_ | refine G_skip0 ?_)
      | (show spl _ _ _; first | refine spl_no rfl ?_ | refine spl_yes rfl ?_)
      | (show evC _ _ _ _ _; first | refine c_seq ?_ | refine c_region (by exact rfl) ?_ | refine c_cond (by exact rfl) ?_ | refine c_ret ?_ | refine c_skip ?_ | refine c_block ?_ | refine c_exit ?_ | refine std ?_)
      | (show Br _ _ _; first | refine Br.t (by decide +kernel) ?_ | refine Br.f (by decide +kernel) ?_ | refine Br.t rfl ?_ | refine Br.f rfl ?_ | refine brs ?_ | (first | refine Br.mkN (fun h => ?_) (fun h => ?_) | refine Br.mk (fun h => ?_) (fun h => ?_)) <;> (try (first | contradiction | (exfalso; omega) | (exfalso; simp at h; done))))
      | refine stp ?_)
    all_goals (show retC _ _ _ _ _ _; refine RETC ?_; exact ret_done (hK))
  · have htx : txtL t = t.flatMap escL := by unfold txtL; rw [if_neg ht]
    have hn46 : ((bq (txtL t)).toList == (⟨#[46]⟩ : ByteArray).toList) = false := by
      rw [show (⟨#[46]⟩ : ByteArray) = bq [46] from rfl, bq_beq, htx]
      exact decide_eq_false (esc_no46 t)
    have hle := esc_le t
    have hsz := bq_size (txtL t)
    rw [htx] at hsz hn46 ⊢
    refine callT_intro mixed Tryz.func53 rfl (by decide) (by decide +kernel) (by exact Nat.le_of_ble_eq_true rfl) ?_
    repeat' (first
      | (show evG _ _ _ _ _ _ _; first | refine G_add64 ?_ | refine G_mul64 ?_ | refine G_pure0 ?_ | refine evG_nil ?_ | refine G_br ?_ ?_ | refine G_pure ?_ | (refine G_append ?_; intro _ _) | (refine G_appendN ?_; intro _ _) | refine G_indexS ?_ | refine G_conv64 ?_ | refine G_conv8 ?_ | refine G_convu ?_ | refine G_conv ?_ | refine G_cat ?_ | refine G_eql_agg ?_ | refine G_neq_agg ?_ | refine G_bytesP ?_ | refine G_bytesstr ?_ | refine G_call ?_ | refine G_call0 ?_ | (refine G_buildSlice ?_; intro _) | (refine G_strrow ?_; intro _ _) | refine G_skip ?_ | refine G_skip0 ?_)
      | (show spl _ _ _; first | refine spl_no rfl ?_ | refine spl_yes rfl ?_)
      | (show evC _ _ _ _ _; first | refine c_seq ?_ | refine c_region (by exact rfl) ?_ | refine c_cond (by exact rfl) ?_ | refine c_ret ?_ | refine c_skip ?_ | refine c_block ?_ | refine c_exit ?_ | refine std ?_)
      | (show Br _ _ _; first | refine Br.t rfl ?_ | refine Br.f rfl ?_ | refine brs ?_ | (first | refine Br.mkN (fun h => ?_) (fun h => ?_) | refine Br.mk (fun h => ?_) (fun h => ?_)) <;> (try (first | contradiction | (exfalso; omega) | (exfalso; simp at h; done))))
      | refine stp ?_)
    refine LOOP (fun m a C' => ∃ (k j n c : Nat) (A : Option Addr), k + m = t.length ∧ j = ((t.take k).flatMap escL).length ∧ n = (t.take k).length ∧ C' = row A c 5 byteC (t.take k) :: R ∧ Agree a [(0, .string (bq (t.flatMap escL))), (4, .slice A n c), (5, .int .i64 j)]) t.length (turn t.length ⟨0, 0, 0, 0, none, by omega, rfl, rfl, rfl, rfl, rfl, rfl, trivial⟩) ?_
    rintro n1 a C' ⟨k, j, n, c, A, hk, hj, hn, rfl, ha⟩
    refine c_fr _ ha ?_
    simp only [updL]
    have hnk : n ≤ 600 := by rw [hn]; simp; omega
    by_cases hlt : k < t.length
    · obtain ⟨b, hb⟩ : ∃ b, t[k]? = some b := ⟨_, List.getElem?_eq_getElem hlt⟩
      have hd := esc_drop hb
      have hel := escs_lt hb
      have het := esc_take hb
      have htk : t.take (k + 1) = t.take k ++ [b] := by rw [List.take_add_one, hb]; rfl
      rw [← hj] at hd hel
      have hbl := b.toNat_lt
      cases hp : plB b
      · have ee : escL b = [37, hexD (b.toNat / 16), hexD (b.toNat % 16)] := by unfold escL; rw [hp]; rfl
        rw [ee] at hd hel het
        have x0 : (bq (t.flatMap escL))[((j : Nat) : Int).toNat]? = some 37 := by rw [bget_bq]; exact drop_get (i := 0) hd rfl
        have x1 : (bq (t.flatMap escL))[(((j : Nat) : Int) + 1).toNat]? = some (hexD (b.toNat / 16)) := by rw [bget_bq, show (((j : Nat) : Int) + 1).toNat = j + 1 by omega]; exact drop_get (i := 1) hd rfl
        have x2 : (bq (t.flatMap escL))[(((j : Nat) : Int) + 2).toNat]? = some (hexD (b.toNat % 16)) := by rw [bget_bq, show (((j : Nat) : Int) + 2).toNat = j + 2 by omega]; exact drop_get (i := 2) hd rfl
        simp only [List.length_cons, List.length_nil] at hel
        have u1 : unhex (hexD (b.toNat / 16)) = ((b.toNat / 16 : Nat) : Int) := unhex_hexD (by omega)
        have u2 : unhex (hexD (b.toNat % 16)) = ((b.toNat % 16 : Nat) : Int) := unhex_hexD (by omega)
        have e256 : (16 * ((b.toNat / 16 : Nat) : Int) + ((b.toNat % 16 : Nat) : Int)) % 256 = ((b.toNat : Nat) : Int) := by omega
        have eb : byteI (16 * ((b.toNat / 16 : Nat) : Int) + ((b.toNat % 16 : Nat) : Int)) = b := by
          unfold byteI
          rw [e256, Int.toNat_natCast]
          exact UInt8.ofNat_toNat
        repeat' (first
          | (show evG _ _ _ _ _ _ _; first | refine G_add64 ?_ | refine G_mul64 ?_ | refine G_pure0 ?_ | refine evG_nil ?_ | refine G_br ?_ ?_ | refine G_pure ?_ | (refine G_append ?_; intro _ _) | (refine G_appendN ?_; intro _ _) | refine G_indexS ?_ | refine G_conv64 ?_ | refine G_conv8 ?_ | refine G_convu ?_ | refine G_conv ?_ | refine G_cat ?_ | refine G_eql_agg ?_ | refine G_neq_agg ?_ | refine G_bytesP ?_ | refine G_bytesstr ?_ | refine G_call ?_ | refine G_call0 ?_ | (refine G_buildSlice ?_; intro _) | (refine G_strrow ?_; intro _ _) | refine G_skip ?_ | refine G_skip0 ?_)
          | (show spl _ _ _; first | refine spl_no rfl ?_ | refine spl_yes rfl ?_)
          | (show evC _ _ _ _ _; first | refine c_seq ?_ | refine c_region (by exact rfl) ?_ | refine c_cond (by exact rfl) ?_ | refine c_ret ?_ | refine c_skip ?_ | refine c_block ?_ | refine c_exit ?_ | refine std ?_)
          | (show Br _ _ _; first | refine Br.t rfl ?_ | refine Br.f rfl ?_ | refine brs ?_ | (first | refine Br.mkN (fun h => ?_) (fun h => ?_) | refine Br.mk (fun h => ?_) (fun h => ?_)) <;> (try (first | contradiction | (exfalso; omega) | (exfalso; simp at h; done))))
          | refine stp ?_
          | (show CallT _ 76 _ _ _; first | (refine CA (h := rdigit_ok (c := hexD (b.toNat / 16)) ?_); rw [u1]) | (refine CA (h := rdigit_ok (c := hexD (b.toNat % 16)) ?_); rw [u2]))
          | (show CallT _ 68 _ _ _; first | refine CA (h := rplainF_ok pl37 ?_) | (rw [e256]; refine CA (h := rplainF_ok hp ?_))))
        all_goals (show TurnG _ _ _ _; exact turn (n1 - 1) ⟨k + 1, _, _, _, _, by omega, by rw [het, List.length_append, ← hj], by rw [htk]; simp, by rw [htk, ← eb], rfl, rfl, by simp only [List.length_cons, List.length_nil]; congr 1, trivial⟩)
      · have ee : escL b = [b] := by unfold escL; rw [hp]; rfl
        rw [ee] at hd hel het
        have x0 : (bq (t.flatMap escL))[((j : Nat) : Int).toNat]? = some b := by rw [bget_bq]; exact drop_get (i := 0) hd rfl
        simp only [List.length_cons, List.length_nil] at hel
        repeat' (first
          | (show evG _ _ _ _ _ _ _; (refine G_append (hsrc := src_bts (ys := [b]) rfl rfl) ?_; intro _ _))
          | (show evG _ _ _ _ _ _ _; first | refine G_add64 ?_ | refine G_mul64 ?_ | refine G_pure0 ?_ | refine evG_nil ?_ | refine G_br ?_ ?_ | refine G_pure ?_ | (refine G_append ?_; intro _ _) | (refine G_appendN ?_; intro _ _) | refine G_indexS ?_ | refine G_conv64 ?_ | refine G_conv8 ?_ | refine G_convu ?_ | refine G_conv ?_ | refine G_cat ?_ | refine G_eql_agg ?_ | refine G_neq_agg ?_ | refine G_bytesP ?_ | refine G_bytesstr ?_ | refine G_call ?_ | refine G_call0 ?_ | (refine G_buildSlice ?_; intro _) | (refine G_strrow ?_; intro _ _) | refine G_skip ?_ | refine G_skip0 ?_)
          | (show spl _ _ _; first | refine spl_no rfl ?_ | refine spl_yes rfl ?_)
          | (show evC _ _ _ _ _; first | refine c_seq ?_ | refine c_region (by exact rfl) ?_ | refine c_cond (by exact rfl) ?_ | refine c_ret ?_ | refine c_skip ?_ | refine c_block ?_ | refine c_exit ?_ | refine std ?_)
          | (show Br _ _ _; first | refine Br.t rfl ?_ | refine Br.f rfl ?_ | refine brs ?_ | (first | refine Br.mkN (fun h => ?_) (fun h => ?_) | refine Br.mk (fun h => ?_) (fun h => ?_)) <;> (try (first | contradiction | (exfalso; omega) | (exfalso; simp at h; done))))
          | refine stp ?_
          | (show CallT _ 68 _ _ _; refine CA (h := rplainT_ok hp ?_)))
        all_goals (show TurnG _ _ _ _; exact turn (n1 - 1) ⟨k + 1, _, _, _, _, by omega, by rw [het, List.length_append, ← hj], by rw [htk], by rw [htk], rfl, rfl, by simp only [List.length_cons, List.length_nil]; congr 1, trivial⟩)
    · obtain rfl : k = t.length := by omega
      rw [List.take_length] at hj hn ⊢
      have hns := hn.symm
      have hpos : 0 < t.length := List.length_pos_iff.2 ht
      repeat' (first
        | (show evG _ _ _ _ _ _ _; first | refine G_add64 ?_ | refine G_mul64 ?_ | refine G_pure0 ?_ | refine evG_nil ?_ | refine G_br ?_ ?_ | refine G_pure ?_ | (refine G_append ?_; intro _ _) | (refine G_appendN ?_; intro _ _) | refine G_indexS ?_ | refine G_conv64 ?_ | refine G_conv8 ?_ | refine G_convu ?_ | refine G_conv ?_ | refine G_cat ?_ | refine G_eql_agg ?_ | refine G_neq_agg ?_ | refine G_bytesP ?_ | refine G_bytesstr ?_ | refine G_call ?_ | refine G_call0 ?_ | (refine G_buildSlice ?_; intro _) | (refine G_strrow ?_; intro _ _) | refine G_skip ?_ | refine G_skip0 ?_)
        | (show spl _ _ _; first | refine spl_no rfl ?_ | refine spl_yes rfl ?_)
        | (show evC _ _ _ _ _; first | refine c_seq ?_ | refine c_region (by exact rfl) ?_ | refine c_cond (by exact rfl) ?_ | refine c_ret ?_ | refine c_skip ?_ | refine c_block ?_ | refine c_exit ?_ | refine std ?_)
        | (show Br _ _ _; first | refine Br.t rfl ?_ | refine Br.f rfl ?_ | refine brs ?_ | (first | refine Br.mkN (fun h => ?_) (fun h => ?_) | refine Br.mk (fun h => ?_) (fun h => ?_)) <;> (try (first | contradiction | (exfalso; omega) | (exfalso; simp at h; done))))
        | refine stp ?_)
      all_goals first
        | (show retC _ _ _ _ _ _; refine RETC ?_; exact ret_done (hK))
        | (exfalso; omega)
theorem runtextN_ok {l : List UInt8} (h : rdT l = none) (hs0 : l.length ≤ 1000000) (hK : ∀ s, K (.tuple #[.string s, .bool false]) R) : CallT Tryz.prog 53 #[.string (bq l)] R K := by
  have hs : (l.length : Int) ≤ 1000000 := by omega
  clear hs0
  have hno := rdT_none h
  have hn46 : ((bq l).toList == (⟨#[46]⟩ : ByteArray).toList) = false := by
    rw [show (⟨#[46]⟩ : ByteArray) = bq [46] from rfl, bq_beq]
    exact decide_eq_false fun e => hno [] (by simp) (by rw [e]; rfl)
  have hsz := bq_size l
  refine callT_intro mixed Tryz.func53 rfl (by decide) (by decide +kernel) (by exact Nat.le_of_ble_eq_true rfl) ?_
  repeat' (first
    | (show evG _ _ _ _ _ _ _; first | refine G_add64 ?_ | refine G_mul64 ?_ | refine G_pure0 ?_ | refine evG_nil ?_ | refine G_br ?_ ?_ | refine G_pure ?_ | (refine G_append ?_; intro _ _) | (refine G_appendN ?_; intro _ _) | refine G_indexS ?_ | refine G_conv64 ?_ | refine G_conv8 ?_ | refine G_convu ?_ | refine G_conv ?_ | refine G_cat ?_ | refine G_eql_agg ?_ | refine G_neq_agg ?_ | refine G_bytesP ?_ | refine G_bytesstr ?_ | refine G_call ?_ | refine G_call0 ?_ | (refine G_buildSlice ?_; intro _) | (refine G_strrow ?_; intro _ _) | refine G_skip ?_ | refine G_skip0 ?_)
    | (show spl _ _ _; first | refine spl_no rfl ?_ | refine spl_yes rfl ?_)
    | (show evC _ _ _ _ _; first | refine c_seq ?_ | refine c_region (by exact rfl) ?_ | refine c_cond (by exact rfl) ?_ | refine c_ret ?_ | refine c_skip ?_ | refine c_block ?_ | refine c_exit ?_ | refine std ?_)
    | (show Br _ _ _; first | refine Br.t rfl ?_ | refine Br.f rfl ?_ | refine brs ?_ | (first | refine Br.mkN (fun h => ?_) (fun h => ?_) | refine Br.mk (fun h => ?_) (fun h => ?_)) <;> (try (first | contradiction | (exfalso; omega) | (exfalso; simp at h; done))))
    | refine stp ?_)
  refine LOOP (fun m a C' => ∃ (j n c : Nat) (A : Option Addr) (bs : List UInt8), j + m = l.length ∧ n = bs.length ∧ n ≤ j ∧ l.take j = bs.flatMap escL ∧ C' = row A c 5 byteC bs :: R ∧ Agree a [(0, .string (bq l)), (4, .slice A n c), (5, .int .i64 j)]) l.length (turn l.length ⟨0, 0, 0, none, [], by omega, rfl, by omega, rfl, rfl, rfl, rfl, rfl, trivial⟩) ?_
  rintro n1 a C' ⟨j, n, c, A, bs, hj, hn, hnj, htk, rfl, ha⟩
  refine c_fr _ ha ?_
  simp only [updL]
  by_cases hlt : j < l.length
  · obtain ⟨b, hb⟩ : ∃ b, l[j]? = some b := ⟨_, List.getElem?_eq_getElem hlt⟩
    have x0 : (bq l)[((j : Nat) : Int).toNat]? = some b := by rw [bget_bq]; exact hb
    have hbl := b.toNat_lt
    have htk1 : l.take (j + 1) = l.take j ++ [b] := by rw [List.take_add_one, hb]; rfl
    cases hp : plB b
    · by_cases h2 : j + 2 < l.length
      · obtain ⟨b1, hb1⟩ : ∃ b, l[j + 1]? = some b := ⟨_, List.getElem?_eq_getElem (by omega)⟩
        obtain ⟨b2, hb2⟩ : ∃ b, l[j + 2]? = some b := ⟨_, List.getElem?_eq_getElem h2⟩
        have x1 : (bq l)[(((j : Nat) : Int) + 1).toNat]? = some b1 := by rw [bget_bq, show (((j : Nat) : Int) + 1).toNat = j + 1 by omega]; exact hb1
        have x2 : (bq l)[(((j : Nat) : Int) + 2).toNat]? = some b2 := by rw [bget_bq, show (((j : Nat) : Int) + 2).toNat = j + 2 by omega]; exact hb2
        have hu1 : unhex b1 < 16 := by unfold unhex; split <;> (try split) <;> omega
        have hu2 : unhex b2 < 16 := by unfold unhex; split <;> (try split) <;> omega
        have hv1 : -1 ≤ unhex b1 := by unfold unhex; split <;> (try split) <;> omega
        have hv2 : -1 ≤ unhex b2 := by unfold unhex; split <;> (try split) <;> omega
        by_cases hneg : unhex b1 < 0 ∨ unhex b2 < 0 ∨ ¬ ((b.toNat : Nat) : Int) = 37
        · repeat' (first
            | (show evG _ _ _ _ _ _ _; first | refine G_add64 ?_ | refine G_mul64 ?_ | refine G_pure0 ?_ | refine evG_nil ?_ | refine G_br ?_ ?_ | refine G_pure ?_ | (refine G_append ?_; intro _ _) | (refine G_appendN ?_; intro _ _) | refine G_indexS ?_ | refine G_conv64 ?_ | refine G_conv8 ?_ | refine G_convu ?_ | refine G_conv ?_ | refine G_cat ?_ | refine G_eql_agg ?_ | refine G_neq_agg ?_ | refine G_bytesP ?_ | refine G_bytesstr ?_ | refine G_call ?_ | refine G_call0 ?_ | (refine G_buildSlice ?_; intro _) | (refine G_strrow ?_; intro _ _) | refine G_skip ?_ | refine G_skip0 ?_)
            | (show spl _ _ _; first | refine spl_no rfl ?_ | refine spl_yes rfl ?_)
            | (show evC _ _ _ _ _; first | refine c_seq ?_ | refine c_region (by exact rfl) ?_ | refine c_cond (by exact rfl) ?_ | refine c_ret ?_ | refine c_skip ?_ | refine c_block ?_ | refine c_exit ?_ | refine std ?_)
            | (show Br _ _ _; first | refine Br.t rfl ?_ | refine Br.f rfl ?_ | refine brs ?_ | (first | refine Br.mkN (fun h => ?_) (fun h => ?_) | refine Br.mk (fun h => ?_) (fun h => ?_)) <;> (try (first | contradiction | (exfalso; omega) | (exfalso; simp at h; done))))
            | refine stp ?_
            | (show CallT _ 68 _ _ _; refine CA (h := rplainF_ok hp ?_))
            | (show CallT _ 76 _ _ _; refine CA (h := rdigit_ok ?_)))
          all_goals first
            | (show retC _ _ _ _ _ _; refine RETC ?_; exact ret_done (hK _))
            | (exfalso; omega)
        · obtain ⟨x, hx⟩ : ∃ x : UInt8, (16 * unhex b1 + unhex b2) % 256 = ((x.toNat : Nat) : Int) := ⟨UInt8.ofNat (16 * unhex b1 + unhex b2).toNat, by rw [UInt8.toNat_ofNat']; omega⟩
          have hxl := x.toNat_lt
          have ex : byteI (16 * unhex b1 + unhex b2) = x := by
            unfold byteI
            rw [hx, Int.toNat_natCast]
            exact UInt8.ofNat_toNat
          have e37 : b = 37 := UInt8.toNat_inj.1 (by simpa using (by omega : b.toNat = 37))
          have p37 : plB 37 = false := pl37
          cases hpx : plB x
          · have ee : escL x = [37, b1, b2] := by
              unfold escL
              rw [hpx]
              have q1 := (hexD_unhex (c := b1) (by omega)).2
              have q2 := (hexD_unhex (c := b2) (by omega)).2
              rw [← q1, ← q2, show x.toNat / 16 = (unhex b1).toNat by omega, show x.toNat % 16 = (unhex b2).toNat by omega]
              rfl
            have et : l.take (j + 3) = (bs ++ [x]).flatMap escL := by
              rw [show j + 3 = j + 1 + 1 + 1 by omega, List.take_add_one, List.take_add_one, htk1, htk, hb1, hb2, List.flatMap_append, e37]
              simp [ee]
            repeat' (first
              | (show evG _ _ _ _ _ _ _; first | refine G_add64 ?_ | refine G_mul64 ?_ | refine G_pure0 ?_ | refine evG_nil ?_ | refine G_br ?_ ?_ | refine G_pure ?_ | (refine G_append ?_; intro _ _) | (refine G_appendN ?_; intro _ _) | refine G_indexS ?_ | refine G_conv64 ?_ | refine G_conv8 ?_ | refine G_convu ?_ | refine G_conv ?_ | refine G_cat ?_ | refine G_eql_agg ?_ | refine G_neq_agg ?_ | refine G_bytesP ?_ | refine G_bytesstr ?_ | refine G_call ?_ | refine G_call0 ?_ | (refine G_buildSlice ?_; intro _) | (refine G_strrow ?_; intro _ _) | refine G_skip ?_ | refine G_skip0 ?_)
              | (show spl _ _ _; first | refine spl_no rfl ?_ | refine spl_yes rfl ?_)
              | (show evC _ _ _ _ _; first | refine c_seq ?_ | refine c_region (by exact rfl) ?_ | refine c_cond (by exact rfl) ?_ | refine c_ret ?_ | refine c_skip ?_ | refine c_block ?_ | refine c_exit ?_ | refine std ?_)
              | (show Br _ _ _; first | refine Br.t rfl ?_ | refine Br.f rfl ?_ | refine brs ?_ | (first | refine Br.mkN (fun h => ?_) (fun h => ?_) | refine Br.mk (fun h => ?_) (fun h => ?_)) <;> (try (first | contradiction | (exfalso; omega) | (exfalso; simp at h; done))))
              | refine stp ?_
              | (show CallT _ 76 _ _ _; refine CA (h := rdigit_ok ?_))
              | (show CallT _ 68 _ _ _; first | refine CA (h := rplainF_ok hp ?_) | (rw [hx]; refine CA (h := rplainF_ok hpx ?_))))
            all_goals first
              | (show TurnG _ _ _ _; exact turn (n1 - 3) ⟨j + 3, _, _, _, _, by omega, rfl, by simp; omega, by rw [et, ex], rfl, rfl, rfl, rfl, trivial⟩)
              | (exfalso; omega)
          · repeat' (first
              | (show evG _ _ _ _ _ _ _; first | refine G_add64 ?_ | refine G_mul64 ?_ | refine G_pure0 ?_ | refine evG_nil ?_ | refine G_br ?_ ?_ | refine G_pure ?_ | (refine G_append ?_; intro _ _) | (refine G_appendN ?_; intro _ _) | refine G_indexS ?_ | refine G_conv64 ?_ | refine G_conv8 ?_ | refine G_convu ?_ | refine G_conv ?_ | refine G_cat ?_ | refine G_eql_agg ?_ | refine G_neq_agg ?_ | refine G_bytesP ?_ | refine G_bytesstr ?_ | refine G_call ?_ | refine G_call0 ?_ | (refine G_buildSlice ?_; intro _) | (refine G_strrow ?_; intro _ _) | refine G_skip ?_ | refine G_skip0 ?_)
              | (show spl _ _ _; first | refine spl_no rfl ?_ | refine spl_yes rfl ?_)
              | (show evC _ _ _ _ _; first | refine c_seq ?_ | refine c_region (by exact rfl) ?_ | refine c_cond (by exact rfl) ?_ | refine c_ret ?_ | refine c_skip ?_ | refine c_block ?_ | refine c_exit ?_ | refine std ?_)
              | (show Br _ _ _; first | refine Br.t rfl ?_ | refine Br.f rfl ?_ | refine brs ?_ | (first | refine Br.mkN (fun h => ?_) (fun h => ?_) | refine Br.mk (fun h => ?_) (fun h => ?_)) <;> (try (first | contradiction | (exfalso; omega) | (exfalso; simp at h; done))))
              | refine stp ?_
              | (show CallT _ 76 _ _ _; refine CA (h := rdigit_ok ?_))
              | (show CallT _ 68 _ _ _; first | refine CA (h := rplainF_ok hp ?_) | (rw [hx]; refine CA (h := rplainT_ok hpx ?_))))
            all_goals first
              | (show retC _ _ _ _ _ _; refine RETC ?_; exact ret_done (hK _))
              | (exfalso; omega)
      · repeat' (first
          | (show evG _ _ _ _ _ _ _; first | refine G_add64 ?_ | refine G_mul64 ?_ | refine G_pure0 ?_ | refine evG_nil ?_ | refine G_br ?_ ?_ | refine G_pure ?_ | (refine G_append ?_; intro _ _) | (refine G_appendN ?_; intro _ _) | refine G_indexS ?_ | refine G_conv64 ?_ | refine G_conv8 ?_ | refine G_convu ?_ | refine G_conv ?_ | refine G_cat ?_ | refine G_eql_agg ?_ | refine G_neq_agg ?_ | refine G_bytesP ?_ | refine G_bytesstr ?_ | refine G_call ?_ | refine G_call0 ?_ | (refine G_buildSlice ?_; intro _) | (refine G_strrow ?_; intro _ _) | refine G_skip ?_ | refine G_skip0 ?_)
          | (show spl _ _ _; first | refine spl_no rfl ?_ | refine spl_yes rfl ?_)
          | (show evC _ _ _ _ _; first | refine c_seq ?_ | refine c_region (by exact rfl) ?_ | refine c_cond (by exact rfl) ?_ | refine c_ret ?_ | refine c_skip ?_ | refine c_block ?_ | refine c_exit ?_ | refine std ?_)
          | (show Br _ _ _; first | refine Br.t rfl ?_ | refine Br.f rfl ?_ | refine brs ?_ | (first | refine Br.mkN (fun h => ?_) (fun h => ?_) | refine Br.mk (fun h => ?_) (fun h => ?_)) <;> (try (first | contradiction | (exfalso; omega) | (exfalso; simp at h; done))))
          | refine stp ?_
          | (show CallT _ 68 _ _ _; refine CA (h := rplainF_ok hp ?_)))
        all_goals first
          | (show retC _ _ _ _ _ _; refine RETC ?_; exact ret_done (hK _))
          | (exfalso; omega)
    · have ee : escL b = [b] := by unfold escL; rw [hp]; rfl
      have et : l.take (j + 1) = (bs ++ [b]).flatMap escL := by rw [htk1, htk, List.flatMap_append]; simp [ee]
      repeat' (first
        | (show evG _ _ _ _ _ _ _; (refine G_append (hsrc := src_bts (ys := [b]) rfl rfl) ?_; intro _ _))
        | (show evG _ _ _ _ _ _ _; first | refine G_add64 ?_ | refine G_mul64 ?_ | refine G_pure0 ?_ | refine evG_nil ?_ | refine G_br ?_ ?_ | refine G_pure ?_ | (refine G_append ?_; intro _ _) | (refine G_appendN ?_; intro _ _) | refine G_indexS ?_ | refine G_conv64 ?_ | refine G_conv8 ?_ | refine G_convu ?_ | refine G_conv ?_ | refine G_cat ?_ | refine G_eql_agg ?_ | refine G_neq_agg ?_ | refine G_bytesP ?_ | refine G_bytesstr ?_ | refine G_call ?_ | refine G_call0 ?_ | (refine G_buildSlice ?_; intro _) | (refine G_strrow ?_; intro _ _) | refine G_skip ?_ | refine G_skip0 ?_)
        | (show spl _ _ _; first | refine spl_no rfl ?_ | refine spl_yes rfl ?_)
        | (show evC _ _ _ _ _; first | refine c_seq ?_ | refine c_region (by exact rfl) ?_ | refine c_cond (by exact rfl) ?_ | refine c_ret ?_ | refine c_skip ?_ | refine c_block ?_ | refine c_exit ?_ | refine std ?_)
        | (show Br _ _ _; first | refine Br.t rfl ?_ | refine Br.f rfl ?_ | refine brs ?_ | (first | refine Br.mkN (fun h => ?_) (fun h => ?_) | refine Br.mk (fun h => ?_) (fun h => ?_)) <;> (try (first | contradiction | (exfalso; omega) | (exfalso; simp at h; done))))
        | refine stp ?_
        | (show CallT _ 68 _ _ _; refine CA (h := rplainT_ok hp ?_)))
      all_goals (show TurnG _ _ _ _; exact turn (n1 - 1) ⟨j + 1, _, _, _, _, by omega, rfl, by simp; omega, et, rfl, rfl, rfl, rfl, trivial⟩)
  · obtain rfl : j = l.length := by omega
    rw [List.take_length] at htk
    have hns := hn.symm
    have hbad : bs.length = 0 ∨ 600 < bs.length := by
      refine Classical.byContradiction fun hc => ?_
      have hb6 : bs.length ≤ 600 := by omega
      have hb0 : bs ≠ [] := fun e => hc (.inl (by rw [e]; rfl))
      exact hno bs hb6 (by unfold txtL; rw [if_neg hb0, ← htk])
    repeat' (first
      | (show evG _ _ _ _ _ _ _; first | refine G_add64 ?_ | refine G_mul64 ?_ | refine G_pure0 ?_ | refine evG_nil ?_ | refine G_br ?_ ?_ | refine G_pure ?_ | (refine G_append ?_; intro _ _) | (refine G_appendN ?_; intro _ _) | refine G_indexS ?_ | refine G_conv64 ?_ | refine G_conv8 ?_ | refine G_convu ?_ | refine G_conv ?_ | refine G_cat ?_ | refine G_eql_agg ?_ | refine G_neq_agg ?_ | refine G_bytesP ?_ | refine G_bytesstr ?_ | refine G_call ?_ | refine G_call0 ?_ | (refine G_buildSlice ?_; intro _) | (refine G_strrow ?_; intro _ _) | refine G_skip ?_ | refine G_skip0 ?_)
      | (show spl _ _ _; first | refine spl_no rfl ?_ | refine spl_yes rfl ?_)
      | (show evC _ _ _ _ _; first | refine c_seq ?_ | refine c_region (by exact rfl) ?_ | refine c_cond (by exact rfl) ?_ | refine c_ret ?_ | refine c_skip ?_ | refine c_block ?_ | refine c_exit ?_ | refine std ?_)
      | (show Br _ _ _; first | refine Br.t rfl ?_ | refine Br.f rfl ?_ | refine brs ?_ | (first | refine Br.mkN (fun h => ?_) (fun h => ?_) | refine Br.mk (fun h => ?_) (fun h => ?_)) <;> (try (first | contradiction | (exfalso; omega) | (exfalso; simp at h; done))))
      | refine stp ?_)
    all_goals first
      | (show retC _ _ _ _ _ _; refine RETC ?_; exact ret_done (hK _))
      | (exfalso; omega)
end Go.Proofs.YtiofdmjecjcdbaaGreatDoor

