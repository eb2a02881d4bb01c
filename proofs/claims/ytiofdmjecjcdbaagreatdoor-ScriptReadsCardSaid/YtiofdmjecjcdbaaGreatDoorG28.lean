/- Script: the law's read: lemmas; each with the conditions that it states. -/
import Derived.Test.YtiofdmjecjcdbaaGreatDoorFh
import Derived.Test.YtiofdmjecjcdbaaGreatDoorG19
import Derived.Test.YtiofdmjecjcdbaaGreatDoorG12
import Derived.Test.YtiofdmjecjcdbaaGreatDoorG15
import Derived.Test.YtiofdmjecjcdbaaGreatDoorG20
import Derived.Test.YtiofdmjecjcdbaaGreatDoorG16

namespace Go.Proofs.YtiofdmjecjcdbaaGreatDoor
open Go Go.Proofs Go.Sl
set_option maxRecDepth 100000
set_option maxHeartbeats 4000000
set_option linter.unusedSimpArgs false
set_option linter.unusedVariables false
attribute [local irreducible] evG evC spl thenC inBlockC noGotoC CallT retC RetG TurnG CutG pt ro exP star sep pureP
variable {R C : List HP} {K : Value → List HP → Prop}
theorem rmade_ok {A : Option Addr} {cp : Nat} {w st it sb si stg ev wa stl : Int} (hv : View C A inC31 [w, st, it, sb, si, stg, ev, wa, stl]) (hK : K (.agg #[.int .i64 w, .int .i64 st, .int .i64 it, .int .i64 sb, .int .i64 si, .int .i64 stg, .int .i64 ev, .int .i64 wa, .int .i64 stl]) C) : CallT Tryz.prog 70 #[.slice A 9 cp] C K := by
  refine callT_intro mixed Tryz.func70 rfl (by decide) (by decide +kernel) (by exact Nat.le_of_ble_eq_true rfl) ?_
  repeat' (first
    | (show evG _ _ _ _ _ _ _; first | refine G_pure0 ?_ | refine G_load ?_ | refine evG_nil ?_ | refine G_br ?_ ?_ | refine G_pure ?_ | refine G_store ?_ | refine G_loadV ?_ | refine G_loadV0 ?_ | refine G_loadV2 ?_ | refine G_index ?_ | refine G_indexA ?_ | refine G_build ?_ | (refine G_alloc ?_; intro _) | (refine G_indexV ?_; intro _ _ hA; subst hA))
    | (show spl _ _ _; first | refine spl_no rfl ?_ | refine spl_yes rfl ?_)
    | (show evC _ _ _ _ _; first | refine c_seq ?_ | refine c_region (by exact rfl) ?_ | refine c_cond (by exact rfl) ?_ | refine c_ret ?_ | refine c_skip ?_ | refine c_block ?_ | refine c_exit ?_ | (show evC _ (.region 1 _ true) _ _ _; refine c_drawB (bl := [0, 1, 3, 0, 8, 24, 0, 64, 192, 511, 0, 1024, 3072, 0, 8192, 24576, 0, 65536, 196608, 0, 524288, 1572864, 0, 4194304, 12582912, 0, 33554432, 100663296, 268435455, 536870911]) (br := [536870911, 268435455, 100663296, 33554432, 0, 12582912, 4194304, 0, 1572864, 524288, 0, 196608, 65536, 0, 24576, 8192, 0, 3072, 1024, 0, 511, 192, 64, 0, 24, 8, 0, 3, 1, 0]) (l := [(0, 0), (1, 0), (2, 0), (3, 0), (4, 0), (5, 0), (6, 0), (7, 0), (8, 0), (9, 0), (10, 0), (11, 0), (12, 0), (13, 0), (14, 0), (15, 0), (16, 0), (17, 0), (18, 0), (19, 0), (20, 0), (21, 0), (22, 0), (23, 0), (24, 0), (25, 0), (26, 0), (27, 0), (28, 0), (29, 1)]) (by decide +kernel) (by decide +kernel) (by decide +kernel) (by decide +kernel) (by exact rfl) ?_) | refine std ?_)
    | (show Br _ _ _; first | refine Br.t rfl ?_ | refine Br.f rfl ?_ | refine brs ?_ | (first | refine Br.mkN (fun h => ?_) (fun h => ?_) | refine Br.mk (fun h => ?_) (fun h => ?_)) <;> (try (first | contradiction | (exfalso; omega) | (exfalso; simp at h; done))))
    | refine stp ?_)
  all_goals (show retC _ _ _ _ _ _; refine RETC ?_; exact ret_done (hK))
set_option maxHeartbeats 8000000 in
theorem firstY_ok {l : List UInt8} {n0 n1 n2 n3 n4 n5 n6 n7 n8 n9 n10 n11 n12 n13 n14 n15 n16 n17 : Int} (hs0 : l.length ≤ 1000000) (h : rdHd l = some [n0, n1, n2, n3, n4, n5, n6, n7, n8, n9, n10, n11, n12, n13, n14, n15, n16, n17]) (hK : K (.tuple #[.agg #[.int .i64 n0, .int .i64 n1, .int .i64 n2, .int .i64 n3, .int .i64 n4, .int .i64 n5, .int .i64 n6, .int .i64 n7, .int .i64 n8], .agg #[.int .i64 n9, .int .i64 n10, .int .i64 n11, .int .i64 n12, .int .i64 n13, .int .i64 n14, .int .i64 n15, .int .i64 n16, .int .i64 n17], .bool true]) R) : CallT Tryz.prog 48 #[.string (bq l)] R K := by
  have hsz : (bq l).size ≤ 1000000 := by rw [bq_size]; omega
  have hdl : (bq l).data.toList = l := data_bq l
  have hmem : ∀ p ∈ spl1 32 l, p.length ≤ 1000000 := fun p hp => Nat.le_trans (spl1_mem hp) hs0
  obtain ⟨ps, hP, hps, hrd⟩ := rdHd_parts h
  generalize hX : [n0, n1, n2, n3, n4, n5, n6, n7, n8, n9, n10, n11, n12, n13, n14, n15, n16, n17] = X at hrd
  have hX18 : X.length = 18 := by rw [← hX]; rfl
  have hw0 : ((titB :: ps).map bq)[((0 : Int)).toNat]? = some (bq titB) := rfl
  have hml : ((titB :: ps).map bq).length = ps.length + 1 := by simp
  have hcmp : ((bq titB).toList == (⟨#[112, 97, 116, 101, 114, 110, 111, 115, 116, 101, 114]⟩ : ByteArray).toList) = true := beq_self_eq_true _
  have hn19 : ((ps.length + 1 : Nat) : Int) = 19 := by omega
  rw [hP] at hmem
  clear hs0
  refine callT_intro mixed Tryz.func48 rfl (by decide) (by decide +kernel) (by exact Nat.le_of_ble_eq_true rfl) ?_
  repeat' (first
    | (show evG _ _ _ _ _ _ _; first | refine G_add64 ?_ | refine G_pure0 ?_ | refine G_load ?_ | refine evG_nil ?_ | refine G_br ?_ ?_ | refine G_pure ?_ | refine G_store ?_ | refine G_loadV ?_ | refine G_loadV0 ?_ | refine G_loadV2 ?_ | (refine G_append ?_; intro _ _) | (refine G_appendN ?_; intro _ _) | refine G_not ?_ | refine G_index ?_ | refine G_indexA ?_ | refine G_build ?_ | refine G_slh ?_ | refine G_slo ?_ | refine G_shi ?_ | refine G_cat ?_ | refine G_neq_agg ?_ | refine G_call ?_ | refine G_call0 ?_ | (refine G_alloc ?_; intro _) | (refine G_buildSlice ?_; intro _) | (refine G_indexV ?_; intro _ _ hA; subst hA) | (refine G_sliceR ?_; intro _) | (refine G_sliceO ?_; intro _) | refine G_skip ?_ | refine G_skip0 ?_)
    | (show spl _ _ _; first | refine spl_no rfl ?_ | refine spl_yes rfl ?_)
    | (show evC _ _ _ _ _; first | refine c_seq ?_ | refine c_region (by exact rfl) ?_ | refine c_cond (by exact rfl) ?_ | refine c_ret ?_ | refine c_skip ?_ | refine c_block ?_ | refine c_exit ?_ | (show evC _ (.region 12 _ true) _ _ _; refine c_draw (l := [(0, 0), (1, 0), (2, 1), (3, 1), (4, 1), (5, 1), (6, 1), (7, 1), (8, 0)]) (by decide +kernel) (by decide +kernel) (by exact rfl) ?_) | refine std ?_)
    | (show Br _ _ _; first | refine Br.t rfl ?_ | refine Br.f rfl ?_ | refine brs ?_ | (first | refine Br.mkN (fun h => ?_) (fun h => ?_) | refine Br.mk (fun h => ?_) (fun h => ?_)) <;> (try (first | contradiction | (exfalso; omega) | (exfalso; simp at h; done))))
    | refine stp ?_
    | (show CallT _ 27 _ _ _; refine CA (h := rsplit_ok (c := 32) hsz (fun A cp => ?_)); rw [hdl, hP, List.length_cons]))
  all_goals first | (exfalso; omega) | skip
  rename_i q1 q2 B1 o1
  refine LOOP (fun m f C' => ∃ (j n c : Nat) (B : Option Addr), j + m = 18 ∧ n = j ∧ C' = pt q1 [.int .i64 0, .int .i64 0, .int .i64 0, .int .i64 0, .int .i64 0, .int .i64 0, .int .i64 0, .int .i64 0, .int .i64 0] 36 :: pt q2 [.int .i64 0, .int .i64 0, .int .i64 0, .int .i64 0, .int .i64 0, .int .i64 0, .int .i64 0, .int .i64 0, .int .i64 0] 36 :: row B c 3 inC31 (X.take j) :: row (some ⟨B1, o1, none⟩) cp 9 sgC ((titB :: ps).map bq) :: R ∧ Agree f [(2, .pointer (some ⟨q1, 0, none⟩)), (3, .pointer (some ⟨q2, 0, none⟩)), (5, .slice (some ⟨B1, o1, none⟩) (ps.length + 1) cp), (6, .slice B n c), (7, .int .i64 ((j + 1 : Nat) : Int))]) 18 (turn 18 ⟨0, 0, 0, none, by omega, rfl, rfl, rfl, rfl, rfl, rfl, rfl, trivial⟩) ?_
  rintro nk f C' ⟨j, n, c, B, hj, rfl, rfl, hA⟩
  refine c_fr _ hA ?_
  simp only [updL]
  have hxl : (X.take n).length = n := by simp; omega
  by_cases hlt : n < 18
  · obtain ⟨p, hp⟩ : ∃ p, ps[n]? = some p := ⟨_, List.getElem?_eq_getElem (by omega)⟩
    obtain ⟨x, hx1, hx2⟩ := rdIs_at hrd n p hp
    have x2 : ((titB :: ps).map bq)[((n + 1 : Nat) : Int).toNat]? = some (bq p) := map_at (by rw [Int.toNat_natCast, List.getElem?_cons_succ]; exact hp)
    have htk : X.take (n + 1) = X.take n ++ [x] := by rw [List.take_add_one, hx2]; rfl
    repeat' (first
      | (show evG _ _ _ _ _ _ _; first | refine G_add64 ?_ | refine G_pure0 ?_ | refine G_load ?_ | refine evG_nil ?_ | refine G_br ?_ ?_ | refine G_pure ?_ | refine G_store ?_ | refine G_loadV ?_ | refine G_loadV0 ?_ | refine G_loadV2 ?_ | (refine G_append ?_; intro _ _) | (refine G_appendN ?_; intro _ _) | refine G_not ?_ | refine G_index ?_ | refine G_indexA ?_ | refine G_build ?_ | refine G_slh ?_ | refine G_slo ?_ | refine G_shi ?_ | refine G_cat ?_ | refine G_neq_agg ?_ | refine G_call ?_ | refine G_call0 ?_ | (refine G_alloc ?_; intro _) | (refine G_buildSlice ?_; intro _) | (refine G_indexV ?_; intro _ _ hA; subst hA) | (refine G_sliceR ?_; intro _) | (refine G_sliceO ?_; intro _) | refine G_skip ?_ | refine G_skip0 ?_)
      | (show spl _ _ _; first | refine spl_no rfl ?_ | refine spl_yes rfl ?_)
      | (show evC _ _ _ _ _; first | refine c_seq ?_ | refine c_region (by exact rfl) ?_ | refine c_cond (by exact rfl) ?_ | refine c_ret ?_ | refine c_skip ?_ | refine c_block ?_ | refine c_exit ?_ | (show evC _ (.region 12 _ true) _ _ _; refine c_draw (l := [(0, 0), (1, 0), (2, 1), (3, 1), (4, 1), (5, 1), (6, 1), (7, 1), (8, 0)]) (by decide +kernel) (by decide +kernel) (by exact rfl) ?_) | refine std ?_)
      | (show Br _ _ _; first | refine Br.t rfl ?_ | refine Br.f rfl ?_ | refine brs ?_ | (first | refine Br.mkN (fun h => ?_) (fun h => ?_) | refine Br.mk (fun h => ?_) (fun h => ?_)) <;> (try (first | contradiction | (exfalso; omega) | (exfalso; simp at h; done))))
      | refine stp ?_
      | (show CallT _ 52 _ _ _; refine CA (h := rnumY_ok hx1 ?_)))
    all_goals first
      | (show TurnG _ _ _ _; exact turn (nk - 1) ⟨n + 1, _, _, _, by omega, (by rw [List.length_append, hxl]; rfl), by rw [htk], rfl, rfl, rfl, rfl, rfl, trivial⟩)
      | (exfalso; omega)
  · obtain rfl : n = 18 := by omega
    rw [List.take_of_length_le (by omega)]
    refine evC_rowfact (Pick.there (Pick.there Pick.here)) fun hcp => ?_
    have hc18 : 18 ≤ c := by omega
    repeat' (first
      | (show evG _ _ _ _ _ _ _; refine G_sliceV (fun A2 hA2 => ?_))
      | (show evG _ _ _ _ _ _ _; first | refine G_add64 ?_ | refine G_pure0 ?_ | refine G_load ?_ | refine evG_nil ?_ | refine G_br ?_ ?_ | refine G_pure ?_ | refine G_store ?_ | refine G_loadV ?_ | refine G_loadV0 ?_ | refine G_loadV2 ?_ | (refine G_append ?_; intro _ _) | (refine G_appendN ?_; intro _ _) | refine G_not ?_ | refine G_index ?_ | refine G_indexA ?_ | refine G_build ?_ | refine G_slh ?_ | refine G_slo ?_ | refine G_shi ?_ | refine G_cat ?_ | refine G_neq_agg ?_ | refine G_call ?_ | refine G_call0 ?_ | (refine G_alloc ?_; intro _) | (refine G_buildSlice ?_; intro _) | (refine G_indexV ?_; intro _ _ hA; subst hA) | (refine G_sliceR ?_; intro _) | (refine G_sliceO ?_; intro _) | refine G_skip ?_ | refine G_skip0 ?_)
      | (show spl _ _ _; first | refine spl_no rfl ?_ | refine spl_yes rfl ?_)
      | (show evC _ _ _ _ _; first | refine c_seq ?_ | refine c_region (by exact rfl) ?_ | refine c_cond (by exact rfl) ?_ | refine c_ret ?_ | refine c_skip ?_ | refine c_block ?_ | refine c_exit ?_ | (show evC _ (.region 12 _ true) _ _ _; refine c_draw (l := [(0, 0), (1, 0), (2, 1), (3, 1), (4, 1), (5, 1), (6, 1), (7, 1), (8, 0)]) (by decide +kernel) (by decide +kernel) (by exact rfl) ?_) | refine std ?_)
      | (show Br _ _ _; first | refine Br.t rfl ?_ | refine Br.f rfl ?_ | refine brs ?_ | (first | refine Br.mkN (fun h => ?_) (fun h => ?_) | refine Br.mk (fun h => ?_) (fun h => ?_)) <;> (try (first | contradiction | (exfalso; omega) | (exfalso; simp at h; done))))
      | refine stp ?_
      | (show CallT _ 70 _ _ _; first | refine CA (h := rmade_ok (view_lo (a := [n0, n1, n2, n3, n4, n5, n6, n7, n8]) (b := [n9, n10, n11, n12, n13, n14, n15, n16, n17]) hX.symm rfl rfl (by exact viewA) hA2 (by omega)) ?_) | refine CA (h := rmade_ok (view_hi (a := [n0, n1, n2, n3, n4, n5, n6, n7, n8]) (b := [n9, n10, n11, n12, n13, n14, n15, n16, n17]) hX.symm rfl rfl (by exact viewA) hA2 (by omega)) ?_)))
    all_goals first
      | (show retC _ _ _ _ _ _; refine RETC ?_; exact ret_done (hK))
      | (exfalso; omega)
set_option maxHeartbeats 8000000 in
theorem firstN_ok {l : List UInt8} (hs0 : l.length ≤ 1000000) (h : rdHd l = none) (hK : K (.tuple #[.agg #[.int .i64 0, .int .i64 0, .int .i64 0, .int .i64 0, .int .i64 0, .int .i64 0, .int .i64 0, .int .i64 0, .int .i64 0], .agg #[.int .i64 0, .int .i64 0, .int .i64 0, .int .i64 0, .int .i64 0, .int .i64 0, .int .i64 0, .int .i64 0, .int .i64 0], .bool false]) R) : CallT Tryz.prog 48 #[.string (bq l)] R K := by
  have hsz : (bq l).size ≤ 1000000 := by rw [bq_size]; omega
  have hdl : (bq l).data.toList = l := data_bq l
  have hmem : ∀ p ∈ spl1 32 l, p.length ≤ 1000000 := fun p hp => Nat.le_trans (spl1_mem hp) hs0
  have hPn := spl1_ne 32 l
  have hple := spl1_le (c := 32) l
  unfold rdHd at h
  generalize hP : spl1 32 l = P at h hmem hPn hple
  match P, h, hPn with
  | [], _, hPn => exact absurd rfl hPn
  | w :: ps, h, _ =>
    simp only at h
    rw [List.length_cons] at hple
    have hpl : ((ps.length : Nat) : Int) ≤ 1000000 := by omega
    clear hs0 hple
    have hw0 : ((w :: ps).map bq)[((0 : Int)).toNat]? = some (bq w) := rfl
    have hml : ((w :: ps).map bq).length = ps.length + 1 := by simp
    by_cases h18 : ps.length = 18
    · have hn19 : ((ps.length + 1 : Nat) : Int) = 19 := by omega
      by_cases hw : w = titB
      · subst hw
        rw [if_pos ⟨rfl, h18⟩] at h
        obtain ⟨k, pk, hk1, hk2⟩ := rdIs_no h
        have hk18 : k < 18 := by have := (List.getElem?_eq_some_iff.1 hk1).1; omega
        have hcmp : ((bq titB).toList == (⟨#[112, 97, 116, 101, 114, 110, 111, 115, 116, 101, 114]⟩ : ByteArray).toList) = true := beq_self_eq_true _
        refine callT_intro mixed Tryz.func48 rfl (by decide) (by decide +kernel) (by exact Nat.le_of_ble_eq_true rfl) ?_
        repeat' (first
          | (show evG _ _ _ _ _ _ _; first | refine G_add64 ?_ | refine G_pure0 ?_ | refine G_load ?_ | refine evG_nil ?_ | refine G_br ?_ ?_ | refine G_pure ?_ | refine G_store ?_ | refine G_loadV ?_ | refine G_loadV0 ?_ | refine G_loadV2 ?_ | (refine G_append ?_; intro _ _) | (refine G_appendN ?_; intro _ _) | refine G_not ?_ | refine G_index ?_ | refine G_indexA ?_ | refine G_build ?_ | refine G_slh ?_ | refine G_slo ?_ | refine G_shi ?_ | refine G_cat ?_ | refine G_neq_agg ?_ | refine G_call ?_ | refine G_call0 ?_ | (refine G_alloc ?_; intro _) | (refine G_buildSlice ?_; intro _) | (refine G_indexV ?_; intro _ _ hA; subst hA) | (refine G_sliceR ?_; intro _) | (refine G_sliceO ?_; intro _) | refine G_skip ?_ | refine G_skip0 ?_)
          | (show spl _ _ _; first | refine spl_no rfl ?_ | refine spl_yes rfl ?_)
          | (show evC _ _ _ _ _; first | refine c_seq ?_ | refine c_region (by exact rfl) ?_ | refine c_cond (by exact rfl) ?_ | refine c_ret ?_ | refine c_skip ?_ | refine c_block ?_ | refine c_exit ?_ | (show evC _ (.region 12 _ true) _ _ _; refine c_draw (l := [(0, 0), (1, 0), (2, 1), (3, 1), (4, 1), (5, 1), (6, 1), (7, 1), (8, 0)]) (by decide +kernel) (by decide +kernel) (by exact rfl) ?_) | refine std ?_)
          | (show Br _ _ _; first | refine Br.t rfl ?_ | refine Br.f rfl ?_ | refine brs ?_ | (first | refine Br.mkN (fun h => ?_) (fun h => ?_) | refine Br.mk (fun h => ?_) (fun h => ?_)) <;> (try (first | contradiction | (exfalso; omega) | (exfalso; simp at h; done))))
          | refine stp ?_
          | (show CallT _ 27 _ _ _; refine CA (h := rsplit_ok (c := 32) hsz (fun A cp => ?_)); rw [hdl, hP, List.length_cons]))
        all_goals first | (exfalso; omega) | skip
        rename_i q1 q2 B1 o1
        refine LOOP (fun m f C' => ∃ (j n c : Nat) (B : Option Addr) (X : List Int), j + m = 18 ∧ j ≤ k ∧ n = X.length ∧ n = j ∧ C' = pt q1 [.int .i64 0, .int .i64 0, .int .i64 0, .int .i64 0, .int .i64 0, .int .i64 0, .int .i64 0, .int .i64 0, .int .i64 0] 36 :: pt q2 [.int .i64 0, .int .i64 0, .int .i64 0, .int .i64 0, .int .i64 0, .int .i64 0, .int .i64 0, .int .i64 0, .int .i64 0] 36 :: row B c 3 inC31 X :: row (some ⟨B1, o1, none⟩) cp 9 sgC ((titB :: ps).map bq) :: R ∧ Agree f [(2, .pointer (some ⟨q1, 0, none⟩)), (3, .pointer (some ⟨q2, 0, none⟩)), (5, .slice (some ⟨B1, o1, none⟩) (ps.length + 1) cp), (6, .slice B n c), (7, .int .i64 ((j + 1 : Nat) : Int))]) 18 (turn 18 ⟨0, 0, 0, none, [], by omega, by omega, rfl, rfl, rfl, rfl, rfl, rfl, rfl, rfl, trivial⟩) ?_
        rintro nk f C' ⟨j, n, c, B, X, hj, hjk, hn, hnj, rfl, hA⟩
        refine c_fr _ hA ?_
        simp only [updL]
        have hxl := hn.symm
        obtain ⟨p, hp⟩ : ∃ p, ps[j]? = some p := ⟨_, List.getElem?_eq_getElem (by omega)⟩
        have hpm : p.length ≤ 1000000 := hmem p (List.mem_cons_of_mem _ (List.mem_of_getElem? hp))
        have x2 : ((titB :: ps).map bq)[((j + 1 : Nat) : Int).toNat]? = some (bq p) := map_at (by rw [Int.toNat_natCast, List.getElem?_cons_succ]; exact hp)
        cases hx : rdI p with
        | none =>
          repeat' (first
            | (show evG _ _ _ _ _ _ _; first | refine G_add64 ?_ | refine G_pure0 ?_ | refine G_load ?_ | refine evG_nil ?_ | refine G_br ?_ ?_ | refine G_pure ?_ | refine G_store ?_ | refine G_loadV ?_ | refine G_loadV0 ?_ | refine G_loadV2 ?_ | (refine G_append ?_; intro _ _) | (refine G_appendN ?_; intro _ _) | refine G_not ?_ | refine G_index ?_ | refine G_indexA ?_ | refine G_build ?_ | refine G_slh ?_ | refine G_slo ?_ | refine G_shi ?_ | refine G_cat ?_ | refine G_neq_agg ?_ | refine G_call ?_ | refine G_call0 ?_ | (refine G_alloc ?_; intro _) | (refine G_buildSlice ?_; intro _) | (refine G_indexV ?_; intro _ _ hA; subst hA) | (refine G_sliceR ?_; intro _) | (refine G_sliceO ?_; intro _) | refine G_skip ?_ | refine G_skip0 ?_)
            | (show spl _ _ _; first | refine spl_no rfl ?_ | refine spl_yes rfl ?_)
            | (show evC _ _ _ _ _; first | refine c_seq ?_ | refine c_region (by exact rfl) ?_ | refine c_cond (by exact rfl) ?_ | refine c_ret ?_ | refine c_skip ?_ | refine c_block ?_ | refine c_exit ?_ | (show evC _ (.region 12 _ true) _ _ _; refine c_draw (l := [(0, 0), (1, 0), (2, 1), (3, 1), (4, 1), (5, 1), (6, 1), (7, 1), (8, 0)]) (by decide +kernel) (by decide +kernel) (by exact rfl) ?_) | refine std ?_)
            | (show Br _ _ _; first | refine Br.t rfl ?_ | refine Br.f rfl ?_ | refine brs ?_ | (first | refine Br.mkN (fun h => ?_) (fun h => ?_) | refine Br.mk (fun h => ?_) (fun h => ?_)) <;> (try (first | contradiction | (exfalso; omega) | (exfalso; simp at h; done))))
            | refine stp ?_
            | (show CallT _ 52 _ _ _; refine CA (h := rnumN_ok hx hpm (fun m => ?_))))
          all_goals first
            | (show retC _ _ _ _ _ _; refine RETC ?_; exact ret_done (hK))
            | (exfalso; omega)
        | some x =>
          have hjk2 : j ≠ k := fun e => by subst e; rw [hk1] at hp; cases hp; rw [hk2] at hx; cases hx
          repeat' (first
            | (show evG _ _ _ _ _ _ _; first | refine G_add64 ?_ | refine G_pure0 ?_ | refine G_load ?_ | refine evG_nil ?_ | refine G_br ?_ ?_ | refine G_pure ?_ | refine G_store ?_ | refine G_loadV ?_ | refine G_loadV0 ?_ | refine G_loadV2 ?_ | (refine G_append ?_; intro _ _) | (refine G_appendN ?_; intro _ _) | refine G_not ?_ | refine G_index ?_ | refine G_indexA ?_ | refine G_build ?_ | refine G_slh ?_ | refine G_slo ?_ | refine G_shi ?_ | refine G_cat ?_ | refine G_neq_agg ?_ | refine G_call ?_ | refine G_call0 ?_ | (refine G_alloc ?_; intro _) | (refine G_buildSlice ?_; intro _) | (refine G_indexV ?_; intro _ _ hA; subst hA) | (refine G_sliceR ?_; intro _) | (refine G_sliceO ?_; intro _) | refine G_skip ?_ | refine G_skip0 ?_)
            | (show spl _ _ _; first | refine spl_no rfl ?_ | refine spl_yes rfl ?_)
            | (show evC _ _ _ _ _; first | refine c_seq ?_ | refine c_region (by exact rfl) ?_ | refine c_cond (by exact rfl) ?_ | refine c_ret ?_ | refine c_skip ?_ | refine c_block ?_ | refine c_exit ?_ | (show evC _ (.region 12 _ true) _ _ _; refine c_draw (l := [(0, 0), (1, 0), (2, 1), (3, 1), (4, 1), (5, 1), (6, 1), (7, 1), (8, 0)]) (by decide +kernel) (by decide +kernel) (by exact rfl) ?_) | refine std ?_)
            | (show Br _ _ _; first | refine Br.t rfl ?_ | refine Br.f rfl ?_ | refine brs ?_ | (first | refine Br.mkN (fun h => ?_) (fun h => ?_) | refine Br.mk (fun h => ?_) (fun h => ?_)) <;> (try (first | contradiction | (exfalso; omega) | (exfalso; simp at h; done))))
            | refine stp ?_
            | (show CallT _ 52 _ _ _; refine CA (h := rnumY_ok hx ?_)))
          all_goals first
            | (show TurnG _ _ _ _; exact turn (nk - 1) ⟨j + 1, _, _, _, X ++ [x], by omega, by omega, rfl, (by rw [List.length_append, hxl, hnj]; rfl), rfl, rfl, rfl, rfl, rfl, rfl, trivial⟩)
            | (exfalso; omega)
      · have hcmp : ((bq w).toList == (⟨#[112, 97, 116, 101, 114, 110, 111, 115, 116, 101, 114]⟩ : ByteArray).toList) = false := by
          rw [show (⟨#[112, 97, 116, 101, 114, 110, 111, 115, 116, 101, 114]⟩ : ByteArray) = bq titB from rfl, bq_beq]
          exact decide_eq_false hw
        refine callT_intro mixed Tryz.func48 rfl (by decide) (by decide +kernel) (by exact Nat.le_of_ble_eq_true rfl) ?_
        repeat' (first
          | (show evG _ _ _ _ _ _ _; first | refine G_add64 ?_ | refine G_pure0 ?_ | refine G_load ?_ | refine evG_nil ?_ | refine G_br ?_ ?_ | refine G_pure ?_ | refine G_store ?_ | refine G_loadV ?_ | refine G_loadV0 ?_ | refine G_loadV2 ?_ | (refine G_append ?_; intro _ _) | (refine G_appendN ?_; intro _ _) | refine G_not ?_ | refine G_index ?_ | refine G_indexA ?_ | refine G_build ?_ | refine G_slh ?_ | refine G_slo ?_ | refine G_shi ?_ | refine G_cat ?_ | refine G_neq_agg ?_ | refine G_call ?_ | refine G_call0 ?_ | (refine G_alloc ?_; intro _) | (refine G_buildSlice ?_; intro _) | (refine G_indexV ?_; intro _ _ hA; subst hA) | (refine G_sliceR ?_; intro _) | (refine G_sliceO ?_; intro _) | refine G_skip ?_ | refine G_skip0 ?_)
          | (show spl _ _ _; first | refine spl_no rfl ?_ | refine spl_yes rfl ?_)
          | (show evC _ _ _ _ _; first | refine c_seq ?_ | refine c_region (by exact rfl) ?_ | refine c_cond (by exact rfl) ?_ | refine c_ret ?_ | refine c_skip ?_ | refine c_block ?_ | refine c_exit ?_ | (show evC _ (.region 12 _ true) _ _ _; refine c_draw (l := [(0, 0), (1, 0), (2, 1), (3, 1), (4, 1), (5, 1), (6, 1), (7, 1), (8, 0)]) (by decide +kernel) (by decide +kernel) (by exact rfl) ?_) | refine std ?_)
          | (show Br _ _ _; first | refine Br.t rfl ?_ | refine Br.f rfl ?_ | refine brs ?_ | (first | refine Br.mkN (fun h => ?_) (fun h => ?_) | refine Br.mk (fun h => ?_) (fun h => ?_)) <;> (try (first | contradiction | (exfalso; omega) | (exfalso; simp at h; done))))
          | refine stp ?_
          | (show CallT _ 27 _ _ _; refine CA (h := rsplit_ok (c := 32) hsz (fun A cp => ?_)); rw [hdl, hP, List.length_cons]))
        all_goals first
          | (show retC _ _ _ _ _ _; refine RETC ?_; exact ret_done (hK))
          | (exfalso; omega)
    · refine callT_intro mixed Tryz.func48 rfl (by decide) (by decide +kernel) (by exact Nat.le_of_ble_eq_true rfl) ?_
      repeat' (first
        | (show evG _ _ _ _ _ _ _; first | refine G_add64 ?_ | refine G_pure0 ?_ | refine G_load ?_ | refine evG_nil ?_ | refine G_br ?_ ?_ | refine G_pure ?_ | refine G_store ?_ | refine G_loadV ?_ | refine G_loadV0 ?_ | refine G_loadV2 ?_ | (refine G_append ?_; intro _ _) | (refine G_appendN ?_; intro _ _) | refine G_not ?_ | refine G_index ?_ | refine G_indexA ?_ | refine G_build ?_ | refine G_slh ?_ | refine G_slo ?_ | refine G_shi ?_ | refine G_cat ?_ | refine G_neq_agg ?_ | refine G_call ?_ | refine G_call0 ?_ | (refine G_alloc ?_; intro _) | (refine G_buildSlice ?_; intro _) | (refine G_indexV ?_; intro _ _ hA; subst hA) | (refine G_sliceR ?_; intro _) | (refine G_sliceO ?_; intro _) | refine G_skip ?_ | refine G_skip0 ?_)
        | (show spl _ _ _; first | refine spl_no rfl ?_ | refine spl_yes rfl ?_)
        | (show evC _ _ _ _ _; first | refine c_seq ?_ | refine c_region (by exact rfl) ?_ | refine c_cond (by exact rfl) ?_ | refine c_ret ?_ | refine c_skip ?_ | refine c_block ?_ | refine c_exit ?_ | (show evC _ (.region 12 _ true) _ _ _; refine c_draw (l := [(0, 0), (1, 0), (2, 1), (3, 1), (4, 1), (5, 1), (6, 1), (7, 1), (8, 0)]) (by decide +kernel) (by decide +kernel) (by exact rfl) ?_) | refine std ?_)
        | (show Br _ _ _; first | refine Br.t rfl ?_ | refine Br.f rfl ?_ | refine brs ?_ | (first | refine Br.mkN (fun h => ?_) (fun h => ?_) | refine Br.mk (fun h => ?_) (fun h => ?_)) <;> (try (first | contradiction | (exfalso; omega) | (exfalso; simp at h; done))))
        | refine stp ?_
        | (show CallT _ 27 _ _ _; refine CA (h := rsplit_ok (c := 32) hsz (fun A cp => ?_)); rw [hdl, hP, List.length_cons]))
      all_goals first
        | (show retC _ _ _ _ _ _; refine RETC ?_; exact ret_done (hK))
        | (exfalso; omega)
set_option maxHeartbeats 8000000 in
theorem lreadY_ok {l : List UInt8} {n0 n1 n2 n3 n4 n5 n6 n7 n8 n9 n10 n11 n12 n13 n14 n15 n16 n17 : Int} {L : List AC} (hs0 : l.length ≤ 1000000) (h : rdScr 0 PL0 (spl1 10 l) = (⟨[n0, n1, n2, n3, n4, n5, n6, n7, n8, n9, n10, n11, n12, n13, n14, n15, n16, n17], L⟩, 0, 0)) (hK : ∀ A c, K (.tuple #[.agg #[.int .i64 n0, .int .i64 n1, .int .i64 n2, .int .i64 n3, .int .i64 n4, .int .i64 n5, .int .i64 n6, .int .i64 n7, .int .i64 n8, .int .i64 n9, .int .i64 n10, .int .i64 n11, .int .i64 n12, .int .i64 n13, .int .i64 n14, .int .i64 n15, .int .i64 n16, .int .i64 n17, .slice A L.length c], .int .i64 0, .int .i64 0]) (row A c 28 acC31 L :: R)) : CallT Tryz.prog 23 #[.string (bq l)] R K := by
  have hsz : (bq l).size ≤ 1000000 := by rw [bq_size]; omega
  have hdl : (bq l).data.toList = l := data_bq l
  have hmem : ∀ p ∈ spl1 10 l, p.length ≤ 1000000 := fun p hp => Nat.le_trans (spl1_mem hp) hs0
  have hple := spl1_le (c := 10) l
  have hpos : 0 < (spl1 10 l).length := List.length_pos_iff.2 (spl1_ne 10 l)
  have hpI : (((spl1 10 l).length : Nat) : Int) ≤ 1000001 := by omega
  have hml : ((spl1 10 l).map bq).length = (spl1 10 l).length := by simp
  have hfd : rdScr 0 PL0 ((spl1 10 l).drop 0) = (⟨[n0, n1, n2, n3, n4, n5, n6, n7, n8, n9, n10, n11, n12, n13, n14, n15, n16, n17], L⟩, 0, 0) := h
  clear hs0 hple h
  refine callT_intro mixed Tryz.func23 rfl (by decide) (by decide +kernel) (by exact Nat.le_of_ble_eq_true rfl) ?_
  repeat' (first
    | (show evG _ _ _ _ _ _ _; first | refine G_add64 ?_ | refine G_sub64 ?_ | refine G_pure0 ?_ | refine G_load ?_ | refine evG_nil ?_ | refine G_br ?_ ?_ | refine G_field ?_ | refine G_pure ?_ | refine G_store ?_ | refine G_loadV ?_ | refine G_loadV0 ?_ | refine G_loadV2 ?_ | (refine G_append ?_; intro _ _) | (refine G_appendN ?_; intro _ _) | refine G_not ?_ | refine G_index ?_ | refine G_indexA ?_ | refine G_build ?_ | refine G_cat ?_ | refine G_eql_agg ?_ | refine G_neq_agg ?_ | refine G_call ?_ | refine G_call0 ?_ | (refine G_alloc ?_; intro _) | (refine G_buildSlice ?_; intro _) | (refine G_indexV ?_; intro _ _ hA; subst hA) | refine G_skip ?_ | refine G_skip0 ?_)
    | (show spl _ _ _; first | refine spl_no rfl ?_ | refine spl_yes rfl ?_)
    | (show evC _ _ _ _ _; first | refine c_seq ?_ | refine c_region (by exact rfl) ?_ | refine c_cond (by exact rfl) ?_ | refine c_ret ?_ | refine c_skip ?_ | refine c_block ?_ | refine c_exit ?_ | refine std ?_)
    | (show Br _ _ _; first | refine Br.t rfl ?_ | refine Br.f rfl ?_ | refine brs ?_ | (first | refine Br.mkN (fun h => ?_) (fun h => ?_) | refine Br.mk (fun h => ?_) (fun h => ?_)) <;> (try (first | contradiction | (exfalso; omega) | (exfalso; simp at h; done))))
    | refine stp ?_
    | (show CallT _ 27 _ _ _; refine CA (h := rsplit_ok (c := 10) hsz (fun A cp => ?_)); rw [hdl]))
  rename_i q p
  refine LOOP (fun m f C' => ∃ j : Nat, j + m = (spl1 10 l).length ∧ j < (spl1 10 l).length ∧ ((j = 0 ∧ C' = pt q [.int .i64 0, .int .i64 0, .int .i64 0, .int .i64 0, .int .i64 0, .int .i64 0, .int .i64 0, .int .i64 0, .int .i64 0, .int .i64 0, .int .i64 0, .int .i64 0, .int .i64 0, .int .i64 0, .int .i64 0, .int .i64 0, .int .i64 0, .int .i64 0, .slice none 0 0] 39 :: pt p [.int .i64 0, .int .i64 0, .int .i64 0, .int .i64 0, .int .i64 0, .int .i64 0, .int .i64 0, .int .i64 0, .int .i64 0, .int .i64 0, .int .i64 0, .int .i64 0, .int .i64 0, .int .i64 0, .int .i64 0, .int .i64 0, .int .i64 0, .int .i64 0, .slice none 0 0] 39 :: row A cp 9 sgC ((spl1 10 l).map bq) :: R) ∨ (1 ≤ j ∧ ∃ (L1 : List AC) (nn c1 : Nat) (A1 : Option Addr), nn = L1.length ∧ nn + 1 = j ∧ rdScr j ⟨[n0, n1, n2, n3, n4, n5, n6, n7, n8, n9, n10, n11, n12, n13, n14, n15, n16, n17], L1⟩ ((spl1 10 l).drop j) = (⟨[n0, n1, n2, n3, n4, n5, n6, n7, n8, n9, n10, n11, n12, n13, n14, n15, n16, n17], L⟩, 0, 0) ∧ C' = pt q [.int .i64 0, .int .i64 0, .int .i64 0, .int .i64 0, .int .i64 0, .int .i64 0, .int .i64 0, .int .i64 0, .int .i64 0, .int .i64 0, .int .i64 0, .int .i64 0, .int .i64 0, .int .i64 0, .int .i64 0, .int .i64 0, .int .i64 0, .int .i64 0, .slice none 0 0] 39 :: pt p [.int .i64 n0, .int .i64 n1, .int .i64 n2, .int .i64 n3, .int .i64 n4, .int .i64 n5, .int .i64 n6, .int .i64 n7, .int .i64 n8, .int .i64 n9, .int .i64 n10, .int .i64 n11, .int .i64 n12, .int .i64 n13, .int .i64 n14, .int .i64 n15, .int .i64 n16, .int .i64 n17, .slice A1 nn c1] 39 :: row A1 c1 28 acC31 L1 :: row A cp 9 sgC ((spl1 10 l).map bq) :: R)) ∧ Agree f [(2, .pointer (some ⟨q, 0, none⟩)), (5, .slice A (spl1 10 l).length cp), (6, .pointer (some ⟨p, 0, none⟩)), (7, .int .i64 j)]) (spl1 10 l).length (turn (spl1 10 l).length ⟨0, by omega, hpos, .inl ⟨rfl, rfl⟩, rfl, rfl, rfl, rfl, trivial⟩) ?_
  rintro nk f C' ⟨j, hj, hjl, hC, hA⟩
  obtain ⟨x, hx⟩ : ∃ x, (spl1 10 l)[j]? = some x := ⟨_, List.getElem?_eq_getElem hjl⟩
  have hxm : x.length ≤ 1000000 := hmem x (List.mem_of_getElem? hx)
  have x2 : ((spl1 10 l).map bq)[((j : Nat) : Int).toNat]? = some (bq x) := map_at hx
  have x3 : j + 1 = (spl1 10 l).length → ((spl1 10 l).map bq)[((((spl1 10 l).length : Nat) : Int) - 1).toNat]? = some (bq x) := fun e => by
    rw [show ((((spl1 10 l).length : Nat) : Int) - 1).toNat = j by omega]
    exact map_at hx
  rcases hC with ⟨rfl, rfl⟩ | ⟨hj1, L1, nn, c1, A1, hn1, hnj, hrd, rfl⟩
  · refine c_fr _ hA ?_
    simp only [updL]
    by_cases hlast : 0 + 1 = (spl1 10 l).length
    · have x4 := x3 hlast
      rw [rd_at_last hx hlast, if_neg (by omega)] at hfd
      cases hfd
    · rw [rd_at_next hx (by omega), if_neg (by omega), if_pos rfl] at hfd
      cases hh : rdHd x with
      | none =>
        rw [hh] at hfd
        cases hfd
      | some ns =>
        rw [hh] at hfd
        have h18 := (rdHd_some.1 hh).1.1
        obtain ⟨k0, k1, k2, k3, k4, k5, k6, k7, k8, k9, k10, k11, k12, k13, k14, k15, k16, k17, rfl⟩ := l18 h18
        have hns : [k0, k1, k2, k3, k4, k5, k6, k7, k8, k9, k10, k11, k12, k13, k14, k15, k16, k17] = [n0, n1, n2, n3, n4, n5, n6, n7, n8, n9, n10, n11, n12, n13, n14, n15, n16, n17] := (rdScr_ns hfd).symm
        cases hns
        repeat' (first
          | (show evG _ _ _ _ _ _ _; first | refine G_add64 ?_ | refine G_sub64 ?_ | refine G_pure0 ?_ | refine G_load ?_ | refine evG_nil ?_ | refine G_br ?_ ?_ | refine G_field ?_ | refine G_pure ?_ | refine G_store ?_ | refine G_loadV ?_ | refine G_loadV0 ?_ | refine G_loadV2 ?_ | (refine G_append ?_; intro _ _) | (refine G_appendN ?_; intro _ _) | refine G_not ?_ | refine G_index ?_ | refine G_indexA ?_ | refine G_build ?_ | refine G_cat ?_ | refine G_eql_agg ?_ | refine G_neq_agg ?_ | refine G_call ?_ | refine G_call0 ?_ | (refine G_alloc ?_; intro _) | (refine G_buildSlice ?_; intro _) | (refine G_indexV ?_; intro _ _ hA; subst hA) | refine G_skip ?_ | refine G_skip0 ?_)
          | (show spl _ _ _; first | refine spl_no rfl ?_ | refine spl_yes rfl ?_)
          | (show evC _ _ _ _ _; first | refine c_seq ?_ | refine c_region (by exact rfl) ?_ | refine c_cond (by exact rfl) ?_ | refine c_ret ?_ | refine c_skip ?_ | refine c_block ?_ | refine c_exit ?_ | refine std ?_)
          | (show Br _ _ _; first | refine Br.t rfl ?_ | refine Br.f rfl ?_ | refine brs ?_ | (first | refine Br.mkN (fun h => ?_) (fun h => ?_) | refine Br.mk (fun h => ?_) (fun h => ?_)) <;> (try (first | contradiction | (exfalso; omega) | (exfalso; simp at h; done))))
          | refine stp ?_
          | (show CallT _ 48 _ _ _; refine CA (h := firstY_ok hxm hh ?_)))
        all_goals first
          | (show TurnG _ _ _ _; exact turn (nk - 1) ⟨1, by omega, by omega, .inr ⟨by omega, [], 0, 0, none, rfl, rfl, hfd, rfl⟩, rfl, rfl, rfl, rfl, trivial⟩)
          | (exfalso; omega)
  · refine c_fr _ hA ?_
    simp only [updL]
    have hjI : (1 : Int) ≤ j := by omega
    by_cases hlast : j + 1 = (spl1 10 l).length
    · have x4 := x3 hlast
      rw [rd_at_last hx hlast] at hrd
      by_cases hx0 : x = []
      · rw [if_pos ⟨hx0, by omega⟩] at hrd
        subst hx0
        cases hrd
        subst hn1
        have he : ((bq ([] : List UInt8)).toList == (⟨#[]⟩ : ByteArray).toList) = true := beq_self_eq_true _
        repeat' (first
          | (show evG _ _ _ _ _ _ _; first | refine G_add64 ?_ | refine G_sub64 ?_ | refine G_pure0 ?_ | refine G_load ?_ | refine evG_nil ?_ | refine G_br ?_ ?_ | refine G_field ?_ | refine G_pure ?_ | refine G_store ?_ | refine G_loadV ?_ | refine G_loadV0 ?_ | refine G_loadV2 ?_ | (refine G_append ?_; intro _ _) | (refine G_appendN ?_; intro _ _) | refine G_not ?_ | refine G_index ?_ | refine G_indexA ?_ | refine G_build ?_ | refine G_cat ?_ | refine G_eql_agg ?_ | refine G_neq_agg ?_ | refine G_call ?_ | refine G_call0 ?_ | (refine G_alloc ?_; intro _) | (refine G_buildSlice ?_; intro _) | (refine G_indexV ?_; intro _ _ hA; subst hA) | refine G_skip ?_ | refine G_skip0 ?_)
          | (show spl _ _ _; first | refine spl_no rfl ?_ | refine spl_yes rfl ?_)
          | (show evC _ _ _ _ _; first | refine c_seq ?_ | refine c_region (by exact rfl) ?_ | refine c_cond (by exact rfl) ?_ | refine c_ret ?_ | refine c_skip ?_ | refine c_block ?_ | refine c_exit ?_ | refine std ?_)
          | (show Br _ _ _; first | refine Br.t rfl ?_ | refine Br.f rfl ?_ | refine brs ?_ | (first | refine Br.mkN (fun h => ?_) (fun h => ?_) | refine Br.mk (fun h => ?_) (fun h => ?_)) <;> (try (first | contradiction | (exfalso; omega) | (exfalso; simp at h; done))))
          | refine stp ?_)
        all_goals first
          | (show retC _ _ _ _ _ _; refine RETC ?_; exact ret_done (hK _ _))
          | (exfalso; omega)
      · rw [if_neg (fun hc => hx0 hc.1)] at hrd
        cases hrd
    · rw [rd_at_next hx (by omega)] at hrd
      by_cases h512 : 512 < j
      · rw [if_pos h512] at hrd
        cases hrd
      · rw [if_neg h512, if_neg (by omega)] at hrd
        cases hh : prs x with
        | none =>
          rw [hh] at hrd
          cases hrd
        | some a =>
          rw [hh] at hrd
          have hns := hn1.symm
          repeat' (first
            | (show evG _ _ _ _ _ _ _; (refine G_appendU ?_; intro _ _))
            | (show evG _ _ _ _ _ _ _; first | refine G_add64 ?_ | refine G_sub64 ?_ | refine G_pure0 ?_ | refine G_load ?_ | refine evG_nil ?_ | refine G_br ?_ ?_ | refine G_field ?_ | refine G_pure ?_ | refine G_store ?_ | refine G_loadV ?_ | refine G_loadV0 ?_ | refine G_loadV2 ?_ | (refine G_append ?_; intro _ _) | (refine G_appendN ?_; intro _ _) | refine G_not ?_ | refine G_index ?_ | refine G_indexA ?_ | refine G_build ?_ | refine G_cat ?_ | refine G_eql_agg ?_ | refine G_neq_agg ?_ | refine G_call ?_ | refine G_call0 ?_ | (refine G_alloc ?_; intro _) | (refine G_buildSlice ?_; intro _) | (refine G_indexV ?_; intro _ _ hA; subst hA) | refine G_skip ?_ | refine G_skip0 ?_)
            | (show spl _ _ _; first | refine spl_no rfl ?_ | refine spl_yes rfl ?_)
            | (show evC _ _ _ _ _; first | refine c_seq ?_ | refine c_region (by exact rfl) ?_ | refine c_cond (by exact rfl) ?_ | refine c_ret ?_ | refine c_skip ?_ | refine c_block ?_ | refine c_exit ?_ | refine std ?_)
            | (show Br _ _ _; first | refine Br.t rfl ?_ | refine Br.f rfl ?_ | refine brs ?_ | (first | refine Br.mkN (fun h => ?_) (fun h => ?_) | refine Br.mk (fun h => ?_) (fun h => ?_)) <;> (try (first | contradiction | (exfalso; omega) | (exfalso; simp at h; done))))
            | refine stp ?_
            | (show CallT _ 11 _ _ _; refine CA (h := rparseY_ok hxm hh ?_)))
          all_goals first
            | (show TurnG _ _ _ _; exact turn (nk - 1) ⟨j + 1, by omega, by omega, .inr ⟨by omega, L1 ++ [a], _, _, _, rfl, (by simp; omega), hrd, rfl⟩, rfl, rfl, rfl, rfl, trivial⟩)
            | (exfalso; omega)
set_option maxHeartbeats 8000000 in
theorem lreadN_ok {l : List UInt8} {k0 : Nat} {e0 : Int} (hs0 : l.length ≤ 1000000) (h : rdScr 0 PL0 (spl1 10 l) = (PL0, k0, e0)) (he0 : e0 ≠ 0) (hK : K (.tuple #[.agg #[.int .i64 0, .int .i64 0, .int .i64 0, .int .i64 0, .int .i64 0, .int .i64 0, .int .i64 0, .int .i64 0, .int .i64 0, .int .i64 0, .int .i64 0, .int .i64 0, .int .i64 0, .int .i64 0, .int .i64 0, .int .i64 0, .int .i64 0, .int .i64 0, .slice none 0 0], .int .i64 k0, .int .i64 e0]) R) : CallT Tryz.prog 23 #[.string (bq l)] R K := by
  have hsz : (bq l).size ≤ 1000000 := by rw [bq_size]; omega
  have hdl : (bq l).data.toList = l := data_bq l
  have hmem : ∀ p ∈ spl1 10 l, p.length ≤ 1000000 := fun p hp => Nat.le_trans (spl1_mem hp) hs0
  have hple := spl1_le (c := 10) l
  have hpos : 0 < (spl1 10 l).length := List.length_pos_iff.2 (spl1_ne 10 l)
  have hpI : (((spl1 10 l).length : Nat) : Int) ≤ 1000001 := by omega
  have hml : ((spl1 10 l).map bq).length = (spl1 10 l).length := by simp
  have hfd : rdScr 0 PL0 ((spl1 10 l).drop 0) = (PL0, k0, e0) := h
  clear hs0 hple h
  refine callT_intro mixed Tryz.func23 rfl (by decide) (by decide +kernel) (by exact Nat.le_of_ble_eq_true rfl) ?_
  repeat' (first
    | (show evG _ _ _ _ _ _ _; first | refine G_add64 ?_ | refine G_sub64 ?_ | refine G_pure0 ?_ | refine G_load ?_ | refine evG_nil ?_ | refine G_br ?_ ?_ | refine G_field ?_ | refine G_pure ?_ | refine G_store ?_ | refine G_loadV ?_ | refine G_loadV0 ?_ | refine G_loadV2 ?_ | (refine G_append ?_; intro _ _) | (refine G_appendN ?_; intro _ _) | refine G_not ?_ | refine G_index ?_ | refine G_indexA ?_ | refine G_build ?_ | refine G_cat ?_ | refine G_eql_agg ?_ | refine G_neq_agg ?_ | refine G_call ?_ | refine G_call0 ?_ | (refine G_alloc ?_; intro _) | (refine G_buildSlice ?_; intro _) | (refine G_indexV ?_; intro _ _ hA; subst hA) | refine G_skip ?_ | refine G_skip0 ?_)
    | (show spl _ _ _; first | refine spl_no rfl ?_ | refine spl_yes rfl ?_)
    | (show evC _ _ _ _ _; first | refine c_seq ?_ | refine c_region (by exact rfl) ?_ | refine c_cond (by exact rfl) ?_ | refine c_ret ?_ | refine c_skip ?_ | refine c_block ?_ | refine c_exit ?_ | refine std ?_)
    | (show Br _ _ _; first | refine Br.t rfl ?_ | refine Br.f rfl ?_ | refine brs ?_ | (first | refine Br.mkN (fun h => ?_) (fun h => ?_) | refine Br.mk (fun h => ?_) (fun h => ?_)) <;> (try (first | contradiction | (exfalso; omega) | (exfalso; simp at h; done))))
    | refine stp ?_
    | (show CallT _ 27 _ _ _; refine CA (h := rsplit_ok (c := 10) hsz (fun A cp => ?_)); rw [hdl]))
  rename_i q p
  refine LOOP (fun m f C' => ∃ j : Nat, j + m = (spl1 10 l).length ∧ j < (spl1 10 l).length ∧ ((j = 0 ∧ C' = pt q [.int .i64 0, .int .i64 0, .int .i64 0, .int .i64 0, .int .i64 0, .int .i64 0, .int .i64 0, .int .i64 0, .int .i64 0, .int .i64 0, .int .i64 0, .int .i64 0, .int .i64 0, .int .i64 0, .int .i64 0, .int .i64 0, .int .i64 0, .int .i64 0, .slice none 0 0] 39 :: pt p [.int .i64 0, .int .i64 0, .int .i64 0, .int .i64 0, .int .i64 0, .int .i64 0, .int .i64 0, .int .i64 0, .int .i64 0, .int .i64 0, .int .i64 0, .int .i64 0, .int .i64 0, .int .i64 0, .int .i64 0, .int .i64 0, .int .i64 0, .int .i64 0, .slice none 0 0] 39 :: row A cp 9 sgC ((spl1 10 l).map bq) :: R) ∨ (1 ≤ j ∧ ∃ (m0 m1 m2 m3 m4 m5 m6 m7 m8 m9 m10 m11 m12 m13 m14 m15 m16 m17 : Int) (L1 : List AC) (nn c1 : Nat) (A1 : Option Addr), nn = L1.length ∧ nn + 1 = j ∧ rdScr j ⟨[m0, m1, m2, m3, m4, m5, m6, m7, m8, m9, m10, m11, m12, m13, m14, m15, m16, m17], L1⟩ ((spl1 10 l).drop j) = (PL0, k0, e0) ∧ C' = pt q [.int .i64 0, .int .i64 0, .int .i64 0, .int .i64 0, .int .i64 0, .int .i64 0, .int .i64 0, .int .i64 0, .int .i64 0, .int .i64 0, .int .i64 0, .int .i64 0, .int .i64 0, .int .i64 0, .int .i64 0, .int .i64 0, .int .i64 0, .int .i64 0, .slice none 0 0] 39 :: pt p [.int .i64 m0, .int .i64 m1, .int .i64 m2, .int .i64 m3, .int .i64 m4, .int .i64 m5, .int .i64 m6, .int .i64 m7, .int .i64 m8, .int .i64 m9, .int .i64 m10, .int .i64 m11, .int .i64 m12, .int .i64 m13, .int .i64 m14, .int .i64 m15, .int .i64 m16, .int .i64 m17, .slice A1 nn c1] 39 :: row A1 c1 28 acC31 L1 :: row A cp 9 sgC ((spl1 10 l).map bq) :: R)) ∧ Agree f [(2, .pointer (some ⟨q, 0, none⟩)), (5, .slice A (spl1 10 l).length cp), (6, .pointer (some ⟨p, 0, none⟩)), (7, .int .i64 j)]) (spl1 10 l).length (turn (spl1 10 l).length ⟨0, by omega, hpos, .inl ⟨rfl, rfl⟩, rfl, rfl, rfl, rfl, trivial⟩) ?_
  rintro nk f C' ⟨j, hj, hjl, hC, hA⟩
  obtain ⟨x, hx⟩ : ∃ x, (spl1 10 l)[j]? = some x := ⟨_, List.getElem?_eq_getElem hjl⟩
  have hxm : x.length ≤ 1000000 := hmem x (List.mem_of_getElem? hx)
  have x2 : ((spl1 10 l).map bq)[((j : Nat) : Int).toNat]? = some (bq x) := map_at hx
  have x3 : j + 1 = (spl1 10 l).length → ((spl1 10 l).map bq)[((((spl1 10 l).length : Nat) : Int) - 1).toNat]? = some (bq x) := fun e => by
    rw [show ((((spl1 10 l).length : Nat) : Int) - 1).toNat = j by omega]
    exact map_at hx
  rcases hC with ⟨rfl, rfl⟩ | ⟨hj1, m0, m1, m2, m3, m4, m5, m6, m7, m8, m9, m10, m11, m12, m13, m14, m15, m16, m17, L1, nn, c1, A1, hn1, hnj, hrd, rfl⟩
  · refine c_fr _ hA ?_
    simp only [updL]
    by_cases hlast : 0 + 1 = (spl1 10 l).length
    · have x4 := x3 hlast
      rw [rd_at_last hx hlast, if_neg (by omega)] at hfd
      cases hfd
      have hl1 : (((spl1 10 l).length : Nat) : Int) = ((0 + 1 : Nat) : Int) := by omega
      rw [← hl1] at hK
      repeat' (first
        | (show evG _ _ _ _ _ _ _; first | refine G_add64 ?_ | refine G_sub64 ?_ | refine G_pure0 ?_ | refine G_load ?_ | refine evG_nil ?_ | refine G_br ?_ ?_ | refine G_field ?_ | refine G_pure ?_ | refine G_store ?_ | refine G_loadV ?_ | refine G_loadV0 ?_ | refine G_loadV2 ?_ | (refine G_append ?_; intro _ _) | (refine G_appendN ?_; intro _ _) | refine G_not ?_ | refine G_index ?_ | refine G_indexA ?_ | refine G_build ?_ | refine G_cat ?_ | refine G_eql_agg ?_ | refine G_neq_agg ?_ | refine G_call ?_ | refine G_call0 ?_ | (refine G_alloc ?_; intro _) | (refine G_buildSlice ?_; intro _) | (refine G_indexV ?_; intro _ _ hA; subst hA) | refine G_skip ?_ | refine G_skip0 ?_)
        | (show spl _ _ _; first | refine spl_no rfl ?_ | refine spl_yes rfl ?_)
        | (show evC _ _ _ _ _; first | refine c_seq ?_ | refine c_region (by exact rfl) ?_ | refine c_cond (by exact rfl) ?_ | refine c_ret ?_ | refine c_skip ?_ | refine c_block ?_ | refine c_exit ?_ | refine std ?_)
        | (show Br _ _ _; first | refine Br.t rfl ?_ | refine Br.f rfl ?_ | refine brs ?_ | (first | refine Br.mkN (fun h => ?_) (fun h => ?_) | refine Br.mk (fun h => ?_) (fun h => ?_)) <;> (try (first | contradiction | (exfalso; omega) | (exfalso; simp at h; done))))
        | refine stp ?_)
      all_goals first
        | (show retC _ _ _ _ _ _; refine RETC ?_; exact ret_done (hK))
        | (exfalso; omega)
    · rw [rd_at_next hx (by omega), if_neg (by omega), if_pos rfl] at hfd
      cases hh : rdHd x with
      | none =>
        rw [hh] at hfd
        cases hfd
        repeat' (first
          | (show evG _ _ _ _ _ _ _; first | refine G_add64 ?_ | refine G_sub64 ?_ | refine G_pure0 ?_ | refine G_load ?_ | refine evG_nil ?_ | refine G_br ?_ ?_ | refine G_field ?_ | refine G_pure ?_ | refine G_store ?_ | refine G_loadV ?_ | refine G_loadV0 ?_ | refine G_loadV2 ?_ | (refine G_append ?_; intro _ _) | (refine G_appendN ?_; intro _ _) | refine G_not ?_ | refine G_index ?_ | refine G_indexA ?_ | refine G_build ?_ | refine G_cat ?_ | refine G_eql_agg ?_ | refine G_neq_agg ?_ | refine G_call ?_ | refine G_call0 ?_ | (refine G_alloc ?_; intro _) | (refine G_buildSlice ?_; intro _) | (refine G_indexV ?_; intro _ _ hA; subst hA) | refine G_skip ?_ | refine G_skip0 ?_)
          | (show spl _ _ _; first | refine spl_no rfl ?_ | refine spl_yes rfl ?_)
          | (show evC _ _ _ _ _; first | refine c_seq ?_ | refine c_region (by exact rfl) ?_ | refine c_cond (by exact rfl) ?_ | refine c_ret ?_ | refine c_skip ?_ | refine c_block ?_ | refine c_exit ?_ | refine std ?_)
          | (show Br _ _ _; first | refine Br.t rfl ?_ | refine Br.f rfl ?_ | refine brs ?_ | (first | refine Br.mkN (fun h => ?_) (fun h => ?_) | refine Br.mk (fun h => ?_) (fun h => ?_)) <;> (try (first | contradiction | (exfalso; omega) | (exfalso; simp at h; done))))
          | refine stp ?_
          | (show CallT _ 48 _ _ _; refine CA (h := firstN_ok hxm hh ?_)))
        all_goals first
          | (show retC _ _ _ _ _ _; refine RETC ?_; exact ret_done (hK))
          | (exfalso; omega)
      | some ns =>
        rw [hh] at hfd
        have h18 := (rdHd_some.1 hh).1.1
        obtain ⟨k0, k1, k2, k3, k4, k5, k6, k7, k8, k9, k10, k11, k12, k13, k14, k15, k16, k17, rfl⟩ := l18 h18
        repeat' (first
          | (show evG _ _ _ _ _ _ _; first | refine G_add64 ?_ | refine G_sub64 ?_ | refine G_pure0 ?_ | refine G_load ?_ | refine evG_nil ?_ | refine G_br ?_ ?_ | refine G_field ?_ | refine G_pure ?_ | refine G_store ?_ | refine G_loadV ?_ | refine G_loadV0 ?_ | refine G_loadV2 ?_ | (refine G_append ?_; intro _ _) | (refine G_appendN ?_; intro _ _) | refine G_not ?_ | refine G_index ?_ | refine G_indexA ?_ | refine G_build ?_ | refine G_cat ?_ | refine G_eql_agg ?_ | refine G_neq_agg ?_ | refine G_call ?_ | refine G_call0 ?_ | (refine G_alloc ?_; intro _) | (refine G_buildSlice ?_; intro _) | (refine G_indexV ?_; intro _ _ hA; subst hA) | refine G_skip ?_ | refine G_skip0 ?_)
          | (show spl _ _ _; first | refine spl_no rfl ?_ | refine spl_yes rfl ?_)
          | (show evC _ _ _ _ _; first | refine c_seq ?_ | refine c_region (by exact rfl) ?_ | refine c_cond (by exact rfl) ?_ | refine c_ret ?_ | refine c_skip ?_ | refine c_block ?_ | refine c_exit ?_ | refine std ?_)
          | (show Br _ _ _; first | refine Br.t rfl ?_ | refine Br.f rfl ?_ | refine brs ?_ | (first | refine Br.mkN (fun h => ?_) (fun h => ?_) | refine Br.mk (fun h => ?_) (fun h => ?_)) <;> (try (first | contradiction | (exfalso; omega) | (exfalso; simp at h; done))))
          | refine stp ?_
          | (show CallT _ 48 _ _ _; refine CA (h := firstY_ok hxm hh ?_)))
        all_goals first
          | (show TurnG _ _ _ _; exact turn (nk - 1) ⟨1, by omega, by omega, .inr ⟨by omega, _, _, _, _, _, _, _, _, _, _, _, _, _, _, _, _, _, _, [], 0, 0, none, rfl, rfl, hfd, rfl⟩, rfl, rfl, rfl, rfl, trivial⟩)
          | (exfalso; omega)
  · refine c_fr _ hA ?_
    simp only [updL]
    have hjI : (1 : Int) ≤ j := by omega
    by_cases hlast : j + 1 = (spl1 10 l).length
    · have x4 := x3 hlast
      rw [rd_at_last hx hlast] at hrd
      by_cases hx0 : x = []
      · rw [if_pos ⟨hx0, by omega⟩] at hrd
        subst hx0
        exact absurd (congrArg (fun z => z.2.2) hrd).symm he0
      · rw [if_neg (fun hc => hx0 hc.1)] at hrd
        cases hrd
        have he : ((bq x).toList == (⟨#[]⟩ : ByteArray).toList) = false := by
          rw [show (⟨#[]⟩ : ByteArray) = bq [] from rfl, bq_beq]
          exact decide_eq_false hx0
        rw [hlast] at hK
        repeat' (first
          | (show evG _ _ _ _ _ _ _; first | refine G_add64 ?_ | refine G_sub64 ?_ | refine G_pure0 ?_ | refine G_load ?_ | refine evG_nil ?_ | refine G_br ?_ ?_ | refine G_field ?_ | refine G_pure ?_ | refine G_store ?_ | refine G_loadV ?_ | refine G_loadV0 ?_ | refine G_loadV2 ?_ | (refine G_append ?_; intro _ _) | (refine G_appendN ?_; intro _ _) | refine G_not ?_ | refine G_index ?_ | refine G_indexA ?_ | refine G_build ?_ | refine G_cat ?_ | refine G_eql_agg ?_ | refine G_neq_agg ?_ | refine G_call ?_ | refine G_call0 ?_ | (refine G_alloc ?_; intro _) | (refine G_buildSlice ?_; intro _) | (refine G_indexV ?_; intro _ _ hA; subst hA) | refine G_skip ?_ | refine G_skip0 ?_)
          | (show spl _ _ _; first | refine spl_no rfl ?_ | refine spl_yes rfl ?_)
          | (show evC _ _ _ _ _; first | refine c_seq ?_ | refine c_region (by exact rfl) ?_ | refine c_cond (by exact rfl) ?_ | refine c_ret ?_ | refine c_skip ?_ | refine c_block ?_ | refine c_exit ?_ | refine std ?_)
          | (show Br _ _ _; first | refine Br.t rfl ?_ | refine Br.f rfl ?_ | refine brs ?_ | (first | refine Br.mkN (fun h => ?_) (fun h => ?_) | refine Br.mk (fun h => ?_) (fun h => ?_)) <;> (try (first | contradiction | (exfalso; omega) | (exfalso; simp at h; done))))
          | refine stp ?_)
        all_goals first
          | (show retC _ _ _ _ _ _; refine RETC ?_; exact ret_done (hK))
          | (exfalso; omega)
    · rw [rd_at_next hx (by omega)] at hrd
      by_cases h512 : 512 < j
      · rw [if_pos h512] at hrd
        cases hrd
        repeat' (first
          | (show evG _ _ _ _ _ _ _; first | refine G_add64 ?_ | refine G_sub64 ?_ | refine G_pure0 ?_ | refine G_load ?_ | refine evG_nil ?_ | refine G_br ?_ ?_ | refine G_field ?_ | refine G_pure ?_ | refine G_store ?_ | refine G_loadV ?_ | refine G_loadV0 ?_ | refine G_loadV2 ?_ | (refine G_append ?_; intro _ _) | (refine G_appendN ?_; intro _ _) | refine G_not ?_ | refine G_index ?_ | refine G_indexA ?_ | refine G_build ?_ | refine G_cat ?_ | refine G_eql_agg ?_ | refine G_neq_agg ?_ | refine G_call ?_ | refine G_call0 ?_ | (refine G_alloc ?_; intro _) | (refine G_buildSlice ?_; intro _) | (refine G_indexV ?_; intro _ _ hA; subst hA) | refine G_skip ?_ | refine G_skip0 ?_)
          | (show spl _ _ _; first | refine spl_no rfl ?_ | refine spl_yes rfl ?_)
          | (show evC _ _ _ _ _; first | refine c_seq ?_ | refine c_region (by exact rfl) ?_ | refine c_cond (by exact rfl) ?_ | refine c_ret ?_ | refine c_skip ?_ | refine c_block ?_ | refine c_exit ?_ | refine std ?_)
          | (show Br _ _ _; first | refine Br.t rfl ?_ | refine Br.f rfl ?_ | refine brs ?_ | (first | refine Br.mkN (fun h => ?_) (fun h => ?_) | refine Br.mk (fun h => ?_) (fun h => ?_)) <;> (try (first | contradiction | (exfalso; omega) | (exfalso; simp at h; done))))
          | refine stp ?_)
        all_goals first
          | (show retC _ _ _ _ _ _; refine RETC ?_; exact ret_done (hK))
          | (exfalso; omega)
      · rw [if_neg h512, if_neg (by omega)] at hrd
        cases hh : prs x with
        | none =>
          rw [hh] at hrd
          cases hrd
          repeat' (first
            | (show evG _ _ _ _ _ _ _; first | refine G_add64 ?_ | refine G_sub64 ?_ | refine G_pure0 ?_ | refine G_load ?_ | refine evG_nil ?_ | refine G_br ?_ ?_ | refine G_field ?_ | refine G_pure ?_ | refine G_store ?_ | refine G_loadV ?_ | refine G_loadV0 ?_ | refine G_loadV2 ?_ | (refine G_append ?_; intro _ _) | (refine G_appendN ?_; intro _ _) | refine G_not ?_ | refine G_index ?_ | refine G_indexA ?_ | refine G_build ?_ | refine G_cat ?_ | refine G_eql_agg ?_ | refine G_neq_agg ?_ | refine G_call ?_ | refine G_call0 ?_ | (refine G_alloc ?_; intro _) | (refine G_buildSlice ?_; intro _) | (refine G_indexV ?_; intro _ _ hA; subst hA) | refine G_skip ?_ | refine G_skip0 ?_)
            | (show spl _ _ _; first | refine spl_no rfl ?_ | refine spl_yes rfl ?_)
            | (show evC _ _ _ _ _; first | refine c_seq ?_ | refine c_region (by exact rfl) ?_ | refine c_cond (by exact rfl) ?_ | refine c_ret ?_ | refine c_skip ?_ | refine c_block ?_ | refine c_exit ?_ | refine std ?_)
            | (show Br _ _ _; first | refine Br.t rfl ?_ | refine Br.f rfl ?_ | refine brs ?_ | (first | refine Br.mkN (fun h => ?_) (fun h => ?_) | refine Br.mk (fun h => ?_) (fun h => ?_)) <;> (try (first | contradiction | (exfalso; omega) | (exfalso; simp at h; done))))
            | refine stp ?_
            | (show CallT _ 11 _ _ _; refine CA (h := rparseN_ok hxm hh ?_)))
          all_goals first
            | (show retC _ _ _ _ _ _; refine RETC ?_; exact ret_done (hK))
            | (exfalso; omega)
        | some a =>
          rw [hh] at hrd
          have hns := hn1.symm
          repeat' (first
            | (show evG _ _ _ _ _ _ _; (refine G_appendU ?_; intro _ _))
            | (show evG _ _ _ _ _ _ _; first | refine G_add64 ?_ | refine G_sub64 ?_ | refine G_pure0 ?_ | refine G_load ?_ | refine evG_nil ?_ | refine G_br ?_ ?_ | refine G_field ?_ | refine G_pure ?_ | refine G_store ?_ | refine G_loadV ?_ | refine G_loadV0 ?_ | refine G_loadV2 ?_ | (refine G_append ?_; intro _ _) | (refine G_appendN ?_; intro _ _) | refine G_not ?_ | refine G_index ?_ | refine G_indexA ?_ | refine G_build ?_ | refine G_cat ?_ | refine G_eql_agg ?_ | refine G_neq_agg ?_ | refine G_call ?_ | refine G_call0 ?_ | (refine G_alloc ?_; intro _) | (refine G_buildSlice ?_; intro _) | (refine G_indexV ?_; intro _ _ hA; subst hA) | refine G_skip ?_ | refine G_skip0 ?_)
            | (show spl _ _ _; first | refine spl_no rfl ?_ | refine spl_yes rfl ?_)
            | (show evC _ _ _ _ _; first | refine c_seq ?_ | refine c_region (by exact rfl) ?_ | refine c_cond (by exact rfl) ?_ | refine c_ret ?_ | refine c_skip ?_ | refine c_block ?_ | refine c_exit ?_ | refine std ?_)
            | (show Br _ _ _; first | refine Br.t rfl ?_ | refine Br.f rfl ?_ | refine brs ?_ | (first | refine Br.mkN (fun h => ?_) (fun h => ?_) | refine Br.mk (fun h => ?_) (fun h => ?_)) <;> (try (first | contradiction | (exfalso; omega) | (exfalso; simp at h; done))))
            | refine stp ?_
            | (show CallT _ 11 _ _ _; refine CA (h := rparseY_ok hxm hh ?_)))
          all_goals first
            | (show TurnG _ _ _ _; exact turn (nk - 1) ⟨j + 1, by omega, by omega, .inr ⟨by omega, m0, m1, m2, m3, m4, m5, m6, m7, m8, m9, m10, m11, m12, m13, m14, m15, m16, m17, L1 ++ [a], _, _, _, rfl, (by simp; omega), hrd, rfl⟩, rfl, rfl, rfl, rfl, trivial⟩)
            | (exfalso; omega)
end Go.Proofs.YtiofdmjecjcdbaaGreatDoor

