/- Script: what must come at any rate, played: lemmas; each with the conditions that it states. -/
import Derived.Test.YtiofdmjecjcdbaaGreatDoorFh
import Derived.Test.YtiofdmjecjcdbaaGreatDoorEz

namespace Go.Proofs.YtiofdmjecjcdbaaGreatDoor
open Go Go.Proofs Go.Sl Go.Ex
set_option maxRecDepth 100000
set_option maxHeartbeats 4000000
set_option linter.unusedSimpArgs false
set_option linter.unusedVariables false
attribute [local irreducible] evG evC spl thenC inBlockC noGotoC CallT retC RetG TurnG CutG pt ro exP star sep pureP
attribute [local irreducible] evh wch
variable {R C : List HP} {K : Value → List HP → Prop}
theorem joins0_ok {r : Nat} {ps : List (List UInt8)} {n : Nat} {b : UInt8} (hn : ps.length = n) (hx : ps ≠ []) (hc : n ≤ 1000000) (hlen : (joi b ps).length ≤ 100000000) (hK : K (.string (bq (joi b ps))) R) : CallT Tryz.prog 37 #[.slice (some ⟨r, 0, none⟩) n n, .string ⟨#[b]⟩] (pt r ((ps.map bq).map Value.string) 9 :: R) K :=
  CallT.ent (Ent.ptRow1 (E := sgC) (xs := ps.map bq) (v := Value.string) (fun _ => rfl) (by rw [List.length_map]; exact hn)) (CallT.entK (joins_ok (ps := ps) hn hx hc hlen ⟨R, Ent.drop (Ent.refl R), hK⟩))
set_option maxHeartbeats 8000000 in
theorem run31_ok (hK : K (.tuple #[.string (bq [48, 32, 49, 32, 46, 32, 48, 32, 48, 32, 49, 10, 48, 32, 51, 32, 46, 32, 48, 32, 48, 32, 49, 10, 55, 32, 48, 32, 46, 32, 48, 32, 48, 32, 49, 10]), .int .i64 0]) R) : CallT Tryz.prog 13 #[.string (bq [112, 97, 116, 101, 114, 110, 111, 115, 116, 101, 114, 32, 54, 52, 32, 56, 32, 52, 32, 49, 48, 48, 32, 53, 32, 48, 32, 48, 32, 48, 32, 48, 32, 54, 52, 32, 56, 32, 52, 32, 49, 48, 48, 32, 53, 32, 48, 32, 48, 32, 48, 32, 48, 10, 111, 112, 101, 110, 32, 48, 32, 49, 32, 48, 32, 48, 32, 49, 54, 32, 48, 10, 111, 102, 102, 101, 114, 32, 48, 32, 49, 32, 97, 37, 50, 48, 98, 10, 114, 101, 97, 100, 32, 49, 32, 49, 32, 53, 10])] R K := by
  have hsl : ([112, 97, 116, 101, 114, 110, 111, 115, 116, 101, 114, 32, 54, 52, 32, 56, 32, 52, 32, 49, 48, 48, 32, 53, 32, 48, 32, 48, 32, 48, 32, 48, 32, 54, 52, 32, 56, 32, 52, 32, 49, 48, 48, 32, 53, 32, 48, 32, 48, 32, 48, 32, 48, 10, 111, 112, 101, 110, 32, 48, 32, 49, 32, 48, 32, 48, 32, 49, 54, 32, 48, 10, 111, 102, 102, 101, 114, 32, 48, 32, 49, 32, 97, 37, 50, 48, 98, 10, 114, 101, 97, 100, 32, 49, 32, 49, 32, 53, 10] : List UInt8).length ≤ 1000000 := by decide
  have h10 : (⟨#[10]⟩ : ByteArray).size = 1 := rfl
  have y0 : (bq (joi 32 [dgL 0, dgL 1, txtL [], [48], [48], [49]]) ++ (⟨#[10]⟩ : ByteArray)).data.toList.length = 12 := by decide +kernel
  have z0 : (bq (joi 32 [dgL 0, dgL 1, txtL [], [48], [48], [49]])).size = 11 := by decide +kernel
  have v0 : (joi 32 [dgL 0, dgL 1, txtL [], [48], [48], [49]]).length ≤ 100000000 := by decide
  have y1 : (bq (joi 32 [dgL 0, dgL 3, txtL [], [48], [48], [49]]) ++ (⟨#[10]⟩ : ByteArray)).data.toList.length = 12 := by decide +kernel
  have z1 : (bq (joi 32 [dgL 0, dgL 3, txtL [], [48], [48], [49]])).size = 11 := by decide +kernel
  have v1 : (joi 32 [dgL 0, dgL 3, txtL [], [48], [48], [49]]).length ≤ 100000000 := by decide
  have y2 : (bq (joi 32 [dgL 7, dgL 0, txtL [], [48], [48], [49]]) ++ (⟨#[10]⟩ : ByteArray)).data.toList.length = 12 := by decide +kernel
  have z2 : (bq (joi 32 [dgL 7, dgL 0, txtL [], [48], [48], [49]])).size = 11 := by decide +kernel
  have v2 : (joi 32 [dgL 7, dgL 0, txtL [], [48], [48], [49]]).length ≤ 100000000 := by decide
  have e0 : (⟨#[]⟩ : ByteArray).size ≤ 1000000 := by decide
  refine callT_intro mixed Tryz.func13 rfl (by decide) (by decide +kernel) (by exact Nat.le_of_ble_eq_true rfl) ?_
  repeat' (first
    | (show evG _ _ _ _ _ _ _; first | refine G_add64 ?_ | refine G_pure0 ?_ | refine G_load ?_ | refine evG_nil ?_ | refine G_br ?_ ?_ | refine G_field ?_ | refine G_pure ?_ | refine G_store ?_ | refine G_loadV ?_ | refine G_loadV0 ?_ | refine G_loadV2 ?_ | (refine G_append ?_; intro _ _) | (refine G_appendN ?_; intro _ _) | refine G_index ?_ | refine G_indexA ?_ | refine G_conv64 ?_ | refine G_conv8 ?_ | refine G_convu ?_ | refine G_conv ?_ | refine G_cat ?_ | refine G_neq_agg ?_ | refine G_bytesP ?_ | refine G_bytesstr ?_ | refine G_call ?_ | refine G_call0 ?_ | (refine G_alloc ?_; intro _) | (refine G_buildSlice ?_; intro _) | (refine G_strrow ?_; intro _ _) | (refine G_indexV ?_; intro _ _ hA; subst hA))
    | (show spl _ _ _; first | refine spl_no rfl ?_ | refine spl_yes rfl ?_)
    | (show evC _ _ _ _ _; first | refine c_seq ?_ | refine c_region (by exact rfl) ?_ | refine c_cond (by exact rfl) ?_ | refine c_ret ?_ | refine c_skip ?_ | refine c_block ?_ | refine c_exit ?_ | (show evC _ (.region 12 _ true) _ _ _; refine c_draw (l := [(0, 0), (1, 0), (2, 1), (3, 1), (4, 1), (5, 1), (6, 2), (7, 2), (8, 1), (9, 3), (10, 3), (11, 1), (12, 4), (13, 4), (14, 1), (15, 5), (16, 1), (17, 1), (18, 0)]) (by decide +kernel) (by decide +kernel) (by exact rfl) ?_) | refine std ?_)
    | (show Br _ _ _; first | refine Br.t (by decide +kernel) ?_ | refine Br.f (by decide +kernel) ?_ | refine Br.t rfl ?_ | refine Br.f rfl ?_ | refine brs ?_ | (first | refine Br.mkN (fun h => ?_) (fun h => ?_) | refine Br.mk (fun h => ?_) (fun h => ?_)) <;> (try (first | contradiction | (exfalso; omega) | (exfalso; simp at h; done))))
    | refine stp ?_
    | (show CallT _ 12 _ _ _; refine CA (h := readSY_ok hsl rd31 (fun A0 c0 => ?_)))
    | (show CallT _ 16 _ _ _; refine CA (h := over31_ok (fun r o => ?_))))
  rename_i t4
  refine LOOP (fun m f C' => ∃ (j nb cb : Nat) (B : Option Addr) (X : List UInt8), j + m = 3 ∧ nb = X.length ∧ ((j = 0 ∧ X = [] ∧ C' = wch r o evh0 :: row B cb 5 byteC X :: pt t4 [.int .i64 64, .int .i64 8, .int .i64 4, .int .i64 100, .int .i64 5, .int .i64 0, .int .i64 0, .int .i64 0, .int .i64 0, .int .i64 64, .int .i64 8, .int .i64 4, .int .i64 100, .int .i64 5, .int .i64 0, .int .i64 0, .int .i64 0, .int .i64 0, .slice A0 3 c0] 39 :: row A0 c0 28 acC31 [⟨1, 0, 0, 1, 0, ⟨#[]⟩, 0, 16, false, 0, 0, 0⟩, ⟨2, 0, 1, 0, 0, ⟨#[97, 32, 98]⟩, 0, 0, false, 0, 0, 0⟩, ⟨4, 1, 1, 5, 0, ⟨#[]⟩, 0, 0, false, 0, 0, 0⟩] :: R) ∨ (j = 1 ∧ X = [48, 32, 49, 32, 46, 32, 48, 32, 48, 32, 49, 10] ∧ C' = wch r o evh1 :: row B cb 5 byteC X :: pt t4 [.int .i64 64, .int .i64 8, .int .i64 4, .int .i64 100, .int .i64 5, .int .i64 0, .int .i64 0, .int .i64 0, .int .i64 0, .int .i64 64, .int .i64 8, .int .i64 4, .int .i64 100, .int .i64 5, .int .i64 0, .int .i64 0, .int .i64 0, .int .i64 0, .slice A0 3 c0] 39 :: row A0 c0 28 acC31 [⟨1, 0, 0, 1, 0, ⟨#[]⟩, 0, 16, false, 0, 0, 0⟩, ⟨2, 0, 1, 0, 0, ⟨#[97, 32, 98]⟩, 0, 0, false, 0, 0, 0⟩, ⟨4, 1, 1, 5, 0, ⟨#[]⟩, 0, 0, false, 0, 0, 0⟩] :: R) ∨ (j = 2 ∧ X = [48, 32, 49, 32, 46, 32, 48, 32, 48, 32, 49, 10, 48, 32, 51, 32, 46, 32, 48, 32, 48, 32, 49, 10] ∧ C' = wch r o evh2 :: row B cb 5 byteC X :: pt t4 [.int .i64 64, .int .i64 8, .int .i64 4, .int .i64 100, .int .i64 5, .int .i64 0, .int .i64 0, .int .i64 0, .int .i64 0, .int .i64 64, .int .i64 8, .int .i64 4, .int .i64 100, .int .i64 5, .int .i64 0, .int .i64 0, .int .i64 0, .int .i64 0, .slice A0 3 c0] 39 :: row A0 c0 28 acC31 [⟨1, 0, 0, 1, 0, ⟨#[]⟩, 0, 16, false, 0, 0, 0⟩, ⟨2, 0, 1, 0, 0, ⟨#[97, 32, 98]⟩, 0, 0, false, 0, 0, 0⟩, ⟨4, 1, 1, 5, 0, ⟨#[]⟩, 0, 0, false, 0, 0, 0⟩] :: R) ∨ (j = 3 ∧ X = [48, 32, 49, 32, 46, 32, 48, 32, 48, 32, 49, 10, 48, 32, 51, 32, 46, 32, 48, 32, 48, 32, 49, 10, 55, 32, 48, 32, 46, 32, 48, 32, 48, 32, 49, 10] ∧ C' = wch r o evh3 :: row B cb 5 byteC X :: pt t4 [.int .i64 64, .int .i64 8, .int .i64 4, .int .i64 100, .int .i64 5, .int .i64 0, .int .i64 0, .int .i64 0, .int .i64 0, .int .i64 64, .int .i64 8, .int .i64 4, .int .i64 100, .int .i64 5, .int .i64 0, .int .i64 0, .int .i64 0, .int .i64 0, .slice A0 3 c0] 39 :: row A0 c0 28 acC31 [⟨1, 0, 0, 1, 0, ⟨#[]⟩, 0, 16, false, 0, 0, 0⟩, ⟨2, 0, 1, 0, 0, ⟨#[97, 32, 98]⟩, 0, 0, false, 0, 0, 0⟩, ⟨4, 1, 1, 5, 0, ⟨#[]⟩, 0, 0, false, 0, 0, 0⟩] :: R)) ∧ Agree f [(7, .pointer (some ⟨r, o, none⟩)), (8, .slice B nb cb), (35, .slice A0 3 c0), (36, .int .i64 3), (37, .int .i64 j)]) 3 (turn 3 ⟨0, 0, 0, none, [], by omega, rfl, .inl ⟨rfl, rfl, rfl⟩, rfl, rfl, rfl, rfl, rfl, trivial⟩) ?_
  rintro nk f C' ⟨j, nb, cb, B, X, hj, hnb, hC, hA⟩
  have hxl : X.length = nb := hnb.symm
  rcases hC with ⟨rfl, hX, rfl⟩ | ⟨rfl, hX, rfl⟩ | ⟨rfl, hX, rfl⟩ | ⟨rfl, hX, rfl⟩
  · refine c_fr _ hA ?_
    simp only [updL]
    have hxl2 : X.length = 0 := by rw [hX]; rfl
    have hx : ([⟨1, 0, 0, 1, 0, ⟨#[]⟩, 0, 16, false, 0, 0, 0⟩, ⟨2, 0, 1, 0, 0, ⟨#[97, 32, 98]⟩, 0, 0, false, 0, 0, 0⟩, ⟨4, 1, 1, 5, 0, ⟨#[]⟩, 0, 0, false, 0, 0, 0⟩] : List AC)[((0 : Nat) : Int).toNat]? = some ⟨1, 0, 0, 1, 0, ⟨#[]⟩, 0, 16, false, 0, 0, 0⟩ := rfl
    repeat' (first
      | (show evG _ _ _ _ _ _ _; first | refine G_add64 ?_ | refine G_pure0 ?_ | refine G_load ?_ | refine evG_nil ?_ | refine G_br ?_ ?_ | refine G_field ?_ | refine G_pure ?_ | refine G_store ?_ | refine G_loadV ?_ | refine G_loadV0 ?_ | refine G_loadV2 ?_ | (refine G_append ?_; intro _ _) | (refine G_appendN ?_; intro _ _) | refine G_index ?_ | refine G_indexA ?_ | refine G_conv64 ?_ | refine G_conv8 ?_ | refine G_convu ?_ | refine G_conv ?_ | refine G_cat ?_ | refine G_neq_agg ?_ | refine G_bytesP ?_ | refine G_bytesstr ?_ | refine G_call ?_ | refine G_call0 ?_ | (refine G_alloc ?_; intro _) | (refine G_buildSlice ?_; intro _) | (refine G_strrow ?_; intro _ _) | (refine G_indexV ?_; intro _ _ hA; subst hA))
      | (show spl _ _ _; first | refine spl_no rfl ?_ | refine spl_yes rfl ?_)
      | (show evC _ _ _ _ _; first | refine c_seq ?_ | refine c_region (by exact rfl) ?_ | refine c_cond (by exact rfl) ?_ | refine c_ret ?_ | refine c_skip ?_ | refine c_block ?_ | refine c_exit ?_ | (show evC _ (.region 12 _ true) _ _ _; refine c_draw (l := [(0, 0), (1, 0), (2, 1), (3, 1), (4, 1), (5, 1), (6, 2), (7, 2), (8, 1), (9, 3), (10, 3), (11, 1), (12, 4), (13, 4), (14, 1), (15, 5), (16, 1), (17, 1), (18, 0)]) (by decide +kernel) (by decide +kernel) (by exact rfl) ?_) | refine std ?_)
      | (show Br _ _ _; first | refine Br.t (by decide +kernel) ?_ | refine Br.f (by decide +kernel) ?_ | refine Br.t rfl ?_ | refine Br.f rfl ?_ | refine brs ?_ | (first | refine Br.mkN (fun h => ?_) (fun h => ?_) | refine Br.mk (fun h => ?_) (fun h => ?_)) <;> (try (first | contradiction | (exfalso; omega) | (exfalso; simp at h; done))))
      | refine stp ?_
      | (show CallT _ 33 _ _ _; refine CA (h := do31_0_ok ?_))
      | (show CallT _ 34 _ _ _; refine CA (h := number_ok ⟨by decide, by decide⟩ ?_))
      | (show CallT _ 35 _ _ _; refine CA (h := text_ok e0 ?_))
      | (show CallT _ 36 _ _ _; refine CA (h := sbit_ok ?_))
      | (show CallT _ 37 _ _ _; refine CA (h := joins0_ok (ps := [dgL 0, dgL 1, txtL [], [48], [48], [49]]) rfl (by simp) (by decide) v0 ?_)))
    all_goals (show TurnG _ _ _ _; exact turn (nk - 1) ⟨1, _, _, _, X ++ (bq (joi 32 [dgL 0, dgL 1, txtL [], [48], [48], [49]]) ++ (⟨#[10]⟩ : ByteArray)).data.toList, by omega, rfl, .inr (.inl ⟨rfl, (by rw [hX]; decide +kernel), rfl⟩), rfl, rfl, rfl, rfl, rfl, trivial⟩)
  · refine c_fr _ hA ?_
    simp only [updL]
    have hxl2 : X.length = 12 := by rw [hX]; rfl
    have hx : ([⟨1, 0, 0, 1, 0, ⟨#[]⟩, 0, 16, false, 0, 0, 0⟩, ⟨2, 0, 1, 0, 0, ⟨#[97, 32, 98]⟩, 0, 0, false, 0, 0, 0⟩, ⟨4, 1, 1, 5, 0, ⟨#[]⟩, 0, 0, false, 0, 0, 0⟩] : List AC)[((1 : Nat) : Int).toNat]? = some ⟨2, 0, 1, 0, 0, ⟨#[97, 32, 98]⟩, 0, 0, false, 0, 0, 0⟩ := rfl
    repeat' (first
      | (show evG _ _ _ _ _ _ _; first | refine G_add64 ?_ | refine G_pure0 ?_ | refine G_load ?_ | refine evG_nil ?_ | refine G_br ?_ ?_ | refine G_field ?_ | refine G_pure ?_ | refine G_store ?_ | refine G_loadV ?_ | refine G_loadV0 ?_ | refine G_loadV2 ?_ | (refine G_append ?_; intro _ _) | (refine G_appendN ?_; intro _ _) | refine G_index ?_ | refine G_indexA ?_ | refine G_conv64 ?_ | refine G_conv8 ?_ | refine G_convu ?_ | refine G_conv ?_ | refine G_cat ?_ | refine G_neq_agg ?_ | refine G_bytesP ?_ | refine G_bytesstr ?_ | refine G_call ?_ | refine G_call0 ?_ | (refine G_alloc ?_; intro _) | (refine G_buildSlice ?_; intro _) | (refine G_strrow ?_; intro _ _) | (refine G_indexV ?_; intro _ _ hA; subst hA))
      | (show spl _ _ _; first | refine spl_no rfl ?_ | refine spl_yes rfl ?_)
      | (show evC _ _ _ _ _; first | refine c_seq ?_ | refine c_region (by exact rfl) ?_ | refine c_cond (by exact rfl) ?_ | refine c_ret ?_ | refine c_skip ?_ | refine c_block ?_ | refine c_exit ?_ | (show evC _ (.region 12 _ true) _ _ _; refine c_draw (l := [(0, 0), (1, 0), (2, 1), (3, 1), (4, 1), (5, 1), (6, 2), (7, 2), (8, 1), (9, 3), (10, 3), (11, 1), (12, 4), (13, 4), (14, 1), (15, 5), (16, 1), (17, 1), (18, 0)]) (by decide +kernel) (by decide +kernel) (by exact rfl) ?_) | refine std ?_)
      | (show Br _ _ _; first | refine Br.t (by decide +kernel) ?_ | refine Br.f (by decide +kernel) ?_ | refine Br.t rfl ?_ | refine Br.f rfl ?_ | refine brs ?_ | (first | refine Br.mkN (fun h => ?_) (fun h => ?_) | refine Br.mk (fun h => ?_) (fun h => ?_)) <;> (try (first | contradiction | (exfalso; omega) | (exfalso; simp at h; done))))
      | refine stp ?_
      | (show CallT _ 33 _ _ _; refine CA (h := do31_1_ok ?_))
      | (show CallT _ 34 _ _ _; refine CA (h := number_ok ⟨by decide, by decide⟩ ?_))
      | (show CallT _ 35 _ _ _; refine CA (h := text_ok e0 ?_))
      | (show CallT _ 36 _ _ _; refine CA (h := sbit_ok ?_))
      | (show CallT _ 37 _ _ _; refine CA (h := joins0_ok (ps := [dgL 0, dgL 3, txtL [], [48], [48], [49]]) rfl (by simp) (by decide) v1 ?_)))
    all_goals (show TurnG _ _ _ _; exact turn (nk - 1) ⟨2, _, _, _, X ++ (bq (joi 32 [dgL 0, dgL 3, txtL [], [48], [48], [49]]) ++ (⟨#[10]⟩ : ByteArray)).data.toList, by omega, rfl, .inr (.inr (.inl ⟨rfl, (by rw [hX]; decide +kernel), rfl⟩)), rfl, rfl, rfl, rfl, rfl, trivial⟩)
  · refine c_fr _ hA ?_
    simp only [updL]
    have hxl2 : X.length = 24 := by rw [hX]; rfl
    have hx : ([⟨1, 0, 0, 1, 0, ⟨#[]⟩, 0, 16, false, 0, 0, 0⟩, ⟨2, 0, 1, 0, 0, ⟨#[97, 32, 98]⟩, 0, 0, false, 0, 0, 0⟩, ⟨4, 1, 1, 5, 0, ⟨#[]⟩, 0, 0, false, 0, 0, 0⟩] : List AC)[((2 : Nat) : Int).toNat]? = some ⟨4, 1, 1, 5, 0, ⟨#[]⟩, 0, 0, false, 0, 0, 0⟩ := rfl
    repeat' (first
      | (show evG _ _ _ _ _ _ _; first | refine G_add64 ?_ | refine G_pure0 ?_ | refine G_load ?_ | refine evG_nil ?_ | refine G_br ?_ ?_ | refine G_field ?_ | refine G_pure ?_ | refine G_store ?_ | refine G_loadV ?_ | refine G_loadV0 ?_ | refine G_loadV2 ?_ | (refine G_append ?_; intro _ _) | (refine G_appendN ?_; intro _ _) | refine G_index ?_ | refine G_indexA ?_ | refine G_conv64 ?_ | refine G_conv8 ?_ | refine G_convu ?_ | refine G_conv ?_ | refine G_cat ?_ | refine G_neq_agg ?_ | refine G_bytesP ?_ | refine G_bytesstr ?_ | refine G_call ?_ | refine G_call0 ?_ | (refine G_alloc ?_; intro _) | (refine G_buildSlice ?_; intro _) | (refine G_strrow ?_; intro _ _) | (refine G_indexV ?_; intro _ _ hA; subst hA))
      | (show spl _ _ _; first | refine spl_no rfl ?_ | refine spl_yes rfl ?_)
      | (show evC _ _ _ _ _; first | refine c_seq ?_ | refine c_region (by exact rfl) ?_ | refine c_cond (by exact rfl) ?_ | refine c_ret ?_ | refine c_skip ?_ | refine c_block ?_ | refine c_exit ?_ | (show evC _ (.region 12 _ true) _ _ _; refine c_draw (l := [(0, 0), (1, 0), (2, 1), (3, 1), (4, 1), (5, 1), (6, 2), (7, 2), (8, 1), (9, 3), (10, 3), (11, 1), (12, 4), (13, 4), (14, 1), (15, 5), (16, 1), (17, 1), (18, 0)]) (by decide +kernel) (by decide +kernel) (by exact rfl) ?_) | refine std ?_)
      | (show Br _ _ _; first | refine Br.t (by decide +kernel) ?_ | refine Br.f (by decide +kernel) ?_ | refine Br.t rfl ?_ | refine Br.f rfl ?_ | refine brs ?_ | (first | refine Br.mkN (fun h => ?_) (fun h => ?_) | refine Br.mk (fun h => ?_) (fun h => ?_)) <;> (try (first | contradiction | (exfalso; omega) | (exfalso; simp at h; done))))
      | refine stp ?_
      | (show CallT _ 33 _ _ _; refine CA (h := do31_2_ok ?_))
      | (show CallT _ 34 _ _ _; refine CA (h := number_ok ⟨by decide, by decide⟩ ?_))
      | (show CallT _ 35 _ _ _; refine CA (h := text_ok e0 ?_))
      | (show CallT _ 36 _ _ _; refine CA (h := sbit_ok ?_))
      | (show CallT _ 37 _ _ _; refine CA (h := joins0_ok (ps := [dgL 7, dgL 0, txtL [], [48], [48], [49]]) rfl (by simp) (by decide) v2 ?_)))
    all_goals (show TurnG _ _ _ _; exact turn (nk - 1) ⟨3, _, _, _, X ++ (bq (joi 32 [dgL 7, dgL 0, txtL [], [48], [48], [49]]) ++ (⟨#[10]⟩ : ByteArray)).data.toList, by omega, rfl, .inr (.inr (.inr (⟨rfl, (by rw [hX]; decide +kernel), rfl⟩))), rfl, rfl, rfl, rfl, rfl, trivial⟩)
  · refine c_fr _ hA ?_
    simp only [updL]
    subst hX
    repeat' (first
      | (show evG _ _ _ _ _ _ _; first | refine G_add64 ?_ | refine G_pure0 ?_ | refine G_load ?_ | refine evG_nil ?_ | refine G_br ?_ ?_ | refine G_field ?_ | refine G_pure ?_ | refine G_store ?_ | refine G_loadV ?_ | refine G_loadV0 ?_ | refine G_loadV2 ?_ | (refine G_append ?_; intro _ _) | (refine G_appendN ?_; intro _ _) | refine G_index ?_ | refine G_indexA ?_ | refine G_conv64 ?_ | refine G_conv8 ?_ | refine G_convu ?_ | refine G_conv ?_ | refine G_cat ?_ | refine G_neq_agg ?_ | refine G_bytesP ?_ | refine G_bytesstr ?_ | refine G_call ?_ | refine G_call0 ?_ | (refine G_alloc ?_; intro _) | (refine G_buildSlice ?_; intro _) | (refine G_strrow ?_; intro _ _) | (refine G_indexV ?_; intro _ _ hA; subst hA))
      | (show spl _ _ _; first | refine spl_no rfl ?_ | refine spl_yes rfl ?_)
      | (show evC _ _ _ _ _; first | refine c_seq ?_ | refine c_region (by exact rfl) ?_ | refine c_cond (by exact rfl) ?_ | refine c_ret ?_ | refine c_skip ?_ | refine c_block ?_ | refine c_exit ?_ | (show evC _ (.region 12 _ true) _ _ _; refine c_draw (l := [(0, 0), (1, 0), (2, 1), (3, 1), (4, 1), (5, 1), (6, 2), (7, 2), (8, 1), (9, 3), (10, 3), (11, 1), (12, 4), (13, 4), (14, 1), (15, 5), (16, 1), (17, 1), (18, 0)]) (by decide +kernel) (by decide +kernel) (by exact rfl) ?_) | refine std ?_)
      | (show Br _ _ _; first | refine Br.t (by decide +kernel) ?_ | refine Br.f (by decide +kernel) ?_ | refine Br.t rfl ?_ | refine Br.f rfl ?_ | refine brs ?_ | (first | refine Br.mkN (fun h => ?_) (fun h => ?_) | refine Br.mk (fun h => ?_) (fun h => ?_)) <;> (try (first | contradiction | (exfalso; omega) | (exfalso; simp at h; done))))
      | refine stp ?_)
    all_goals (show retC _ _ _ _ _ _; refine RETC ?_; exact ret_done (hK))
theorem awake31_ok (hK : K (.bool true) R) : CallT Tryz.prog 9 #[] R K := by
  refine callT_intro mixed Tryz.func9 rfl (by decide) (by decide +kernel) (by exact Nat.le_of_ble_eq_true rfl) ?_
  repeat' (first
    | (show evG _ _ _ _ _ _ _; first | refine G_pure0 ?_ | refine evG_nil ?_ | refine G_br ?_ ?_ | refine G_pure ?_ | refine G_eql_agg ?_ | refine G_call ?_ | refine G_call0 ?_ | refine G_skip ?_ | refine G_skip0 ?_)
    | (show spl _ _ _; first | refine spl_no rfl ?_ | refine spl_yes rfl ?_)
    | (show evC _ _ _ _ _; first | refine c_seq ?_ | refine c_region (by exact rfl) ?_ | refine c_cond (by exact rfl) ?_ | refine c_ret ?_ | refine c_skip ?_ | refine c_block ?_ | refine c_exit ?_ | refine std ?_)
    | (show Br _ _ _; first | refine Br.t (by decide +kernel) ?_ | refine Br.f (by decide +kernel) ?_ | refine Br.t rfl ?_ | refine Br.f rfl ?_ | refine brs ?_ | (first | refine Br.mkN (fun h => ?_) (fun h => ?_) | refine Br.mk (fun h => ?_) (fun h => ?_)) <;> (try (first | contradiction | (exfalso; omega) | (exfalso; simp at h; done))))
    | refine stp ?_
    | (show CallT _ 13 _ _ _; refine CA (h := run31_ok ?_)))
  all_goals (show retC _ _ _ _ _ _; refine RETC ?_; exact ret_done (kb hK ⟨fun _ => beq_self_eq_true _, fun _ => rfl⟩))
end Go.Proofs.YtiofdmjecjcdbaaGreatDoor

