/- Script: the law ScriptNone: lemmas; each with the conditions that it states. -/
import Derived.Test.YtiofdmjecjcdbaaGreatDoorFh
import Derived.Test.YtiofdmjecjcdbaaGreatDoorG33
import Derived.Test.YtiofdmjecjcdbaaGreatDoorGx
import Derived.Test.YtiofdmjecjcdbaaGreatDoorGw
import Derived.Test.YtiofdmjecjcdbaaGreatDoorG23

namespace Go.Proofs.YtiofdmjecjcdbaaGreatDoor
open Go Go.Proofs Go.Sl
set_option maxRecDepth 100000
set_option maxHeartbeats 4000000
set_option linter.unusedSimpArgs false
set_option linter.unusedVariables false
attribute [local irreducible] evG evC spl thenC inBlockC noGotoC CallT retC RetG TurnG CutG pt ro exP star sep pureP
variable {R C : List HP} {K : Value → List HP → Prop}
theorem runN_ok {l : List UInt8} {k0 : Nat} {e0 : Int} (hs0 : l.length ≤ 1000000) (h : rdScr 0 PL0 (spl1 10 l) = (PL0, k0, e0)) (he0 : e0 ≠ 0) (hK : K (.tuple #[.string ⟨#[]⟩, .int .i64 e0]) R) : CallT Tryz.prog 13 #[.string (bq l)] R K := by
  have hee : ¬ e0 = 0 := he0
  refine callT_intro mixed Tryz.func13 rfl (by decide) (by decide +kernel) (by exact Nat.le_of_ble_eq_true rfl) ?_
  repeat' (first
    | (show evG _ _ _ _ _ _ _; first | refine G_add64 ?_ | refine G_pure0 ?_ | refine G_load ?_ | refine evG_nil ?_ | refine G_br ?_ ?_ | refine G_field ?_ | refine G_pure ?_ | refine G_store ?_ | refine G_loadV ?_ | refine G_loadV0 ?_ | refine G_loadV2 ?_ | (refine G_append ?_; intro _ _) | (refine G_appendN ?_; intro _ _) | refine G_index ?_ | refine G_indexA ?_ | refine G_conv64 ?_ | refine G_conv8 ?_ | refine G_convu ?_ | refine G_conv ?_ | refine G_cat ?_ | refine G_neq_agg ?_ | refine G_bytesP ?_ | refine G_bytesstr ?_ | refine G_call ?_ | refine G_call0 ?_ | (refine G_alloc ?_; intro _) | (refine G_buildSlice ?_; intro _) | (refine G_strrow ?_; intro _ _) | (refine G_indexV ?_; intro _ _ hA; subst hA))
    | (show spl _ _ _; first | refine spl_no rfl ?_ | refine spl_yes rfl ?_)
    | (show evC _ _ _ _ _; first | refine c_seq ?_ | refine c_region (by exact rfl) ?_ | refine c_cond (by exact rfl) ?_ | refine c_ret ?_ | refine c_skip ?_ | refine c_block ?_ | refine c_exit ?_ | (show evC _ (.region 12 _ true) _ _ _; refine c_draw (l := [(0, 0), (1, 0), (2, 1), (3, 1), (4, 1), (5, 1), (6, 2), (7, 2), (8, 1), (9, 3), (10, 3), (11, 1), (12, 4), (13, 4), (14, 1), (15, 5), (16, 1), (17, 1), (18, 0)]) (by decide +kernel) (by decide +kernel) (by exact rfl) ?_) | refine std ?_)
    | (show Br _ _ _; first | refine Br.t rfl ?_ | refine Br.f rfl ?_ | refine brs ?_ | (first | refine Br.mkN (fun h => ?_) (fun h => ?_) | refine Br.mk (fun h => ?_) (fun h => ?_)) <;> (try (first | contradiction | (exfalso; omega) | (exfalso; simp at h; done))))
    | refine stp ?_
    | (show CallT _ 12 _ _ _; refine CA (h := readSN_ok hs0 h he0 ?_)))
  all_goals first
    | (show retC _ _ _ _ _ _; refine RETC ?_; exact ret_done (hK))
    | (exfalso; omega)
theorem runO_ok {l : List UInt8} {n0 n1 n2 n3 n4 n5 n6 n7 n8 n9 n10 n11 n12 n13 n14 n15 n16 n17 : Int} {e : Int} (hs0 : l.length ≤ 1000000) (h : rdScr 0 PL0 (spl1 10 l) = (⟨[n0, n1, n2, n3, n4, n5, n6, n7, n8, n9, n10, n11, n12, n13, n14, n15, n16, n17], []⟩, 0, 0)) (h0 : cE n0 n1 n2 n3 n4 n5 n6 n7 n8 = e) (h1 : cE n9 n10 n11 n12 n13 n14 n15 n16 n17 = 0) (hK : K (.tuple #[.string ⟨#[]⟩, .int .i64 e]) R) : CallT Tryz.prog 13 #[.string (bq l)] R K := by
  by_cases he : e = 0
  · subst he
    refine callT_intro mixed Tryz.func13 rfl (by decide) (by decide +kernel) (by exact Nat.le_of_ble_eq_true rfl) ?_
    repeat' (first
      | (show evG _ _ _ _ _ _ _; first | refine G_add64 ?_ | refine G_pure0 ?_ | refine G_load ?_ | refine evG_nil ?_ | refine G_br ?_ ?_ | refine G_field ?_ | refine G_pure ?_ | refine G_store ?_ | refine G_loadV ?_ | refine G_loadV0 ?_ | refine G_loadV2 ?_ | (refine G_append ?_; intro _ _) | (refine G_appendN ?_; intro _ _) | refine G_index ?_ | refine G_indexA ?_ | refine G_conv64 ?_ | refine G_conv8 ?_ | refine G_convu ?_ | refine G_conv ?_ | refine G_cat ?_ | refine G_neq_agg ?_ | refine G_bytesP ?_ | refine G_bytesstr ?_ | refine G_call ?_ | refine G_call0 ?_ | (refine G_alloc ?_; intro _) | (refine G_buildSlice ?_; intro _) | (refine G_strrow ?_; intro _ _) | (refine G_indexV ?_; intro _ _ hA; subst hA))
      | (show spl _ _ _; first | refine spl_no rfl ?_ | refine spl_yes rfl ?_)
      | (show evC _ _ _ _ _; first | refine c_seq ?_ | refine c_region (by exact rfl) ?_ | refine c_cond (by exact rfl) ?_ | refine c_ret ?_ | refine c_skip ?_ | refine c_block ?_ | refine c_exit ?_ | (show evC _ (.region 12 _ true) _ _ _; refine c_draw (l := [(0, 0), (1, 0), (2, 1), (3, 1), (4, 1), (5, 1), (6, 2), (7, 2), (8, 1), (9, 3), (10, 3), (11, 1), (12, 4), (13, 4), (14, 1), (15, 5), (16, 1), (17, 1), (18, 0)]) (by decide +kernel) (by decide +kernel) (by exact rfl) ?_) | refine std ?_)
      | (show Br _ _ _; first | refine Br.t (by decide +kernel) ?_ | refine Br.f (by decide +kernel) ?_ | refine Br.t rfl ?_ | refine Br.f rfl ?_ | refine brs ?_ | (first | refine Br.mkN (fun h => ?_) (fun h => ?_) | refine Br.mk (fun h => ?_) (fun h => ?_)) <;> (try (first | contradiction | (exfalso; omega) | (exfalso; simp at h; done))))
      | refine stp ?_
      | (show CallT _ 12 _ _ _; refine CA (h := readSY_ok hs0 h (fun A0 c0 => ?_)))
      | (show CallT _ 16 _ _ _; refine CA (h := joverG_ok h0 h1 (fun x => ?_))))
    rename_i t4
    refine LOOP (fun m f C' => ∃ (nb cb : Nat) (B : Option Addr) (X : List UInt8), nb = X.length ∧ X = [] ∧ C' = row B cb 5 byteC X :: pt t4 [.int .i64 n0, .int .i64 n1, .int .i64 n2, .int .i64 n3, .int .i64 n4, .int .i64 n5, .int .i64 n6, .int .i64 n7, .int .i64 n8, .int .i64 n9, .int .i64 n10, .int .i64 n11, .int .i64 n12, .int .i64 n13, .int .i64 n14, .int .i64 n15, .int .i64 n16, .int .i64 n17, .slice A0 0 c0] 39 :: row A0 c0 28 acC31 [] :: R ∧ Agree f [(8, .slice B nb cb), (35, .slice A0 0 c0), (36, .int .i64 0), (37, .int .i64 0)]) 0 (turn 0 ⟨0, 0, none, [], rfl, rfl, rfl, rfl, rfl, rfl, rfl, trivial⟩) ?_
    rintro nk f C' ⟨nb, cb, B, X, hnb, hX, rfl, hA⟩
    refine c_fr _ hA ?_
    simp only [updL]
    have hxl : X.length = nb := hnb.symm
    have hnb0 : nb = 0 := by rw [hnb, hX]; rfl
    subst hX
    repeat' (first
      | (show evG _ _ _ _ _ _ _; first | refine G_add64 ?_ | refine G_pure0 ?_ | refine G_load ?_ | refine evG_nil ?_ | refine G_br ?_ ?_ | refine G_field ?_ | refine G_pure ?_ | refine G_store ?_ | refine G_loadV ?_ | refine G_loadV0 ?_ | refine G_loadV2 ?_ | (refine G_append ?_; intro _ _) | (refine G_appendN ?_; intro _ _) | refine G_index ?_ | refine G_indexA ?_ | refine G_conv64 ?_ | refine G_conv8 ?_ | refine G_convu ?_ | refine G_conv ?_ | refine G_cat ?_ | refine G_neq_agg ?_ | refine G_bytesP ?_ | refine G_bytesstr ?_ | refine G_call ?_ | refine G_call0 ?_ | (refine G_alloc ?_; intro _) | (refine G_buildSlice ?_; intro _) | (refine G_strrow ?_; intro _ _) | (refine G_indexV ?_; intro _ _ hA; subst hA))
      | (show spl _ _ _; first | refine spl_no rfl ?_ | refine spl_yes rfl ?_)
      | (show evC _ _ _ _ _; first | refine c_seq ?_ | refine c_region (by exact rfl) ?_ | refine c_cond (by exact rfl) ?_ | refine c_ret ?_ | refine c_skip ?_ | refine c_block ?_ | refine c_exit ?_ | (show evC _ (.region 12 _ true) _ _ _; refine c_draw (l := [(0, 0), (1, 0), (2, 1), (3, 1), (4, 1), (5, 1), (6, 2), (7, 2), (8, 1), (9, 3), (10, 3), (11, 1), (12, 4), (13, 4), (14, 1), (15, 5), (16, 1), (17, 1), (18, 0)]) (by decide +kernel) (by decide +kernel) (by exact rfl) ?_) | refine std ?_)
      | (show Br _ _ _; first | refine Br.t (by decide +kernel) ?_ | refine Br.f (by decide +kernel) ?_ | refine Br.t rfl ?_ | refine Br.f rfl ?_ | refine brs ?_ | (first | refine Br.mkN (fun h => ?_) (fun h => ?_) | refine Br.mk (fun h => ?_) (fun h => ?_)) <;> (try (first | contradiction | (exfalso; omega) | (exfalso; simp at h; done))))
      | refine stp ?_)
    all_goals first
      | (show retC _ _ _ _ _ _; refine RETC ?_; exact ret_done (hK))
      | (exfalso; omega)
  · have hee : ¬ e = 0 := he
    refine callT_intro mixed Tryz.func13 rfl (by decide) (by decide +kernel) (by exact Nat.le_of_ble_eq_true rfl) ?_
    repeat' (first
      | (show evG _ _ _ _ _ _ _; first | refine G_add64 ?_ | refine G_pure0 ?_ | refine G_load ?_ | refine evG_nil ?_ | refine G_br ?_ ?_ | refine G_field ?_ | refine G_pure ?_ | refine G_store ?_ | refine G_loadV ?_ | refine G_loadV0 ?_ | refine G_loadV2 ?_ | (refine G_append ?_; intro _ _) | (refine G_appendN ?_; intro _ _) | refine G_index ?_ | refine G_indexA ?_ | refine G_conv64 ?_ | refine G_conv8 ?_ | refine G_convu ?_ | refine G_conv ?_ | refine G_cat ?_ | refine G_neq_agg ?_ | refine G_bytesP ?_ | refine G_bytesstr ?_ | refine G_call ?_ | refine G_call0 ?_ | (refine G_alloc ?_; intro _) | (refine G_buildSlice ?_; intro _) | (refine G_strrow ?_; intro _ _) | (refine G_indexV ?_; intro _ _ hA; subst hA))
      | (show spl _ _ _; first | refine spl_no rfl ?_ | refine spl_yes rfl ?_)
      | (show evC _ _ _ _ _; first | refine c_seq ?_ | refine c_region (by exact rfl) ?_ | refine c_cond (by exact rfl) ?_ | refine c_ret ?_ | refine c_skip ?_ | refine c_block ?_ | refine c_exit ?_ | (show evC _ (.region 12 _ true) _ _ _; refine c_draw (l := [(0, 0), (1, 0), (2, 1), (3, 1), (4, 1), (5, 1), (6, 2), (7, 2), (8, 1), (9, 3), (10, 3), (11, 1), (12, 4), (13, 4), (14, 1), (15, 5), (16, 1), (17, 1), (18, 0)]) (by decide +kernel) (by decide +kernel) (by exact rfl) ?_) | refine std ?_)
      | (show Br _ _ _; first | refine Br.t (by decide +kernel) ?_ | refine Br.f (by decide +kernel) ?_ | refine Br.t rfl ?_ | refine Br.f rfl ?_ | refine brs ?_ | (first | refine Br.mkN (fun h => ?_) (fun h => ?_) | refine Br.mk (fun h => ?_) (fun h => ?_)) <;> (try (first | contradiction | (exfalso; omega) | (exfalso; simp at h; done))))
      | refine stp ?_
      | (show CallT _ 12 _ _ _; refine CA (h := readSY_ok hs0 h (fun A0 c0 => ?_)))
      | (show CallT _ 16 _ _ _; refine CA (h := joverA_ok h0 he ?_)))
    all_goals first
      | (show retC _ _ _ _ _ _; refine RETC ?_; exact ret_done (hK))
      | (exfalso; omega)
theorem confs31_in {w st it sb si stg ev wa stl : Int} (h : ∀ n ∈ [w, st, it, sb, si, stg, ev, wa, stl], inR n) : ∀ n ∈ [w, st, it, sb, si, stg, ev, wa, stl, 64, 8, 4, 100, 5, 0, 0, 0, 0], inR n := fun x hx => by
  have hx : x ∈ [w, st, it, sb, si, stg, ev, wa, stl] ++ [64, 8, 4, 100, 5, 0, 0, 0, 0] := hx
  have hk : ∀ n ∈ ([64, 8, 4, 100, 5, 0, 0, 0, 0] : List Int), inR n := (List.forall_mem_cons.2 ⟨⟨by decide, by decide⟩, (List.forall_mem_cons.2 ⟨⟨by decide, by decide⟩, (List.forall_mem_cons.2 ⟨⟨by decide, by decide⟩, (List.forall_mem_cons.2 ⟨⟨by decide, by decide⟩, (List.forall_mem_cons.2 ⟨⟨by decide, by decide⟩, (List.forall_mem_cons.2 ⟨⟨by decide, by decide⟩, (List.forall_mem_cons.2 ⟨⟨by decide, by decide⟩, (List.forall_mem_cons.2 ⟨⟨by decide, by decide⟩, (List.forall_mem_cons.2 ⟨⟨by decide, by decide⟩, List.forall_mem_nil _⟩)⟩)⟩)⟩)⟩)⟩)⟩)⟩)⟩)
  rcases List.mem_append.1 hx with hx | hx
  · exact h x hx
  · exact hk x hx
theorem conf31_ok (hK : K (.agg #[.int .i64 64, .int .i64 8, .int .i64 4, .int .i64 100, .int .i64 5, .int .i64 0, .int .i64 0, .int .i64 0, .int .i64 0]) R) : CallT Tryz.prog 15 #[] R K := by
  refine callT_intro mixed Tryz.func15 rfl (by decide) (by decide +kernel) (by exact Nat.le_of_ble_eq_true rfl) ?_
  repeat' (first
    | (show evG _ _ _ _ _ _ _; first | refine G_pure0 ?_ | refine evG_nil ?_ | refine G_br ?_ ?_ | refine G_pure ?_ | refine G_store ?_ | refine G_build ?_ | (refine G_alloc ?_; intro _))
    | (show spl _ _ _; first | refine spl_no rfl ?_ | refine spl_yes rfl ?_)
    | (show evC _ _ _ _ _; first | refine c_seq ?_ | refine c_region (by exact rfl) ?_ | refine c_cond (by exact rfl) ?_ | refine c_ret ?_ | refine c_skip ?_ | refine c_block ?_ | refine c_exit ?_ | refine std ?_)
    | (show Br _ _ _; first | refine Br.t rfl ?_ | refine Br.f rfl ?_ | refine brs ?_ | (first | refine Br.mkN (fun h => ?_) (fun h => ?_) | refine Br.mk (fun h => ?_) (fun h => ?_)) <;> (try (first | contradiction | (exfalso; omega) | (exfalso; simp at h; done))))
    | refine stp ?_)
  all_goals (show retC _ _ _ _ _ _; refine RETC ?_; exact ret_done (hK))
theorem over31G_ok {w st it sb si stg ev wa stl e : Int} (h0 : cE w st it sb si stg ev wa stl = e) (hK : ∀ x, K (.tuple #[.pointer (some ⟨x, 0, none⟩), .int .i64 e]) R) (hK2 : K (.tuple #[.pointer none, .int .i64 e]) R) : CallT Tryz.prog 16 #[.agg #[.int .i64 w, .int .i64 st, .int .i64 it, .int .i64 sb, .int .i64 si, .int .i64 stg, .int .i64 ev, .int .i64 wa, .int .i64 stl], .agg #[.int .i64 64, .int .i64 8, .int .i64 4, .int .i64 100, .int .i64 5, .int .i64 0, .int .i64 0, .int .i64 0, .int .i64 0]] R K := by
  by_cases he : e = 0
  · subst he
    exact joverG_ok h0 cE_conf hK
  · exact joverA_ok h0 he hK2
set_option maxHeartbeats 8000000 in
theorem scriptNone_ok {s : ByteArray} {w st it sb si stg ev wa stl : Int} (hr : ∀ n ∈ [w, st, it, sb, si, stg, ev, wa, stl, 64, 8, 4, 100, 5, 0, 0, 0, 0], inR n) (hK : ∀ C, K (.bool true) C) : CallT Tryz.prog 4 #[.string s, .agg #[.int .i64 w, .int .i64 st, .int .i64 it, .int .i64 sb, .int .i64 si, .int .i64 stg, .int .i64 ev, .int .i64 wa, .int .i64 stl]] R K := by
  by_cases hs : 3000 < s.size
  · refine callT_intro mixed Tryz.func4 rfl (by decide) (by decide +kernel) (by exact Nat.le_of_ble_eq_true rfl) ?_
    repeat' (first
      | (show evG _ _ _ _ _ _ _; first | refine G_add64 ?_ | refine G_pure0 ?_ | refine G_load ?_ | refine evG_nil ?_ | refine G_br ?_ ?_ | refine G_pure ?_ | refine G_store ?_ | refine G_loadV ?_ | refine G_loadV0 ?_ | refine G_loadV2 ?_ | refine G_cat ?_ | refine G_eql_agg ?_ | refine G_neq_agg ?_ | refine G_call ?_ | refine G_call0 ?_ | (refine G_box ?_; intro _) | (refine G_alloc ?_; intro _) | refine G_skip ?_ | refine G_skip0 ?_)
      | (show spl _ _ _; first | refine spl_no rfl ?_ | refine spl_yes rfl ?_)
      | (show evC _ _ _ _ _; first | refine c_seq ?_ | refine c_region (by exact rfl) ?_ | refine c_cond (by exact rfl) ?_ | refine c_ret ?_ | refine c_skip ?_ | refine c_block ?_ | refine c_exit ?_ | (show evC _ (.region 8 _ true) _ _ _; refine c_draw (l := [(1, 1), (0, 1), (2, 1), (3, 0), (4, 1), (5, 0), (6, 0), (7, 0), (8, 0), (9, 0)]) (by decide +kernel) (by decide +kernel) (by exact rfl) ?_) | (show evC _ (.region 9 _ true) _ _ _; refine c_draw (l := [(1, 1), (0, 1), (2, 1), (3, 0), (4, 0), (5, 0), (6, 0), (7, 0)]) (by decide +kernel) (by decide +kernel) (by exact rfl) ?_) | refine std ?_)
      | (show Br _ _ _; first | refine Br.t rfl ?_ | refine Br.f rfl ?_ | refine brs ?_ | (first | refine Br.mkN (fun h => ?_) (fun h => ?_) | refine Br.mk (fun h => ?_) (fun h => ?_)) <;> (try (first | contradiction | (exfalso; omega) | (exfalso; simp at h; done))))
      | refine stp ?_
      | (show CallT _ 9 _ _ _; refine CA (h := awake31_ok ?_)))
    all_goals first
      | (show retC _ _ _ _ _ _; refine RETC ?_; exact ret_done (hK _))
      | (exfalso; omega)
  · obtain ⟨l, rfl⟩ : ∃ l, s = bq l := ⟨s.data.toList, (bq_data s).symm⟩
    rw [bq_size] at hs
    have hl : l.length ≤ 1000000 := by omega
    have hsz := bq_size l
    have hhl := hdS_len (ns := [w, st, it, sb, si, stg, ev, wa, stl, 64, 8, 4, 100, 5, 0, 0, 0, 0]) rfl hr
    have hhs := bq_size (hdS [w, st, it, sb, si, stg, ev, wa, stl, 64, 8, 4, 100, 5, 0, 0, 0, 0])
    have hop : OkP ⟨[w, st, it, sb, si, stg, ev, wa, stl, 64, 8, 4, 100, 5, 0, 0, 0, 0], []⟩ := ⟨rfl, hr, by show 0 ≤ 512; omega, fun a ha => by cases ha⟩
    have hrx := rd_scr hop
    have hX : bq (hdS [w, st, it, sb, si, stg, ev, wa, stl, 64, 8, 4, 100, 5, 0, 0, 0, 0]) ++ (⟨#[10]⟩ : ByteArray) = bq (scrS ⟨[w, st, it, sb, si, stg, ev, wa, stl, 64, 8, 4, 100, 5, 0, 0, 0, 0], []⟩) := by
      rw [show (⟨#[10]⟩ : ByteArray) = bq [10] from rfl, bq_app]
      rfl
    have hxl : (scrS ⟨[w, st, it, sb, si, stg, ev, wa, stl, 64, 8, 4, 100, 5, 0, 0, 0, 0], []⟩).length ≤ 1000000 := by
      show (hdS [w, st, it, sb, si, stg, ev, wa, stl, 64, 8, 4, 100, 5, 0, 0, 0, 0] ++ 10 :: []).length ≤ 1000000
      rw [List.length_append]
      simp only [List.length_cons, List.length_nil]
      omega
    obtain ⟨ee, hee⟩ : ∃ e, cE w st it sb si stg ev wa stl = e := ⟨_, rfl⟩
    have hq0 : ((⟨#[]⟩ : ByteArray).toList == (⟨#[]⟩ : ByteArray).toList) = true := beq_self_eq_true _
    have hru : ∀ {R : List HP} {K : Value → List HP → Prop}, K (.tuple #[.string ⟨#[]⟩, .int .i64 ee]) R → CallT Tryz.prog 13 #[.string (bq (hdS [w, st, it, sb, si, stg, ev, wa, stl, 64, 8, 4, 100, 5, 0, 0, 0, 0]) ++ (⟨#[10]⟩ : ByteArray))] R K := fun hK => by
      rw [hX]
      exact runO_ok hxl hrx hee cE_conf hK
    have hrh : ∀ {R : List HP} {K : Value → List HP → Prop}, K (.string (bq (hdS [w, st, it, sb, si, stg, ev, wa, stl, 64, 8, 4, 100, 5, 0, 0, 0, 0]))) R → CallT Tryz.prog 14 #[.agg #[.int .i64 w, .int .i64 st, .int .i64 it, .int .i64 sb, .int .i64 si, .int .i64 stg, .int .i64 ev, .int .i64 wa, .int .i64 stl], .agg #[.int .i64 64, .int .i64 8, .int .i64 4, .int .i64 100, .int .i64 5, .int .i64 0, .int .i64 0, .int .i64 0, .int .i64 0]] R K := fun hK => rhead_ok hr hK
    have hov : ∀ {R : List HP} {K : Value → List HP → Prop}, (∀ x, K (.tuple #[.pointer (some ⟨x, 0, none⟩), .int .i64 ee]) R) → K (.tuple #[.pointer none, .int .i64 ee]) R → CallT Tryz.prog 16 #[.agg #[.int .i64 w, .int .i64 st, .int .i64 it, .int .i64 sb, .int .i64 si, .int .i64 stg, .int .i64 ev, .int .i64 wa, .int .i64 stl], .agg #[.int .i64 64, .int .i64 8, .int .i64 4, .int .i64 100, .int .i64 5, .int .i64 0, .int .i64 0, .int .i64 0, .int .i64 0]] R K := fun hK hK2 => over31G_ok hee hK hK2
    clear hX hxl hrx hop
    generalize hdS [w, st, it, sb, si, stg, ev, wa, stl, 64, 8, 4, 100, 5, 0, 0, 0, 0] = HD at *
    cases hrd : rdScr 0 PL0 (spl1 10 l) with
    | mk q ke =>
      obtain ⟨k, e⟩ := ke
      obtain ⟨hq, hk⟩ := rd_err hrd
      have hple := spl1_le (c := 10) l
      have hkI : ((k : Nat) : Int) ≤ 20001 := by omega
      clear hk hple
      rcases hq with rfl | ⟨rfl, he0⟩
      · obtain ⟨rfl, hsc, hok⟩ := scr_rd hrd
        obtain ⟨ns, L⟩ := q
        obtain ⟨h18, hrng, h512, hokl⟩ := hok
        simp only at h18 hrng h512 hokl
        obtain ⟨n0, n1, n2, n3, n4, n5, n6, n7, n8, n9, n10, n11, n12, n13, n14, n15, n16, n17, rfl⟩ := l18 h18
        refine callT_intro mixed Tryz.func4 rfl (by decide) (by decide +kernel) (by exact Nat.le_of_ble_eq_true rfl) ?_
        repeat' (first
          | (show evG _ _ _ _ _ _ _; first | refine G_add64 ?_ | refine G_pure0 ?_ | refine G_load ?_ | refine evG_nil ?_ | refine G_br ?_ ?_ | refine G_pure ?_ | refine G_store ?_ | refine G_loadV ?_ | refine G_loadV0 ?_ | refine G_loadV2 ?_ | refine G_cat ?_ | refine G_eql_agg ?_ | refine G_neq_agg ?_ | refine G_call ?_ | refine G_call0 ?_ | (refine G_box ?_; intro _) | (refine G_alloc ?_; intro _) | refine G_skip ?_ | refine G_skip0 ?_)
          | (show spl _ _ _; first | refine spl_no rfl ?_ | refine spl_yes rfl ?_)
          | (show evC _ _ _ _ _; first | refine c_seq ?_ | refine c_region (by exact rfl) ?_ | refine c_cond (by exact rfl) ?_ | refine c_ret ?_ | refine c_skip ?_ | refine c_block ?_ | refine c_exit ?_ | (show evC _ (.region 8 _ true) _ _ _; refine c_draw (l := [(1, 1), (0, 1), (2, 1), (3, 0), (4, 1), (5, 0), (6, 0), (7, 0), (8, 0), (9, 0)]) (by decide +kernel) (by decide +kernel) (by exact rfl) ?_) | (show evC _ (.region 9 _ true) _ _ _; refine c_draw (l := [(1, 1), (0, 1), (2, 1), (3, 0), (4, 0), (5, 0), (6, 0), (7, 0)]) (by decide +kernel) (by decide +kernel) (by exact rfl) ?_) | refine std ?_)
          | (show Br _ _ _; first | refine Br.t (by decide +kernel) ?_ | refine Br.f (by decide +kernel) ?_ | refine Br.t rfl ?_ | refine Br.f rfl ?_ | refine brs ?_ | (first | refine Br.mkN (fun h => ?_) (fun h => ?_) | refine Br.mk (fun h => ?_) (fun h => ?_)) <;> (try (first | contradiction | (exfalso; omega) | (exfalso; simp at h; done))))
          | refine stp ?_
          | (show CallT _ 9 _ _ _; refine CA (h := awake31_ok ?_))
          | (show CallT _ 12 _ _ _; refine CA (h := readSY_ok hl hrd (fun A c => ?_)))
          | (show CallT _ 15 _ _ _; refine CA (h := conf31_ok ?_))
          | (show CallT _ 14 _ _ _; refine CA (h := hrh ?_))
          | (show CallT _ 13 _ _ _; refine CA (h := hru ?_))
          | (show CallT _ 16 _ _ _; refine CA (h := hov (fun x => ?_) ?_)))
        all_goals first
          | (show retC _ _ _ _ _ _; refine RETC ?_; exact ret_done (hK _))
          | (show retC _ _ _ _ _ _; refine RETC ?_; exact ret_done (kb (hK _) ⟨fun _ => beq_self_eq_true _, fun _ => rfl⟩))
          | (exfalso; omega)
      · have hee2 : ¬ e = 0 := he0
        refine callT_intro mixed Tryz.func4 rfl (by decide) (by decide +kernel) (by exact Nat.le_of_ble_eq_true rfl) ?_
        repeat' (first
          | (show evG _ _ _ _ _ _ _; first | refine G_add64 ?_ | refine G_pure0 ?_ | refine G_load ?_ | refine evG_nil ?_ | refine G_br ?_ ?_ | refine G_pure ?_ | refine G_store ?_ | refine G_loadV ?_ | refine G_loadV0 ?_ | refine G_loadV2 ?_ | refine G_cat ?_ | refine G_eql_agg ?_ | refine G_neq_agg ?_ | refine G_call ?_ | refine G_call0 ?_ | (refine G_box ?_; intro _) | (refine G_alloc ?_; intro _) | refine G_skip ?_ | refine G_skip0 ?_)
          | (show spl _ _ _; first | refine spl_no rfl ?_ | refine spl_yes rfl ?_)
          | (show evC _ _ _ _ _; first | refine c_seq ?_ | refine c_region (by exact rfl) ?_ | refine c_cond (by exact rfl) ?_ | refine c_ret ?_ | refine c_skip ?_ | refine c_block ?_ | refine c_exit ?_ | (show evC _ (.region 8 _ true) _ _ _; refine c_draw (l := [(1, 1), (0, 1), (2, 1), (3, 0), (4, 1), (5, 0), (6, 0), (7, 0), (8, 0), (9, 0)]) (by decide +kernel) (by decide +kernel) (by exact rfl) ?_) | (show evC _ (.region 9 _ true) _ _ _; refine c_draw (l := [(1, 1), (0, 1), (2, 1), (3, 0), (4, 0), (5, 0), (6, 0), (7, 0)]) (by decide +kernel) (by decide +kernel) (by exact rfl) ?_) | refine std ?_)
          | (show Br _ _ _; first | refine Br.t (by decide +kernel) ?_ | refine Br.f (by decide +kernel) ?_ | refine Br.t rfl ?_ | refine Br.f rfl ?_ | refine brs ?_ | (first | refine Br.mkN (fun h => ?_) (fun h => ?_) | refine Br.mk (fun h => ?_) (fun h => ?_)) <;> (try (first | contradiction | (exfalso; omega) | (exfalso; simp at h; done))))
          | refine stp ?_
          | (show CallT _ 9 _ _ _; refine CA (h := awake31_ok ?_))
          | (show CallT _ 12 _ _ _; refine CA (h := readSN_ok hl hrd he0 ?_))
          | (show CallT _ 15 _ _ _; refine CA (h := conf31_ok ?_))
          | (show CallT _ 14 _ _ _; refine CA (h := hrh ?_))
          | (show CallT _ 13 _ _ _; first | refine CA (h := runN_ok hl hrd he0 ?_) | refine CA (h := hru ?_))
          | (show CallT _ 16 _ _ _; refine CA (h := hov (fun x => ?_) ?_)))
        all_goals first
          | (show retC _ _ _ _ _ _; refine RETC ?_; exact ret_done (hK _))
          | (show retC _ _ _ _ _ _; refine RETC ?_; exact ret_done (kb (hK _) ⟨fun _ => beq_self_eq_true _, fun _ => rfl⟩))
          | (exfalso; omega)
end Go.Proofs.YtiofdmjecjcdbaaGreatDoor

