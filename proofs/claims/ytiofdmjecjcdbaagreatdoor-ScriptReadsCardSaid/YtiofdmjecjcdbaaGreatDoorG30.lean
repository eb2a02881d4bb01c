/- Script: the law ScriptReads: lemmas; each with the conditions that it states. -/
import Derived.Test.YtiofdmjecjcdbaaGreatDoorFh
import Derived.Test.YtiofdmjecjcdbaaGreatDoorG20
import Derived.Test.YtiofdmjecjcdbaaGreatDoorG26
import Derived.Test.YtiofdmjecjcdbaaGreatDoorG28
import Derived.Test.YtiofdmjecjcdbaaGreatDoorG21
import Derived.Test.YtiofdmjecjcdbaaGreatDoorG23

namespace Go.Proofs.YtiofdmjecjcdbaaGreatDoor
open Go Go.Proofs Go.Sl
set_option maxRecDepth 100000
set_option maxHeartbeats 4000000
set_option linter.unusedSimpArgs false
set_option linter.unusedVariables false
attribute [local irreducible] evG evC spl thenC inBlockC noGotoC CallT retC RetG TurnG CutG pt ro exP star sep pureP
variable {R C : List HP} {K : Value → List HP → Prop}
theorem eqV_confY {w st it sb si stg ev wa stl : Int} : eqV Tryz.prog 20 36 (.agg #[.int .i64 w, .int .i64 st, .int .i64 it, .int .i64 sb, .int .i64 si, .int .i64 stg, .int .i64 ev, .int .i64 wa, .int .i64 stl]) (.agg #[.int .i64 w, .int .i64 st, .int .i64 it, .int .i64 sb, .int .i64 si, .int .i64 stg, .int .i64 ev, .int .i64 wa, .int .i64 stl]) = some true := by
  have h : ∃ r, eqV Tryz.prog 20 36 (.agg #[.int .i64 w, .int .i64 st, .int .i64 it, .int .i64 sb, .int .i64 si, .int .i64 stg, .int .i64 ev, .int .i64 wa, .int .i64 stl]) (.agg #[.int .i64 w, .int .i64 st, .int .i64 it, .int .i64 sb, .int .i64 si, .int .i64 stg, .int .i64 ev, .int .i64 wa, .int .i64 stl]) = some r ∧ r = true := ⟨_, rfl, by simp⟩
  obtain ⟨r, h1, h2⟩ := h
  rw [h1, h2]
theorem eqV_actS (a : AC) : eqV Tryz.prog 20 28 (.agg #[.int .i64 a.kd, .int .i64 a.sd, .int .i64 a.id, .int .i64 a.n, .int .i64 a.cd, .string a.s, .int .i64 a.on, .int .i64 a.ww, .bool a.xx, .int .i64 a.xw, .int .i64 a.xs, .int .i64 a.xi]) (.agg #[.int .i64 a.kd, .int .i64 a.sd, .int .i64 a.id, .int .i64 a.n, .int .i64 a.cd, .string a.s, .int .i64 a.on, .int .i64 a.ww, .bool a.xx, .int .i64 a.xw, .int .i64 a.xs, .int .i64 a.xi]) = some true := by
  obtain ⟨r, h1, h2⟩ := eqV_act a a
  rw [h1, h2.2 rfl]
set_option maxHeartbeats 8000000 in
theorem same_ok {n0 n1 n2 n3 n4 n5 n6 n7 n8 n9 n10 n11 n12 n13 n14 n15 n16 n17 : Int} {A1 A2 : Option Addr} {n c1 c2 : Nat} {L : List AC} (hv1 : View C A1 acC31 L) (hv2 : View C A2 acC31 L) (hn : L.length = n) (hn2 : n ≤ 1000) (hK : K (.bool true) C) : CallT Tryz.prog 22 #[.agg #[.int .i64 n0, .int .i64 n1, .int .i64 n2, .int .i64 n3, .int .i64 n4, .int .i64 n5, .int .i64 n6, .int .i64 n7, .int .i64 n8, .int .i64 n9, .int .i64 n10, .int .i64 n11, .int .i64 n12, .int .i64 n13, .int .i64 n14, .int .i64 n15, .int .i64 n16, .int .i64 n17, .slice A1 n c1], .agg #[.int .i64 n0, .int .i64 n1, .int .i64 n2, .int .i64 n3, .int .i64 n4, .int .i64 n5, .int .i64 n6, .int .i64 n7, .int .i64 n8, .int .i64 n9, .int .i64 n10, .int .i64 n11, .int .i64 n12, .int .i64 n13, .int .i64 n14, .int .i64 n15, .int .i64 n16, .int .i64 n17, .slice A2 n c2]] C K := by
  have e1 := eqV_confY (w := n0) (st := n1) (it := n2) (sb := n3) (si := n4) (stg := n5) (ev := n6) (wa := n7) (stl := n8)
  have e2 := eqV_confY (w := n9) (st := n10) (it := n11) (sb := n12) (si := n13) (stg := n14) (ev := n15) (wa := n16) (stl := n17)
  refine callT_intro mixed Tryz.func22 rfl (by decide) (by decide +kernel) (by exact Nat.le_of_ble_eq_true rfl) ?_
  repeat' (first
    | (show evG _ _ _ _ _ _ _; first | refine G_neq_agg (he := e1) ?_ | refine G_neq_agg (he := e2) ?_)
    | (show evG _ _ _ _ _ _ _; first | refine G_add64 ?_ | refine G_pure0 ?_ | refine G_load ?_ | refine evG_nil ?_ | refine G_br ?_ ?_ | refine G_field ?_ | refine G_pure ?_ | refine G_loadV ?_ | refine G_loadV0 ?_ | refine G_loadV2 ?_ | refine G_index ?_ | refine G_indexA ?_ | refine G_cat ?_ | refine G_neq_agg ?_ | (refine G_box ?_; intro _) | (refine G_indexV ?_; intro _ _ hA; subst hA) | refine G_skip ?_ | refine G_skip0 ?_)
    | (show spl _ _ _; first | refine spl_no rfl ?_ | refine spl_yes rfl ?_)
    | (show evC _ _ _ _ _; first | refine c_seq ?_ | refine c_region (by exact rfl) ?_ | refine c_cond (by exact rfl) ?_ | refine c_ret ?_ | refine c_skip ?_ | refine c_block ?_ | refine c_exit ?_ | (show evC _ (.region 6 _ true) _ _ _; refine c_draw (l := [(0, 0), (1, 0), (2, 0), (3, 0), (4, 0), (5, 0), (6, 0), (7, 0), (8, 0), (9, 0), (10, 0)]) (by decide +kernel) (by decide +kernel) (by exact rfl) ?_) | refine std ?_)
    | (show Br _ _ _; first | refine Br.t (by decide +kernel) ?_ | refine Br.f (by decide +kernel) ?_ | refine Br.t rfl ?_ | refine Br.f rfl ?_ | refine brs ?_ | (first | refine Br.mkN (fun h => ?_) (fun h => ?_) | refine Br.mk (fun h => ?_) (fun h => ?_)) <;> (try (first | contradiction | (exfalso; omega) | (exfalso; simp at h; done))))
    | refine stp ?_)
  all_goals first | (exfalso; omega) | skip
  rename_i t2 t3
  refine LOOP (fun m f C' => ∃ j : Nat, j + m = n ∧ C' = pt t3 [.int .i64 n0, .int .i64 n1, .int .i64 n2, .int .i64 n3, .int .i64 n4, .int .i64 n5, .int .i64 n6, .int .i64 n7, .int .i64 n8, .int .i64 n9, .int .i64 n10, .int .i64 n11, .int .i64 n12, .int .i64 n13, .int .i64 n14, .int .i64 n15, .int .i64 n16, .int .i64 n17, .slice A2 n c2] 39 :: pt t2 [.int .i64 n0, .int .i64 n1, .int .i64 n2, .int .i64 n3, .int .i64 n4, .int .i64 n5, .int .i64 n6, .int .i64 n7, .int .i64 n8, .int .i64 n9, .int .i64 n10, .int .i64 n11, .int .i64 n12, .int .i64 n13, .int .i64 n14, .int .i64 n15, .int .i64 n16, .int .i64 n17, .slice A1 n c1] 39 :: C ∧ Agree f [(2, .pointer (some ⟨t2, 0, none⟩)), (3, .pointer (some ⟨t3, 0, none⟩)), (5, .int .i64 j)]) n (turn n ⟨0, by omega, rfl, rfl, rfl, rfl, trivial⟩) ?_
  rintro nk f C' ⟨j, hj, rfl, hA⟩
  refine c_fr _ hA ?_
  simp only [updL]
  have w1 : View (pt t3 [.int .i64 n0, .int .i64 n1, .int .i64 n2, .int .i64 n3, .int .i64 n4, .int .i64 n5, .int .i64 n6, .int .i64 n7, .int .i64 n8, .int .i64 n9, .int .i64 n10, .int .i64 n11, .int .i64 n12, .int .i64 n13, .int .i64 n14, .int .i64 n15, .int .i64 n16, .int .i64 n17, .slice A2 n c2] 39 :: pt t2 [.int .i64 n0, .int .i64 n1, .int .i64 n2, .int .i64 n3, .int .i64 n4, .int .i64 n5, .int .i64 n6, .int .i64 n7, .int .i64 n8, .int .i64 n9, .int .i64 n10, .int .i64 n11, .int .i64 n12, .int .i64 n13, .int .i64 n14, .int .i64 n15, .int .i64 n16, .int .i64 n17, .slice A1 n c1] 39 :: C) A1 acC31 L := view_there (view_there hv1)
  have w2 : View (pt t3 [.int .i64 n0, .int .i64 n1, .int .i64 n2, .int .i64 n3, .int .i64 n4, .int .i64 n5, .int .i64 n6, .int .i64 n7, .int .i64 n8, .int .i64 n9, .int .i64 n10, .int .i64 n11, .int .i64 n12, .int .i64 n13, .int .i64 n14, .int .i64 n15, .int .i64 n16, .int .i64 n17, .slice A2 n c2] 39 :: pt t2 [.int .i64 n0, .int .i64 n1, .int .i64 n2, .int .i64 n3, .int .i64 n4, .int .i64 n5, .int .i64 n6, .int .i64 n7, .int .i64 n8, .int .i64 n9, .int .i64 n10, .int .i64 n11, .int .i64 n12, .int .i64 n13, .int .i64 n14, .int .i64 n15, .int .i64 n16, .int .i64 n17, .slice A1 n c1] 39 :: C) A2 acC31 L := view_there (view_there hv2)
  by_cases hlt : j < n
  · obtain ⟨a, ha⟩ : ∃ a, L[j]? = some a := ⟨_, List.getElem?_eq_getElem (by omega)⟩
    have he := eqV_actS a
    repeat' (first
      | (show evG _ _ _ _ _ _ _; refine G_neq_agg (he := he) ?_)
      | (show evG _ _ _ _ _ _ _; first | refine G_add64 ?_ | refine G_pure0 ?_ | refine G_load ?_ | refine evG_nil ?_ | refine G_br ?_ ?_ | refine G_field ?_ | refine G_pure ?_ | refine G_loadV ?_ | refine G_loadV0 ?_ | refine G_loadV2 ?_ | refine G_index ?_ | refine G_indexA ?_ | refine G_cat ?_ | refine G_neq_agg ?_ | (refine G_box ?_; intro _) | (refine G_indexV ?_; intro _ _ hA; subst hA) | refine G_skip ?_ | refine G_skip0 ?_)
      | (show spl _ _ _; first | refine spl_no rfl ?_ | refine spl_yes rfl ?_)
      | (show evC _ _ _ _ _; first | refine c_seq ?_ | refine c_region (by exact rfl) ?_ | refine c_cond (by exact rfl) ?_ | refine c_ret ?_ | refine c_skip ?_ | refine c_block ?_ | refine c_exit ?_ | (show evC _ (.region 6 _ true) _ _ _; refine c_draw (l := [(0, 0), (1, 0), (2, 0), (3, 0), (4, 0), (5, 0), (6, 0), (7, 0), (8, 0), (9, 0), (10, 0)]) (by decide +kernel) (by decide +kernel) (by exact rfl) ?_) | refine std ?_)
      | (show Br _ _ _; first | refine Br.t rfl ?_ | refine Br.f rfl ?_ | refine brs ?_ | (first | refine Br.mkN (fun h => ?_) (fun h => ?_) | refine Br.mk (fun h => ?_) (fun h => ?_)) <;> (try (first | contradiction | (exfalso; omega) | (exfalso; simp at h; done))))
      | refine stp ?_)
    all_goals (show TurnG _ _ _ _; exact turn (nk - 1) ⟨j + 1, by omega, rfl, rfl, rfl, rfl, trivial⟩)
  · obtain rfl : j = n := by omega
    repeat' (first
      | (show evG _ _ _ _ _ _ _; first | refine G_add64 ?_ | refine G_pure0 ?_ | refine G_load ?_ | refine evG_nil ?_ | refine G_br ?_ ?_ | refine G_field ?_ | refine G_pure ?_ | refine G_loadV ?_ | refine G_loadV0 ?_ | refine G_loadV2 ?_ | refine G_index ?_ | refine G_indexA ?_ | refine G_cat ?_ | refine G_neq_agg ?_ | (refine G_box ?_; intro _) | (refine G_indexV ?_; intro _ _ hA; subst hA) | refine G_skip ?_ | refine G_skip0 ?_)
      | (show spl _ _ _; first | refine spl_no rfl ?_ | refine spl_yes rfl ?_)
      | (show evC _ _ _ _ _; first | refine c_seq ?_ | refine c_region (by exact rfl) ?_ | refine c_cond (by exact rfl) ?_ | refine c_ret ?_ | refine c_skip ?_ | refine c_block ?_ | refine c_exit ?_ | (show evC _ (.region 6 _ true) _ _ _; refine c_draw (l := [(0, 0), (1, 0), (2, 0), (3, 0), (4, 0), (5, 0), (6, 0), (7, 0), (8, 0), (9, 0), (10, 0)]) (by decide +kernel) (by decide +kernel) (by exact rfl) ?_) | refine std ?_)
      | (show Br _ _ _; first | refine Br.t rfl ?_ | refine Br.f rfl ?_ | refine brs ?_ | (first | refine Br.mkN (fun h => ?_) (fun h => ?_) | refine Br.mk (fun h => ?_) (fun h => ?_)) <;> (try (first | contradiction | (exfalso; omega) | (exfalso; simp at h; done))))
      | refine stp ?_)
    all_goals (show retC _ _ _ _ _ _; refine RETC ?_; exact ret_done (hK))
theorem view_nil {A : Option Addr} : View C A acC31 ([] : List AC) := fun _ _ => .inl rfl
set_option maxHeartbeats 8000000 in
theorem scriptReads_ok {s : ByteArray} (hK : ∀ C, K (.bool true) C) : CallT Tryz.prog 8 #[.string s] R K := by
  by_cases hs : 20000 < s.size
  · refine callT_intro mixed Tryz.func8 rfl (by decide) (by decide +kernel) (by exact Nat.le_of_ble_eq_true rfl) ?_
    repeat' (first
      | (show evG _ _ _ _ _ _ _; first | refine G_pure0 ?_ | refine G_load ?_ | refine evG_nil ?_ | refine G_br ?_ ?_ | refine G_pure ?_ | refine G_store ?_ | refine G_loadV ?_ | refine G_loadV0 ?_ | refine G_loadV2 ?_ | refine G_not ?_ | refine G_eql_agg ?_ | refine G_neq_agg ?_ | refine G_call ?_ | refine G_call0 ?_ | (refine G_alloc ?_; intro _) | refine G_skip ?_ | refine G_skip0 ?_)
      | (show spl _ _ _; first | refine spl_no rfl ?_ | refine spl_yes rfl ?_)
      | (show evC _ _ _ _ _; first | refine c_seq ?_ | refine c_region (by exact rfl) ?_ | refine c_cond (by exact rfl) ?_ | refine c_ret ?_ | refine c_skip ?_ | refine c_block ?_ | refine c_exit ?_ | refine std ?_)
      | (show Br _ _ _; first | refine Br.t rfl ?_ | refine Br.f rfl ?_ | refine brs ?_ | (first | refine Br.mkN (fun h => ?_) (fun h => ?_) | refine Br.mk (fun h => ?_) (fun h => ?_)) <;> (try (first | contradiction | (exfalso; omega) | (exfalso; simp at h; done))))
      | refine stp ?_
      | (show CallT _ 9 _ _ _; refine CA (h := awake31_ok ?_)))
    all_goals first
      | (show retC _ _ _ _ _ _; refine RETC ?_; exact ret_done (hK _))
      | (exfalso; omega)
  · obtain ⟨l, rfl⟩ : ∃ l, s = bq l := ⟨s.data.toList, (bq_data s).symm⟩
    rw [bq_size] at hs
    have hl : l.length ≤ 1000000 := by omega
    have hsz := bq_size l
    cases hrd : rdScr 0 PL0 (spl1 10 l) with
    | mk q ke =>
      obtain ⟨k, e⟩ := ke
      obtain ⟨hq, hk⟩ := rd_err hrd
      have hple := spl1_le (c := 10) l
      have hkI : ((k : Nat) : Int) ≤ 20001 := by omega
      clear hk hple
      rcases hq with rfl | ⟨rfl, he0⟩
      · obtain ⟨rfl, hsc, hok⟩ := scr_rd hrd
        obtain ⟨ns, L⟩ := q
        obtain ⟨h18, hrng, h512, hokl⟩ := hok
        simp only at h18 hrng h512 hokl
        obtain ⟨n0, n1, n2, n3, n4, n5, n6, n7, n8, n9, n10, n11, n12, n13, n14, n15, n16, n17, rfl⟩ := l18 h18
        have hn2 : L.length ≤ 1000 := by omega
        have h5 : ¬ 512 < L.length := by omega
        have hina : ∀ a ∈ L, InA a := fun a ha => (hokl a ha).2
        have hnb : ¬ ∃ a ∈ L, lineF a = none := fun ⟨a, ha, hn⟩ => by have := (hokl a ha).1; rw [hn] at this; cases this
        have hns : ¬ 1048576 < (scrS ⟨[n0, n1, n2, n3, n4, n5, n6, n7, n8, n9, n10, n11, n12, n13, n14, n15, n16, n17], L⟩).length := by rw [hsc]; omega
        have hqq : ((bq l).toList == (bq l).toList) = true := beq_self_eq_true _
        have hpr : ∀ {C : List HP} {K : Value → List HP → Prop} {A : Option Addr} {c : Nat}, View C A acC31 L → K (.tuple #[.string (bq l), .int .i64 0]) C → CallT Tryz.prog 20 #[.agg #[.int .i64 n0, .int .i64 n1, .int .i64 n2, .int .i64 n3, .int .i64 n4, .int .i64 n5, .int .i64 n6, .int .i64 n7, .int .i64 n8, .int .i64 n9, .int .i64 n10, .int .i64 n11, .int .i64 n12, .int .i64 n13, .int .i64 n14, .int .i64 n15, .int .i64 n16, .int .i64 n17, .slice A L.length c]] C K := fun hv hK => printG_ok hv rfl h5 hrng hina (fun h => absurd h hnb) (fun _ h => absurd h hns) (fun _ _ => by rw [hsc]; exact hK)
        refine callT_intro mixed Tryz.func8 rfl (by decide) (by decide +kernel) (by exact Nat.le_of_ble_eq_true rfl) ?_
        repeat' (first
          | (show evG _ _ _ _ _ _ _; first | refine G_pure0 ?_ | refine G_load ?_ | refine evG_nil ?_ | refine G_br ?_ ?_ | refine G_pure ?_ | refine G_store ?_ | refine G_loadV ?_ | refine G_loadV0 ?_ | refine G_loadV2 ?_ | refine G_not ?_ | refine G_eql_agg ?_ | refine G_neq_agg ?_ | refine G_call ?_ | refine G_call0 ?_ | (refine G_alloc ?_; intro _) | refine G_skip ?_ | refine G_skip0 ?_)
          | (show spl _ _ _; first | refine spl_no rfl ?_ | refine spl_yes rfl ?_)
          | (show evC _ _ _ _ _; first | refine c_seq ?_ | refine c_region (by exact rfl) ?_ | refine c_cond (by exact rfl) ?_ | refine c_ret ?_ | refine c_skip ?_ | refine c_block ?_ | refine c_exit ?_ | refine std ?_)
          | (show Br _ _ _; first | refine Br.t (by decide +kernel) ?_ | refine Br.f (by decide +kernel) ?_ | refine Br.t rfl ?_ | refine Br.f rfl ?_ | refine brs ?_ | (first | refine Br.mkN (fun h => ?_) (fun h => ?_) | refine Br.mk (fun h => ?_) (fun h => ?_)) <;> (try (first | contradiction | (exfalso; omega) | (exfalso; simp at h; done))))
          | refine stp ?_
          | (show CallT _ 9 _ _ _; refine CA (h := awake31_ok ?_))
          | (show CallT _ 12 _ _ _; refine CA (h := readSY_ok hl hrd (fun A c => ?_)))
          | (show CallT _ 23 _ _ _; refine CA (h := lreadY_ok hl hrd (fun A2 c2 => ?_)))
          | (show CallT _ 22 _ _ _; refine CA (h := same_ok (L := L) (by exact viewA) (by exact viewA) rfl hn2 ?_))
          | (show CallT _ 20 _ _ _; refine CA (h := hpr (by exact viewA) ?_)))
        all_goals first
          | (show retC _ _ _ _ _ _; refine RETC ?_; exact ret_done (hK _))
          | (show retC _ _ _ _ _ _; refine RETC ?_; exact ret_done (kb (hK _) ⟨fun _ => hqq, fun _ => rfl⟩))
          | (exfalso; omega)
      · have hn0 : (0 : Nat) ≤ 1000 := by decide
        have hee : ¬ e = 0 := he0
        refine callT_intro mixed Tryz.func8 rfl (by decide) (by decide +kernel) (by exact Nat.le_of_ble_eq_true rfl) ?_
        repeat' (first
          | (show evG _ _ _ _ _ _ _; first | refine G_pure0 ?_ | refine G_load ?_ | refine evG_nil ?_ | refine G_br ?_ ?_ | refine G_pure ?_ | refine G_store ?_ | refine G_loadV ?_ | refine G_loadV0 ?_ | refine G_loadV2 ?_ | refine G_not ?_ | refine G_eql_agg ?_ | refine G_neq_agg ?_ | refine G_call ?_ | refine G_call0 ?_ | (refine G_alloc ?_; intro _) | refine G_skip ?_ | refine G_skip0 ?_)
          | (show spl _ _ _; first | refine spl_no rfl ?_ | refine spl_yes rfl ?_)
          | (show evC _ _ _ _ _; first | refine c_seq ?_ | refine c_region (by exact rfl) ?_ | refine c_cond (by exact rfl) ?_ | refine c_ret ?_ | refine c_skip ?_ | refine c_block ?_ | refine c_exit ?_ | refine std ?_)
          | (show Br _ _ _; first | refine Br.t rfl ?_ | refine Br.f rfl ?_ | refine brs ?_ | (first | refine Br.mkN (fun h => ?_) (fun h => ?_) | refine Br.mk (fun h => ?_) (fun h => ?_)) <;> (try (first | contradiction | (exfalso; omega) | (exfalso; simp at h; done))))
          | refine stp ?_
          | (show CallT _ 9 _ _ _; refine CA (h := awake31_ok ?_))
          | (show CallT _ 12 _ _ _; refine CA (h := readSN_ok hl hrd he0 ?_))
          | (show CallT _ 23 _ _ _; refine CA (h := lreadN_ok hl hrd he0 ?_))
          | (show CallT _ 22 _ _ _; refine CA (h := same_ok (L := []) view_nil view_nil rfl hn0 ?_)))
        all_goals first
          | (show retC _ _ _ _ _ _; refine RETC ?_; exact ret_done (hK _))
          | (exfalso; omega)
end Go.Proofs.YtiofdmjecjcdbaaGreatDoor

