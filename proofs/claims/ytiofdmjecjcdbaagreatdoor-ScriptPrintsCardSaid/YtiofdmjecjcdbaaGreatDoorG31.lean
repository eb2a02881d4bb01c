/- Script: a long script read; the law ScriptPrints: lemmas; each with the conditions that it states. -/
import Derived.Test.YtiofdmjecjcdbaaGreatDoorFh
import Derived.Test.YtiofdmjecjcdbaaGreatDoorG29
import Derived.Test.YtiofdmjecjcdbaaGreatDoorG26
import Derived.Test.YtiofdmjecjcdbaaGreatDoorG23
import Derived.Test.YtiofdmjecjcdbaaGreatDoorG17

namespace Go.Proofs.YtiofdmjecjcdbaaGreatDoor
open Go Go.Proofs Go.Sl
set_option maxRecDepth 100000
set_option maxHeartbeats 4000000
set_option linter.unusedSimpArgs false
set_option linter.unusedVariables false
attribute [local irreducible] evG evC spl thenC inBlockC noGotoC CallT retC RetG TurnG CutG pt ro exP star sep pureP
variable {R C : List HP} {K : Value → List HP → Prop}
set_option maxHeartbeats 8000000 in
theorem readSL_ok {l : List UInt8} {n0 n1 n2 n3 n4 n5 n6 n7 n8 n9 n10 n11 n12 n13 n14 n15 n16 n17 : Int} {L : List AC} (hs0 : l.length ≤ 1048576) (hmem : ∀ p ∈ spl1 10 l, p.length ≤ 1000000) (h : rdScr 0 PL0 (spl1 10 l) = (⟨[n0, n1, n2, n3, n4, n5, n6, n7, n8, n9, n10, n11, n12, n13, n14, n15, n16, n17], L⟩, 0, 0)) (hK : ∀ A c, K (.tuple #[.agg #[.int .i64 n0, .int .i64 n1, .int .i64 n2, .int .i64 n3, .int .i64 n4, .int .i64 n5, .int .i64 n6, .int .i64 n7, .int .i64 n8, .int .i64 n9, .int .i64 n10, .int .i64 n11, .int .i64 n12, .int .i64 n13, .int .i64 n14, .int .i64 n15, .int .i64 n16, .int .i64 n17, .slice A L.length c], .int .i64 0, .int .i64 0]) (row A c 28 acC31 L :: R)) : CallT Tryz.prog 12 #[.string (bq l)] R K := by
  have hsz : (bq l).size ≤ 1100000 := by rw [bq_size]; omega
  have hszI : ((bq l).size : Int) ≤ 1048576 := by rw [bq_size]; omega
  have hdl : (bq l).data.toList = l := data_bq l
  have hple := spl1_le (c := 10) l
  have hpos : 0 < (spl1 10 l).length := List.length_pos_iff.2 (spl1_ne 10 l)
  have hpI : (((spl1 10 l).length : Nat) : Int) ≤ 1048577 := by omega
  have hal : ((aftL 10 (spl1 10 l)).map bq).length = (spl1 10 l).length := by simp [aftL_len]
  have hfd : rdScr 0 PL0 ((spl1 10 l).drop 0) = (⟨[n0, n1, n2, n3, n4, n5, n6, n7, n8, n9, n10, n11, n12, n13, n14, n15, n16, n17], L⟩, 0, 0) := h
  clear hs0 hple h
  refine callT_intro mixed Tryz.func12 rfl (by decide) (by decide +kernel) (by exact Nat.le_of_ble_eq_true rfl) ?_
  repeat' (first
    | (show evG _ _ _ _ _ _ _; first | refine G_add64 ?_ | refine G_sub64 ?_ | refine G_pure0 ?_ | refine G_load ?_ | refine evG_nil ?_ | refine G_br ?_ ?_ | refine G_field ?_ | refine G_pure ?_ | refine G_store ?_ | refine G_loadV ?_ | refine G_loadV0 ?_ | refine G_loadV2 ?_ | (refine G_append ?_; intro _ _) | (refine G_appendN ?_; intro _ _) | refine G_not ?_ | refine G_index ?_ | refine G_indexA ?_ | refine G_build ?_ | refine G_cat ?_ | refine G_eql_agg ?_ | refine G_call ?_ | refine G_call0 ?_ | (refine G_alloc ?_; intro _) | (refine G_buildSlice ?_; intro _) | (refine G_indexV ?_; intro _ _ hA; subst hA) | refine G_skip ?_ | refine G_skip0 ?_)
    | (show spl _ _ _; first | refine spl_no rfl ?_ | refine spl_yes rfl ?_)
    | (show evC _ _ _ _ _; first | refine c_seq ?_ | refine c_region (by exact rfl) ?_ | refine c_cond (by exact rfl) ?_ | refine c_ret ?_ | refine c_skip ?_ | refine c_block ?_ | refine c_exit ?_ | refine std ?_)
    | (show Br _ _ _; first | refine Br.t rfl ?_ | refine Br.f rfl ?_ | refine brs ?_ | (first | refine Br.mkN (fun h => ?_) (fun h => ?_) | refine Br.mk (fun h => ?_) (fun h => ?_)) <;> (try (first | contradiction | (exfalso; omega) | (exfalso; simp at h; done))))
    | refine stp ?_
    | (show CallT _ 30 _ _ _; refine CA (h := splita_ok hsz (fun r => ?_)); rw [hdl]))
  all_goals first | (exfalso; omega) | skip
  rename_i q p
  refine LOOP (fun m f C' => ∃ j : Nat, j + m = (spl1 10 l).length ∧ j < (spl1 10 l).length ∧ ((j = 0 ∧ C' = pt q [.int .i64 0, .int .i64 0, .int .i64 0, .int .i64 0, .int .i64 0, .int .i64 0, .int .i64 0, .int .i64 0, .int .i64 0, .int .i64 0, .int .i64 0, .int .i64 0, .int .i64 0, .int .i64 0, .int .i64 0, .int .i64 0, .int .i64 0, .int .i64 0, .slice none 0 0] 39 :: pt p [.int .i64 0, .int .i64 0, .int .i64 0, .int .i64 0, .int .i64 0, .int .i64 0, .int .i64 0, .int .i64 0, .int .i64 0, .int .i64 0, .int .i64 0, .int .i64 0, .int .i64 0, .int .i64 0, .int .i64 0, .int .i64 0, .int .i64 0, .int .i64 0, .slice none 0 0] 39 :: row (some ⟨r, 0, none⟩) (spl1 10 l).length 9 sgC ((aftL 10 (spl1 10 l)).map bq) :: R) ∨ (1 ≤ j ∧ ∃ (L1 : List AC) (nn c1 : Nat) (A1 : Option Addr), nn = L1.length ∧ nn + 1 = j ∧ rdScr j ⟨[n0, n1, n2, n3, n4, n5, n6, n7, n8, n9, n10, n11, n12, n13, n14, n15, n16, n17], L1⟩ ((spl1 10 l).drop j) = (⟨[n0, n1, n2, n3, n4, n5, n6, n7, n8, n9, n10, n11, n12, n13, n14, n15, n16, n17], L⟩, 0, 0) ∧ C' = pt q [.int .i64 0, .int .i64 0, .int .i64 0, .int .i64 0, .int .i64 0, .int .i64 0, .int .i64 0, .int .i64 0, .int .i64 0, .int .i64 0, .int .i64 0, .int .i64 0, .int .i64 0, .int .i64 0, .int .i64 0, .int .i64 0, .int .i64 0, .int .i64 0, .slice none 0 0] 39 :: pt p [.int .i64 n0, .int .i64 n1, .int .i64 n2, .int .i64 n3, .int .i64 n4, .int .i64 n5, .int .i64 n6, .int .i64 n7, .int .i64 n8, .int .i64 n9, .int .i64 n10, .int .i64 n11, .int .i64 n12, .int .i64 n13, .int .i64 n14, .int .i64 n15, .int .i64 n16, .int .i64 n17, .slice A1 nn c1] 39 :: row A1 c1 28 acC31 L1 :: row (some ⟨r, 0, none⟩) (spl1 10 l).length 9 sgC ((aftL 10 (spl1 10 l)).map bq) :: R)) ∧ Agree f [(2, .pointer (some ⟨q, 0, none⟩)), (5, .slice (some ⟨r, 0, none⟩) (spl1 10 l).length (spl1 10 l).length), (6, .pointer (some ⟨p, 0, none⟩)), (21, .slice (some ⟨r, 0, none⟩) (spl1 10 l).length (spl1 10 l).length), (22, .int .i64 (spl1 10 l).length), (23, .int .i64 j)]) (spl1 10 l).length (turn (spl1 10 l).length ⟨0, by omega, hpos, .inl ⟨rfl, rfl⟩, rfl, rfl, rfl, rfl, rfl, rfl, trivial⟩) ?_
  rintro nk f C' ⟨j, hj, hjl, hC, hA⟩
  skip
  · obtain ⟨x, hx⟩ : ∃ x, (spl1 10 l)[j]? = some x := ⟨_, List.getElem?_eq_getElem hjl⟩
    have hxm : x.length ≤ 1000000 := hmem x (List.mem_of_getElem? hx)
    have hx10 := spl_no10 hx
    have hat := aft_at (c := 10) hx
    have hxb := bq_size x
    rcases hC with ⟨rfl, rfl⟩ | ⟨hj1, L1, nn, c1, A1, hn1, hnj, hrd, rfl⟩
    · refine c_fr _ hA ?_
      simp only [updL]
      by_cases hlast : 0 + 1 = (spl1 10 l).length
      · rw [rd_at_last hx hlast, if_neg (by omega)] at hfd
        cases hfd
      · rw [rd_at_next hx (by omega), if_neg (by omega), if_pos rfl] at hfd
        rw [if_neg hlast] at hat
        have x2 : ((aftL 10 (spl1 10 l)).map bq)[((0 : Nat) : Int).toNat]? = some (bq (x ++ [10])) := map_at hat
        cases hh : rdHd x with
        | none =>
          rw [hh] at hfd
          cases hfd
        | some ns =>
          rw [hh] at hfd
          have h18 := (rdHd_some.1 hh).1.1
          obtain ⟨k0, k1, k2, k3, k4, k5, k6, k7, k8, k9, k10, k11, k12, k13, k14, k15, k16, k17, rfl⟩ := l18 h18
          have hns : [k0, k1, k2, k3, k4, k5, k6, k7, k8, k9, k10, k11, k12, k13, k14, k15, k16, k17] = [n0, n1, n2, n3, n4, n5, n6, n7, n8, n9, n10, n11, n12, n13, n14, n15, n16, n17] := (rdScr_ns hfd).symm
          cases hns
          repeat' (first
            | (show evG _ _ _ _ _ _ _; first | refine G_add64 ?_ | refine G_sub64 ?_ | refine G_pure0 ?_ | refine G_load ?_ | refine evG_nil ?_ | refine G_br ?_ ?_ | refine G_field ?_ | refine G_pure ?_ | refine G_store ?_ | refine G_loadV ?_ | refine G_loadV0 ?_ | refine G_loadV2 ?_ | (refine G_append ?_; intro _ _) | (refine G_appendN ?_; intro _ _) | refine G_not ?_ | refine G_index ?_ | refine G_indexA ?_ | refine G_build ?_ | refine G_cat ?_ | refine G_eql_agg ?_ | refine G_call ?_ | refine G_call0 ?_ | (refine G_alloc ?_; intro _) | (refine G_buildSlice ?_; intro _) | (refine G_indexV ?_; intro _ _ hA; subst hA) | refine G_skip ?_ | refine G_skip0 ?_)
            | (show spl _ _ _; first | refine spl_no rfl ?_ | refine spl_yes rfl ?_)
            | (show evC _ _ _ _ _; first | refine c_seq ?_ | refine c_region (by exact rfl) ?_ | refine c_cond (by exact rfl) ?_ | refine c_ret ?_ | refine c_skip ?_ | refine c_block ?_ | refine c_exit ?_ | refine std ?_)
            | (show Br _ _ _; first | refine Br.t rfl ?_ | refine Br.f rfl ?_ | refine brs ?_ | (first | refine Br.mkN (fun h => ?_) (fun h => ?_) | refine Br.mk (fun h => ?_) (fun h => ?_)) <;> (try (first | contradiction | (exfalso; omega) | (exfalso; simp at h; done))))
            | refine stp ?_
            | (show CallT _ 31 _ _ _; refine CA (h := cutsufY_ok (l := x) (by omega) ?_))
            | (show CallT _ 32 _ _ _; refine CA (h := headY_ok hxm hh ?_)))
          all_goals first
            | (show TurnG _ _ _ _; exact turn (nk - 1) ⟨1, by omega, by omega, .inr ⟨by omega, [], 0, 0, none, rfl, rfl, hfd, rfl⟩, rfl, rfl, rfl, rfl, rfl, rfl, trivial⟩)
            | (exfalso; omega)
    · refine c_fr _ hA ?_
      simp only [updL]
      have hjI : (1 : Int) ≤ j := by omega
      by_cases hlast : j + 1 = (spl1 10 l).length
      · rw [rd_at_last hx hlast] at hrd
        rw [if_pos hlast] at hat
        have x2 : ((aftL 10 (spl1 10 l)).map bq)[((j : Nat) : Int).toNat]? = some (bq x) := map_at hat
        by_cases hx0 : x = []
        · rw [if_pos ⟨hx0, by omega⟩] at hrd
          subst hx0
          cases hrd
          subst hn1
          have he : ((bq ([] : List UInt8)).toList == (⟨#[]⟩ : ByteArray).toList) = true := beq_self_eq_true _
          repeat' (first
            | (show evG _ _ _ _ _ _ _; first | refine G_add64 ?_ | refine G_sub64 ?_ | refine G_pure0 ?_ | refine G_load ?_ | refine evG_nil ?_ | refine G_br ?_ ?_ | refine G_field ?_ | refine G_pure ?_ | refine G_store ?_ | refine G_loadV ?_ | refine G_loadV0 ?_ | refine G_loadV2 ?_ | (refine G_append ?_; intro _ _) | (refine G_appendN ?_; intro _ _) | refine G_not ?_ | refine G_index ?_ | refine G_indexA ?_ | refine G_build ?_ | refine G_cat ?_ | refine G_eql_agg ?_ | refine G_call ?_ | refine G_call0 ?_ | (refine G_alloc ?_; intro _) | (refine G_buildSlice ?_; intro _) | (refine G_indexV ?_; intro _ _ hA; subst hA) | refine G_skip ?_ | refine G_skip0 ?_)
            | (show spl _ _ _; first | refine spl_no rfl ?_ | refine spl_yes rfl ?_)
            | (show evC _ _ _ _ _; first | refine c_seq ?_ | refine c_region (by exact rfl) ?_ | refine c_cond (by exact rfl) ?_ | refine c_ret ?_ | refine c_skip ?_ | refine c_block ?_ | refine c_exit ?_ | refine std ?_)
            | (show Br _ _ _; first | refine Br.t rfl ?_ | refine Br.f rfl ?_ | refine brs ?_ | (first | refine Br.mkN (fun h => ?_) (fun h => ?_) | refine Br.mk (fun h => ?_) (fun h => ?_)) <;> (try (first | contradiction | (exfalso; omega) | (exfalso; simp at h; done))))
            | refine stp ?_
            | (show CallT _ 31 _ _ _; refine CA (h := cutsufN_ok (l := []) (by decide) hx10 ?_)))
          all_goals first
            | (show retC _ _ _ _ _ _; refine RETC ?_; exact ret_done (hK _ _))
            | (exfalso; omega)
        · rw [if_neg (fun hc => hx0 hc.1)] at hrd
          cases hrd
      · rw [rd_at_next hx (by omega)] at hrd
        rw [if_neg hlast] at hat
        have x2 : ((aftL 10 (spl1 10 l)).map bq)[((j : Nat) : Int).toNat]? = some (bq (x ++ [10])) := map_at hat
        by_cases h512 : 512 < j
        · rw [if_pos h512] at hrd
          cases hrd
        · rw [if_neg h512, if_neg (by omega)] at hrd
          cases hh : prs x with
          | none =>
            rw [hh] at hrd
            cases hrd
          | some a =>
            rw [hh] at hrd
            have hns := hn1.symm
            repeat' (first
              | (show evG _ _ _ _ _ _ _; (refine G_appendU ?_; intro _ _))
              | (show evG _ _ _ _ _ _ _; first | refine G_add64 ?_ | refine G_sub64 ?_ | refine G_pure0 ?_ | refine G_load ?_ | refine evG_nil ?_ | refine G_br ?_ ?_ | refine G_field ?_ | refine G_pure ?_ | refine G_store ?_ | refine G_loadV ?_ | refine G_loadV0 ?_ | refine G_loadV2 ?_ | (refine G_append ?_; intro _ _) | (refine G_appendN ?_; intro _ _) | refine G_not ?_ | refine G_index ?_ | refine G_indexA ?_ | refine G_build ?_ | refine G_cat ?_ | refine G_eql_agg ?_ | refine G_call ?_ | refine G_call0 ?_ | (refine G_alloc ?_; intro _) | (refine G_buildSlice ?_; intro _) | (refine G_indexV ?_; intro _ _ hA; subst hA) | refine G_skip ?_ | refine G_skip0 ?_)
              | (show spl _ _ _; first | refine spl_no rfl ?_ | refine spl_yes rfl ?_)
              | (show evC _ _ _ _ _; first | refine c_seq ?_ | refine c_region (by exact rfl) ?_ | refine c_cond (by exact rfl) ?_ | refine c_ret ?_ | refine c_skip ?_ | refine c_block ?_ | refine c_exit ?_ | refine std ?_)
              | (show Br _ _ _; first | refine Br.t rfl ?_ | refine Br.f rfl ?_ | refine brs ?_ | (first | refine Br.mkN (fun h => ?_) (fun h => ?_) | refine Br.mk (fun h => ?_) (fun h => ?_)) <;> (try (first | contradiction | (exfalso; omega) | (exfalso; simp at h; done))))
              | refine stp ?_
              | (show CallT _ 31 _ _ _; refine CA (h := cutsufY_ok (l := x) (by omega) ?_))
              | (show CallT _ 10 _ _ _; refine CA (h := parseY_ok hxm hh ?_)))
            all_goals first
              | (show TurnG _ _ _ _; exact turn (nk - 1) ⟨j + 1, by omega, by omega, .inr ⟨by omega, L1 ++ [a], _, _, _, rfl, (by simp; omega), hrd, rfl⟩, rfl, rfl, rfl, rfl, rfl, rfl, trivial⟩)
              | (exfalso; omega)
theorem acts_pieces : ∀ {L : List AC}, (∀ a ∈ L, okL a) → ∀ p ∈ spl1 10 (L.flatMap lnS), p.length ≤ 1000000
  | [], _, p, hp => by
    have : p ∈ [([] : List UInt8)] := hp
    rw [List.mem_singleton.1 this]
    simp
  | a :: L, h, p, hp => by
    have ha := h a (by simp)
    have e : spl1 10 ((a :: L).flatMap lnS) = lineS a :: spl1 10 (L.flatMap lnS) := by
      rw [List.flatMap_cons]
      show spl1 10 (lineS a ++ [10] ++ _) = _
      rw [List.append_assoc]
      exact spl1_app _ (line_no10 (okL_k ha))
    rw [e] at hp
    rcases List.mem_cons.1 hp with rfl | hp
    · have := lineS_len (okL_k ha) ha.2
      omega
    · exact acts_pieces (fun z hz => h z (List.mem_cons_of_mem _ hz)) p hp
theorem scr_pieces {q : PL} (h : OkP q) : ∀ p ∈ spl1 10 (scrS q), p.length ≤ 1000000 := fun p hp => by
  unfold scrS at hp
  rw [spl1_app _ (hd_no10 q.ns)] at hp
  rcases List.mem_cons.1 hp with rfl | hp
  · have := hdS_len h.n18 h.rng
    omega
  · exact acts_pieces h.ok p hp
theorem light31_ok {a : AC} (hK : K (.bool (decide (((a.s.size : Nat) : Int) < 900))) R) : CallT Tryz.prog 17 #[.agg #[.int .i64 a.kd, .int .i64 a.sd, .int .i64 a.id, .int .i64 a.n, .int .i64 a.cd, .string a.s, .int .i64 a.on, .int .i64 a.ww, .bool a.xx, .int .i64 a.xw, .int .i64 a.xs, .int .i64 a.xi]] R K := by
  refine callT_intro mixed Tryz.func17 rfl (by decide) (by decide +kernel) (by exact Nat.le_of_ble_eq_true rfl) ?_
  repeat' (first
    | (show evG _ _ _ _ _ _ _; first | refine G_pure0 ?_ | refine G_load ?_ | refine evG_nil ?_ | refine G_br ?_ ?_ | refine G_field ?_ | refine G_pure ?_ | refine G_loadV ?_ | refine G_loadV0 ?_ | refine G_loadV2 ?_ | (refine G_box ?_; intro _))
    | (show spl _ _ _; first | refine spl_no rfl ?_ | refine spl_yes rfl ?_)
    | (show evC _ _ _ _ _; first | refine c_seq ?_ | refine c_region (by exact rfl) ?_ | refine c_cond (by exact rfl) ?_ | refine c_ret ?_ | refine c_skip ?_ | refine c_block ?_ | refine c_exit ?_ | refine std ?_)
    | (show Br _ _ _; first | refine Br.t rfl ?_ | refine Br.f rfl ?_ | refine brs ?_ | (first | refine Br.mkN (fun h => ?_) (fun h => ?_) | refine Br.mk (fun h => ?_) (fun h => ?_)) <;> (try (first | contradiction | (exfalso; omega) | (exfalso; simp at h; done))))
    | refine stp ?_)
  all_goals (show retC _ _ _ _ _ _; refine RETC ?_; exact ret_done (hK))
set_option maxHeartbeats 8000000 in
theorem scriptPrints_ok {n0 n1 n2 n3 n4 n5 n6 n7 n8 n9 n10 n11 n12 n13 n14 n15 n16 n17 : Int} {A : Option Addr} {c : Nat} {L : List AC} (hv : View C A acC31 L) (hr : ∀ n ∈ [n0, n1, n2, n3, n4, n5, n6, n7, n8, n9, n10, n11, n12, n13, n14, n15, n16, n17], inR n) (hin : ∀ a ∈ L, InA a) (hK : ∀ C, K (.bool true) C) : CallT Tryz.prog 7 #[.agg #[.int .i64 n0, .int .i64 n1, .int .i64 n2, .int .i64 n3, .int .i64 n4, .int .i64 n5, .int .i64 n6, .int .i64 n7, .int .i64 n8, .int .i64 n9, .int .i64 n10, .int .i64 n11, .int .i64 n12, .int .i64 n13, .int .i64 n14, .int .i64 n15, .int .i64 n16, .int .i64 n17, .slice A L.length c]] C K := by
  by_cases h600 : 600 < L.length
  · refine callT_intro mixed Tryz.func7 rfl (by decide) (by decide +kernel) (by exact Nat.le_of_ble_eq_true rfl) ?_
    repeat' (first
      | (show evG _ _ _ _ _ _ _; first | refine G_add64 ?_ | refine G_pure0 ?_ | refine G_load ?_ | refine evG_nil ?_ | refine G_br ?_ ?_ | refine G_field ?_ | refine G_pure ?_ | refine G_store ?_ | refine G_loadV ?_ | refine G_loadV0 ?_ | refine G_loadV2 ?_ | refine G_not ?_ | refine G_index ?_ | refine G_indexA ?_ | refine G_cat ?_ | refine G_eql_agg ?_ | refine G_neq_agg ?_ | refine G_call ?_ | refine G_call0 ?_ | (refine G_box ?_; intro _) | (refine G_alloc ?_; intro _) | (refine G_indexV ?_; intro _ _ hA; subst hA) | refine G_skip ?_ | refine G_skip0 ?_)
      | (show spl _ _ _; first | refine spl_no rfl ?_ | refine spl_yes rfl ?_)
      | (show evC _ _ _ _ _; first | refine c_seq ?_ | refine c_region (by exact rfl) ?_ | refine c_cond (by exact rfl) ?_ | refine c_ret ?_ | refine c_skip ?_ | refine c_block ?_ | refine c_exit ?_ | (show evC _ (.region 17 _ true) _ _ _; refine c_draw (l := [(0, 0), (1, 0), (2, 0), (3, 0), (4, 1), (5, 1), (6, 1), (7, 1), (8, 1), (9, 1), (10, 0), (11, 0), (12, 0), (13, 0), (14, 0), (15, 0)]) (by decide +kernel) (by decide +kernel) (by exact rfl) ?_) | refine std ?_)
      | (show Br _ _ _; first | refine Br.t rfl ?_ | refine Br.f rfl ?_ | refine brs ?_ | (first | refine Br.mkN (fun h => ?_) (fun h => ?_) | refine Br.mk (fun h => ?_) (fun h => ?_)) <;> (try (first | contradiction | (exfalso; omega) | (exfalso; simp at h; done))))
      | refine stp ?_
      | (show CallT _ 9 _ _ _; refine CA (h := awake31_ok ?_)))
    all_goals first
      | (show retC _ _ _ _ _ _; refine RETC ?_; exact ret_done (hK _))
      | (exfalso; omega)
  · have hn2 : L.length ≤ 1000 := by omega
    have hhl := hdS_len (ns := [n0, n1, n2, n3, n4, n5, n6, n7, n8, n9, n10, n11, n12, n13, n14, n15, n16, n17]) rfl hr
    have hhs := bq_size (hdS [n0, n1, n2, n3, n4, n5, n6, n7, n8, n9, n10, n11, n12, n13, n14, n15, n16, n17])
    have h10 : (⟨#[10]⟩ : ByteArray).size = 1 := rfl
    have h00 : (⟨#[]⟩ : ByteArray).size = 0 := rfl
    have hS0 : bq (hdS [n0, n1, n2, n3, n4, n5, n6, n7, n8, n9, n10, n11, n12, n13, n14, n15, n16, n17]) ++ (⟨#[10]⟩ : ByteArray) = bq (hdS [n0, n1, n2, n3, n4, n5, n6, n7, n8, n9, n10, n11, n12, n13, n14, n15, n16, n17] ++ 10 :: (L.take 0).flatMap lnS) := by
      rw [show (⟨#[10]⟩ : ByteArray) = bq [10] from rfl, bq_app]
      simp
    have hS0s : (bq (hdS [n0, n1, n2, n3, n4, n5, n6, n7, n8, n9, n10, n11, n12, n13, n14, n15, n16, n17]) ++ (⟨#[10]⟩ : ByteArray)).size ≤ 400 + 12615 * 0 := by
      rw [ByteArray.size_append, h10]
      omega
    have hsL : scrS ⟨[n0, n1, n2, n3, n4, n5, n6, n7, n8, n9, n10, n11, n12, n13, n14, n15, n16, n17], L⟩ = hdS [n0, n1, n2, n3, n4, n5, n6, n7, n8, n9, n10, n11, n12, n13, n14, n15, n16, n17] ++ 10 :: (L.take L.length).flatMap lnS := by
      rw [List.take_of_length_le (by omega)]; rfl
    have hOk : L.length ≤ 512 → (∀ a ∈ L, okL a) → OkP ⟨[n0, n1, n2, n3, n4, n5, n6, n7, n8, n9, n10, n11, n12, n13, n14, n15, n16, n17], L⟩ := fun h h2 => ⟨rfl, hr, by show L.length ≤ 512; omega, h2⟩
    have hq0 : ((⟨#[]⟩ : ByteArray).toList == (⟨#[]⟩ : ByteArray).toList) = true := beq_self_eq_true _
    have hhq : ((bq (hdS [n0, n1, n2, n3, n4, n5, n6, n7, n8, n9, n10, n11, n12, n13, n14, n15, n16, n17])).toList == (bq (hdS [n0, n1, n2, n3, n4, n5, n6, n7, n8, n9, n10, n11, n12, n13, n14, n15, n16, n17])).toList) = true := beq_self_eq_true _
    have hsh : ∀ {R : List HP} {K : Value → List HP → Prop}, K (.string (bq (hdS [n0, n1, n2, n3, n4, n5, n6, n7, n8, n9, n10, n11, n12, n13, n14, n15, n16, n17]))) R → CallT Tryz.prog 21 #[.agg #[.int .i64 n0, .int .i64 n1, .int .i64 n2, .int .i64 n3, .int .i64 n4, .int .i64 n5, .int .i64 n6, .int .i64 n7, .int .i64 n8], .agg #[.int .i64 n9, .int .i64 n10, .int .i64 n11, .int .i64 n12, .int .i64 n13, .int .i64 n14, .int .i64 n15, .int .i64 n16, .int .i64 n17]] R K := fun hK => shead_ok hr hK
    have hrh : ∀ {R : List HP} {K : Value → List HP → Prop}, K (.string (bq (hdS [n0, n1, n2, n3, n4, n5, n6, n7, n8, n9, n10, n11, n12, n13, n14, n15, n16, n17]))) R → CallT Tryz.prog 14 #[.agg #[.int .i64 n0, .int .i64 n1, .int .i64 n2, .int .i64 n3, .int .i64 n4, .int .i64 n5, .int .i64 n6, .int .i64 n7, .int .i64 n8], .agg #[.int .i64 n9, .int .i64 n10, .int .i64 n11, .int .i64 n12, .int .i64 n13, .int .i64 n14, .int .i64 n15, .int .i64 n16, .int .i64 n17]] R K := fun hK => rhead_ok hr hK
    refine callT_intro mixed Tryz.func7 rfl (by decide) (by decide +kernel) (by exact Nat.le_of_ble_eq_true rfl) ?_
    repeat' (first
      | (show evG _ _ _ _ _ _ _; first | refine G_add64 ?_ | refine G_pure0 ?_ | refine G_load ?_ | refine evG_nil ?_ | refine G_br ?_ ?_ | refine G_field ?_ | refine G_pure ?_ | refine G_store ?_ | refine G_loadV ?_ | refine G_loadV0 ?_ | refine G_loadV2 ?_ | refine G_not ?_ | refine G_index ?_ | refine G_indexA ?_ | refine G_cat ?_ | refine G_eql_agg ?_ | refine G_neq_agg ?_ | refine G_call ?_ | refine G_call0 ?_ | (refine G_box ?_; intro _) | (refine G_alloc ?_; intro _) | (refine G_indexV ?_; intro _ _ hA; subst hA) | refine G_skip ?_ | refine G_skip0 ?_)
      | (show spl _ _ _; first | refine spl_no rfl ?_ | refine spl_yes rfl ?_)
      | (show evC _ _ _ _ _; first | refine c_seq ?_ | refine c_region (by exact rfl) ?_ | refine c_cond (by exact rfl) ?_ | refine c_ret ?_ | refine c_skip ?_ | refine c_block ?_ | refine c_exit ?_ | (show evC _ (.region 17 _ true) _ _ _; refine c_draw (l := [(0, 0), (1, 0), (2, 0), (3, 0), (4, 1), (5, 1), (6, 1), (7, 1), (8, 1), (9, 1), (10, 0), (11, 0), (12, 0), (13, 0), (14, 0), (15, 0)]) (by decide +kernel) (by decide +kernel) (by exact rfl) ?_) | refine std ?_)
      | (show Br _ _ _; first | refine Br.t rfl ?_ | refine Br.f rfl ?_ | refine brs ?_ | (first | refine Br.mkN (fun h => ?_) (fun h => ?_) | refine Br.mk (fun h => ?_) (fun h => ?_)) <;> (try (first | contradiction | (exfalso; omega) | (exfalso; simp at h; done))))
      | refine stp ?_
      | (show CallT _ 14 _ _ _; refine CA (h := hrh ?_)))
    all_goals first | (exfalso; omega) | skip
    rename_i t1
    generalize hHD : hdS [n0, n1, n2, n3, n4, n5, n6, n7, n8, n9, n10, n11, n12, n13, n14, n15, n16, n17] = HD at *
    refine LOOP (fun m f C' => ∃ (j : Nat) (S : ByteArray) (e : Int), j + m = L.length ∧ S.size ≤ 400 + 12615 * j ∧ ((e = 0 ∧ (∀ a ∈ L.take j, okL a) ∧ S = bq (HD ++ 10 :: (L.take j).flatMap lnS)) ∨ (e = 30 ∧ ∃ a ∈ L, lineF a = none)) ∧ C' = pt t1 [.int .i64 n0, .int .i64 n1, .int .i64 n2, .int .i64 n3, .int .i64 n4, .int .i64 n5, .int .i64 n6, .int .i64 n7, .int .i64 n8, .int .i64 n9, .int .i64 n10, .int .i64 n11, .int .i64 n12, .int .i64 n13, .int .i64 n14, .int .i64 n15, .int .i64 n16, .int .i64 n17, .slice A L.length c] 39 :: C ∧ Agree f [(1, .pointer (some ⟨t1, 0, none⟩)), (3, .string S), (4, .int .i64 e), (5, .int .i64 j)]) L.length (turn L.length ⟨0, _, 0, by omega, hS0s, .inl ⟨rfl, by simp, hS0⟩, rfl, rfl, rfl, rfl, rfl, trivial⟩) ?_
    rintro nk f C' ⟨j, S, e, hj, hSs, hSe, rfl, hA⟩
    refine c_fr _ hA ?_
    simp only [updL]
    have hvv : View (pt t1 [.int .i64 n0, .int .i64 n1, .int .i64 n2, .int .i64 n3, .int .i64 n4, .int .i64 n5, .int .i64 n6, .int .i64 n7, .int .i64 n8, .int .i64 n9, .int .i64 n10, .int .i64 n11, .int .i64 n12, .int .i64 n13, .int .i64 n14, .int .i64 n15, .int .i64 n16, .int .i64 n17, .slice A L.length c] 39 :: C) A acC31 L := view_there hv
    by_cases hlt : j < L.length
    · obtain ⟨a, ha⟩ : ∃ a, L[j]? = some a := ⟨_, List.getElem?_eq_getElem (by omega)⟩
      have ham := List.mem_of_getElem? ha
      have hai := hin a ham
      have hSb : S.size ≤ 8000000 := by omega
      by_cases hs : ((a.s.size : Nat) : Int) < 900
      · have hd : decide (((a.s.size : Nat) : Int) < 900) = true := decide_eq_true hs
        have hst := scr_take ha
        by_cases hk : okK a
        · have hll := lineS_len hk hai
          have hls := bq_size (lineS a)
          have hS1 : (S ++ bq (lineS a) ++ (⟨#[10]⟩ : ByteArray)).size ≤ 400 + 12615 * (j + 1) := by
            rw [ByteArray.size_append, ByteArray.size_append, h10]
            omega
          by_cases hc : cano a = a
          · have hl := lineF_some.2 ⟨⟨hk, hc⟩, rfl⟩
            have hra : ∀ {R : List HP} {K : Value → List HP → Prop}, K (.tuple #[.string (bq (lineS a)), .bool true]) R → CallT Tryz.prog 19 #[.agg #[.int .i64 a.kd, .int .i64 a.sd, .int .i64 a.id, .int .i64 a.n, .int .i64 a.cd, .string a.s, .int .i64 a.on, .int .i64 a.ww, .bool a.xx, .int .i64 a.xw, .int .i64 a.xs, .int .i64 a.xi]] R K := fun hK => rline_ok hk hai fun r hr => by
              have e : r = true := hr.2 hc
              subst e
              exact hK
            have hoka : (∀ z ∈ L.take j, okL z) → ∀ z ∈ L.take (j + 1), okL z := fun hokj z hz => by
              rw [List.take_add_one, ha] at hz
              rcases List.mem_append.1 hz with hz | hz
              · exact hokj z hz
              · have hz : z ∈ [a] := hz
                rw [List.mem_singleton.1 hz]
                exact ⟨hl, hai⟩
            have hSe2 : (e = 0 ∧ (∀ a ∈ L.take (j + 1), okL a) ∧ S ++ bq (lineS a) ++ (⟨#[10]⟩ : ByteArray) = bq (HD ++ 10 :: (L.take (j + 1)).flatMap lnS)) ∨ (e = 30 ∧ ∃ a ∈ L, lineF a = none) := by
              rcases hSe with ⟨h1, h2, h3⟩ | h1
              · refine .inl ⟨h1, hoka h2, ?_⟩
                rw [h3, hst, show (⟨#[10]⟩ : ByteArray) = bq [10] from rfl, bq_app, bq_app]
                simp [lnS]
              · exact .inr h1
            clear hSe hSs hoka hst
            repeat' (first
              | (show evG _ _ _ _ _ _ _; first | refine G_add64 ?_ | refine G_pure0 ?_ | refine G_load ?_ | refine evG_nil ?_ | refine G_br ?_ ?_ | refine G_field ?_ | refine G_pure ?_ | refine G_store ?_ | refine G_loadV ?_ | refine G_loadV0 ?_ | refine G_loadV2 ?_ | refine G_not ?_ | refine G_index ?_ | refine G_indexA ?_ | refine G_cat ?_ | refine G_eql_agg ?_ | refine G_neq_agg ?_ | refine G_call ?_ | refine G_call0 ?_ | (refine G_box ?_; intro _) | (refine G_alloc ?_; intro _) | (refine G_indexV ?_; intro _ _ hA; subst hA) | refine G_skip ?_ | refine G_skip0 ?_)
              | (show spl _ _ _; first | refine spl_no rfl ?_ | refine spl_yes rfl ?_)
              | (show evC _ _ _ _ _; first | refine c_seq ?_ | refine c_region (by exact rfl) ?_ | refine c_cond (by exact rfl) ?_ | refine c_ret ?_ | refine c_skip ?_ | refine c_block ?_ | refine c_exit ?_ | (show evC _ (.region 17 _ true) _ _ _; refine c_draw (l := [(0, 0), (1, 0), (2, 0), (3, 0), (4, 1), (5, 1), (6, 1), (7, 1), (8, 1), (9, 1), (10, 0), (11, 0), (12, 0), (13, 0), (14, 0), (15, 0)]) (by decide +kernel) (by decide +kernel) (by exact rfl) ?_) | refine std ?_)
              | (show Br _ _ _; first | refine Br.t rfl ?_ | refine Br.f rfl ?_ | refine brs ?_ | (first | refine Br.mkN (fun h => ?_) (fun h => ?_) | refine Br.mk (fun h => ?_) (fun h => ?_)) <;> (try (first | contradiction | (exfalso; omega) | (exfalso; simp at h; done))))
              | refine stp ?_
              | (show CallT _ 17 _ _ _; refine CA (h := light31_ok ?_); rw [hd])
              | (show CallT _ 19 _ _ _; refine CA (h := hra ?_)))
            all_goals first
              | (show TurnG _ _ _ _; exact turn (nk - 1) ⟨j + 1, _, e, by omega, hS1, hSe2, rfl, rfl, rfl, rfl, rfl, trivial⟩)
              | (exfalso; omega)
          · have hl : lineF a = none := by
              cases h : lineF a with
              | none => rfl
              | some l => exact absurd (lineF_some.1 h).1.2 hc
            have hra : ∀ {R : List HP} {K : Value → List HP → Prop}, K (.tuple #[.string (bq (lineS a)), .bool false]) R → CallT Tryz.prog 19 #[.agg #[.int .i64 a.kd, .int .i64 a.sd, .int .i64 a.id, .int .i64 a.n, .int .i64 a.cd, .string a.s, .int .i64 a.on, .int .i64 a.ww, .bool a.xx, .int .i64 a.xw, .int .i64 a.xs, .int .i64 a.xi]] R K := fun hK => rline_ok hk hai fun r hr => by
              cases r
              · exact hK
              · exact absurd (hr.1 rfl) hc
            have hbad : ∃ a ∈ L, lineF a = none := ⟨a, ham, hl⟩
            clear hSe hSs hst
            repeat' (first
              | (show evG _ _ _ _ _ _ _; first | refine G_add64 ?_ | refine G_pure0 ?_ | refine G_load ?_ | refine evG_nil ?_ | refine G_br ?_ ?_ | refine G_field ?_ | refine G_pure ?_ | refine G_store ?_ | refine G_loadV ?_ | refine G_loadV0 ?_ | refine G_loadV2 ?_ | refine G_not ?_ | refine G_index ?_ | refine G_indexA ?_ | refine G_cat ?_ | refine G_eql_agg ?_ | refine G_neq_agg ?_ | refine G_call ?_ | refine G_call0 ?_ | (refine G_box ?_; intro _) | (refine G_alloc ?_; intro _) | (refine G_indexV ?_; intro _ _ hA; subst hA) | refine G_skip ?_ | refine G_skip0 ?_)
              | (show spl _ _ _; first | refine spl_no rfl ?_ | refine spl_yes rfl ?_)
              | (show evC _ _ _ _ _; first | refine c_seq ?_ | refine c_region (by exact rfl) ?_ | refine c_cond (by exact rfl) ?_ | refine c_ret ?_ | refine c_skip ?_ | refine c_block ?_ | refine c_exit ?_ | (show evC _ (.region 17 _ true) _ _ _; refine c_draw (l := [(0, 0), (1, 0), (2, 0), (3, 0), (4, 1), (5, 1), (6, 1), (7, 1), (8, 1), (9, 1), (10, 0), (11, 0), (12, 0), (13, 0), (14, 0), (15, 0)]) (by decide +kernel) (by decide +kernel) (by exact rfl) ?_) | refine std ?_)
              | (show Br _ _ _; first | refine Br.t rfl ?_ | refine Br.f rfl ?_ | refine brs ?_ | (first | refine Br.mkN (fun h => ?_) (fun h => ?_) | refine Br.mk (fun h => ?_) (fun h => ?_)) <;> (try (first | contradiction | (exfalso; omega) | (exfalso; simp at h; done))))
              | refine stp ?_
              | (show CallT _ 17 _ _ _; refine CA (h := light31_ok ?_); rw [hd])
              | (show CallT _ 19 _ _ _; refine CA (h := hra ?_)))
            all_goals first
              | (show TurnG _ _ _ _; exact turn (nk - 1) ⟨j + 1, _, 30, by omega, hS1, .inr ⟨rfl, hbad⟩, rfl, rfl, rfl, rfl, rfl, trivial⟩)
              | (exfalso; omega)
        · have hl : lineF a = none := by
            cases h : lineF a with
            | none => rfl
            | some l => exact absurd (lineF_some.1 h).1.1 hk
          have hS1 : (S ++ (⟨#[]⟩ : ByteArray) ++ (⟨#[10]⟩ : ByteArray)).size ≤ 400 + 12615 * (j + 1) := by
            rw [ByteArray.size_append, ByteArray.size_append, h10, h00]
            omega
          have hbad : ∃ a ∈ L, lineF a = none := ⟨a, ham, hl⟩
          clear hSe hSs hst
          repeat' (first
            | (show evG _ _ _ _ _ _ _; first | refine G_add64 ?_ | refine G_pure0 ?_ | refine G_load ?_ | refine evG_nil ?_ | refine G_br ?_ ?_ | refine G_field ?_ | refine G_pure ?_ | refine G_store ?_ | refine G_loadV ?_ | refine G_loadV0 ?_ | refine G_loadV2 ?_ | refine G_not ?_ | refine G_index ?_ | refine G_indexA ?_ | refine G_cat ?_ | refine G_eql_agg ?_ | refine G_neq_agg ?_ | refine G_call ?_ | refine G_call0 ?_ | (refine G_box ?_; intro _) | (refine G_alloc ?_; intro _) | (refine G_indexV ?_; intro _ _ hA; subst hA) | refine G_skip ?_ | refine G_skip0 ?_)
            | (show spl _ _ _; first | refine spl_no rfl ?_ | refine spl_yes rfl ?_)
            | (show evC _ _ _ _ _; first | refine c_seq ?_ | refine c_region (by exact rfl) ?_ | refine c_cond (by exact rfl) ?_ | refine c_ret ?_ | refine c_skip ?_ | refine c_block ?_ | refine c_exit ?_ | (show evC _ (.region 17 _ true) _ _ _; refine c_draw (l := [(0, 0), (1, 0), (2, 0), (3, 0), (4, 1), (5, 1), (6, 1), (7, 1), (8, 1), (9, 1), (10, 0), (11, 0), (12, 0), (13, 0), (14, 0), (15, 0)]) (by decide +kernel) (by decide +kernel) (by exact rfl) ?_) | refine std ?_)
            | (show Br _ _ _; first | refine Br.t rfl ?_ | refine Br.f rfl ?_ | refine brs ?_ | (first | refine Br.mkN (fun h => ?_) (fun h => ?_) | refine Br.mk (fun h => ?_) (fun h => ?_)) <;> (try (first | contradiction | (exfalso; omega) | (exfalso; simp at h; done))))
            | refine stp ?_
            | (show CallT _ 17 _ _ _; refine CA (h := light31_ok ?_); rw [hd])
            | (show CallT _ 19 _ _ _; refine CA (h := rlineX_ok hk ?_)))
          all_goals first
            | (show TurnG _ _ _ _; exact turn (nk - 1) ⟨j + 1, _, 30, by omega, hS1, .inr ⟨rfl, hbad⟩, rfl, rfl, rfl, rfl, rfl, trivial⟩)
            | (exfalso; omega)
      · have hd : decide (((a.s.size : Nat) : Int) < 900) = false := decide_eq_false hs
        clear hSe hSs
        repeat' (first
          | (show evG _ _ _ _ _ _ _; first | refine G_add64 ?_ | refine G_pure0 ?_ | refine G_load ?_ | refine evG_nil ?_ | refine G_br ?_ ?_ | refine G_field ?_ | refine G_pure ?_ | refine G_store ?_ | refine G_loadV ?_ | refine G_loadV0 ?_ | refine G_loadV2 ?_ | refine G_not ?_ | refine G_index ?_ | refine G_indexA ?_ | refine G_cat ?_ | refine G_eql_agg ?_ | refine G_neq_agg ?_ | refine G_call ?_ | refine G_call0 ?_ | (refine G_box ?_; intro _) | (refine G_alloc ?_; intro _) | (refine G_indexV ?_; intro _ _ hA; subst hA) | refine G_skip ?_ | refine G_skip0 ?_)
          | (show spl _ _ _; first | refine spl_no rfl ?_ | refine spl_yes rfl ?_)
          | (show evC _ _ _ _ _; first | refine c_seq ?_ | refine c_region (by exact rfl) ?_ | refine c_cond (by exact rfl) ?_ | refine c_ret ?_ | refine c_skip ?_ | refine c_block ?_ | refine c_exit ?_ | (show evC _ (.region 17 _ true) _ _ _; refine c_draw (l := [(0, 0), (1, 0), (2, 0), (3, 0), (4, 1), (5, 1), (6, 1), (7, 1), (8, 1), (9, 1), (10, 0), (11, 0), (12, 0), (13, 0), (14, 0), (15, 0)]) (by decide +kernel) (by decide +kernel) (by exact rfl) ?_) | refine std ?_)
          | (show Br _ _ _; first | refine Br.t rfl ?_ | refine Br.f rfl ?_ | refine brs ?_ | (first | refine Br.mkN (fun h => ?_) (fun h => ?_) | refine Br.mk (fun h => ?_) (fun h => ?_)) <;> (try (first | contradiction | (exfalso; omega) | (exfalso; simp at h; done))))
          | refine stp ?_
          | (show CallT _ 17 _ _ _; refine CA (h := light31_ok ?_); rw [hd])
          | (show CallT _ 9 _ _ _; refine CA (h := awake31_ok ?_)))
        all_goals first
          | (show retC _ _ _ _ _ _; refine RETC ?_; exact ret_done (hK _))
          | (exfalso; omega)
    · have hjn : L.length = j := by omega
      subst hjn
      have hSb : S.size ≤ 8000000 := by omega
      have hbz := bq_size (scrS ⟨[n0, n1, n2, n3, n4, n5, n6, n7, n8, n9, n10, n11, n12, n13, n14, n15, n16, n17], L⟩)
      have hw : View C A acC31 L := hv
      by_cases h512 : 512 < L.length
      · have hpr : ∀ {C : List HP} {K : Value → List HP → Prop}, K (.tuple #[.string ⟨#[]⟩, .int .i64 4]) C → CallT Tryz.prog 20 #[.agg #[.int .i64 n0, .int .i64 n1, .int .i64 n2, .int .i64 n3, .int .i64 n4, .int .i64 n5, .int .i64 n6, .int .i64 n7, .int .i64 n8, .int .i64 n9, .int .i64 n10, .int .i64 n11, .int .i64 n12, .int .i64 n13, .int .i64 n14, .int .i64 n15, .int .i64 n16, .int .i64 n17, .slice A L.length c]] C K := fun hK => printB_ok h512 hK
        rcases hSe with ⟨rfl, hok, h3⟩ | ⟨rfl, hbad⟩
        all_goals
          clear hS0 hS0s hsL hSs
          repeat' (first
            | (show evG _ _ _ _ _ _ _; first | refine G_add64 ?_ | refine G_pure0 ?_ | refine G_load ?_ | refine evG_nil ?_ | refine G_br ?_ ?_ | refine G_field ?_ | refine G_pure ?_ | refine G_store ?_ | refine G_loadV ?_ | refine G_loadV0 ?_ | refine G_loadV2 ?_ | refine G_not ?_ | refine G_index ?_ | refine G_indexA ?_ | refine G_cat ?_ | refine G_eql_agg ?_ | refine G_neq_agg ?_ | refine G_call ?_ | refine G_call0 ?_ | (refine G_box ?_; intro _) | (refine G_alloc ?_; intro _) | (refine G_indexV ?_; intro _ _ hA; subst hA) | refine G_skip ?_ | refine G_skip0 ?_)
            | (show spl _ _ _; first | refine spl_no rfl ?_ | refine spl_yes rfl ?_)
            | (show evC _ _ _ _ _; first | refine c_seq ?_ | refine c_region (by exact rfl) ?_ | refine c_cond (by exact rfl) ?_ | refine c_ret ?_ | refine c_skip ?_ | refine c_block ?_ | refine c_exit ?_ | (show evC _ (.region 17 _ true) _ _ _; refine c_draw (l := [(0, 0), (1, 0), (2, 0), (3, 0), (4, 1), (5, 1), (6, 1), (7, 1), (8, 1), (9, 1), (10, 0), (11, 0), (12, 0), (13, 0), (14, 0), (15, 0)]) (by decide +kernel) (by decide +kernel) (by exact rfl) ?_) | refine std ?_)
            | (show Br _ _ _; first | refine Br.t rfl ?_ | refine Br.f rfl ?_ | refine brs ?_ | (first | refine Br.mkN (fun h => ?_) (fun h => ?_) | refine Br.mk (fun h => ?_) (fun h => ?_)) <;> (try (first | contradiction | (exfalso; omega) | (exfalso; simp at h; done))))
            | refine stp ?_
            | (show CallT _ 20 _ _ _; refine CA (h := hpr ?_))
            | (show CallT _ 21 _ _ _; refine CA (h := hsh ?_))
            | (show CallT _ 14 _ _ _; refine CA (h := hrh ?_))
            | (show CallT _ 9 _ _ _; refine CA (h := awake31_ok ?_)))
          all_goals first
            | (show retC _ _ _ _ _ _; refine RETC ?_; exact ret_done (hK _))
            | (show retC _ _ _ _ _ _; refine RETC ?_; exact ret_done (kb (hK _) ⟨fun _ => hq0, fun _ => rfl⟩))
            | (exfalso; omega)
      · rcases hSe with ⟨rfl, hok, h3⟩ | ⟨rfl, hbad⟩
        · rw [List.take_of_length_le (Nat.le_refl _)] at hok
          rw [← hsL] at h3
          subst h3
          have hnb : ¬ ∃ a ∈ L, lineF a = none := fun ⟨a, ha, hn⟩ => by have := (hok a ha).1; rw [hn] at this; cases this
          by_cases hbig : 1048576 < (scrS ⟨[n0, n1, n2, n3, n4, n5, n6, n7, n8, n9, n10, n11, n12, n13, n14, n15, n16, n17], L⟩).length
          · have hpr : ∀ {C : List HP} {K : Value → List HP → Prop}, View C A acC31 L → K (.tuple #[.string ⟨#[]⟩, .int .i64 4]) C → CallT Tryz.prog 20 #[.agg #[.int .i64 n0, .int .i64 n1, .int .i64 n2, .int .i64 n3, .int .i64 n4, .int .i64 n5, .int .i64 n6, .int .i64 n7, .int .i64 n8, .int .i64 n9, .int .i64 n10, .int .i64 n11, .int .i64 n12, .int .i64 n13, .int .i64 n14, .int .i64 n15, .int .i64 n16, .int .i64 n17, .slice A L.length c]] C K := fun hv hK => printG_ok hv rfl h512 hr hin (fun h => absurd h hnb) (fun _ _ => hK) (fun _ h => absurd hbig h)
            clear hS0 hS0s hsL hSs
            generalize scrS ⟨[n0, n1, n2, n3, n4, n5, n6, n7, n8, n9, n10, n11, n12, n13, n14, n15, n16, n17], L⟩ = X at *
            repeat' (first
              | (show evG _ _ _ _ _ _ _; first | refine G_add64 ?_ | refine G_pure0 ?_ | refine G_load ?_ | refine evG_nil ?_ | refine G_br ?_ ?_ | refine G_field ?_ | refine G_pure ?_ | refine G_store ?_ | refine G_loadV ?_ | refine G_loadV0 ?_ | refine G_loadV2 ?_ | refine G_not ?_ | refine G_index ?_ | refine G_indexA ?_ | refine G_cat ?_ | refine G_eql_agg ?_ | refine G_neq_agg ?_ | refine G_call ?_ | refine G_call0 ?_ | (refine G_box ?_; intro _) | (refine G_alloc ?_; intro _) | (refine G_indexV ?_; intro _ _ hA; subst hA) | refine G_skip ?_ | refine G_skip0 ?_)
              | (show spl _ _ _; first | refine spl_no rfl ?_ | refine spl_yes rfl ?_)
              | (show evC _ _ _ _ _; first | refine c_seq ?_ | refine c_region (by exact rfl) ?_ | refine c_cond (by exact rfl) ?_ | refine c_ret ?_ | refine c_skip ?_ | refine c_block ?_ | refine c_exit ?_ | (show evC _ (.region 17 _ true) _ _ _; refine c_draw (l := [(0, 0), (1, 0), (2, 0), (3, 0), (4, 1), (5, 1), (6, 1), (7, 1), (8, 1), (9, 1), (10, 0), (11, 0), (12, 0), (13, 0), (14, 0), (15, 0)]) (by decide +kernel) (by decide +kernel) (by exact rfl) ?_) | refine std ?_)
              | (show Br _ _ _; first | refine Br.t rfl ?_ | refine Br.f rfl ?_ | refine brs ?_ | (first | refine Br.mkN (fun h => ?_) (fun h => ?_) | refine Br.mk (fun h => ?_) (fun h => ?_)) <;> (try (first | contradiction | (exfalso; omega) | (exfalso; simp at h; done))))
              | refine stp ?_
              | (show CallT _ 20 _ _ _; refine CA (h := hpr (by repeat first | exact hw | refine view_there ?_) ?_))
              | (show CallT _ 21 _ _ _; refine CA (h := hsh ?_))
              | (show CallT _ 14 _ _ _; refine CA (h := hrh ?_))
              | (show CallT _ 9 _ _ _; refine CA (h := awake31_ok ?_)))
            all_goals first
              | (show retC _ _ _ _ _ _; refine RETC ?_; exact ret_done (hK _))
              | (show retC _ _ _ _ _ _; refine RETC ?_; exact ret_done (kb (hK _) ⟨fun _ => hq0, fun _ => rfl⟩))
              | (exfalso; omega)
          · have hop := hOk (by omega) hok
            have hrd := rd_scr hop
            have hpc := scr_pieces hop
            have hpr : ∀ {C : List HP} {K : Value → List HP → Prop}, View C A acC31 L → K (.tuple #[.string (bq (scrS ⟨[n0, n1, n2, n3, n4, n5, n6, n7, n8, n9, n10, n11, n12, n13, n14, n15, n16, n17], L⟩)), .int .i64 0]) C → CallT Tryz.prog 20 #[.agg #[.int .i64 n0, .int .i64 n1, .int .i64 n2, .int .i64 n3, .int .i64 n4, .int .i64 n5, .int .i64 n6, .int .i64 n7, .int .i64 n8, .int .i64 n9, .int .i64 n10, .int .i64 n11, .int .i64 n12, .int .i64 n13, .int .i64 n14, .int .i64 n15, .int .i64 n16, .int .i64 n17, .slice A L.length c]] C K := fun hv hK => printG_ok hv rfl h512 hr hin (fun h => absurd h hnb) (fun _ h => absurd h hbig) (fun _ _ => hK)
            clear hS0 hS0s hsL hSs hOk hop
            generalize scrS ⟨[n0, n1, n2, n3, n4, n5, n6, n7, n8, n9, n10, n11, n12, n13, n14, n15, n16, n17], L⟩ = X at *
            have hXl : X.length ≤ 1048576 := by omega
            have hqq : ((bq X).toList == (bq X).toList) = true := beq_self_eq_true _
            repeat' (first
              | (show evG _ _ _ _ _ _ _; first | refine G_add64 ?_ | refine G_pure0 ?_ | refine G_load ?_ | refine evG_nil ?_ | refine G_br ?_ ?_ | refine G_field ?_ | refine G_pure ?_ | refine G_store ?_ | refine G_loadV ?_ | refine G_loadV0 ?_ | refine G_loadV2 ?_ | refine G_not ?_ | refine G_index ?_ | refine G_indexA ?_ | refine G_cat ?_ | refine G_eql_agg ?_ | refine G_neq_agg ?_ | refine G_call ?_ | refine G_call0 ?_ | (refine G_box ?_; intro _) | (refine G_alloc ?_; intro _) | (refine G_indexV ?_; intro _ _ hA; subst hA) | refine G_skip ?_ | refine G_skip0 ?_)
              | (show spl _ _ _; first | refine spl_no rfl ?_ | refine spl_yes rfl ?_)
              | (show evC _ _ _ _ _; first | refine c_seq ?_ | refine c_region (by exact rfl) ?_ | refine c_cond (by exact rfl) ?_ | refine c_ret ?_ | refine c_skip ?_ | refine c_block ?_ | refine c_exit ?_ | (show evC _ (.region 17 _ true) _ _ _; refine c_draw (l := [(0, 0), (1, 0), (2, 0), (3, 0), (4, 1), (5, 1), (6, 1), (7, 1), (8, 1), (9, 1), (10, 0), (11, 0), (12, 0), (13, 0), (14, 0), (15, 0)]) (by decide +kernel) (by decide +kernel) (by exact rfl) ?_) | refine std ?_)
              | (show Br _ _ _; first | refine Br.t (by decide +kernel) ?_ | refine Br.f (by decide +kernel) ?_ | refine Br.t rfl ?_ | refine Br.f rfl ?_ | refine brs ?_ | (first | refine Br.mkN (fun h => ?_) (fun h => ?_) | refine Br.mk (fun h => ?_) (fun h => ?_)) <;> (try (first | contradiction | (exfalso; omega) | (exfalso; simp at h; done))))
              | refine stp ?_
              | (show CallT _ 20 _ _ _; refine CA (h := hpr (by repeat first | exact hw | refine view_there ?_) ?_))
              | (show CallT _ 21 _ _ _; refine CA (h := hsh ?_))
              | (show CallT _ 14 _ _ _; refine CA (h := hrh ?_))
              | (show CallT _ 9 _ _ _; refine CA (h := awake31_ok ?_))
              | (show CallT _ 12 _ _ _; refine CA (h := readSL_ok hXl hpc hrd (fun A2 c2 => ?_)))
              | (show CallT _ 22 _ _ _; refine CA (h := same_ok (L := L) (by repeat first | exact hw | refine view_there ?_) (by exact viewA) rfl hn2 ?_)))
            all_goals first
              | (show retC _ _ _ _ _ _; refine RETC ?_; exact ret_done (hK _))
              | (show retC _ _ _ _ _ _; refine RETC ?_; exact ret_done (kb (hK _) ⟨fun _ => hqq, fun _ => rfl⟩))
              | (exfalso; omega)
        · have hnok : ¬ ∀ a ∈ L, okL a := fun h => by
            obtain ⟨a, ha, hl⟩ := hbad
            have := (h a ha).1
            rw [hl] at this
            cases this
          have hpr : ∀ {C : List HP} {K : Value → List HP → Prop}, View C A acC31 L → K (.tuple #[.string ⟨#[]⟩, .int .i64 30]) C → CallT Tryz.prog 20 #[.agg #[.int .i64 n0, .int .i64 n1, .int .i64 n2, .int .i64 n3, .int .i64 n4, .int .i64 n5, .int .i64 n6, .int .i64 n7, .int .i64 n8, .int .i64 n9, .int .i64 n10, .int .i64 n11, .int .i64 n12, .int .i64 n13, .int .i64 n14, .int .i64 n15, .int .i64 n16, .int .i64 n17, .slice A L.length c]] C K := fun hv hK => printG_ok hv rfl h512 hr hin (fun _ => hK) (fun h _ => absurd h hnok) (fun h _ => absurd h hnok)
          clear hS0 hS0s hsL hSs
          repeat' (first
            | (show evG _ _ _ _ _ _ _; first | refine G_add64 ?_ | refine G_pure0 ?_ | refine G_load ?_ | refine evG_nil ?_ | refine G_br ?_ ?_ | refine G_field ?_ | refine G_pure ?_ | refine G_store ?_ | refine G_loadV ?_ | refine G_loadV0 ?_ | refine G_loadV2 ?_ | refine G_not ?_ | refine G_index ?_ | refine G_indexA ?_ | refine G_cat ?_ | refine G_eql_agg ?_ | refine G_neq_agg ?_ | refine G_call ?_ | refine G_call0 ?_ | (refine G_box ?_; intro _) | (refine G_alloc ?_; intro _) | (refine G_indexV ?_; intro _ _ hA; subst hA) | refine G_skip ?_ | refine G_skip0 ?_)
            | (show spl _ _ _; first | refine spl_no rfl ?_ | refine spl_yes rfl ?_)
            | (show evC _ _ _ _ _; first | refine c_seq ?_ | refine c_region (by exact rfl) ?_ | refine c_cond (by exact rfl) ?_ | refine c_ret ?_ | refine c_skip ?_ | refine c_block ?_ | refine c_exit ?_ | (show evC _ (.region 17 _ true) _ _ _; refine c_draw (l := [(0, 0), (1, 0), (2, 0), (3, 0), (4, 1), (5, 1), (6, 1), (7, 1), (8, 1), (9, 1), (10, 0), (11, 0), (12, 0), (13, 0), (14, 0), (15, 0)]) (by decide +kernel) (by decide +kernel) (by exact rfl) ?_) | refine std ?_)
            | (show Br _ _ _; first | refine Br.t rfl ?_ | refine Br.f rfl ?_ | refine brs ?_ | (first | refine Br.mkN (fun h => ?_) (fun h => ?_) | refine Br.mk (fun h => ?_) (fun h => ?_)) <;> (try (first | contradiction | (exfalso; omega) | (exfalso; simp at h; done))))
            | refine stp ?_
            | (show CallT _ 20 _ _ _; refine CA (h := hpr (by repeat first | exact hw | refine view_there ?_) ?_))
            | (show CallT _ 21 _ _ _; refine CA (h := hsh ?_))
            | (show CallT _ 14 _ _ _; refine CA (h := hrh ?_))
            | (show CallT _ 9 _ _ _; refine CA (h := awake31_ok ?_)))
          all_goals first
            | (show retC _ _ _ _ _ _; refine RETC ?_; exact ret_done (hK _))
            | (show retC _ _ _ _ _ _; refine RETC ?_; exact ret_done (kb (hK _) ⟨fun _ => hq0, fun _ => rfl⟩))
            | (exfalso; omega)
end Go.Proofs.YtiofdmjecjcdbaaGreatDoor

