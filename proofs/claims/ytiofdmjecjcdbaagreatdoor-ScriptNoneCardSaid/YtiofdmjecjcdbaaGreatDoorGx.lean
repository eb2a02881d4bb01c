/- Script: Read. Script: Read of what is no script: lemmas; each with the conditions that it states. -/
import Derived.Test.YtiofdmjecjcdbaaGreatDoorFh
import Derived.Test.YtiofdmjecjcdbaaGreatDoorG19
import Derived.Test.YtiofdmjecjcdbaaGreatDoorFg

namespace Go.Proofs.YtiofdmjecjcdbaaGreatDoor
open Go Go.Proofs Go.Sl
set_option maxRecDepth 100000
set_option maxHeartbeats 4000000
set_option linter.unusedSimpArgs false
set_option linter.unusedVariables false
attribute [local irreducible] evG evC spl thenC inBlockC noGotoC CallT retC RetG TurnG CutG pt ro exP star sep pureP
variable {R C : List HP} {K : Value → List HP → Prop}
def acD31 : List Value → Option AC
  | [.int .i64 kd, .int .i64 sd, .int .i64 id, .int .i64 n, .int .i64 cd, .string s, .int .i64 on, .int .i64 ww, .bool xx, .int .i64 xw, .int .i64 xs, .int .i64 xi] => some ⟨kd, sd, id, n, cd, s, on, ww, xx, xw, xs, xi⟩
  | _ => none
theorem acD31_ok (cs : List Value) (y : AC) (h : acD31 cs = some y) : [.int .i64 y.kd, .int .i64 y.sd, .int .i64 y.id, .int .i64 y.n, .int .i64 y.cd, .string y.s, .int .i64 y.on, .int .i64 y.ww, .bool y.xx, .int .i64 y.xw, .int .i64 y.xs, .int .i64 y.xi] = cs := by
  unfold acD31 at h
  split at h
  · cases h; rfl
  · cases h
def acC31 : Cod AC := { enc := fun y => [.int .i64 y.kd, .int .i64 y.sd, .int .i64 y.id, .int .i64 y.n, .int .i64 y.cd, .string y.s, .int .i64 y.on, .int .i64 y.ww, .bool y.xx, .int .i64 y.xw, .int .i64 y.xs, .int .i64 y.xi], sz := 12, dec := acD31, len := fun _ => rfl, one := fun _ => rfl, ok := acD31_ok }
theorem aft_at {c : UInt8} : ∀ {ls : List (List UInt8)} {j : Nat} {x : List UInt8}, ls[j]? = some x → (aftL c ls)[j]? = some (if j + 1 = ls.length then x else x ++ [c])
  | [], j, x, h => by simp at h
  | [p], j, x, h => by
    cases j with
    | zero => cases h; rfl
    | succ j => simp at h
  | p :: q :: r, j, x, h => by
    rw [aftL_cons (by simp)]
    cases j with
    | zero => cases h; simp
    | succ j =>
      have := aft_at (c := c) (ls := q :: r) (j := j) (x := x) (by simpa using h)
      rw [List.getElem?_cons_succ, this]
      simp
theorem spl_no10 {l x : List UInt8} {j : Nat} (h : (spl1 10 l)[j]? = some x) : ∀ b ∈ x, b ≠ 10 := spl1_no x (List.mem_of_getElem? h)
theorem rd_at_last {i j : Nat} {p : PL} {ls : List (List UInt8)} {x : List UInt8} (h : ls[j]? = some x) (hl : j + 1 = ls.length) : rdScr i p (ls.drop j) = if x = [] ∧ 0 < i then (p, 0, 0) else (PL0, i + 1, 5) := by
  rw [drop_at h, List.drop_eq_nil_of_le (by omega), rdScr_one]
theorem rd_at_next {i j : Nat} {p : PL} {ls : List (List UInt8)} {x : List UInt8} (h : ls[j]? = some x) (hl : j + 1 < ls.length) : rdScr i p (ls.drop j) = if 512 < i then (PL0, i + 1, 4) else if i = 0 then (match rdHd x with
      | none => (PL0, i + 1, 30)
      | some ns => rdScr (i + 1) ⟨ns, p.l⟩ (ls.drop (j + 1))) else match prs x with
      | none => (PL0, i + 1, 30)
      | some a => rdScr (i + 1) ⟨p.ns, p.l ++ [a]⟩ (ls.drop (j + 1)) := by
  rw [drop_at h, rdScr_cons (fun e => by have := congrArg List.length e; simp at this; omega)]
  rfl
theorem rdScr_ns : ∀ {ls : List (List UInt8)} {i : Nat} {p : PL} {q : PL} {k : Nat}, rdScr (i + 1) p ls = (q, k, 0) → q.ns = p.ns
  | [], i, p, q, k, h => by cases h
  | [l], i, p, q, k, h => by
    rw [rdScr_one] at h
    split at h <;> cases h
    rfl
  | l :: m :: r, i, p, q, k, h => by
    rw [rdScr_cons (by simp)] at h
    split at h
    · cases h
    · rw [if_neg (by omega)] at h
      cases hp : prs l with
      | none => rw [hp] at h; cases h
      | some a => rw [hp] at h; exact (rdScr_ns h).trans rfl
set_option maxHeartbeats 8000000 in
theorem readSY_ok {l : List UInt8} {n0 n1 n2 n3 n4 n5 n6 n7 n8 n9 n10 n11 n12 n13 n14 n15 n16 n17 : Int} {L : List AC} (hs0 : l.length ≤ 1000000) (h : rdScr 0 PL0 (spl1 10 l) = (⟨[n0, n1, n2, n3, n4, n5, n6, n7, n8, n9, n10, n11, n12, n13, n14, n15, n16, n17], L⟩, 0, 0)) (hK : ∀ A c, K (.tuple #[.agg #[.int .i64 n0, .int .i64 n1, .int .i64 n2, .int .i64 n3, .int .i64 n4, .int .i64 n5, .int .i64 n6, .int .i64 n7, .int .i64 n8, .int .i64 n9, .int .i64 n10, .int .i64 n11, .int .i64 n12, .int .i64 n13, .int .i64 n14, .int .i64 n15, .int .i64 n16, .int .i64 n17, .slice A L.length c], .int .i64 0, .int .i64 0]) (row A c 28 acC31 L :: R)) : CallT Tryz.prog 12 #[.string (bq l)] R K := by
  have hsz : (bq l).size ≤ 1100000 := by rw [bq_size]; omega
  have hszI : ((bq l).size : Int) ≤ 1000000 := by rw [bq_size]; omega
  have hdl : (bq l).data.toList = l := data_bq l
  have hmem : ∀ p ∈ spl1 10 l, p.length ≤ 1000000 := fun p hp => Nat.le_trans (spl1_mem hp) hs0
  have hple := spl1_le (c := 10) l
  have hpos : 0 < (spl1 10 l).length := List.length_pos_iff.2 (spl1_ne 10 l)
  have hpI : (((spl1 10 l).length : Nat) : Int) ≤ 1000001 := by omega
  have hal : ((aftL 10 (spl1 10 l)).map bq).length = (spl1 10 l).length := by simp [aftL_len]
  have hfd : rdScr 0 PL0 ((spl1 10 l).drop 0) = (⟨[n0, n1, n2, n3, n4, n5, n6, n7, n8, n9, n10, n11, n12, n13, n14, n15, n16, n17], L⟩, 0, 0) := h
  clear hs0 hple h
  refine callT_intro mixed Tryz.func12 rfl (by decide) (by decide +kernel) (by exact Nat.le_of_ble_eq_true rfl) ?_
  repeat' (first
    | (show evG _ _ _ _ _ _ _; first | refine G_add64 ?_ | refine G_sub64 ?_ | refine G_pure0 ?_ | refine G_load ?_ | refine evG_nil ?_ | refine G_br ?_ ?_ | refine G_field ?_ | refine G_pure ?_ | refine G_store ?_ | refine G_loadV ?_ | refine G_loadV0 ?_ | refine G_loadV2 ?_ | (refine G_append ?_; intro _ _) | (refine G_appendN ?_; intro _ _) | refine G_not ?_ | refine G_index ?_ | refine G_indexA ?_ | refine G_build ?_ | refine G_cat ?_ | refine G_eql_agg ?_ | refine G_call ?_ | refine G_call0 ?_ | (refine G_alloc ?_; intro _) | (refine G_buildSlice ?_; intro _) | (refine G_indexV ?_; intro _ _ hA; subst hA) | refine G_skip ?_ | refine G_skip0 ?_)
    | (show spl _ _ _; first | refine spl_no rfl ?_ | refine spl_yes rfl ?_)
    | (show evC _ _ _ _ _; first | refine c_seq ?_ | refine c_region (by exact rfl) ?_ | refine c_cond (by exact rfl) ?_ | refine c_ret ?_ | refine c_skip ?_ | refine c_block ?_ | refine c_exit ?_ | refine std ?_)
    | (show Br _ _ _; first | refine Br.t rfl ?_ | refine Br.f rfl ?_ | refine brs ?_ | (first | refine Br.mkN (fun h => ?_) (fun h => ?_) | refine Br.mk (fun h => ?_) (fun h => ?_)) <;> (try (first | contradiction | (exfalso; omega) | (exfalso; simp at h; done))))
    | refine stp ?_
    | (show CallT _ 30 _ _ _; refine CA (h := splita_ok hsz (fun r => ?_)); rw [hdl]))
  all_goals first | (exfalso; omega) | skip
  rename_i q p
  refine LOOP (fun m f C' => ∃ j : Nat, j + m = (spl1 10 l).length ∧ j < (spl1 10 l).length ∧ ((j = 0 ∧ C' = pt q [.int .i64 0, .int .i64 0, .int .i64 0, .int .i64 0, .int .i64 0, .int .i64 0, .int .i64 0, .int .i64 0, .int .i64 0, .int .i64 0, .int .i64 0, .int .i64 0, .int .i64 0, .int .i64 0, .int .i64 0, .int .i64 0, .int .i64 0, .int .i64 0, .slice none 0 0] 39 :: pt p [.int .i64 0, .int .i64 0, .int .i64 0, .int .i64 0, .int .i64 0, .int .i64 0, .int .i64 0, .int .i64 0, .int .i64 0, .int .i64 0, .int .i64 0, .int .i64 0, .int .i64 0, .int .i64 0, .int .i64 0, .int .i64 0, .int .i64 0, .int .i64 0, .slice none 0 0] 39 :: row (some ⟨r, 0, none⟩) (spl1 10 l).length 9 sgC ((aftL 10 (spl1 10 l)).map bq) :: R) ∨ (1 ≤ j ∧ ∃ (L1 : List AC) (nn c1 : Nat) (A1 : Option Addr), nn = L1.length ∧ nn + 1 = j ∧ rdScr j ⟨[n0, n1, n2, n3, n4, n5, n6, n7, n8, n9, n10, n11, n12, n13, n14, n15, n16, n17], L1⟩ ((spl1 10 l).drop j) = (⟨[n0, n1, n2, n3, n4, n5, n6, n7, n8, n9, n10, n11, n12, n13, n14, n15, n16, n17], L⟩, 0, 0) ∧ C' = pt q [.int .i64 0, .int .i64 0, .int .i64 0, .int .i64 0, .int .i64 0, .int .i64 0, .int .i64 0, .int .i64 0, .int .i64 0, .int .i64 0, .int .i64 0, .int .i64 0, .int .i64 0, .int .i64 0, .int .i64 0, .int .i64 0, .int .i64 0, .int .i64 0, .slice none 0 0] 39 :: pt p [.int .i64 n0, .int .i64 n1, .int .i64 n2, .int .i64 n3, .int .i64 n4, .int .i64 n5, .int .i64 n6, .int .i64 n7, .int .i64 n8, .int .i64 n9, .int .i64 n10, .int .i64 n11, .int .i64 n12, .int .i64 n13, .int .i64 n14, .int .i64 n15, .int .i64 n16, .int .i64 n17, .slice A1 nn c1] 39 :: row A1 c1 28 acC31 L1 :: row (some ⟨r, 0, none⟩) (spl1 10 l).length 9 sgC ((aftL 10 (spl1 10 l)).map bq) :: R)) ∧ Agree f [(2, .pointer (some ⟨q, 0, none⟩)), (5, .slice (some ⟨r, 0, none⟩) (spl1 10 l).length (spl1 10 l).length), (6, .pointer (some ⟨p, 0, none⟩)), (21, .slice (some ⟨r, 0, none⟩) (spl1 10 l).length (spl1 10 l).length), (22, .int .i64 (spl1 10 l).length), (23, .int .i64 j)]) (spl1 10 l).length (turn (spl1 10 l).length ⟨0, by omega, hpos, .inl ⟨rfl, rfl⟩, rfl, rfl, rfl, rfl, rfl, rfl, trivial⟩) ?_
  rintro nk f C' ⟨j, hj, hjl, hC, hA⟩
  skip
  · obtain ⟨x, hx⟩ : ∃ x, (spl1 10 l)[j]? = some x := ⟨_, List.getElem?_eq_getElem hjl⟩
    have hxm : x.length ≤ 1000000 := hmem x (List.mem_of_getElem? hx)
    have hx10 := spl_no10 hx
    have hat := aft_at (c := 10) hx
    have hxb := bq_size x
    rcases hC with ⟨rfl, rfl⟩ | ⟨hj1, L1, nn, c1, A1, hn1, hnj, hrd, rfl⟩
    · refine c_fr _ hA ?_
      simp only [updL]
      by_cases hlast : 0 + 1 = (spl1 10 l).length
      · rw [rd_at_last hx hlast, if_neg (by omega)] at hfd
        cases hfd
      · rw [rd_at_next hx (by omega), if_neg (by omega), if_pos rfl] at hfd
        rw [if_neg hlast] at hat
        have x2 : ((aftL 10 (spl1 10 l)).map bq)[((0 : Nat) : Int).toNat]? = some (bq (x ++ [10])) := map_at hat
        cases hh : rdHd x with
        | none =>
          rw [hh] at hfd
          cases hfd
        | some ns =>
          rw [hh] at hfd
          have h18 := (rdHd_some.1 hh).1.1
          obtain ⟨k0, k1, k2, k3, k4, k5, k6, k7, k8, k9, k10, k11, k12, k13, k14, k15, k16, k17, rfl⟩ := l18 h18
          have hns : [k0, k1, k2, k3, k4, k5, k6, k7, k8, k9, k10, k11, k12, k13, k14, k15, k16, k17] = [n0, n1, n2, n3, n4, n5, n6, n7, n8, n9, n10, n11, n12, n13, n14, n15, n16, n17] := (rdScr_ns hfd).symm
          cases hns
          repeat' (first
            | (show evG _ _ _ _ _ _ _; first | refine G_add64 ?_ | refine G_sub64 ?_ | refine G_pure0 ?_ | refine G_load ?_ | refine evG_nil ?_ | refine G_br ?_ ?_ | refine G_field ?_ | refine G_pure ?_ | refine G_store ?_ | refine G_loadV ?_ | refine G_loadV0 ?_ | refine G_loadV2 ?_ | (refine G_append ?_; intro _ _) | (refine G_appendN ?_; intro _ _) | refine G_not ?_ | refine G_index ?_ | refine G_indexA ?_ | refine G_build ?_ | refine G_cat ?_ | refine G_eql_agg ?_ | refine G_call ?_ | refine G_call0 ?_ | (refine G_alloc ?_; intro _) | (refine G_buildSlice ?_; intro _) | (refine G_indexV ?_; intro _ _ hA; subst hA) | refine G_skip ?_ | refine G_skip0 ?_)
            | (show spl _ _ _; first | refine spl_no rfl ?_ | refine spl_yes rfl ?_)
            | (show evC _ _ _ _ _; first | refine c_seq ?_ | refine c_region (by exact rfl) ?_ | refine c_cond (by exact rfl) ?_ | refine c_ret ?_ | refine c_skip ?_ | refine c_block ?_ | refine c_exit ?_ | refine std ?_)
            | (show Br _ _ _; first | refine Br.t rfl ?_ | refine Br.f rfl ?_ | refine brs ?_ | (first | refine Br.mkN (fun h => ?_) (fun h => ?_) | refine Br.mk (fun h => ?_) (fun h => ?_)) <;> (try (first | contradiction | (exfalso; omega) | (exfalso; simp at h; done))))
            | refine stp ?_
            | (show CallT _ 31 _ _ _; refine CA (h := cutsufY_ok (l := x) (by omega) ?_))
            | (show CallT _ 32 _ _ _; refine CA (h := headY_ok hxm hh ?_)))
          all_goals first
            | (show TurnG _ _ _ _; exact turn (nk - 1) ⟨1, by omega, by omega, .inr ⟨by omega, [], 0, 0, none, rfl, rfl, hfd, rfl⟩, rfl, rfl, rfl, rfl, rfl, rfl, trivial⟩)
            | (exfalso; omega)
    · refine c_fr _ hA ?_
      simp only [updL]
      have hjI : (1 : Int) ≤ j := by omega
      by_cases hlast : j + 1 = (spl1 10 l).length
      · rw [rd_at_last hx hlast] at hrd
        rw [if_pos hlast] at hat
        have x2 : ((aftL 10 (spl1 10 l)).map bq)[((j : Nat) : Int).toNat]? = some (bq x) := map_at hat
        by_cases hx0 : x = []
        · rw [if_pos ⟨hx0, by omega⟩] at hrd
          subst hx0
          cases hrd
          subst hn1
          have he : ((bq ([] : List UInt8)).toList == (⟨#[]⟩ : ByteArray).toList) = true := beq_self_eq_true _
          repeat' (first
            | (show evG _ _ _ _ _ _ _; first | refine G_add64 ?_ | refine G_sub64 ?_ | refine G_pure0 ?_ | refine G_load ?_ | refine evG_nil ?_ | refine G_br ?_ ?_ | refine G_field ?_ | refine G_pure ?_ | refine G_store ?_ | refine G_loadV ?_ | refine G_loadV0 ?_ | refine G_loadV2 ?_ | (refine G_append ?_; intro _ _) | (refine G_appendN ?_; intro _ _) | refine G_not ?_ | refine G_index ?_ | refine G_indexA ?_ | refine G_build ?_ | refine G_cat ?_ | refine G_eql_agg ?_ | refine G_call ?_ | refine G_call0 ?_ | (refine G_alloc ?_; intro _) | (refine G_buildSlice ?_; intro _) | (refine G_indexV ?_; intro _ _ hA; subst hA) | refine G_skip ?_ | refine G_skip0 ?_)
            | (show spl _ _ _; first | refine spl_no rfl ?_ | refine spl_yes rfl ?_)
            | (show evC _ _ _ _ _; first | refine c_seq ?_ | refine c_region (by exact rfl) ?_ | refine c_cond (by exact rfl) ?_ | refine c_ret ?_ | refine c_skip ?_ | refine c_block ?_ | refine c_exit ?_ | refine std ?_)
            | (show Br _ _ _; first | refine Br.t rfl ?_ | refine Br.f rfl ?_ | refine brs ?_ | (first | refine Br.mkN (fun h => ?_) (fun h => ?_) | refine Br.mk (fun h => ?_) (fun h => ?_)) <;> (try (first | contradiction | (exfalso; omega) | (exfalso; simp at h; done))))
            | refine stp ?_
            | (show CallT _ 31 _ _ _; refine CA (h := cutsufN_ok (l := []) (by decide) hx10 ?_)))
          all_goals first
            | (show retC _ _ _ _ _ _; refine RETC ?_; exact ret_done (hK _ _))
            | (exfalso; omega)
        · rw [if_neg (fun hc => hx0 hc.1)] at hrd
          cases hrd
      · rw [rd_at_next hx (by omega)] at hrd
        rw [if_neg hlast] at hat
        have x2 : ((aftL 10 (spl1 10 l)).map bq)[((j : Nat) : Int).toNat]? = some (bq (x ++ [10])) := map_at hat
        by_cases h512 : 512 < j
        · rw [if_pos h512] at hrd
          cases hrd
        · rw [if_neg h512, if_neg (by omega)] at hrd
          cases hh : prs x with
          | none =>
            rw [hh] at hrd
            cases hrd
          | some a =>
            rw [hh] at hrd
            have hns := hn1.symm
            repeat' (first
              | (show evG _ _ _ _ _ _ _; (refine G_appendU ?_; intro _ _))
              | (show evG _ _ _ _ _ _ _; first | refine G_add64 ?_ | refine G_sub64 ?_ | refine G_pure0 ?_ | refine G_load ?_ | refine evG_nil ?_ | refine G_br ?_ ?_ | refine G_field ?_ | refine G_pure ?_ | refine G_store ?_ | refine G_loadV ?_ | refine G_loadV0 ?_ | refine G_loadV2 ?_ | (refine G_append ?_; intro _ _) | (refine G_appendN ?_; intro _ _) | refine G_not ?_ | refine G_index ?_ | refine G_indexA ?_ | refine G_build ?_ | refine G_cat ?_ | refine G_eql_agg ?_ | refine G_call ?_ | refine G_call0 ?_ | (refine G_alloc ?_; intro _) | (refine G_buildSlice ?_; intro _) | (refine G_indexV ?_; intro _ _ hA; subst hA) | refine G_skip ?_ | refine G_skip0 ?_)
              | (show spl _ _ _; first | refine spl_no rfl ?_ | refine spl_yes rfl ?_)
              | (show evC _ _ _ _ _; first | refine c_seq ?_ | refine c_region (by exact rfl) ?_ | refine c_cond (by exact rfl) ?_ | refine c_ret ?_ | refine c_skip ?_ | refine c_block ?_ | refine c_exit ?_ | refine std ?_)
              | (show Br _ _ _; first | refine Br.t rfl ?_ | refine Br.f rfl ?_ | refine brs ?_ | (first | refine Br.mkN (fun h => ?_) (fun h => ?_) | refine Br.mk (fun h => ?_) (fun h => ?_)) <;> (try (first | contradiction | (exfalso; omega) | (exfalso; simp at h; done))))
              | refine stp ?_
              | (show CallT _ 31 _ _ _; refine CA (h := cutsufY_ok (l := x) (by omega) ?_))
              | (show CallT _ 10 _ _ _; refine CA (h := parseY_ok hxm hh ?_)))
            all_goals first
              | (show TurnG _ _ _ _; exact turn (nk - 1) ⟨j + 1, by omega, by omega, .inr ⟨by omega, L1 ++ [a], _, _, _, rfl, (by simp; omega), hrd, rfl⟩, rfl, rfl, rfl, rfl, rfl, rfl, trivial⟩)
              | (exfalso; omega)
end Go.Proofs.YtiofdmjecjcdbaaGreatDoor


namespace Go.Proofs.YtiofdmjecjcdbaaGreatDoor
open Go Go.Proofs Go.Sl
set_option maxRecDepth 100000
set_option maxHeartbeats 4000000
set_option linter.unusedSimpArgs false
set_option linter.unusedVariables false
attribute [local irreducible] evG evC spl thenC inBlockC noGotoC CallT retC RetG TurnG CutG pt ro exP star sep pureP
variable {R C : List HP} {K : Value → List HP → Prop}
set_option maxHeartbeats 8000000 in
theorem readSN_ok {l : List UInt8} {k0 : Nat} {e0 : Int} (hs0 : l.length ≤ 1000000) (h : rdScr 0 PL0 (spl1 10 l) = (PL0, k0, e0)) (he0 : e0 ≠ 0) (hK : K (.tuple #[.agg #[.int .i64 0, .int .i64 0, .int .i64 0, .int .i64 0, .int .i64 0, .int .i64 0, .int .i64 0, .int .i64 0, .int .i64 0, .int .i64 0, .int .i64 0, .int .i64 0, .int .i64 0, .int .i64 0, .int .i64 0, .int .i64 0, .int .i64 0, .int .i64 0, .slice none 0 0], .int .i64 k0, .int .i64 e0]) R) : CallT Tryz.prog 12 #[.string (bq l)] R K := by
  have hsz : (bq l).size ≤ 1100000 := by rw [bq_size]; omega
  have hszI : ((bq l).size : Int) ≤ 1000000 := by rw [bq_size]; omega
  have hdl : (bq l).data.toList = l := data_bq l
  have hmem : ∀ p ∈ spl1 10 l, p.length ≤ 1000000 := fun p hp => Nat.le_trans (spl1_mem hp) hs0
  have hple := spl1_le (c := 10) l
  have hpos : 0 < (spl1 10 l).length := List.length_pos_iff.2 (spl1_ne 10 l)
  have hpI : (((spl1 10 l).length : Nat) : Int) ≤ 1000001 := by omega
  have hal : ((aftL 10 (spl1 10 l)).map bq).length = (spl1 10 l).length := by simp [aftL_len]
  have hfd : rdScr 0 PL0 ((spl1 10 l).drop 0) = (PL0, k0, e0) := h
  clear hs0 hple h
  refine callT_intro mixed Tryz.func12 rfl (by decide) (by decide +kernel) (by exact Nat.le_of_ble_eq_true rfl) ?_
  repeat' (first
    | (show evG _ _ _ _ _ _ _; first | refine G_add64 ?_ | refine G_sub64 ?_ | refine G_pure0 ?_ | refine G_load ?_ | refine evG_nil ?_ | refine G_br ?_ ?_ | refine G_field ?_ | refine G_pure ?_ | refine G_store ?_ | refine G_loadV ?_ | refine G_loadV0 ?_ | refine G_loadV2 ?_ | (refine G_append ?_; intro _ _) | (refine G_appendN ?_; intro _ _) | refine G_not ?_ | refine G_index ?_ | refine G_indexA ?_ | refine G_build ?_ | refine G_cat ?_ | refine G_eql_agg ?_ | refine G_call ?_ | refine G_call0 ?_ | (refine G_alloc ?_; intro _) | (refine G_buildSlice ?_; intro _) | (refine G_indexV ?_; intro _ _ hA; subst hA) | refine G_skip ?_ | refine G_skip0 ?_)
    | (show spl _ _ _; first | refine spl_no rfl ?_ | refine spl_yes rfl ?_)
    | (show evC _ _ _ _ _; first | refine c_seq ?_ | refine c_region (by exact rfl) ?_ | refine c_cond (by exact rfl) ?_ | refine c_ret ?_ | refine c_skip ?_ | refine c_block ?_ | refine c_exit ?_ | refine std ?_)
    | (show Br _ _ _; first | refine Br.t rfl ?_ | refine Br.f rfl ?_ | refine brs ?_ | (first | refine Br.mkN (fun h => ?_) (fun h => ?_) | refine Br.mk (fun h => ?_) (fun h => ?_)) <;> (try (first | contradiction | (exfalso; omega) | (exfalso; simp at h; done))))
    | refine stp ?_
    | (show CallT _ 30 _ _ _; refine CA (h := splita_ok hsz (fun r => ?_)); rw [hdl]))
  all_goals first | (exfalso; omega) | skip
  rename_i q p
  refine LOOP (fun m f C' => ∃ j : Nat, j + m = (spl1 10 l).length ∧ j < (spl1 10 l).length ∧ ((j = 0 ∧ C' = pt q [.int .i64 0, .int .i64 0, .int .i64 0, .int .i64 0, .int .i64 0, .int .i64 0, .int .i64 0, .int .i64 0, .int .i64 0, .int .i64 0, .int .i64 0, .int .i64 0, .int .i64 0, .int .i64 0, .int .i64 0, .int .i64 0, .int .i64 0, .int .i64 0, .slice none 0 0] 39 :: pt p [.int .i64 0, .int .i64 0, .int .i64 0, .int .i64 0, .int .i64 0, .int .i64 0, .int .i64 0, .int .i64 0, .int .i64 0, .int .i64 0, .int .i64 0, .int .i64 0, .int .i64 0, .int .i64 0, .int .i64 0, .int .i64 0, .int .i64 0, .int .i64 0, .slice none 0 0] 39 :: row (some ⟨r, 0, none⟩) (spl1 10 l).length 9 sgC ((aftL 10 (spl1 10 l)).map bq) :: R) ∨ (1 ≤ j ∧ ∃ (m0 m1 m2 m3 m4 m5 m6 m7 m8 m9 m10 m11 m12 m13 m14 m15 m16 m17 : Int) (L1 : List AC) (nn c1 : Nat) (A1 : Option Addr), nn = L1.length ∧ nn + 1 = j ∧ rdScr j ⟨[m0, m1, m2, m3, m4, m5, m6, m7, m8, m9, m10, m11, m12, m13, m14, m15, m16, m17], L1⟩ ((spl1 10 l).drop j) = (PL0, k0, e0) ∧ C' = pt q [.int .i64 0, .int .i64 0, .int .i64 0, .int .i64 0, .int .i64 0, .int .i64 0, .int .i64 0, .int .i64 0, .int .i64 0, .int .i64 0, .int .i64 0, .int .i64 0, .int .i64 0, .int .i64 0, .int .i64 0, .int .i64 0, .int .i64 0, .int .i64 0, .slice none 0 0] 39 :: pt p [.int .i64 m0, .int .i64 m1, .int .i64 m2, .int .i64 m3, .int .i64 m4, .int .i64 m5, .int .i64 m6, .int .i64 m7, .int .i64 m8, .int .i64 m9, .int .i64 m10, .int .i64 m11, .int .i64 m12, .int .i64 m13, .int .i64 m14, .int .i64 m15, .int .i64 m16, .int .i64 m17, .slice A1 nn c1] 39 :: row A1 c1 28 acC31 L1 :: row (some ⟨r, 0, none⟩) (spl1 10 l).length 9 sgC ((aftL 10 (spl1 10 l)).map bq) :: R)) ∧ Agree f [(2, .pointer (some ⟨q, 0, none⟩)), (5, .slice (some ⟨r, 0, none⟩) (spl1 10 l).length (spl1 10 l).length), (6, .pointer (some ⟨p, 0, none⟩)), (21, .slice (some ⟨r, 0, none⟩) (spl1 10 l).length (spl1 10 l).length), (22, .int .i64 (spl1 10 l).length), (23, .int .i64 j)]) (spl1 10 l).length (turn (spl1 10 l).length ⟨0, by omega, hpos, .inl ⟨rfl, rfl⟩, rfl, rfl, rfl, rfl, rfl, rfl, trivial⟩) ?_
  rintro nk f C' ⟨j, hj, hjl, hC, hA⟩
  skip
  · obtain ⟨x, hx⟩ : ∃ x, (spl1 10 l)[j]? = some x := ⟨_, List.getElem?_eq_getElem hjl⟩
    have hxm : x.length ≤ 1000000 := hmem x (List.mem_of_getElem? hx)
    have hx10 := spl_no10 hx
    have hat := aft_at (c := 10) hx
    have hxb := bq_size x
    rcases hC with ⟨rfl, rfl⟩ | ⟨hj1, m0, m1, m2, m3, m4, m5, m6, m7, m8, m9, m10, m11, m12, m13, m14, m15, m16, m17, L1, nn, c1, A1, hn1, hnj, hrd, rfl⟩
    · refine c_fr _ hA ?_
      simp only [updL]
      by_cases hlast : 0 + 1 = (spl1 10 l).length
      · rw [rd_at_last hx hlast, if_neg (by omega)] at hfd
        cases hfd
        rw [if_pos hlast] at hat
        have x2 : ((aftL 10 (spl1 10 l)).map bq)[((0 : Nat) : Int).toNat]? = some (bq x) := map_at hat
        repeat' (first
          | (show evG _ _ _ _ _ _ _; first | refine G_add64 ?_ | refine G_sub64 ?_ | refine G_pure0 ?_ | refine G_load ?_ | refine evG_nil ?_ | refine G_br ?_ ?_ | refine G_field ?_ | refine G_pure ?_ | refine G_store ?_ | refine G_loadV ?_ | refine G_loadV0 ?_ | refine G_loadV2 ?_ | (refine G_append ?_; intro _ _) | (refine G_appendN ?_; intro _ _) | refine G_not ?_ | refine G_index ?_ | refine G_indexA ?_ | refine G_build ?_ | refine G_cat ?_ | refine G_eql_agg ?_ | refine G_call ?_ | refine G_call0 ?_ | (refine G_alloc ?_; intro _) | (refine G_buildSlice ?_; intro _) | (refine G_indexV ?_; intro _ _ hA; subst hA) | refine G_skip ?_ | refine G_skip0 ?_)
          | (show spl _ _ _; first | refine spl_no rfl ?_ | refine spl_yes rfl ?_)
          | (show evC _ _ _ _ _; first | refine c_seq ?_ | refine c_region (by exact rfl) ?_ | refine c_cond (by exact rfl) ?_ | refine c_ret ?_ | refine c_skip ?_ | refine c_block ?_ | refine c_exit ?_ | refine std ?_)
          | (show Br _ _ _; first | refine Br.t rfl ?_ | refine Br.f rfl ?_ | refine brs ?_ | (first | refine Br.mkN (fun h => ?_) (fun h => ?_) | refine Br.mk (fun h => ?_) (fun h => ?_)) <;> (try (first | contradiction | (exfalso; omega) | (exfalso; simp at h; done))))
          | refine stp ?_
          | (show CallT _ 31 _ _ _; refine CA (h := cutsufN_ok (l := x) (by omega) hx10 ?_)))
        all_goals first
          | (show retC _ _ _ _ _ _; refine RETC ?_; exact ret_done (hK))
          | (exfalso; omega)
      · rw [rd_at_next hx (by omega), if_neg (by omega), if_pos rfl] at hfd
        rw [if_neg hlast] at hat
        have x2 : ((aftL 10 (spl1 10 l)).map bq)[((0 : Nat) : Int).toNat]? = some (bq (x ++ [10])) := map_at hat
        cases hh : rdHd x with
        | none =>
          rw [hh] at hfd
          cases hfd
          repeat' (first
            | (show evG _ _ _ _ _ _ _; first | refine G_add64 ?_ | refine G_sub64 ?_ | refine G_pure0 ?_ | refine G_load ?_ | refine evG_nil ?_ | refine G_br ?_ ?_ | refine G_field ?_ | refine G_pure ?_ | refine G_store ?_ | refine G_loadV ?_ | refine G_loadV0 ?_ | refine G_loadV2 ?_ | (refine G_append ?_; intro _ _) | (refine G_appendN ?_; intro _ _) | refine G_not ?_ | refine G_index ?_ | refine G_indexA ?_ | refine G_build ?_ | refine G_cat ?_ | refine G_eql_agg ?_ | refine G_call ?_ | refine G_call0 ?_ | (refine G_alloc ?_; intro _) | (refine G_buildSlice ?_; intro _) | (refine G_indexV ?_; intro _ _ hA; subst hA) | refine G_skip ?_ | refine G_skip0 ?_)
            | (show spl _ _ _; first | refine spl_no rfl ?_ | refine spl_yes rfl ?_)
            | (show evC _ _ _ _ _; first | refine c_seq ?_ | refine c_region (by exact rfl) ?_ | refine c_cond (by exact rfl) ?_ | refine c_ret ?_ | refine c_skip ?_ | refine c_block ?_ | refine c_exit ?_ | refine std ?_)
            | (show Br _ _ _; first | refine Br.t rfl ?_ | refine Br.f rfl ?_ | refine brs ?_ | (first | refine Br.mkN (fun h => ?_) (fun h => ?_) | refine Br.mk (fun h => ?_) (fun h => ?_)) <;> (try (first | contradiction | (exfalso; omega) | (exfalso; simp at h; done))))
            | refine stp ?_
            | (show CallT _ 31 _ _ _; refine CA (h := cutsufY_ok (l := x) (by omega) ?_))
            | (show CallT _ 32 _ _ _; refine CA (h := headN_ok hxm hh ?_)))
          all_goals first
            | (show retC _ _ _ _ _ _; refine RETC ?_; exact ret_done (hK))
            | (exfalso; omega)
        | some ns =>
          rw [hh] at hfd
          have h18 := (rdHd_some.1 hh).1.1
          obtain ⟨k0, k1, k2, k3, k4, k5, k6, k7, k8, k9, k10, k11, k12, k13, k14, k15, k16, k17, rfl⟩ := l18 h18
          repeat' (first
            | (show evG _ _ _ _ _ _ _; first | refine G_add64 ?_ | refine G_sub64 ?_ | refine G_pure0 ?_ | refine G_load ?_ | refine evG_nil ?_ | refine G_br ?_ ?_ | refine G_field ?_ | refine G_pure ?_ | refine G_store ?_ | refine G_loadV ?_ | refine G_loadV0 ?_ | refine G_loadV2 ?_ | (refine G_append ?_; intro _ _) | (refine G_appendN ?_; intro _ _) | refine G_not ?_ | refine G_index ?_ | refine G_indexA ?_ | refine G_build ?_ | refine G_cat ?_ | refine G_eql_agg ?_ | refine G_call ?_ | refine G_call0 ?_ | (refine G_alloc ?_; intro _) | (refine G_buildSlice ?_; intro _) | (refine G_indexV ?_; intro _ _ hA; subst hA) | refine G_skip ?_ | refine G_skip0 ?_)
            | (show spl _ _ _; first | refine spl_no rfl ?_ | refine spl_yes rfl ?_)
            | (show evC _ _ _ _ _; first | refine c_seq ?_ | refine c_region (by exact rfl) ?_ | refine c_cond (by exact rfl) ?_ | refine c_ret ?_ | refine c_skip ?_ | refine c_block ?_ | refine c_exit ?_ | refine std ?_)
            | (show Br _ _ _; first | refine Br.t rfl ?_ | refine Br.f rfl ?_ | refine brs ?_ | (first | refine Br.mkN (fun h => ?_) (fun h => ?_) | refine Br.mk (fun h => ?_) (fun h => ?_)) <;> (try (first | contradiction | (exfalso; omega) | (exfalso; simp at h; done))))
            | refine stp ?_
            | (show CallT _ 31 _ _ _; refine CA (h := cutsufY_ok (l := x) (by omega) ?_))
            | (show CallT _ 32 _ _ _; refine CA (h := headY_ok hxm hh ?_)))
          all_goals first
            | (show TurnG _ _ _ _; exact turn (nk - 1) ⟨1, by omega, by omega, .inr ⟨by omega, _, _, _, _, _, _, _, _, _, _, _, _, _, _, _, _, _, _, [], 0, 0, none, rfl, rfl, hfd, rfl⟩, rfl, rfl, rfl, rfl, rfl, rfl, trivial⟩)
            | (exfalso; omega)
    · refine c_fr _ hA ?_
      simp only [updL]
      have hjI : (1 : Int) ≤ j := by omega
      by_cases hlast : j + 1 = (spl1 10 l).length
      · rw [rd_at_last hx hlast] at hrd
        rw [if_pos hlast] at hat
        have x2 : ((aftL 10 (spl1 10 l)).map bq)[((j : Nat) : Int).toNat]? = some (bq x) := map_at hat
        by_cases hx0 : x = []
        · rw [if_pos ⟨hx0, by omega⟩] at hrd
          subst hx0
          exact absurd (congrArg (fun z => z.2.2) hrd).symm he0
        · rw [if_neg (fun hc => hx0 hc.1)] at hrd
          have hrd2 := hrd
          cases hrd2
          have he : ((bq x).toList == (⟨#[]⟩ : ByteArray).toList) = false := by
            rw [show (⟨#[]⟩ : ByteArray) = bq [] from rfl, bq_beq]
            exact decide_eq_false hx0
          repeat' (first
            | (show evG _ _ _ _ _ _ _; first | refine G_add64 ?_ | refine G_sub64 ?_ | refine G_pure0 ?_ | refine G_load ?_ | refine evG_nil ?_ | refine G_br ?_ ?_ | refine G_field ?_ | refine G_pure ?_ | refine G_store ?_ | refine G_loadV ?_ | refine G_loadV0 ?_ | refine G_loadV2 ?_ | (refine G_append ?_; intro _ _) | (refine G_appendN ?_; intro _ _) | refine G_not ?_ | refine G_index ?_ | refine G_indexA ?_ | refine G_build ?_ | refine G_cat ?_ | refine G_eql_agg ?_ | refine G_call ?_ | refine G_call0 ?_ | (refine G_alloc ?_; intro _) | (refine G_buildSlice ?_; intro _) | (refine G_indexV ?_; intro _ _ hA; subst hA) | refine G_skip ?_ | refine G_skip0 ?_)
            | (show spl _ _ _; first | refine spl_no rfl ?_ | refine spl_yes rfl ?_)
            | (show evC _ _ _ _ _; first | refine c_seq ?_ | refine c_region (by exact rfl) ?_ | refine c_cond (by exact rfl) ?_ | refine c_ret ?_ | refine c_skip ?_ | refine c_block ?_ | refine c_exit ?_ | refine std ?_)
            | (show Br _ _ _; first | refine Br.t rfl ?_ | refine Br.f rfl ?_ | refine brs ?_ | (first | refine Br.mkN (fun h => ?_) (fun h => ?_) | refine Br.mk (fun h => ?_) (fun h => ?_)) <;> (try (first | contradiction | (exfalso; omega) | (exfalso; simp at h; done))))
            | refine stp ?_
            | (show CallT _ 31 _ _ _; refine CA (h := cutsufN_ok (l := x) (by omega) hx10 ?_)))
          all_goals first
            | (show retC _ _ _ _ _ _; refine RETC ?_; exact ret_done (hK))
            | (exfalso; omega)
      · rw [rd_at_next hx (by omega)] at hrd
        rw [if_neg hlast] at hat
        have x2 : ((aftL 10 (spl1 10 l)).map bq)[((j : Nat) : Int).toNat]? = some (bq (x ++ [10])) := map_at hat
        by_cases h512 : 512 < j
        · rw [if_pos h512] at hrd
          cases hrd
          repeat' (first
            | (show evG _ _ _ _ _ _ _; first | refine G_add64 ?_ | refine G_sub64 ?_ | refine G_pure0 ?_ | refine G_load ?_ | refine evG_nil ?_ | refine G_br ?_ ?_ | refine G_field ?_ | refine G_pure ?_ | refine G_store ?_ | refine G_loadV ?_ | refine G_loadV0 ?_ | refine G_loadV2 ?_ | (refine G_append ?_; intro _ _) | (refine G_appendN ?_; intro _ _) | refine G_not ?_ | refine G_index ?_ | refine G_indexA ?_ | refine G_build ?_ | refine G_cat ?_ | refine G_eql_agg ?_ | refine G_call ?_ | refine G_call0 ?_ | (refine G_alloc ?_; intro _) | (refine G_buildSlice ?_; intro _) | (refine G_indexV ?_; intro _ _ hA; subst hA) | refine G_skip ?_ | refine G_skip0 ?_)
            | (show spl _ _ _; first | refine spl_no rfl ?_ | refine spl_yes rfl ?_)
            | (show evC _ _ _ _ _; first | refine c_seq ?_ | refine c_region (by exact rfl) ?_ | refine c_cond (by exact rfl) ?_ | refine c_ret ?_ | refine c_skip ?_ | refine c_block ?_ | refine c_exit ?_ | refine std ?_)
            | (show Br _ _ _; first | refine Br.t rfl ?_ | refine Br.f rfl ?_ | refine brs ?_ | (first | refine Br.mkN (fun h => ?_) (fun h => ?_) | refine Br.mk (fun h => ?_) (fun h => ?_)) <;> (try (first | contradiction | (exfalso; omega) | (exfalso; simp at h; done))))
            | refine stp ?_
            | (show CallT _ 31 _ _ _; refine CA (h := cutsufY_ok (l := x) (by omega) ?_)))
          all_goals first
            | (show retC _ _ _ _ _ _; refine RETC ?_; exact ret_done (hK))
            | (exfalso; omega)
        · rw [if_neg h512, if_neg (by omega)] at hrd
          cases hh : prs x with
          | none =>
            rw [hh] at hrd
            cases hrd
            repeat' (first
              | (show evG _ _ _ _ _ _ _; (refine G_appendU ?_; intro _ _))
              | (show evG _ _ _ _ _ _ _; first | refine G_add64 ?_ | refine G_sub64 ?_ | refine G_pure0 ?_ | refine G_load ?_ | refine evG_nil ?_ | refine G_br ?_ ?_ | refine G_field ?_ | refine G_pure ?_ | refine G_store ?_ | refine G_loadV ?_ | refine G_loadV0 ?_ | refine G_loadV2 ?_ | (refine G_append ?_; intro _ _) | (refine G_appendN ?_; intro _ _) | refine G_not ?_ | refine G_index ?_ | refine G_indexA ?_ | refine G_build ?_ | refine G_cat ?_ | refine G_eql_agg ?_ | refine G_call ?_ | refine G_call0 ?_ | (refine G_alloc ?_; intro _) | (refine G_buildSlice ?_; intro _) | (refine G_indexV ?_; intro _ _ hA; subst hA) | refine G_skip ?_ | refine G_skip0 ?_)
              | (show spl _ _ _; first | refine spl_no rfl ?_ | refine spl_yes rfl ?_)
              | (show evC _ _ _ _ _; first | refine c_seq ?_ | refine c_region (by exact rfl) ?_ | refine c_cond (by exact rfl) ?_ | refine c_ret ?_ | refine c_skip ?_ | refine c_block ?_ | refine c_exit ?_ | refine std ?_)
              | (show Br _ _ _; first | refine Br.t rfl ?_ | refine Br.f rfl ?_ | refine brs ?_ | (first | refine Br.mkN (fun h => ?_) (fun h => ?_) | refine Br.mk (fun h => ?_) (fun h => ?_)) <;> (try (first | contradiction | (exfalso; omega) | (exfalso; simp at h; done))))
              | refine stp ?_
              | (show CallT _ 31 _ _ _; refine CA (h := cutsufY_ok (l := x) (by omega) ?_))
              | (show CallT _ 10 _ _ _; refine CA (h := parseN_ok hxm hh ?_)))
            all_goals first
              | (show retC _ _ _ _ _ _; refine RETC ?_; exact ret_done (hK))
              | (exfalso; omega)
          | some a =>
            rw [hh] at hrd
            have hns := hn1.symm
            repeat' (first
              | (show evG _ _ _ _ _ _ _; (refine G_appendU ?_; intro _ _))
              | (show evG _ _ _ _ _ _ _; first | refine G_add64 ?_ | refine G_sub64 ?_ | refine G_pure0 ?_ | refine G_load ?_ | refine evG_nil ?_ | refine G_br ?_ ?_ | refine G_field ?_ | refine G_pure ?_ | refine G_store ?_ | refine G_loadV ?_ | refine G_loadV0 ?_ | refine G_loadV2 ?_ | (refine G_append ?_; intro _ _) | (refine G_appendN ?_; intro _ _) | refine G_not ?_ | refine G_index ?_ | refine G_indexA ?_ | refine G_build ?_ | refine G_cat ?_ | refine G_eql_agg ?_ | refine G_call ?_ | refine G_call0 ?_ | (refine G_alloc ?_; intro _) | (refine G_buildSlice ?_; intro _) | (refine G_indexV ?_; intro _ _ hA; subst hA) | refine G_skip ?_ | refine G_skip0 ?_)
              | (show spl _ _ _; first | refine spl_no rfl ?_ | refine spl_yes rfl ?_)
              | (show evC _ _ _ _ _; first | refine c_seq ?_ | refine c_region (by exact rfl) ?_ | refine c_cond (by exact rfl) ?_ | refine c_ret ?_ | refine c_skip ?_ | refine c_block ?_ | refine c_exit ?_ | refine std ?_)
              | (show Br _ _ _; first | refine Br.t rfl ?_ | refine Br.f rfl ?_ | refine brs ?_ | (first | refine Br.mkN (fun h => ?_) (fun h => ?_) | refine Br.mk (fun h => ?_) (fun h => ?_)) <;> (try (first | contradiction | (exfalso; omega) | (exfalso; simp at h; done))))
              | refine stp ?_
              | (show CallT _ 31 _ _ _; refine CA (h := cutsufY_ok (l := x) (by omega) ?_))
              | (show CallT _ 10 _ _ _; refine CA (h := parseY_ok hxm hh ?_)))
            all_goals first
              | (show TurnG _ _ _ _; exact turn (nk - 1) ⟨j + 1, by omega, by omega, .inr ⟨by omega, m0, m1, m2, m3, m4, m5, m6, m7, m8, m9, m10, m11, m12, m13, m14, m15, m16, m17, L1 ++ [a], _, _, _, rfl, (by simp; omega), hrd, rfl⟩, rfl, rfl, rfl, rfl, rfl, rfl, trivial⟩)
              | (exfalso; omega)
end Go.Proofs.YtiofdmjecjcdbaaGreatDoor

