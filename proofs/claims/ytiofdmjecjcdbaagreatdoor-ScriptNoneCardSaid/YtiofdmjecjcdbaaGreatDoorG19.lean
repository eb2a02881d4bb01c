/- Script: the first line, read: lemmas; each with the conditions that it states. -/
import Derived.Test.YtiofdmjecjcdbaaGreatDoorFh
import Derived.Test.YtiofdmjecjcdbaaGreatDoorG9

namespace Go.Proofs.YtiofdmjecjcdbaaGreatDoor
open Go Go.Proofs Go.Sl
set_option maxRecDepth 100000
set_option maxHeartbeats 4000000
set_option linter.unusedSimpArgs false
set_option linter.unusedVariables false
attribute [local irreducible] evG evC spl thenC inBlockC noGotoC CallT retC RetG TurnG CutG pt ro exP star sep pureP
variable {R C : List HP} {K : Value → List HP → Prop}
def inD31 : List Value → Option Int
  | [.int .i64 n] => some n
  | _ => none
theorem inD31_ok (cs : List Value) (y : Int) (h : inD31 cs = some y) : [.int .i64 y] = cs := by
  unfold inD31 at h
  split at h
  · cases h; rfl
  · cases h
def inC31 : Cod Int := { enc := fun b => [.int .i64 b], sz := 1, dec := inD31, len := fun _ => rfl, one := fun _ => rfl, ok := inD31_ok }
theorem made_ok {A : Option Addr} {cp : Nat} {w st it sb si stg ev wa stl : Int} (hv : View C A inC31 [w, st, it, sb, si, stg, ev, wa, stl]) (hK : K (.agg #[.int .i64 w, .int .i64 st, .int .i64 it, .int .i64 sb, .int .i64 si, .int .i64 stg, .int .i64 ev, .int .i64 wa, .int .i64 stl]) C) : CallT Tryz.prog 55 #[.slice A 9 cp] C K := by
  refine callT_intro mixed Tryz.func55 rfl (by decide) (by decide +kernel) (by exact Nat.le_of_ble_eq_true rfl) ?_
  repeat' (first
    | (show evG _ _ _ _ _ _ _; first | refine G_pure0 ?_ | refine G_load ?_ | refine evG_nil ?_ | refine G_br ?_ ?_ | refine G_pure ?_ | refine G_store ?_ | refine G_loadV ?_ | refine G_loadV0 ?_ | refine G_loadV2 ?_ | refine G_index ?_ | refine G_indexA ?_ | refine G_build ?_ | (refine G_alloc ?_; intro _) | (refine G_indexV ?_; intro _ _ hA; subst hA))
    | (show spl _ _ _; first | refine spl_no rfl ?_ | refine spl_yes rfl ?_)
    | (show evC _ _ _ _ _; first | refine c_seq ?_ | refine c_region (by exact rfl) ?_ | refine c_cond (by exact rfl) ?_ | refine c_ret ?_ | refine c_skip ?_ | refine c_block ?_ | refine c_exit ?_ | (show evC _ (.region 1 _ true) _ _ _; refine c_drawB (bl := [0, 1, 3, 0, 8, 24, 0, 64, 192, 511, 0, 1024, 3072, 0, 8192, 24576, 0, 65536, 196608, 0, 524288, 1572864, 0, 4194304, 12582912, 0, 33554432, 100663296, 268435455, 536870911]) (br := [536870911, 268435455, 100663296, 33554432, 0, 12582912, 4194304, 0, 1572864, 524288, 0, 196608, 65536, 0, 24576, 8192, 0, 3072, 1024, 0, 511, 192, 64, 0, 24, 8, 0, 3, 1, 0]) (l := [(0, 0), (1, 0), (2, 0), (3, 0), (4, 0), (5, 0), (6, 0), (7, 0), (8, 0), (9, 0), (10, 0), (11, 0), (12, 0), (13, 0), (14, 0), (15, 0), (16, 0), (17, 0), (18, 0), (19, 0), (20, 0), (21, 0), (22, 0), (23, 0), (24, 0), (25, 0), (26, 0), (27, 0), (28, 0), (29, 1)]) (by decide +kernel) (by decide +kernel) (by decide +kernel) (by decide +kernel) (by exact rfl) ?_) | refine std ?_)
    | (show Br _ _ _; first | refine Br.t rfl ?_ | refine Br.f rfl ?_ | refine brs ?_ | (first | refine Br.mkN (fun h => ?_) (fun h => ?_) | refine Br.mk (fun h => ?_) (fun h => ?_)) <;> (try (first | contradiction | (exfalso; omega) | (exfalso; simp at h; done))))
    | refine stp ?_)
  all_goals (show retC _ _ _ _ _ _; refine RETC ?_; exact ret_done (hK))
theorem view_tl {A A' : Option Addr} {w : List UInt8} {ps : List (List UInt8)} {m : Nat} (hv : View C A sgC ((w :: ps).map bq)) (hs : SubA A A' 1 m 1) (hm : ps.length + 1 ≤ m) : View C A' sgC (ps.map bq) := by
  have := view_subA (k := ps.length) hv hs (by simp) (.inl (by simpa using hm))
  rw [List.map_cons, List.drop_succ_cons, List.drop_zero, List.take_of_length_le (by simp)] at this
  exact this
theorem view_lo {A A' : Option Addr} {X a b : List Int} {m : Nat} (hX : X = a ++ b) (ha : a.length = 9) (hb : b.length = 9) (hv : View C A inC31 X) (hs : SubA A A' 0 m 1) (hm : 9 ≤ m) : View C A' inC31 a := by
  have := view_subA (k := 9) hv hs (by omega) (.inr (by omega))
  rw [hX, List.drop_zero, ← ha, List.take_left] at this
  exact this
theorem view_hi {A A' : Option Addr} {X a b : List Int} {m : Nat} (hX : X = a ++ b) (ha : a.length = 9) (hb : b.length = 9) (hv : View C A inC31 X) (hs : SubA A A' 9 m 1) (hm : 18 ≤ m) : View C A' inC31 b := by
  have := view_subA (k := 9) hv hs (by rw [hX, List.length_append]; omega) (.inl (by rw [hX, List.length_append]; omega))
  rw [hX] at this
  rw [show (a ++ b).drop 9 = b by rw [← ha, List.drop_left], List.take_of_length_le (by omega)] at this
  exact this
theorem l18 {ns : List Int} (h : ns.length = 18) : ∃ n0 n1 n2 n3 n4 n5 n6 n7 n8 n9 n10 n11 n12 n13 n14 n15 n16 n17 : Int, ns = [n0, n1, n2, n3, n4, n5, n6, n7, n8, n9, n10, n11, n12, n13, n14, n15, n16, n17] := by
  match ns, h with
  | [n0, n1, n2, n3, n4, n5, n6, n7, n8, n9, n10, n11, n12, n13, n14, n15, n16, n17], _ => exact ⟨n0, n1, n2, n3, n4, n5, n6, n7, n8, n9, n10, n11, n12, n13, n14, n15, n16, n17, rfl⟩
theorem rdHd_parts {l : List UInt8} {ns : List Int} (h : rdHd l = some ns) : ∃ ps, spl1 32 l = titB :: ps ∧ ps.length = 18 ∧ rdIs ps = some ns := by
  unfold rdHd at h
  cases hs : spl1 32 l with
  | nil => rw [hs] at h; cases h
  | cons t ps =>
    rw [hs] at h
    simp only at h
    split at h
    · rename_i hc
      exact ⟨ps, by rw [hc.1], hc.2, h⟩
    · cases h
theorem rdIs_at : ∀ {ps : List (List UInt8)} {ns : List Int}, rdIs ps = some ns → ∀ (j : Nat) (p : List UInt8), ps[j]? = some p → ∃ n, rdI p = some n ∧ ns[j]? = some n
  | [], _, _, j, p, hp => by simp at hp
  | q :: ps, ns, h, j, p, hp => by
    unfold rdIs at h
    cases hr : rdI q with
    | none => rw [hr] at h; cases h
    | some n =>
      rw [hr] at h
      obtain ⟨r, h1, rfl⟩ := Option.map_eq_some_iff.1 h
      cases j with
      | zero => cases hp; exact ⟨n, hr, rfl⟩
      | succ j => exact rdIs_at h1 j p (by simpa using hp)
theorem rdIs_no : ∀ {ps : List (List UInt8)}, rdIs ps = none → ∃ (j : Nat) (p : List UInt8), ps[j]? = some p ∧ rdI p = none
  | [], h => by cases h
  | q :: ps, h => by
    unfold rdIs at h
    cases hr : rdI q with
    | none => exact ⟨0, q, rfl, hr⟩
    | some n =>
      rw [hr] at h
      obtain ⟨j, p, h1, h2⟩ := rdIs_no (Option.map_eq_none_iff.1 h)
      exact ⟨j + 1, p, by simpa using h1, h2⟩
set_option maxHeartbeats 8000000 in
theorem headY_ok {l : List UInt8} {n0 n1 n2 n3 n4 n5 n6 n7 n8 n9 n10 n11 n12 n13 n14 n15 n16 n17 : Int} (hs0 : l.length ≤ 1000000) (h : rdHd l = some [n0, n1, n2, n3, n4, n5, n6, n7, n8, n9, n10, n11, n12, n13, n14, n15, n16, n17]) (hK : K (.tuple #[.agg #[.int .i64 n0, .int .i64 n1, .int .i64 n2, .int .i64 n3, .int .i64 n4, .int .i64 n5, .int .i64 n6, .int .i64 n7, .int .i64 n8, .int .i64 n9, .int .i64 n10, .int .i64 n11, .int .i64 n12, .int .i64 n13, .int .i64 n14, .int .i64 n15, .int .i64 n16, .int .i64 n17, .slice none 0 0], .bool true]) R) : CallT Tryz.prog 32 #[.string (bq l)] R K := by
  have hsz : (bq l).size ≤ 1100000 := by rw [bq_size]; omega
  have hdl : (bq l).data.toList = l := data_bq l
  have hmem : ∀ p ∈ spl1 32 l, p.length ≤ 1000000 := fun p hp => Nat.le_trans (spl1_mem hp) hs0
  obtain ⟨ps, hP, hps, hrd⟩ := rdHd_parts h
  generalize hX : [n0, n1, n2, n3, n4, n5, n6, n7, n8, n9, n10, n11, n12, n13, n14, n15, n16, n17] = X at hrd
  have hX18 : X.length = 18 := by rw [← hX]; rfl
  have hw0 : ((titB :: ps).map bq)[((0 : Int)).toNat]? = some (bq titB) := rfl
  have hcmp : ((bq titB).toList == (⟨#[112, 97, 116, 101, 114, 110, 111, 115, 116, 101, 114]⟩ : ByteArray).toList) = true := beq_self_eq_true _
  have hn19 : ((ps.length + 1 : Nat) : Int) = 19 := by omega
  rw [hP] at hmem
  clear hs0
  refine callT_intro mixed Tryz.func32 rfl (by decide) (by decide +kernel) (by exact Nat.le_of_ble_eq_true rfl) ?_
  repeat' (first
    | (show evG _ _ _ _ _ _ _; refine G_sliceV (fun A' hA' => ?_))
    | (show evG _ _ _ _ _ _ _; first | refine G_add64 ?_ | refine G_pure0 ?_ | refine G_load ?_ | refine evG_nil ?_ | refine G_br ?_ ?_ | refine G_pure ?_ | refine G_store ?_ | refine G_loadV ?_ | refine G_loadV0 ?_ | refine G_loadV2 ?_ | (refine G_append ?_; intro _ _) | (refine G_appendN ?_; intro _ _) | refine G_not ?_ | refine G_index ?_ | refine G_indexA ?_ | refine G_build ?_ | refine G_slh ?_ | refine G_slo ?_ | refine G_shi ?_ | refine G_cat ?_ | refine G_neq_agg ?_ | refine G_call ?_ | refine G_call0 ?_ | (refine G_alloc ?_; intro _) | (refine G_buildSlice ?_; intro _) | (refine G_indexV ?_; intro _ _ hA; subst hA) | (refine G_sliceR ?_; intro _) | (refine G_sliceO ?_; intro _) | refine G_skip ?_ | refine G_skip0 ?_)
    | (show spl _ _ _; first | refine spl_no rfl ?_ | refine spl_yes rfl ?_)
    | (show evC _ _ _ _ _; first | refine c_seq ?_ | refine c_region (by exact rfl) ?_ | refine c_cond (by exact rfl) ?_ | refine c_ret ?_ | refine c_skip ?_ | refine c_block ?_ | refine c_exit ?_ | (show evC _ (.region 13 _ true) _ _ _; refine c_draw (l := [(0, 0), (1, 0), (2, 1), (3, 1), (4, 1), (5, 1), (6, 0), (7, 1), (8, 0)]) (by decide +kernel) (by decide +kernel) (by exact rfl) ?_) | refine std ?_)
    | (show Br _ _ _; first | refine Br.t rfl ?_ | refine Br.f rfl ?_ | refine brs ?_ | (first | refine Br.mkN (fun h => ?_) (fun h => ?_) | refine Br.mk (fun h => ?_) (fun h => ?_)) <;> (try (first | contradiction | (exfalso; omega) | (exfalso; simp at h; done))))
    | refine stp ?_
    | (show CallT _ 24 _ _ _; refine CA (h := splits_ok hsz (fun r => ?_)); rw [hdl, hP, List.length_cons]))
  all_goals first | (exfalso; omega) | skip
  rename_i q
  refine LOOP (fun m f C' => ∃ (j n c : Nat) (B : Option Addr), j + m = 18 ∧ n = j ∧ C' = pt q [.int .i64 0, .int .i64 0, .int .i64 0, .int .i64 0, .int .i64 0, .int .i64 0, .int .i64 0, .int .i64 0, .int .i64 0, .int .i64 0, .int .i64 0, .int .i64 0, .int .i64 0, .int .i64 0, .int .i64 0, .int .i64 0, .int .i64 0, .int .i64 0, .slice none 0 0] 39 :: row B c 3 inC31 (X.take j) :: row (some ⟨r, 0, none⟩) (ps.length + 1) 9 sgC ((titB :: ps).map bq) :: R ∧ Agree f [(2, .pointer (some ⟨q, 0, none⟩)), (5, .slice B n c), (23, .slice A' ps.length ps.length), (24, .int .i64 ps.length), (25, .int .i64 j)]) 18 (turn 18 ⟨0, 0, 0, none, by omega, rfl, rfl, rfl, rfl, rfl, rfl, rfl, trivial⟩) ?_
  rintro nk f C' ⟨j, n, c, B, hj, rfl, rfl, hA⟩
  refine c_fr _ hA ?_
  simp only [updL]
  have hvv : View (pt q [.int .i64 0, .int .i64 0, .int .i64 0, .int .i64 0, .int .i64 0, .int .i64 0, .int .i64 0, .int .i64 0, .int .i64 0, .int .i64 0, .int .i64 0, .int .i64 0, .int .i64 0, .int .i64 0, .int .i64 0, .int .i64 0, .int .i64 0, .int .i64 0, .slice none 0 0] 39 :: row B c 3 inC31 (X.take n) :: row (some ⟨r, 0, none⟩) (ps.length + 1) 9 sgC ((titB :: ps).map bq) :: R) A' sgC (ps.map bq) := view_tl (by exact viewA) hA' (by simp)
  have hml : (ps.map bq).length = ps.length := by simp
  have hxl : (X.take n).length = n := by simp; omega
  by_cases hlt : n < 18
  · obtain ⟨p, hp⟩ : ∃ p, ps[n]? = some p := ⟨_, List.getElem?_eq_getElem (by omega)⟩
    obtain ⟨x, hx1, hx2⟩ := rdIs_at hrd n p hp
    have x2 : (ps.map bq)[((n : Nat) : Int).toNat]? = some (bq p) := map_at hp
    have htk : X.take (n + 1) = X.take n ++ [x] := by rw [List.take_add_one, hx2]; rfl
    repeat' (first
      | (show evG _ _ _ _ _ _ _; first | refine G_add64 ?_ | refine G_pure0 ?_ | refine G_load ?_ | refine evG_nil ?_ | refine G_br ?_ ?_ | refine G_pure ?_ | refine G_store ?_ | refine G_loadV ?_ | refine G_loadV0 ?_ | refine G_loadV2 ?_ | (refine G_append ?_; intro _ _) | (refine G_appendN ?_; intro _ _) | refine G_not ?_ | refine G_index ?_ | refine G_indexA ?_ | refine G_build ?_ | refine G_slh ?_ | refine G_slo ?_ | refine G_shi ?_ | refine G_cat ?_ | refine G_neq_agg ?_ | refine G_call ?_ | refine G_call0 ?_ | (refine G_alloc ?_; intro _) | (refine G_buildSlice ?_; intro _) | (refine G_indexV ?_; intro _ _ hA; subst hA) | (refine G_sliceR ?_; intro _) | (refine G_sliceO ?_; intro _) | refine G_skip ?_ | refine G_skip0 ?_)
      | (show spl _ _ _; first | refine spl_no rfl ?_ | refine spl_yes rfl ?_)
      | (show evC _ _ _ _ _; first | refine c_seq ?_ | refine c_region (by exact rfl) ?_ | refine c_cond (by exact rfl) ?_ | refine c_ret ?_ | refine c_skip ?_ | refine c_block ?_ | refine c_exit ?_ | (show evC _ (.region 13 _ true) _ _ _; refine c_draw (l := [(0, 0), (1, 0), (2, 1), (3, 1), (4, 1), (5, 1), (6, 0), (7, 1), (8, 0)]) (by decide +kernel) (by decide +kernel) (by exact rfl) ?_) | refine std ?_)
      | (show Br _ _ _; first | refine Br.t rfl ?_ | refine Br.f rfl ?_ | refine brs ?_ | (first | refine Br.mkN (fun h => ?_) (fun h => ?_) | refine Br.mk (fun h => ?_) (fun h => ?_)) <;> (try (first | contradiction | (exfalso; omega) | (exfalso; simp at h; done))))
      | refine stp ?_
      | (show CallT _ 50 _ _ _; refine CA (h := readY_ok hx1 ?_)))
    all_goals (show TurnG _ _ _ _; exact turn (nk - 1) ⟨n + 1, _, _, _, by omega, (by rw [List.length_append, hxl]; rfl), by rw [htk], rfl, rfl, rfl, rfl, rfl, trivial⟩)
  · obtain rfl : n = 18 := by omega
    rw [List.take_of_length_le (by omega)]
    refine evC_rowfact (Pick.there Pick.here) fun hcp => ?_
    have hc18 : 18 ≤ c := by omega
    repeat' (first
      | (show evG _ _ _ _ _ _ _; refine G_sliceV (fun A2 hA2 => ?_))
      | (show evG _ _ _ _ _ _ _; first | refine G_add64 ?_ | refine G_pure0 ?_ | refine G_load ?_ | refine evG_nil ?_ | refine G_br ?_ ?_ | refine G_pure ?_ | refine G_store ?_ | refine G_loadV ?_ | refine G_loadV0 ?_ | refine G_loadV2 ?_ | (refine G_append ?_; intro _ _) | (refine G_appendN ?_; intro _ _) | refine G_not ?_ | refine G_index ?_ | refine G_indexA ?_ | refine G_build ?_ | refine G_slh ?_ | refine G_slo ?_ | refine G_shi ?_ | refine G_cat ?_ | refine G_neq_agg ?_ | refine G_call ?_ | refine G_call0 ?_ | (refine G_alloc ?_; intro _) | (refine G_buildSlice ?_; intro _) | (refine G_indexV ?_; intro _ _ hA; subst hA) | (refine G_sliceR ?_; intro _) | (refine G_sliceO ?_; intro _) | refine G_skip ?_ | refine G_skip0 ?_)
      | (show spl _ _ _; first | refine spl_no rfl ?_ | refine spl_yes rfl ?_)
      | (show evC _ _ _ _ _; first | refine c_seq ?_ | refine c_region (by exact rfl) ?_ | refine c_cond (by exact rfl) ?_ | refine c_ret ?_ | refine c_skip ?_ | refine c_block ?_ | refine c_exit ?_ | (show evC _ (.region 13 _ true) _ _ _; refine c_draw (l := [(0, 0), (1, 0), (2, 1), (3, 1), (4, 1), (5, 1), (6, 0), (7, 1), (8, 0)]) (by decide +kernel) (by decide +kernel) (by exact rfl) ?_) | refine std ?_)
      | (show Br _ _ _; first | refine Br.t rfl ?_ | refine Br.f rfl ?_ | refine brs ?_ | (first | refine Br.mkN (fun h => ?_) (fun h => ?_) | refine Br.mk (fun h => ?_) (fun h => ?_)) <;> (try (first | contradiction | (exfalso; omega) | (exfalso; simp at h; done))))
      | refine stp ?_
      | (show CallT _ 55 _ _ _; first | refine CA (h := made_ok (view_lo (a := [n0, n1, n2, n3, n4, n5, n6, n7, n8]) (b := [n9, n10, n11, n12, n13, n14, n15, n16, n17]) hX.symm rfl rfl (by exact viewA) hA2 (by omega)) ?_) | refine CA (h := made_ok (view_hi (a := [n0, n1, n2, n3, n4, n5, n6, n7, n8]) (b := [n9, n10, n11, n12, n13, n14, n15, n16, n17]) hX.symm rfl rfl (by exact viewA) hA2 (by omega)) ?_)))
    all_goals (show retC _ _ _ _ _ _; refine RETC ?_; exact ret_done (hK))
set_option maxHeartbeats 8000000 in
theorem headN_ok {l : List UInt8} (hs0 : l.length ≤ 1000000) (h : rdHd l = none) (hK : K (.tuple #[.agg #[.int .i64 0, .int .i64 0, .int .i64 0, .int .i64 0, .int .i64 0, .int .i64 0, .int .i64 0, .int .i64 0, .int .i64 0, .int .i64 0, .int .i64 0, .int .i64 0, .int .i64 0, .int .i64 0, .int .i64 0, .int .i64 0, .int .i64 0, .int .i64 0, .slice none 0 0], .bool false]) R) : CallT Tryz.prog 32 #[.string (bq l)] R K := by
  have hsz : (bq l).size ≤ 1100000 := by rw [bq_size]; omega
  have hdl : (bq l).data.toList = l := data_bq l
  have hmem : ∀ p ∈ spl1 32 l, p.length ≤ 1000000 := fun p hp => Nat.le_trans (spl1_mem hp) hs0
  have hPn := spl1_ne 32 l
  have hple := spl1_le (c := 32) l
  unfold rdHd at h
  generalize hP : spl1 32 l = P at h hmem hPn hple
  match P, h, hPn with
  | [], _, hPn => exact absurd rfl hPn
  | w :: ps, h, _ =>
    simp only at h
    rw [List.length_cons] at hple
    have hpl : ((ps.length : Nat) : Int) ≤ 1000000 := by omega
    clear hs0 hple
    have hw0 : ((w :: ps).map bq)[((0 : Int)).toNat]? = some (bq w) := rfl
    by_cases h18 : ps.length = 18
    · have hn19 : ((ps.length + 1 : Nat) : Int) = 19 := by omega
      by_cases hw : w = titB
      · subst hw
        rw [if_pos ⟨rfl, h18⟩] at h
        obtain ⟨k, pk, hk1, hk2⟩ := rdIs_no h
        have hk18 : k < 18 := by have := (List.getElem?_eq_some_iff.1 hk1).1; omega
        have hcmp : ((bq titB).toList == (⟨#[112, 97, 116, 101, 114, 110, 111, 115, 116, 101, 114]⟩ : ByteArray).toList) = true := beq_self_eq_true _
        refine callT_intro mixed Tryz.func32 rfl (by decide) (by decide +kernel) (by exact Nat.le_of_ble_eq_true rfl) ?_
        repeat' (first
          | (show evG _ _ _ _ _ _ _; refine G_sliceV (fun A' hA' => ?_))
          | (show evG _ _ _ _ _ _ _; first | refine G_add64 ?_ | refine G_pure0 ?_ | refine G_load ?_ | refine evG_nil ?_ | refine G_br ?_ ?_ | refine G_pure ?_ | refine G_store ?_ | refine G_loadV ?_ | refine G_loadV0 ?_ | refine G_loadV2 ?_ | (refine G_append ?_; intro _ _) | (refine G_appendN ?_; intro _ _) | refine G_not ?_ | refine G_index ?_ | refine G_indexA ?_ | refine G_build ?_ | refine G_slh ?_ | refine G_slo ?_ | refine G_shi ?_ | refine G_cat ?_ | refine G_neq_agg ?_ | refine G_call ?_ | refine G_call0 ?_ | (refine G_alloc ?_; intro _) | (refine G_buildSlice ?_; intro _) | (refine G_indexV ?_; intro _ _ hA; subst hA) | (refine G_sliceR ?_; intro _) | (refine G_sliceO ?_; intro _) | refine G_skip ?_ | refine G_skip0 ?_)
          | (show spl _ _ _; first | refine spl_no rfl ?_ | refine spl_yes rfl ?_)
          | (show evC _ _ _ _ _; first | refine c_seq ?_ | refine c_region (by exact rfl) ?_ | refine c_cond (by exact rfl) ?_ | refine c_ret ?_ | refine c_skip ?_ | refine c_block ?_ | refine c_exit ?_ | (show evC _ (.region 13 _ true) _ _ _; refine c_draw (l := [(0, 0), (1, 0), (2, 1), (3, 1), (4, 1), (5, 1), (6, 0), (7, 1), (8, 0)]) (by decide +kernel) (by decide +kernel) (by exact rfl) ?_) | refine std ?_)
          | (show Br _ _ _; first | refine Br.t rfl ?_ | refine Br.f rfl ?_ | refine brs ?_ | (first | refine Br.mkN (fun h => ?_) (fun h => ?_) | refine Br.mk (fun h => ?_) (fun h => ?_)) <;> (try (first | contradiction | (exfalso; omega) | (exfalso; simp at h; done))))
          | refine stp ?_
          | (show CallT _ 24 _ _ _; refine CA (h := splits_ok hsz (fun r => ?_)); rw [hdl, hP, List.length_cons]))
        all_goals first | (exfalso; omega) | skip
        rename_i q
        refine LOOP (fun m f C' => ∃ (j n c : Nat) (B : Option Addr) (X : List Int), j + m = 18 ∧ j ≤ k ∧ n = X.length ∧ n = j ∧ C' = pt q [.int .i64 0, .int .i64 0, .int .i64 0, .int .i64 0, .int .i64 0, .int .i64 0, .int .i64 0, .int .i64 0, .int .i64 0, .int .i64 0, .int .i64 0, .int .i64 0, .int .i64 0, .int .i64 0, .int .i64 0, .int .i64 0, .int .i64 0, .int .i64 0, .slice none 0 0] 39 :: row B c 3 inC31 X :: row (some ⟨r, 0, none⟩) (ps.length + 1) 9 sgC ((titB :: ps).map bq) :: R ∧ Agree f [(2, .pointer (some ⟨q, 0, none⟩)), (5, .slice B n c), (23, .slice A' ps.length ps.length), (24, .int .i64 ps.length), (25, .int .i64 j)]) 18 (turn 18 ⟨0, 0, 0, none, [], by omega, by omega, rfl, rfl, rfl, rfl, rfl, rfl, rfl, rfl, trivial⟩) ?_
        rintro nk f C' ⟨j, n, c, B, X, hj, hjk, hn, hnj, rfl, hA⟩
        refine c_fr _ hA ?_
        simp only [updL]
        have hvv : View (pt q [.int .i64 0, .int .i64 0, .int .i64 0, .int .i64 0, .int .i64 0, .int .i64 0, .int .i64 0, .int .i64 0, .int .i64 0, .int .i64 0, .int .i64 0, .int .i64 0, .int .i64 0, .int .i64 0, .int .i64 0, .int .i64 0, .int .i64 0, .int .i64 0, .slice none 0 0] 39 :: row B c 3 inC31 X :: row (some ⟨r, 0, none⟩) (ps.length + 1) 9 sgC ((titB :: ps).map bq) :: R) A' sgC (ps.map bq) := view_tl (by exact viewA) hA' (by simp)
        have hml : (ps.map bq).length = ps.length := by simp
        have hxl := hn.symm
        obtain ⟨p, hp⟩ : ∃ p, ps[j]? = some p := ⟨_, List.getElem?_eq_getElem (by omega)⟩
        have hpm : p.length ≤ 1000000 := hmem p (List.mem_cons_of_mem _ (List.mem_of_getElem? hp))
        have x2 : (ps.map bq)[((j : Nat) : Int).toNat]? = some (bq p) := map_at hp
        cases hx : rdI p with
        | none =>
          repeat' (first
            | (show evG _ _ _ _ _ _ _; first | refine G_add64 ?_ | refine G_pure0 ?_ | refine G_load ?_ | refine evG_nil ?_ | refine G_br ?_ ?_ | refine G_pure ?_ | refine G_store ?_ | refine G_loadV ?_ | refine G_loadV0 ?_ | refine G_loadV2 ?_ | (refine G_append ?_; intro _ _) | (refine G_appendN ?_; intro _ _) | refine G_not ?_ | refine G_index ?_ | refine G_indexA ?_ | refine G_build ?_ | refine G_slh ?_ | refine G_slo ?_ | refine G_shi ?_ | refine G_cat ?_ | refine G_neq_agg ?_ | refine G_call ?_ | refine G_call0 ?_ | (refine G_alloc ?_; intro _) | (refine G_buildSlice ?_; intro _) | (refine G_indexV ?_; intro _ _ hA; subst hA) | (refine G_sliceR ?_; intro _) | (refine G_sliceO ?_; intro _) | refine G_skip ?_ | refine G_skip0 ?_)
            | (show spl _ _ _; first | refine spl_no rfl ?_ | refine spl_yes rfl ?_)
            | (show evC _ _ _ _ _; first | refine c_seq ?_ | refine c_region (by exact rfl) ?_ | refine c_cond (by exact rfl) ?_ | refine c_ret ?_ | refine c_skip ?_ | refine c_block ?_ | refine c_exit ?_ | (show evC _ (.region 13 _ true) _ _ _; refine c_draw (l := [(0, 0), (1, 0), (2, 1), (3, 1), (4, 1), (5, 1), (6, 0), (7, 1), (8, 0)]) (by decide +kernel) (by decide +kernel) (by exact rfl) ?_) | refine std ?_)
            | (show Br _ _ _; first | refine Br.t rfl ?_ | refine Br.f rfl ?_ | refine brs ?_ | (first | refine Br.mkN (fun h => ?_) (fun h => ?_) | refine Br.mk (fun h => ?_) (fun h => ?_)) <;> (try (first | contradiction | (exfalso; omega) | (exfalso; simp at h; done))))
            | refine stp ?_
            | (show CallT _ 50 _ _ _; refine CA (h := readN_ok hx hpm (fun m => ?_))))
          all_goals first
            | (show retC _ _ _ _ _ _; refine RETC ?_; exact ret_done (hK))
            | (exfalso; omega)
        | some x =>
          have hjk2 : j ≠ k := fun e => by subst e; rw [hk1] at hp; cases hp; rw [hk2] at hx; cases hx
          repeat' (first
            | (show evG _ _ _ _ _ _ _; first | refine G_add64 ?_ | refine G_pure0 ?_ | refine G_load ?_ | refine evG_nil ?_ | refine G_br ?_ ?_ | refine G_pure ?_ | refine G_store ?_ | refine G_loadV ?_ | refine G_loadV0 ?_ | refine G_loadV2 ?_ | (refine G_append ?_; intro _ _) | (refine G_appendN ?_; intro _ _) | refine G_not ?_ | refine G_index ?_ | refine G_indexA ?_ | refine G_build ?_ | refine G_slh ?_ | refine G_slo ?_ | refine G_shi ?_ | refine G_cat ?_ | refine G_neq_agg ?_ | refine G_call ?_ | refine G_call0 ?_ | (refine G_alloc ?_; intro _) | (refine G_buildSlice ?_; intro _) | (refine G_indexV ?_; intro _ _ hA; subst hA) | (refine G_sliceR ?_; intro _) | (refine G_sliceO ?_; intro _) | refine G_skip ?_ | refine G_skip0 ?_)
            | (show spl _ _ _; first | refine spl_no rfl ?_ | refine spl_yes rfl ?_)
            | (show evC _ _ _ _ _; first | refine c_seq ?_ | refine c_region (by exact rfl) ?_ | refine c_cond (by exact rfl) ?_ | refine c_ret ?_ | refine c_skip ?_ | refine c_block ?_ | refine c_exit ?_ | (show evC _ (.region 13 _ true) _ _ _; refine c_draw (l := [(0, 0), (1, 0), (2, 1), (3, 1), (4, 1), (5, 1), (6, 0), (7, 1), (8, 0)]) (by decide +kernel) (by decide +kernel) (by exact rfl) ?_) | refine std ?_)
            | (show Br _ _ _; first | refine Br.t rfl ?_ | refine Br.f rfl ?_ | refine brs ?_ | (first | refine Br.mkN (fun h => ?_) (fun h => ?_) | refine Br.mk (fun h => ?_) (fun h => ?_)) <;> (try (first | contradiction | (exfalso; omega) | (exfalso; simp at h; done))))
            | refine stp ?_
            | (show CallT _ 50 _ _ _; refine CA (h := readY_ok hx ?_)))
          all_goals first
            | (show TurnG _ _ _ _; exact turn (nk - 1) ⟨j + 1, _, _, _, X ++ [x], by omega, by omega, rfl, (by rw [List.length_append, hxl, hnj]; rfl), rfl, rfl, rfl, rfl, rfl, rfl, trivial⟩)
            | (exfalso; omega)
      · have hcmp : ((bq w).toList == (⟨#[112, 97, 116, 101, 114, 110, 111, 115, 116, 101, 114]⟩ : ByteArray).toList) = false := by
          rw [show (⟨#[112, 97, 116, 101, 114, 110, 111, 115, 116, 101, 114]⟩ : ByteArray) = bq titB from rfl, bq_beq]
          exact decide_eq_false hw
        refine callT_intro mixed Tryz.func32 rfl (by decide) (by decide +kernel) (by exact Nat.le_of_ble_eq_true rfl) ?_
        repeat' (first
          | (show evG _ _ _ _ _ _ _; first | refine G_add64 ?_ | refine G_pure0 ?_ | refine G_load ?_ | refine evG_nil ?_ | refine G_br ?_ ?_ | refine G_pure ?_ | refine G_store ?_ | refine G_loadV ?_ | refine G_loadV0 ?_ | refine G_loadV2 ?_ | (refine G_append ?_; intro _ _) | (refine G_appendN ?_; intro _ _) | refine G_not ?_ | refine G_index ?_ | refine G_indexA ?_ | refine G_build ?_ | refine G_slh ?_ | refine G_slo ?_ | refine G_shi ?_ | refine G_cat ?_ | refine G_neq_agg ?_ | refine G_call ?_ | refine G_call0 ?_ | (refine G_alloc ?_; intro _) | (refine G_buildSlice ?_; intro _) | (refine G_indexV ?_; intro _ _ hA; subst hA) | (refine G_sliceR ?_; intro _) | (refine G_sliceO ?_; intro _) | refine G_skip ?_ | refine G_skip0 ?_)
          | (show spl _ _ _; first | refine spl_no rfl ?_ | refine spl_yes rfl ?_)
          | (show evC _ _ _ _ _; first | refine c_seq ?_ | refine c_region (by exact rfl) ?_ | refine c_cond (by exact rfl) ?_ | refine c_ret ?_ | refine c_skip ?_ | refine c_block ?_ | refine c_exit ?_ | (show evC _ (.region 13 _ true) _ _ _; refine c_draw (l := [(0, 0), (1, 0), (2, 1), (3, 1), (4, 1), (5, 1), (6, 0), (7, 1), (8, 0)]) (by decide +kernel) (by decide +kernel) (by exact rfl) ?_) | refine std ?_)
          | (show Br _ _ _; first | refine Br.t rfl ?_ | refine Br.f rfl ?_ | refine brs ?_ | (first | refine Br.mkN (fun h => ?_) (fun h => ?_) | refine Br.mk (fun h => ?_) (fun h => ?_)) <;> (try (first | contradiction | (exfalso; omega) | (exfalso; simp at h; done))))
          | refine stp ?_
          | (show CallT _ 24 _ _ _; refine CA (h := splits_ok hsz (fun r => ?_)); rw [hdl, hP, List.length_cons]))
        all_goals first
          | (show retC _ _ _ _ _ _; refine RETC ?_; exact ret_done (hK))
          | (exfalso; omega)
    · refine callT_intro mixed Tryz.func32 rfl (by decide) (by decide +kernel) (by exact Nat.le_of_ble_eq_true rfl) ?_
      repeat' (first
        | (show evG _ _ _ _ _ _ _; first | refine G_add64 ?_ | refine G_pure0 ?_ | refine G_load ?_ | refine evG_nil ?_ | refine G_br ?_ ?_ | refine G_pure ?_ | refine G_store ?_ | refine G_loadV ?_ | refine G_loadV0 ?_ | refine G_loadV2 ?_ | (refine G_append ?_; intro _ _) | (refine G_appendN ?_; intro _ _) | refine G_not ?_ | refine G_index ?_ | refine G_indexA ?_ | refine G_build ?_ | refine G_slh ?_ | refine G_slo ?_ | refine G_shi ?_ | refine G_cat ?_ | refine G_neq_agg ?_ | refine G_call ?_ | refine G_call0 ?_ | (refine G_alloc ?_; intro _) | (refine G_buildSlice ?_; intro _) | (refine G_indexV ?_; intro _ _ hA; subst hA) | (refine G_sliceR ?_; intro _) | (refine G_sliceO ?_; intro _) | refine G_skip ?_ | refine G_skip0 ?_)
        | (show spl _ _ _; first | refine spl_no rfl ?_ | refine spl_yes rfl ?_)
        | (show evC _ _ _ _ _; first | refine c_seq ?_ | refine c_region (by exact rfl) ?_ | refine c_cond (by exact rfl) ?_ | refine c_ret ?_ | refine c_skip ?_ | refine c_block ?_ | refine c_exit ?_ | (show evC _ (.region 13 _ true) _ _ _; refine c_draw (l := [(0, 0), (1, 0), (2, 1), (3, 1), (4, 1), (5, 1), (6, 0), (7, 1), (8, 0)]) (by decide +kernel) (by decide +kernel) (by exact rfl) ?_) | refine std ?_)
        | (show Br _ _ _; first | refine Br.t rfl ?_ | refine Br.f rfl ?_ | refine brs ?_ | (first | refine Br.mkN (fun h => ?_) (fun h => ?_) | refine Br.mk (fun h => ?_) (fun h => ?_)) <;> (try (first | contradiction | (exfalso; omega) | (exfalso; simp at h; done))))
        | refine stp ?_
        | (show CallT _ 24 _ _ _; refine CA (h := splits_ok hsz (fun r => ?_)); rw [hdl, hP, List.length_cons]))
      all_goals first
        | (show retC _ _ _ _ _ _; refine RETC ?_; exact ret_done (hK))
        | (exfalso; omega)
end Go.Proofs.YtiofdmjecjcdbaaGreatDoor

