/- Script: Print: lemmas; each with the conditions that it states. -/
import Derived.Test.YtiofdmjecjcdbaaGreatDoorFh
import Derived.Test.YtiofdmjecjcdbaaGreatDoorG18
import Derived.Test.YtiofdmjecjcdbaaGreatDoorG20

namespace Go.Proofs.YtiofdmjecjcdbaaGreatDoor
open Go Go.Proofs Go.Sl
set_option maxRecDepth 100000
set_option maxHeartbeats 4000000
set_option linter.unusedSimpArgs false
set_option linter.unusedVariables false
attribute [local irreducible] evG evC spl thenC inBlockC noGotoC CallT retC RetG TurnG CutG pt ro exP star sep pureP
variable {R C : List HP} {K : Value → List HP → Prop}
theorem scr_take {L : List AC} {j : Nat} {a : AC} (h : L[j]? = some a) : (L.take (j + 1)).flatMap lnS = (L.take j).flatMap lnS ++ lnS a := by
  rw [List.take_add_one, h, List.flatMap_append]
  simp
theorem lns_len {L : List AC} (h : ∀ a ∈ L, okL a) : (L.flatMap lnS).length ≤ 12615 * L.length := by
  induction L with
  | nil => simp
  | cons a L ih =>
    have h1 := lineS_len (okL_k (h a (by simp))) (h a (by simp)).2
    have h2 := ih fun z hz => h z (List.mem_cons_of_mem _ hz)
    rw [List.flatMap_cons, List.length_append, List.length_cons]
    have : (lnS a).length = (lineS a).length + 1 := by simp [lnS]
    omega
set_option maxHeartbeats 8000000 in
theorem printG_ok {n0 n1 n2 n3 n4 n5 n6 n7 n8 n9 n10 n11 n12 n13 n14 n15 n16 n17 : Int} {A : Option Addr} {n c : Nat} {L : List AC} (hv : View C A acC31 L) (hn : L.length = n) (h512 : ¬ 512 < n) (hr : ∀ n ∈ [n0, n1, n2, n3, n4, n5, n6, n7, n8, n9, n10, n11, n12, n13, n14, n15, n16, n17], inR n) (hin : ∀ a ∈ L, InA a)
    (hbad : (∃ a ∈ L, lineF a = none) → K (.tuple #[.string ⟨#[]⟩, .int .i64 30]) C)
    (hbig : (∀ a ∈ L, okL a) → 1048576 < (scrS ⟨[n0, n1, n2, n3, n4, n5, n6, n7, n8, n9, n10, n11, n12, n13, n14, n15, n16, n17], L⟩).length → K (.tuple #[.string ⟨#[]⟩, .int .i64 4]) C)
    (hok : (∀ a ∈ L, okL a) → ¬ 1048576 < (scrS ⟨[n0, n1, n2, n3, n4, n5, n6, n7, n8, n9, n10, n11, n12, n13, n14, n15, n16, n17], L⟩).length → K (.tuple #[.string (bq (scrS ⟨[n0, n1, n2, n3, n4, n5, n6, n7, n8, n9, n10, n11, n12, n13, n14, n15, n16, n17], L⟩)), .int .i64 0]) C) : CallT Tryz.prog 20 #[.agg #[.int .i64 n0, .int .i64 n1, .int .i64 n2, .int .i64 n3, .int .i64 n4, .int .i64 n5, .int .i64 n6, .int .i64 n7, .int .i64 n8, .int .i64 n9, .int .i64 n10, .int .i64 n11, .int .i64 n12, .int .i64 n13, .int .i64 n14, .int .i64 n15, .int .i64 n16, .int .i64 n17, .slice A n c]] C K := by
  have hhl := hdS_len (ns := [n0, n1, n2, n3, n4, n5, n6, n7, n8, n9, n10, n11, n12, n13, n14, n15, n16, n17]) rfl hr
  have hhs := bq_size (hdS [n0, n1, n2, n3, n4, n5, n6, n7, n8, n9, n10, n11, n12, n13, n14, n15, n16, n17])
  have h10 : (⟨#[10]⟩ : ByteArray).size = 1 := rfl
  have hX0 : (bq (hdS [n0, n1, n2, n3, n4, n5, n6, n7, n8, n9, n10, n11, n12, n13, n14, n15, n16, n17]) ++ (⟨#[10]⟩ : ByteArray)).data.toList = hdS [n0, n1, n2, n3, n4, n5, n6, n7, n8, n9, n10, n11, n12, n13, n14, n15, n16, n17] ++ 10 :: (L.take 0).flatMap lnS := by
    rw [show (⟨#[10]⟩ : ByteArray) = bq [10] from rfl, bq_app, data_bq]
    simp
  have hsL : scrS ⟨[n0, n1, n2, n3, n4, n5, n6, n7, n8, n9, n10, n11, n12, n13, n14, n15, n16, n17], L⟩ = hdS [n0, n1, n2, n3, n4, n5, n6, n7, n8, n9, n10, n11, n12, n13, n14, n15, n16, n17] ++ 10 :: (L.take n).flatMap lnS := by
    rw [List.take_of_length_le (by omega)]; rfl
  refine callT_intro mixed Tryz.func20 rfl (by decide) (by decide +kernel) (by exact Nat.le_of_ble_eq_true rfl) ?_
  repeat' (first
    | (show evG _ _ _ _ _ _ _; first | refine G_add64 ?_ | refine G_pure0 ?_ | refine G_load ?_ | refine evG_nil ?_ | refine G_br ?_ ?_ | refine G_field ?_ | refine G_pure ?_ | refine G_store ?_ | refine G_loadV ?_ | refine G_loadV0 ?_ | refine G_loadV2 ?_ | (refine G_append ?_; intro _ _) | (refine G_appendN ?_; intro _ _) | refine G_index ?_ | refine G_indexA ?_ | refine G_conv64 ?_ | refine G_conv8 ?_ | refine G_convu ?_ | refine G_conv ?_ | refine G_cat ?_ | refine G_neq_agg ?_ | refine G_bytesP ?_ | refine G_bytesstr ?_ | refine G_call ?_ | refine G_call0 ?_ | (refine G_box ?_; intro _) | (refine G_alloc ?_; intro _) | (refine G_strrow ?_; intro _ _) | (refine G_indexV ?_; intro _ _ hA; subst hA))
    | (show spl _ _ _; first | refine spl_no rfl ?_ | refine spl_yes rfl ?_)
    | (show evC _ _ _ _ _; first | refine c_seq ?_ | refine c_region (by exact rfl) ?_ | refine c_cond (by exact rfl) ?_ | refine c_ret ?_ | refine c_skip ?_ | refine c_block ?_ | refine c_exit ?_ | refine std ?_)
    | (show Br _ _ _; first | refine Br.t rfl ?_ | refine Br.f rfl ?_ | refine brs ?_ | (first | refine Br.mkN (fun h => ?_) (fun h => ?_) | refine Br.mk (fun h => ?_) (fun h => ?_)) <;> (try (first | contradiction | (exfalso; omega) | (exfalso; simp at h; done))))
    | refine stp ?_
    | (show CallT _ 21 _ _ _; refine CA (h := shead_ok hr ?_)))
  all_goals first | (exfalso; omega) | skip
  rename_i t1 _ _
  generalize hHD : hdS [n0, n1, n2, n3, n4, n5, n6, n7, n8, n9, n10, n11, n12, n13, n14, n15, n16, n17] = HD at *
  refine LOOP (fun m f C' => ∃ (j nb cb : Nat) (B : Option Addr) (X : List UInt8), j + m = n ∧ nb = X.length ∧ X = HD ++ 10 :: (L.take j).flatMap lnS ∧ (∀ a ∈ L.take j, okL a) ∧ C' = pt t1 [.int .i64 n0, .int .i64 n1, .int .i64 n2, .int .i64 n3, .int .i64 n4, .int .i64 n5, .int .i64 n6, .int .i64 n7, .int .i64 n8, .int .i64 n9, .int .i64 n10, .int .i64 n11, .int .i64 n12, .int .i64 n13, .int .i64 n14, .int .i64 n15, .int .i64 n16, .int .i64 n17, .slice A n c] 39 :: row B cb 5 byteC X :: C ∧ Agree f [(1, .pointer (some ⟨t1, 0, none⟩)), (4, .slice B nb cb), (21, .slice A n c), (22, .int .i64 n), (23, .int .i64 j)]) n (turn n ⟨0, _, _, _, _, by omega, rfl, hX0, by simp, rfl, rfl, rfl, rfl, rfl, rfl, trivial⟩) ?_
  rintro nk f C' ⟨j, nb, cb, B, X, hj, hnb, hX, hokj, rfl, hA⟩
  refine c_fr _ hA ?_
  simp only [updL]
  have hxl : X.length = nb := hnb.symm
  have hxb : nb ≤ 7000000 := by
    have := lns_len hokj
    have h2 : (L.take j).length ≤ 512 := by simp; omega
    rw [hnb, hX, List.length_append, List.length_cons]
    omega
  have hvv : View (pt t1 [.int .i64 n0, .int .i64 n1, .int .i64 n2, .int .i64 n3, .int .i64 n4, .int .i64 n5, .int .i64 n6, .int .i64 n7, .int .i64 n8, .int .i64 n9, .int .i64 n10, .int .i64 n11, .int .i64 n12, .int .i64 n13, .int .i64 n14, .int .i64 n15, .int .i64 n16, .int .i64 n17, .slice A n c] 39 :: row B cb 5 byteC X :: C) A acC31 L := view_there (view_there hv)
  by_cases hlt : j < n
  · obtain ⟨a, ha⟩ : ∃ a, L[j]? = some a := ⟨_, List.getElem?_eq_getElem (by omega)⟩
    have ham := List.mem_of_getElem? ha
    have hai := hin a ham
    cases hl : lineF a with
    | none =>
      have hK2 := hbad ⟨a, ham, hl⟩
      repeat' (first
        | (show evG _ _ _ _ _ _ _; first | refine G_add64 ?_ | refine G_pure0 ?_ | refine G_load ?_ | refine evG_nil ?_ | refine G_br ?_ ?_ | refine G_field ?_ | refine G_pure ?_ | refine G_store ?_ | refine G_loadV ?_ | refine G_loadV0 ?_ | refine G_loadV2 ?_ | (refine G_append ?_; intro _ _) | (refine G_appendN ?_; intro _ _) | refine G_index ?_ | refine G_indexA ?_ | refine G_conv64 ?_ | refine G_conv8 ?_ | refine G_convu ?_ | refine G_conv ?_ | refine G_cat ?_ | refine G_neq_agg ?_ | refine G_bytesP ?_ | refine G_bytesstr ?_ | refine G_call ?_ | refine G_call0 ?_ | (refine G_box ?_; intro _) | (refine G_alloc ?_; intro _) | (refine G_strrow ?_; intro _ _) | (refine G_indexV ?_; intro _ _ hA; subst hA))
        | (show spl _ _ _; first | refine spl_no rfl ?_ | refine spl_yes rfl ?_)
        | (show evC _ _ _ _ _; first | refine c_seq ?_ | refine c_region (by exact rfl) ?_ | refine c_cond (by exact rfl) ?_ | refine c_ret ?_ | refine c_skip ?_ | refine c_block ?_ | refine c_exit ?_ | refine std ?_)
        | (show Br _ _ _; first | refine Br.t rfl ?_ | refine Br.f rfl ?_ | refine brs ?_ | (first | refine Br.mkN (fun h => ?_) (fun h => ?_) | refine Br.mk (fun h => ?_) (fun h => ?_)) <;> (try (first | contradiction | (exfalso; omega) | (exfalso; simp at h; done))))
        | refine stp ?_
        | (show CallT _ 18 _ _ _; refine CA (h := lineN_ok hai hl ?_)))
      all_goals first
        | (show retC _ _ _ _ _ _; refine RETC ?_; exact ret_done (hK2))
        | (exfalso; omega)
    | some l =>
      obtain ⟨⟨k1, k2⟩, rfl⟩ := lineF_some.1 hl
      have hll := lineS_len k1 hai
      have hls := bq_size (lineS a)
      have hy : (bq (lineS a) ++ (⟨#[10]⟩ : ByteArray)).data.toList = lnS a := by
        rw [show (⟨#[10]⟩ : ByteArray) = bq [10] from rfl, bq_app, data_bq]
        rfl
      have hyl : (bq (lineS a) ++ (⟨#[10]⟩ : ByteArray)).data.toList.length = (lineS a).length + 1 := by rw [hy]; simp [lnS]
      have hst := scr_take ha
      have hoka : ∀ z ∈ L.take (j + 1), okL z := fun z hz => by
        rw [List.take_add_one, ha] at hz
        rcases List.mem_append.1 hz with hz | hz
        · exact hokj z hz
        · simp at hz; subst hz; exact ⟨hl, hai⟩
      repeat' (first
        | (show evG _ _ _ _ _ _ _; first | refine G_add64 ?_ | refine G_pure0 ?_ | refine G_load ?_ | refine evG_nil ?_ | refine G_br ?_ ?_ | refine G_field ?_ | refine G_pure ?_ | refine G_store ?_ | refine G_loadV ?_ | refine G_loadV0 ?_ | refine G_loadV2 ?_ | (refine G_append ?_; intro _ _) | (refine G_appendN ?_; intro _ _) | refine G_index ?_ | refine G_indexA ?_ | refine G_conv64 ?_ | refine G_conv8 ?_ | refine G_convu ?_ | refine G_conv ?_ | refine G_cat ?_ | refine G_neq_agg ?_ | refine G_bytesP ?_ | refine G_bytesstr ?_ | refine G_call ?_ | refine G_call0 ?_ | (refine G_box ?_; intro _) | (refine G_alloc ?_; intro _) | (refine G_strrow ?_; intro _ _) | (refine G_indexV ?_; intro _ _ hA; subst hA))
        | (show spl _ _ _; first | refine spl_no rfl ?_ | refine spl_yes rfl ?_)
        | (show evC _ _ _ _ _; first | refine c_seq ?_ | refine c_region (by exact rfl) ?_ | refine c_cond (by exact rfl) ?_ | refine c_ret ?_ | refine c_skip ?_ | refine c_block ?_ | refine c_exit ?_ | refine std ?_)
        | (show Br _ _ _; first | refine Br.t rfl ?_ | refine Br.f rfl ?_ | refine brs ?_ | (first | refine Br.mkN (fun h => ?_) (fun h => ?_) | refine Br.mk (fun h => ?_) (fun h => ?_)) <;> (try (first | contradiction | (exfalso; omega) | (exfalso; simp at h; done))))
        | refine stp ?_
        | (show CallT _ 18 _ _ _; refine CA (h := lineY_ok hai hl ?_)))
      all_goals first
        | (show TurnG _ _ _ _; exact turn (nk - 1) ⟨j + 1, _, _, _, X ++ (bq (lineS a) ++ (⟨#[10]⟩ : ByteArray)).data.toList, by omega, rfl, by rw [hy, hX, hst]; simp, hoka, rfl, rfl, rfl, rfl, rfl, rfl, trivial⟩)
        | (exfalso; omega)
  · obtain rfl : j = n := by omega
    rw [← hsL] at hX
    rw [List.take_of_length_le (by omega)] at hokj
    subst hX
    by_cases hbg : 1048576 < (scrS ⟨[n0, n1, n2, n3, n4, n5, n6, n7, n8, n9, n10, n11, n12, n13, n14, n15, n16, n17], L⟩).length
    · have hK2 := hbig hokj hbg
      repeat' (first
        | (show evG _ _ _ _ _ _ _; first | refine G_add64 ?_ | refine G_pure0 ?_ | refine G_load ?_ | refine evG_nil ?_ | refine G_br ?_ ?_ | refine G_field ?_ | refine G_pure ?_ | refine G_store ?_ | refine G_loadV ?_ | refine G_loadV0 ?_ | refine G_loadV2 ?_ | (refine G_append ?_; intro _ _) | (refine G_appendN ?_; intro _ _) | refine G_index ?_ | refine G_indexA ?_ | refine G_conv64 ?_ | refine G_conv8 ?_ | refine G_convu ?_ | refine G_conv ?_ | refine G_cat ?_ | refine G_neq_agg ?_ | refine G_bytesP ?_ | refine G_bytesstr ?_ | refine G_call ?_ | refine G_call0 ?_ | (refine G_box ?_; intro _) | (refine G_alloc ?_; intro _) | (refine G_strrow ?_; intro _ _) | (refine G_indexV ?_; intro _ _ hA; subst hA))
        | (show spl _ _ _; first | refine spl_no rfl ?_ | refine spl_yes rfl ?_)
        | (show evC _ _ _ _ _; first | refine c_seq ?_ | refine c_region (by exact rfl) ?_ | refine c_cond (by exact rfl) ?_ | refine c_ret ?_ | refine c_skip ?_ | refine c_block ?_ | refine c_exit ?_ | refine std ?_)
        | (show Br _ _ _; first | refine Br.t rfl ?_ | refine Br.f rfl ?_ | refine brs ?_ | (first | refine Br.mkN (fun h => ?_) (fun h => ?_) | refine Br.mk (fun h => ?_) (fun h => ?_)) <;> (try (first | contradiction | (exfalso; omega) | (exfalso; simp at h; done))))
        | refine stp ?_)
      all_goals first
        | (show retC _ _ _ _ _ _; refine RETC ?_; exact ret_done (hK2))
        | (exfalso; omega)
    · have hK2 := hok hokj hbg
      repeat' (first
        | (show evG _ _ _ _ _ _ _; first | refine G_add64 ?_ | refine G_pure0 ?_ | refine G_load ?_ | refine evG_nil ?_ | refine G_br ?_ ?_ | refine G_field ?_ | refine G_pure ?_ | refine G_store ?_ | refine G_loadV ?_ | refine G_loadV0 ?_ | refine G_loadV2 ?_ | (refine G_append ?_; intro _ _) | (refine G_appendN ?_; intro _ _) | refine G_index ?_ | refine G_indexA ?_ | refine G_conv64 ?_ | refine G_conv8 ?_ | refine G_convu ?_ | refine G_conv ?_ | refine G_cat ?_ | refine G_neq_agg ?_ | refine G_bytesP ?_ | refine G_bytesstr ?_ | refine G_call ?_ | refine G_call0 ?_ | (refine G_box ?_; intro _) | (refine G_alloc ?_; intro _) | (refine G_strrow ?_; intro _ _) | (refine G_indexV ?_; intro _ _ hA; subst hA))
        | (show spl _ _ _; first | refine spl_no rfl ?_ | refine spl_yes rfl ?_)
        | (show evC _ _ _ _ _; first | refine c_seq ?_ | refine c_region (by exact rfl) ?_ | refine c_cond (by exact rfl) ?_ | refine c_ret ?_ | refine c_skip ?_ | refine c_block ?_ | refine c_exit ?_ | refine std ?_)
        | (show Br _ _ _; first | refine Br.t rfl ?_ | refine Br.f rfl ?_ | refine brs ?_ | (first | refine Br.mkN (fun h => ?_) (fun h => ?_) | refine Br.mk (fun h => ?_) (fun h => ?_)) <;> (try (first | contradiction | (exfalso; omega) | (exfalso; simp at h; done))))
        | refine stp ?_)
      all_goals first
        | (show retC _ _ _ _ _ _; refine RETC ?_; exact ret_done (hK2))
        | (exfalso; omega)
end Go.Proofs.YtiofdmjecjcdbaaGreatDoor

