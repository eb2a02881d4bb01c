/- Sniff: the law SniffNone. Sniff: Streams, of any state. Sniff: the law SniffPieces: lemmas; each with the conditions that it states. -/
import Derived.Test.YthoagholmkiknaaFh
import Derived.Test.YthoagholmkiknaaSj
import Derived.Test.YthoagholmkiknaaS11
import Derived.Test.YthoagholmkiknaaSh
import Derived.Test.YthoagholmkiknaaFi
import Derived.Test.YthoagholmkiknaaPb

namespace Go.Proofs.Ythoagholmkiknaa
open Go Go.Proofs Go.Sl
set_option maxRecDepth 100000
set_option maxHeartbeats 4000000
set_option linter.unusedSimpArgs false
set_option linter.unusedVariables false
attribute [local irreducible] evG evC spl thenC inBlockC noGotoC CallT retC RetG TurnG CutG pt ro exP star sep pureP
attribute [local irreducible] mp mit pF parse seeL0 seeO0 seeL1 seeO1
variable {R C : List HP} {K : Value → List HP → Prop}
/-- a sniffer as it is made -/
def sn0 : Sn := ⟨[⟨64, 8, 4⟩], [⟨64, 8, 4⟩], 0, 0, 512, 512, []⟩
theorem sn0_inv : InvS 0 sn0 := ⟨by decide, by decide, by decide, by decide, fun z hz => by rw [List.mem_singleton.1 hz]; unfold stB; decide, fun z hz => by rw [List.mem_singleton.1 hz]; unfold stB; decide, by decide, by decide, fun p hp => by cases hp⟩
theorem Ent.ptRow {α : Type} {E : Cod α} {e : TypeId} {B : Nat} {xs : List α} {C : List HP} : Ent (pt B (xs.flatMap E.enc) e :: C) (row (some ⟨B, 0, none⟩) xs.length e E xs :: C) := fun _ hs => row_sats (pre := []) (post := []) rfl (by simpa using hs) (Nat.le_refl _) (by simp)
theorem rowS (s : Nat) (C : List HP) : Ent (pt s [.int .i64 64, .int .i64 8, .int .i64 4] 58 :: C) (row (some ⟨s, 0, none⟩) 1 58 st3C [⟨64, 8, 4⟩] :: C) := Ent.ptRow (E := st3C) (xs := [⟨64, 8, 4⟩])
theorem gnew_ok (hK : ∀ x i0 i1 A0 A1 m, K (.pointer (some ⟨x, 0, none⟩)) (spP i0 [] 0 :: pt x [.pointer (some ⟨i0, 0, none⟩), .pointer (some ⟨i1, 0, none⟩), .slice A0 sn0.s0.length 1, .slice A1 sn0.s1.length 1, .int .i64 (sn0.a0 : Nat), .int .i64 (sn0.a1 : Nat), .int .i64 sn0.c0, .int .i64 sn0.c1, .map (some m)] 55 :: row A0 1 58 st3C sn0.s0 :: row A1 1 58 st3C sn0.s1 :: mp m (([] : List En).map enM) 0 :: stars enP [] :: spP i1 [] 0 :: R)) : CallT Try.prog 7 #[] R K :=
  CallT.entK (snew33_ok fun x i0 i1 s0 s1 m => ⟨_, Ent.trans (Ent.pick (.there (.there (.there .here))) (Ent.pick (.there (.there (.there .here))) (Ent.pick (.there .here) (Ent.pick .here (Ent.pick (.there .here) (Ent.refl _)))))) (Ent.trans (rowS s0 _) (Ent.trans (Ent.cons (rowS s1 _)) (Ent.pick (.there (.there .here)) (Ent.pick (.there (.there .here)) (Ent.pick .here (Ent.pick .here (Ent.pick .here (Ent.starsNil (P := enP))))))))), hK x i0 i1 (some ⟨s0, 0, none⟩) (some ⟨s1, 0, none⟩) m⟩)
end Go.Proofs.Ythoagholmkiknaa


namespace Go.Proofs.Ythoagholmkiknaa
open Go Go.Proofs Go.Sl
set_option maxRecDepth 100000
set_option maxHeartbeats 4000000
set_option linter.unusedSimpArgs false
set_option linter.unusedVariables false
attribute [local irreducible] evG evC spl thenC inBlockC noGotoC CallT retC RetG TurnG CutG pt ro exP star sep pureP
attribute [local irreducible] mp mit
variable {R C : List HP} {K : Value → List HP → Prop}
/-- keys in order -/
def srtK (ks : List Int) : List Int := ks.mergeSort fun x y => decide (x ≤ y)
theorem srtK_len (ks : List Int) : (srtK ks).length = ks.length := List.length_mergeSort _
theorem srtK_perm {a b : List Int} (h : a.Perm b) : srtK a = srtK b := by
  have tr : ∀ a b c : Int, decide (a ≤ b) = true → decide (b ≤ c) = true → decide (a ≤ c) = true := fun a b c h1 h2 => by simp only [decide_eq_true_eq] at *; omega
  have to : ∀ a b : Int, (decide (a ≤ b) || decide (b ≤ a)) = true := fun a b => by simp; omega
  refine List.Perm.eq_of_pairwise (le := fun a b => decide (a ≤ b) = true) (fun a b _ _ h1 h2 => by simp only [decide_eq_true_eq] at h1 h2; omega) (List.pairwise_mergeSort tr to a) (List.pairwise_mergeSort tr to b) ?_
  exact ((List.mergeSort_perm a _).trans h).trans (List.mergeSort_perm b _).symm
theorem ssort_ok {A : Option Addr} {c n : Nat} {xs : List Int} (hn : xs.length = n) (hs : n < 1000000000000000) (hK : K (.tuple #[]) (row A c 3 siC (srtK xs) :: R)) : CallT Try.prog 24 #[.slice A n c] (row A c 3 siC xs :: R) K :=
  CallT.ofSort Try.func24 rfl (by decide +kernel) (fun _ => rfl) (Any.slices_Sort_int Try.lays189) (Any.slices_Sort_int_none Try.lays189) Pick.here hn hs hK
theorem en_eq_b : ∀ {l : List En} {a b : En}, (l.map En.b).Nodup → a ∈ l → b ∈ l → a.b = b.b → a = b
  | [], _, _, _, ha, _, _ => by cases ha
  | z :: l, a, b, hnd, ha, hb, h => by
    rw [List.map_cons] at hnd
    obtain ⟨g1, g2⟩ := List.nodup_cons.1 hnd
    rcases List.mem_cons.1 ha with h1 | h1
    · rcases List.mem_cons.1 hb with h2 | h2
      · rw [h1, h2]
      · exact absurd (by rw [← h1, h]; exact List.mem_map_of_mem h2) g1
    · rcases List.mem_cons.1 hb with h2 | h2
      · exact absurd (by rw [← h2, ← h]; exact List.mem_map_of_mem h1) g1
      · exact en_eq_b g2 h1 h2 h
/-- all entries, in the order in which they came -/
theorem en_perm {l os : List En} (h1 : (l.map En.b).Nodup) (h2 : (os.map En.b).Nodup) (h3 : ∀ e ∈ os, e ∈ l) (h4 : ∀ e ∈ l, e.b ∈ os.map En.b) : os.Perm l := by
  have nl : l.Nodup := List.Pairwise.of_map (f := En.b) (fun _ _ h e => h (by rw [e])) h1
  have no : os.Nodup := List.Pairwise.of_map (f := En.b) (fun _ _ h e => h (by rw [e])) h2
  refine (List.perm_ext_iff_of_nodup no nl).2 fun e => ⟨h3 e, fun he => ?_⟩
  obtain ⟨z, hz, hb⟩ := List.mem_map.1 (h4 e he)
  rw [← en_eq_b h1 (h3 z hz) he hb]
  exact hz
section
variable {x i0 i1 m ck k0 k1 n0 n1 a0 a1 : Nat} {A0 A1 : Option Addr} {c0 c1 : Int} {l : List En} {ls : List (Int × Ln)}
theorem os_le {l os : List En} (h1 : (l.map En.b).Nodup) (h2 : (os.map En.b).Nodup) (h3 : ∀ e ∈ os, e ∈ l) : os.length ≤ l.length := by
  have no : os.Nodup := List.Pairwise.of_map (f := En.b) (fun _ _ h e => h (by rw [e])) h2
  exact List.Nodup.length_le_of_subset no h3
set_option maxHeartbeats 40000000 in
theorem gstreams_ok (hok : EnOk l ck) (hab : absL l = ls) (hl : l.length ≤ 100000) (hK : ∀ A c, K (.slice A (srtK (ls.map Prod.fst)).length c) (row A c 3 siC (srtK (ls.map Prod.fst)) :: pt x [.pointer (some ⟨i0, 0, none⟩), .pointer (some ⟨i1, 0, none⟩), .slice A0 n0 k0, .slice A1 n1 k1, .int .i64 (a0 : Nat), .int .i64 (a1 : Nat), .int .i64 c0, .int .i64 c1, .map (some m)] 55 :: mp m (l.map enM) ck :: R)) : CallT Try.prog 10 #[.pointer (some ⟨x, 0, none⟩)] (pt x [.pointer (some ⟨i0, 0, none⟩), .pointer (some ⟨i1, 0, none⟩), .slice A0 n0 k0, .slice A1 n1 k1, .int .i64 (a0 : Nat), .int .i64 (a1 : Nat), .int .i64 c0, .int .i64 c1, .map (some m)] 55 :: mp m (l.map enM) ck :: R) K := by
  obtain ⟨hnd, hck⟩ := hok
  refine callT_intro mixed Try.func10 rfl (by decide) (by decide +kernel) (by exact Nat.le_of_ble_eq_true rfl) ?_
  repeat' (first
    | (show evG _ _ _ _ _ _ _; refine G_range ?_; intro _)
    | (show evG _ _ _ _ _ _ _; first | refine G_pure0 ?_ | refine G_load ?_ | refine evG_nil ?_ | refine G_br ?_ ?_ | refine G_field ?_ | refine G_pure ?_ | refine G_loadV ?_ | refine G_loadV0 ?_ | refine G_loadV2 ?_ | (refine G_append ?_; intro _ _) | (refine G_appendN ?_; intro _ _) | refine G_eql_agg ?_ | refine G_call ?_ | refine G_call0 ?_ | (refine G_buildSlice ?_; intro _))
    | (show spl _ _ _; first | refine spl_no rfl ?_ | refine spl_yes rfl ?_)
    | (show evC _ _ _ _ _; first | refine c_seq ?_ | refine c_region (by exact rfl) ?_ | refine c_cond (by exact rfl) ?_ | refine c_ret ?_ | refine c_skip ?_ | refine c_block ?_ | refine c_exit ?_ | refine std ?_)
    | (show Br _ _ _; first | refine Br.t rfl ?_ | refine Br.f rfl ?_ | refine brs ?_ | (first | refine Br.mkN (fun h => ?_) (fun h => ?_) | refine Br.mk (fun h => ?_) (fun h => ?_)) <;> (try (first | contradiction | (exfalso; omega) | (exfalso; simp at h; done))))
    | refine stp ?_)
  rename_i i
  refine evC_ent (Ent.nilrow 3 siC _) ?_
  refine LOOP (fun kk a C' => ∃ (os : List En) (ks : List Int) (seen : List Nat) (A : Option Addr) (c : Nat), leftN l seen ≤ kk ∧ seen.Nodup ∧ (∀ e ∈ os, e ∈ l) ∧ ks = os.map En.k ∧ seen = os.map En.b ∧ Agree a [(0, .pointer (some ⟨x, 0, none⟩)), (3, .slice A ks.length c), (12, .pointer (some ⟨i, 0, none⟩))] ∧ C' = row A c 3 siC ks :: mit i m ck seen ck :: pt x [.pointer (some ⟨i0, 0, none⟩), .pointer (some ⟨i1, 0, none⟩), .slice A0 n0 k0, .slice A1 n1 k1, .int .i64 (a0 : Nat), .int .i64 (a1 : Nat), .int .i64 c0, .int .i64 c1, .map (some m)] 55 :: mp m (l.map enM) ck :: R) (leftN l []) (turn (leftN l []) ⟨[], [], [], none, 0, Nat.le_refl _, List.nodup_nil, (fun e he => by cases he), rfl, rfl, ⟨rfl, rfl, rfl, trivial⟩, rfl⟩ (by omega)) ?_
  rintro kk a C' ⟨os, ks, seen, A, c, hk, hno, hos, hks, hse, ha, rfl⟩
  have hle := os_le hnd (by rw [← hse]; exact hno) hos
  have hlk : ks.length = os.length := by rw [hks, List.length_map]
  refine c_fr _ ha ?_
  simp only [updL]
  repeat' (first
    | (show evG _ _ _ _ _ _ _; first | refine G_pure0 ?_ | refine G_load ?_ | refine evG_nil ?_ | refine G_br ?_ ?_ | refine G_field ?_ | refine G_pure ?_ | refine G_loadV ?_ | refine G_loadV0 ?_ | refine G_loadV2 ?_ | (refine G_append ?_; intro _ _) | (refine G_appendN ?_; intro _ _) | refine G_eql_agg ?_ | refine G_call ?_ | refine G_call0 ?_ | (refine G_buildSlice ?_; intro _))
    | (show spl _ _ _; first | refine spl_no rfl ?_ | refine spl_yes rfl ?_)
    | (show evC _ _ _ _ _; first | refine c_seq ?_ | refine c_region (by exact rfl) ?_ | refine c_cond (by exact rfl) ?_ | refine c_ret ?_ | refine c_skip ?_ | refine c_block ?_ | refine c_exit ?_ | refine std ?_)
    | (show Br _ _ _; first | refine Br.t rfl ?_ | refine Br.f rfl ?_ | refine brs ?_ | (first | refine Br.mkN (fun h => ?_) (fun h => ?_) | refine Br.mk (fun h => ?_) (fun h => ?_)) <;> (try (first | contradiction | (exfalso; omega) | (exfalso; simp at h; done))))
    | refine stp ?_)
  refine G_next (fun e he hn => ?_) (fun hs => ?_) rfl (by (repeat (first | exact Pick.here | apply Pick.there)) <;> exact Pick.here) ⟨_, by ((repeat (first | exact Pick.here | apply Pick.there)) <;> exact Pick.here)⟩ (fun e he => by obtain ⟨z, hz, rfl⟩ := List.mem_map.1 he; exact hck z hz) (by
    cases l with
    | nil => exact .inr (.inl rfl)
    | cons z l => exact .inr (.inr ⟨enM z, List.mem_cons_self .., hck z (List.mem_cons_self ..)⟩)) (by exact rfl)
  · obtain ⟨e0, he0, rfl⟩ := List.mem_map.1 he
    have hn : e0.b ∉ seen := hn
    have hfb := find_b hnd he0
    have hlt := left_step he0 hn
    refine spl_no rfl ?_
    repeat' (first
      | (show evG _ _ _ _ _ _ _; first | refine G_entry ?_ (he := hfb) | (refine G_append (E := siC) (xs := ks) (ys := [e0.k]) ?_; intro _ _))
      | (show evG _ _ _ _ _ _ _; first | refine G_pure0 ?_ | refine G_load ?_ | refine evG_nil ?_ | refine G_br ?_ ?_ | refine G_field ?_ | refine G_pure ?_ | refine G_loadV ?_ | refine G_loadV0 ?_ | refine G_loadV2 ?_ | (refine G_append ?_; intro _ _) | (refine G_appendN ?_; intro _ _) | refine G_eql_agg ?_ | refine G_call ?_ | refine G_call0 ?_ | (refine G_buildSlice ?_; intro _))
      | (show spl _ _ _; first | refine spl_no rfl ?_ | refine spl_yes rfl ?_)
      | (show evC _ _ _ _ _; first | refine c_seq ?_ | refine c_region (by exact rfl) ?_ | refine c_cond (by exact rfl) ?_ | refine c_ret ?_ | refine c_skip ?_ | refine c_block ?_ | refine c_exit ?_ | refine std ?_)
      | (show Br _ _ _; first | refine Br.t rfl ?_ | refine Br.f rfl ?_ | refine brs ?_ | (first | refine Br.mkN (fun h => ?_) (fun h => ?_) | refine Br.mk (fun h => ?_) (fun h => ?_)) <;> (try (first | contradiction | (exfalso; omega) | (exfalso; simp at h; done))))
      | refine stp ?_)
    all_goals exact turn (leftN l (seen ++ [e0.b])) ⟨os ++ [e0], ks ++ [e0.k], seen ++ [e0.b], _, _, Nat.le_refl _, List.nodup_append.2 ⟨hno, by simp, fun b hb b' hb' he => by
        rw [List.mem_singleton] at hb'
        subst hb' he
        exact hn hb⟩, (fun e he => by
      rcases List.mem_append.1 he with he | he
      · exact hos e he
      · rw [List.mem_singleton.1 he]; exact he0), by rw [hks]; simp, by rw [hse]; simp, ⟨rfl, rfl, rfl, trivial⟩, rfl⟩ (Nat.lt_of_lt_of_le hlt hk)
  · refine spl_no rfl ?_
    have hpm : os.Perm l := en_perm hnd (by rw [← hse]; exact hno) hos fun e he => by rw [← hse]; exact hs (enM e) (List.mem_map_of_mem he)
    have hsr : srtK ks = srtK (ls.map Prod.fst) := by
      rw [hks, srtK_perm (hpm.map En.k), ← hab]
      unfold absL
      rw [List.map_map]
      rfl
    have hlen : (srtK (ls.map Prod.fst)).length = ks.length := by rw [← hsr, srtK_len]
    rw [hlen] at hK
    repeat' (first
      | (show evG _ _ _ _ _ _ _; first | refine G_pure0 ?_ | refine G_load ?_ | refine evG_nil ?_ | refine G_br ?_ ?_ | refine G_field ?_ | refine G_pure ?_ | refine G_loadV ?_ | refine G_loadV0 ?_ | refine G_loadV2 ?_ | (refine G_append ?_; intro _ _) | (refine G_appendN ?_; intro _ _) | refine G_eql_agg ?_ | refine G_call ?_ | refine G_call0 ?_ | (refine G_buildSlice ?_; intro _))
      | (show spl _ _ _; first | refine spl_no rfl ?_ | refine spl_yes rfl ?_)
      | (show evC _ _ _ _ _; first | refine c_seq ?_ | refine c_region (by exact rfl) ?_ | refine c_cond (by exact rfl) ?_ | refine c_ret ?_ | refine c_skip ?_ | refine c_block ?_ | refine c_exit ?_ | refine std ?_)
      | (show Br _ _ _; first | refine Br.t rfl ?_ | refine Br.f rfl ?_ | refine brs ?_ | (first | refine Br.mkN (fun h => ?_) (fun h => ?_) | refine Br.mk (fun h => ?_) (fun h => ?_)) <;> (try (first | contradiction | (exfalso; omega) | (exfalso; simp at h; done))))
      | refine stp ?_
      | (show CallT _ 24 _ _ _; refine CA (h := ssort_ok (xs := ks) rfl (by omega) ?_); rw [hsr]))
    all_goals (show retC _ _ _ _ _ _; refine RETC ?_; exact ret_done (hK _ _))
end
end Go.Proofs.Ythoagholmkiknaa


namespace Go.Proofs.Ythoagholmkiknaa
open Go Go.Proofs Go.Sl
set_option maxRecDepth 100000
set_option maxHeartbeats 4000000
set_option linter.unusedSimpArgs false
set_option linter.unusedVariables false
attribute [local irreducible] evG evC spl thenC inBlockC noGotoC CallT retC RetG TurnG CutG pt ro exP star sep pureP
attribute [local irreducible] mp mit
variable {R C : List HP} {K : Value → List HP → Prop}
theorem snL1_app : ∀ (a b : List Fm) (p : Sn × List Int), snL1 (a ++ b) p = snL1 b (snL1 a p)
  | [], _, _ => rfl
  | y :: r, b, p => snL1_app r b _
theorem snL1_out : ∀ (a : List Fm) (σ : Sn) (o : List Int), snL1 a (σ, o) = ((snL1 a (σ, [])).1, o ++ (snL1 a (σ, [])).2)
  | [], σ, o => by simp [snL1]
  | y :: r, σ, o => by
    unfold snL1
    rw [snL1_out r _ (o ++ _), snL1_out r _ ([] ++ _)]
    simp [List.append_assoc]
theorem see_go {σ : Sn} {a b : List UInt8} (h : (pF a).2.2 = 0) : (seeL1 σ (a ++ b)).1 = (seeL1 (seeL1 σ a).1 ((pF a).2.1 ++ b)).1 ∧ seeO1 σ (a ++ b) = seeO1 σ a ++ seeO1 (seeL1 σ a).1 ((pF a).2.1 ++ b) := by
  obtain ⟨h1, h2⟩ := (pF_app b a.length a (Nat.le_refl _)).1 h
  have e : seeL1 σ (a ++ b) = ((seeL1 (seeL1 σ a).1 ((pF a).2.1 ++ b)).1, (seeL1 σ a).2 ++ (seeL1 (seeL1 σ a).1 ((pF a).2.1 ++ b)).2) := by
    unfold seeL1
    rw [h1, snL1_app]
    exact snL1_out _ _ _
  refine ⟨by rw [e], ?_⟩
  unfold seeO1
  rw [e, h2, if_pos h, List.append_nil, List.append_assoc]
theorem see_stop {σ : Sn} {a b : List UInt8} (h : (pF a).2.2 ≠ 0) : (seeL1 σ (a ++ b)).1 = (seeL1 σ a).1 ∧ seeO1 σ (a ++ b) = seeO1 σ a := by
  obtain ⟨h1, h2⟩ := (pF_app b a.length a (Nat.le_refl _)).2 h
  have e : seeL1 σ (a ++ b) = seeL1 σ a := by unfold seeL1; rw [h1]
  refine ⟨by rw [e], ?_⟩
  unfold seeO1
  rw [e, h2]
theorem lsUpd_len {id : Int} {f : Ln → Ln} : ∀ ls : List (Int × Ln), (lsUpd id f ls).length = ls.length
  | [] => rfl
  | p :: r => by
    unfold lsUpd
    split
    · rfl
    · simp [lsUpd_len r]
theorem snF1_len (t st : Int) (e : Bool) (d : ByteArray) (n : Int) (ps : List Pr) (σ : Sn) : (snF1 t st e d n ps σ).ls.length ≤ σ.ls.length + 1 := by
  unfold snF1
  split
  · unfold opn1; split
    · omega
    · simp
  · split
    · simp [set1]
    · split
      · unfold akn1; split
        · simp
        · omega
      · split
        · simp [grn1, lsUpd_len]
        · split
          · simp [dat1, lsUpd_len]
          · split
            · simp [itm1, lsUpd_len]
            · omega
theorem snL1_len : ∀ (a : List Fm) (σ : Sn) (o : List Int), (snL1 a (σ, o)).1.ls.length ≤ σ.ls.length + a.length ∧ (snL1 a (σ, o)).2.length ≤ o.length + 2 * a.length
  | [], _, _ => by simp [snL1]
  | y :: r, σ, o => by
    have h := snL1_len r (snF1 y.t y.st y.e y.d y.n y.ps σ) (o ++ snO1 y.t y.st y.e y.d σ)
    have h1 := snF1_len y.t y.st y.e y.d y.n y.ps σ
    have h2 := snO1_len y.t y.st y.e y.d σ
    unfold snL1
    simp only [List.length_append] at h
    simp only [List.length_cons]
    omega
theorem seeL1_len (σ : Sn) (bs : List UInt8) : (seeL1 σ bs).1.ls.length ≤ σ.ls.length + bs.length ∧ (seeO1 σ bs).length ≤ 2 * bs.length + 1 := by
  have h := snL1_len ((pF bs).1.map cfr) σ []
  have h2 := pF_len bs.length bs (Nat.le_refl _)
  unfold seeO1 seeL1
  rw [List.length_map] at h
  simp only [List.length_append, List.length_nil] at h ⊢
  refine ⟨by omega, ?_⟩
  split <;> (simp; omega)
theorem intsG_ok {A B : Option Addr} {n1 n2 c1 c2 : Nat} {l : List Int} (hv : View C A siC l) (hw : View C B siC l) (h1 : l.length = n1) (h2 : l.length = n2) (hl : l.length ≤ 1000000) (hK : K (.bool true) C) : CallT Try.prog 9 #[.slice A n1 c1, .slice B n2 c2] C K := by
  subst h1 h2
  refine callT_intro mixed Try.func9 rfl (by decide) (by decide +kernel) (by exact Nat.le_of_ble_eq_true rfl) ?_
  repeat' (first
    | (show evG _ _ _ _ _ _ _; first | refine G_add64 ?_ | refine G_pure0 ?_ | refine G_load ?_ | refine evG_nil ?_ | refine G_br ?_ ?_ | refine G_pure ?_ | refine G_loadV ?_ | refine G_loadV0 ?_ | refine G_loadV2 ?_ | refine G_index ?_ | refine G_indexA ?_ | refine G_cat ?_ | refine G_neq_agg ?_ | (refine G_indexV ?_; intro _ _ hA; subst hA))
    | (show spl _ _ _; first | refine spl_no rfl ?_ | refine spl_yes rfl ?_)
    | (show evC _ _ _ _ _; first | refine c_seq ?_ | refine c_region (by exact rfl) ?_ | refine c_cond (by exact rfl) ?_ | refine c_ret ?_ | refine c_skip ?_ | refine c_block ?_ | refine c_exit ?_ | (show evC _ (.region 6 _ true) _ _ _; refine c_draw (l := [(0, 0), (1, 0), (2, 0), (3, 0), (4, 0), (5, 0), (6, 0), (7, 0), (8, 0)]) (by decide +kernel) (by decide +kernel) (by exact rfl) ?_) | refine std ?_)
    | (show Br _ _ _; first | refine Br.t rfl ?_ | refine Br.f rfl ?_ | refine brs ?_ | (first | refine Br.mkN (fun h => ?_) (fun h => ?_) | refine Br.mk (fun h => ?_) (fun h => ?_)) <;> (try (first | contradiction | (exfalso; omega) | (exfalso; simp at h; done))))
    | refine stp ?_)
  refine LOOP (fun k a C' => ∃ j : Nat, j + k = l.length ∧ C' = C ∧ Agree a [(0, .slice A l.length c1), (1, .slice B l.length c2), (4, .bool false), (5, .int .i64 j)]) l.length (turn l.length ⟨0, by omega, rfl, rfl, rfl, rfl, rfl, trivial⟩ (by omega)) ?_
  rintro k a C' ⟨j, hj, rfl, ha⟩
  refine c_fr _ ha ?_
  simp only [updL]
  by_cases hlt : j < l.length
  · obtain ⟨y, hy, _⟩ := at_drop (l := l) (j := j) hlt
    repeat' (first
      | (show evG _ _ _ _ _ _ _; first | refine G_add64 ?_ | refine G_pure0 ?_ | refine G_load ?_ | refine evG_nil ?_ | refine G_br ?_ ?_ | refine G_pure ?_ | refine G_loadV ?_ | refine G_loadV0 ?_ | refine G_loadV2 ?_ | refine G_index ?_ | refine G_indexA ?_ | refine G_cat ?_ | refine G_neq_agg ?_ | (refine G_indexV ?_; intro _ _ hA; subst hA))
      | (show spl _ _ _; first | refine spl_no rfl ?_ | refine spl_yes rfl ?_)
      | (show evC _ _ _ _ _; first | refine c_seq ?_ | refine c_region (by exact rfl) ?_ | refine c_cond (by exact rfl) ?_ | refine c_ret ?_ | refine c_skip ?_ | refine c_block ?_ | refine c_exit ?_ | (show evC _ (.region 6 _ true) _ _ _; refine c_draw (l := [(0, 0), (1, 0), (2, 0), (3, 0), (4, 0), (5, 0), (6, 0), (7, 0), (8, 0)]) (by decide +kernel) (by decide +kernel) (by exact rfl) ?_) | refine std ?_)
      | (show Br _ _ _; first | refine Br.t rfl ?_ | refine Br.f rfl ?_ | refine brs ?_ | (first | refine Br.mkN (fun h => ?_) (fun h => ?_) | refine Br.mk (fun h => ?_) (fun h => ?_)) <;> (try (first | contradiction | (exfalso; omega) | (exfalso; simp at h; done))))
      | refine stp ?_)
    all_goals (show TurnG _ _ _ _; exact turn (k - 1) ⟨j + 1, by omega, rfl, rfl, rfl, rfl, rfl, trivial⟩)
  · repeat' (first
      | (show evG _ _ _ _ _ _ _; first | refine G_add64 ?_ | refine G_pure0 ?_ | refine G_load ?_ | refine evG_nil ?_ | refine G_br ?_ ?_ | refine G_pure ?_ | refine G_loadV ?_ | refine G_loadV0 ?_ | refine G_loadV2 ?_ | refine G_index ?_ | refine G_indexA ?_ | refine G_cat ?_ | refine G_neq_agg ?_ | (refine G_indexV ?_; intro _ _ hA; subst hA))
      | (show spl _ _ _; first | refine spl_no rfl ?_ | refine spl_yes rfl ?_)
      | (show evC _ _ _ _ _; first | refine c_seq ?_ | refine c_region (by exact rfl) ?_ | refine c_cond (by exact rfl) ?_ | refine c_ret ?_ | refine c_skip ?_ | refine c_block ?_ | refine c_exit ?_ | (show evC _ (.region 6 _ true) _ _ _; refine c_draw (l := [(0, 0), (1, 0), (2, 0), (3, 0), (4, 0), (5, 0), (6, 0), (7, 0), (8, 0)]) (by decide +kernel) (by decide +kernel) (by exact rfl) ?_) | refine std ?_)
      | (show Br _ _ _; first | refine Br.t rfl ?_ | refine Br.f rfl ?_ | refine brs ?_ | (first | refine Br.mkN (fun h => ?_) (fun h => ?_) | refine Br.mk (fun h => ?_) (fun h => ?_)) <;> (try (first | contradiction | (exfalso; omega) | (exfalso; simp at h; done))))
      | refine stp ?_)
    all_goals (show retC _ _ _ _ _ _; refine RETC ?_; exact ret_done (hK))
section
variable {x i0 i1 m ck k0 k1 n0 n1 a0 a1 : Nat} {A0 A1 : Option Addr} {c0 c1 : Int} {l : List En} {ls : List (Int × Ln)}
theorem bytes10_ok (hK : K (.int .i64 c1) (pt x [.pointer (some ⟨i0, 0, none⟩), .pointer (some ⟨i1, 0, none⟩), .slice A0 n0 k0, .slice A1 n1 k1, .int .i64 (a0 : Nat), .int .i64 (a1 : Nat), .int .i64 c0, .int .i64 c1, .map (some m)] 55 :: R)) : CallT Try.prog 11 #[.pointer (some ⟨x, 0, none⟩), .int .i64 1, .int .i64 0] (pt x [.pointer (some ⟨i0, 0, none⟩), .pointer (some ⟨i1, 0, none⟩), .slice A0 n0 k0, .slice A1 n1 k1, .int .i64 (a0 : Nat), .int .i64 (a1 : Nat), .int .i64 c0, .int .i64 c1, .map (some m)] 55 :: R) K := by
  refine callT_intro mixed Try.func11 rfl (by decide) (by decide +kernel) (by exact Nat.le_of_ble_eq_true rfl) ?_
  repeat' (first
    | (show evG _ _ _ _ _ _ _; first | refine G_pure0 ?_ | refine G_load ?_ | refine evG_nil ?_ | refine G_br ?_ ?_ | refine G_field ?_ | refine G_pure ?_ | refine G_loadV ?_ | refine G_loadV0 ?_ | refine G_loadV2 ?_ | refine G_index ?_ | refine G_indexA ?_ | refine G_eql_agg ?_ | refine G_neq_agg ?_ | refine G_call ?_ | refine G_call0 ?_ | (refine G_indexV ?_; intro _ _ hA; subst hA) | refine G_skip ?_ | refine G_skip0 ?_)
    | (show spl _ _ _; first | refine spl_no rfl ?_ | refine spl_yes rfl ?_)
    | (show evC _ _ _ _ _; first | refine c_seq ?_ | refine c_region (by exact rfl) ?_ | refine c_cond (by exact rfl) ?_ | refine c_ret ?_ | refine c_skip ?_ | refine c_block ?_ | refine c_exit ?_ | refine std ?_)
    | (show Br _ _ _; first | refine Br.t rfl ?_ | refine Br.f rfl ?_ | refine brs ?_ | (first | refine Br.mkN (fun h => ?_) (fun h => ?_) | refine Br.mk (fun h => ?_) (fun h => ?_)) <;> (try (first | contradiction | (exfalso; omega) | (exfalso; simp at h; done))))
    | refine stp ?_
    | (show CallT _ 20 _ _ _; refine CA (h := sright_ok ?_)))
  all_goals (show retC _ _ _ _ _ _; refine RETC ?_; exact ret_done (hK))
theorem seeBroken_ok {s : ByteArray} {bs : List UInt8} {e : Int} (he : e ≠ 0) (hK : K (.slice none 0 0) (spP i1 bs e :: pt x [.pointer (some ⟨i0, 0, none⟩), .pointer (some ⟨i1, 0, none⟩), .slice A0 n0 k0, .slice A1 n1 k1, .int .i64 (a0 : Nat), .int .i64 (a1 : Nat), .int .i64 c0, .int .i64 c1, .map (some m)] 55 :: R)) : CallT Try.prog 8 #[.pointer (some ⟨x, 0, none⟩), .int .i64 1, .string s] (spP i1 bs e :: pt x [.pointer (some ⟨i0, 0, none⟩), .pointer (some ⟨i1, 0, none⟩), .slice A0 n0 k0, .slice A1 n1 k1, .int .i64 (a0 : Nat), .int .i64 (a1 : Nat), .int .i64 c0, .int .i64 c1, .map (some m)] 55 :: R) K := by
  refine callT_intro mixed Try.func8 rfl (by decide) (by decide +kernel) (by exact Nat.le_of_ble_eq_true rfl) ?_
  repeat' (first
    | (show evG _ _ _ _ _ _ _; first | refine G_add64 ?_ | refine G_pure0 ?_ | refine G_load ?_ | refine evG_nil ?_ | refine G_br ?_ ?_ | refine G_field ?_ | refine G_pure ?_ | refine G_store ?_ | refine G_loadV ?_ | refine G_loadV0 ?_ | refine G_loadV2 ?_ | (refine G_append ?_; intro _ _) | (refine G_appendN ?_; intro _ _) | refine G_not ?_ | refine G_index ?_ | refine G_indexA ?_ | refine G_cat ?_ | refine G_eql_agg ?_ | refine G_neq_agg ?_ | refine G_call ?_ | refine G_call0 ?_ | (refine G_alloc ?_; intro _) | (refine G_buildSlice ?_; intro _) | (refine G_indexV ?_; intro _ _ hA; subst hA) | refine G_skip ?_ | refine G_skip0 ?_)
    | (show spl _ _ _; first | refine spl_no rfl ?_ | refine spl_yes rfl ?_)
    | (show evC _ _ _ _ _; first | refine c_seq ?_ | refine c_region (by exact rfl) ?_ | refine c_cond (by exact rfl) ?_ | refine c_ret ?_ | refine c_skip ?_ | refine c_block ?_ | refine c_exit ?_ | refine std ?_)
    | (show Br _ _ _; first | refine Br.t rfl ?_ | refine Br.f rfl ?_ | refine brs ?_ | (first | refine Br.mkN (fun h => ?_) (fun h => ?_) | refine Br.mk (fun h => ?_) (fun h => ?_)) <;> (try (first | contradiction | (exfalso; omega) | (exfalso; simp at h; done))))
    | refine stp ?_
    | (show CallT _ 20 _ _ _; refine CA (h := sright_ok ?_))
    | (show CallT _ 21 _ _ _; refine CA (h := broken_ok ?_)))
  all_goals (show retC _ _ _ _ _ _; refine RETC ?_; exact ret_done (hK))
end
theorem cut_app {s : ByteArray} {n : Nat} (h : n ≤ s.size) : s.data.toList = (s.extract 0 n).data.toList ++ (s.extract n s.size).data.toList := by
  have h1 : s.data.size = s.size := rfl
  have h2 : (s.data.toList.drop n).length = s.size - n := by simp
  simp only [ByteArray.data_extract, Array.toList_extract, List.extract_eq_take_drop, List.drop_zero, Nat.sub_zero]
  rw [List.take_of_length_le (l := s.data.toList.drop n) (by omega)]
  exact (List.take_append_drop n _).symm
theorem abs_len {l : List En} {ls : List (Int × Ln)} (h : absL l = ls) : l.length = ls.length := by rw [← h]; simp [absL]
section
variable {x i0 i1 m ck k0 k1 j : Nat} {A0 A1 : Option Addr} {σ : Sn} {l : List En}
theorem gseeA_ok {ks bs kk : List UInt8} {s : ByteArray} {σ' : Sn} {o : List Int} {ee : Int} (hbs : ks ++ s.data.toList = bs) (hL : (seeL1 σ bs).1 = σ') (hO : seeO1 σ bs = o) (hk : (if (pF bs).2.2 = 0 then (pF bs).2.1 else []) = kk) (he : (pF bs).2.2 = ee) (hz : j + ks.length + s.size ≤ 9000) (hi : InvS j σ) (hab : absL l = σ.ls) (hok : EnOk l ck)
    (hK : ∀ A0 k0 A1 k1 l' ck' j', j' ≤ j + ks.length + s.size → InvS j' σ' → absL l' = σ'.ls → EnOk l' ck' → ∀ A c, K (.slice A o.length c) (row A c 3 siC o :: spP i1 kk ee :: pt x [.pointer (some ⟨i0, 0, none⟩), .pointer (some ⟨i1, 0, none⟩), .slice A0 σ'.s0.length k0, .slice A1 σ'.s1.length k1, .int .i64 (σ'.a0 : Nat), .int .i64 (σ'.a1 : Nat), .int .i64 σ'.c0, .int .i64 σ'.c1, .map (some m)] 55 :: row A0 k0 58 st3C σ'.s0 :: row A1 k1 58 st3C σ'.s1 :: mp m (l'.map enM) ck' :: stars enP l' :: R)) : CallT Try.prog 8 #[.pointer (some ⟨x, 0, none⟩), .int .i64 1, .string s] (pt x [.pointer (some ⟨i0, 0, none⟩), .pointer (some ⟨i1, 0, none⟩), .slice A0 σ.s0.length k0, .slice A1 σ.s1.length k1, .int .i64 (σ.a0 : Nat), .int .i64 (σ.a1 : Nat), .int .i64 σ.c0, .int .i64 σ.c1, .map (some m)] 55 :: spP i1 ks 0 :: row A0 k0 58 st3C σ.s0 :: row A1 k1 58 st3C σ.s1 :: mp m (l.map enM) ck :: stars enP l :: R) K := by
  subst hbs hL hO hk he
  exact CallT.ent Ent.swap2 (gsee1_ok hz hi hab hok hK)
end
theorem wf16 {i : Int} (h : (Lit.int .u16 i).wf = true) : 0 ≤ i ∧ i ≤ 65535 := by
  simp [Lit.wf, IntKind.min, IntKind.max, IntKind.signed, IntKind.bits] at h
  omega
theorem en_nil {ck : Nat} : EnOk [] ck := ⟨List.nodup_nil, fun e he => by cases he⟩
set_option maxHeartbeats 40000000 in
theorem sniffPieces_ok {s : ByteArray} {cut : Int} (hc : 0 ≤ cut ∧ cut ≤ 65535) (hK : ∀ C, K (.bool true) C) : CallT Try.prog 3 #[.string s, .int .u16 cut] R K := by
  by_cases hs : 3000 < s.size
  · refine callT_intro mixed Try.func3 rfl (by decide) (by decide +kernel) (by exact Nat.le_of_ble_eq_true rfl) ?_
    repeat' (first
      | (show evG _ _ _ _ _ _ _; first | refine G_add64 ?_ | refine G_rem ?_ | refine G_pure0 ?_ | refine evG_nil ?_ | refine G_br ?_ ?_ | refine G_pure ?_ | (refine G_append ?_; intro _ _) | (refine G_appendN ?_; intro _ _) | refine G_conv64 ?_ | refine G_conv8 ?_ | refine G_convu ?_ | refine G_conv ?_ | refine G_slh ?_ | refine G_slo ?_ | refine G_shi ?_ | refine G_cat ?_ | refine G_eql_agg ?_ | refine G_bytesP ?_ | refine G_bytesstr ?_ | refine G_call ?_ | refine G_call0 ?_ | (refine G_strrow ?_; intro _ _) | (refine G_sliceR ?_; intro _) | (refine G_sliceO ?_; intro _) | refine G_skip ?_ | refine G_skip0 ?_)
      | (show spl _ _ _; first | refine spl_no rfl ?_ | refine spl_yes rfl ?_)
      | (show evC _ _ _ _ _; first | refine c_seq ?_ | refine c_region (by exact rfl) ?_ | refine c_cond (by exact rfl) ?_ | refine c_ret ?_ | refine c_skip ?_ | refine c_block ?_ | refine c_exit ?_ | refine std ?_)
      | (show Br _ _ _; first | refine Br.t rfl ?_ | refine Br.f rfl ?_ | refine brs ?_ | (first | refine Br.mkN (fun h => ?_) (fun h => ?_) | refine Br.mk (fun h => ?_) (fun h => ?_)) <;> (try (first | contradiction | (exfalso; omega) | (exfalso; simp at h; done))))
      | refine stp ?_
      | (show CallT _ 6 _ _ _; refine CA (h := awake33_ok ?_)))
    all_goals (show retC _ _ _ _ _ _; refine RETC ?_; exact ret_done (hK _))
  · have hn : 0 ≤ cut % ((s.size : Nat) + 1 : Int) ∧ cut % ((s.size : Nat) + 1 : Int) < (s.size : Nat) + 1 := ⟨Int.emod_nonneg _ (by omega), Int.emod_lt_of_pos _ (by omega)⟩
    generalize hnn : (cut % ((s.size : Nat) + 1 : Int)).toNat = n
    have hn2 : n ≤ s.size := by omega
    have hcat := cut_app hn2
    have z1 : (s.extract 0 n).size = n := by simp; omega
    have z2 : (s.extract n s.size).size = s.size - n := by simp
    generalize hT1 : (s.extract 0 n).data.toList = T1 at hcat
    generalize hT2 : (s.extract n s.size).data.toList = T2 at hcat
    have q1 : T1.length = n := by rw [← hT1, ← z1]; simp
    have q2 : T2.length = s.size - n := by rw [← hT2, ← z2]; simp
    have l1 := seeL1_len sn0 T1
    have ls0 : sn0.ls.length = 0 := rfl
    by_cases he : (pF T1).2.2 = 0
    · have hgo := see_go (σ := sn0) (a := T1) (b := T2) he
      have hkl := kept_le he
      have l2 := seeL1_len (seeL1 sn0 T1).1 ((pF T1).2.1 ++ T2)
      rw [List.length_append] at l2
      refine callT_intro mixed Try.func3 rfl (by decide) (by decide +kernel) (by exact Nat.le_of_ble_eq_true rfl) ?_
      repeat' (first
        | (show evG _ _ _ _ _ _ _; first | refine G_add64 ?_ | refine G_rem ?_ | refine G_pure0 ?_ | refine evG_nil ?_ | refine G_br ?_ ?_ | refine G_pure ?_ | (refine G_append ?_; intro _ _) | (refine G_appendN ?_; intro _ _) | refine G_conv64 ?_ | refine G_conv8 ?_ | refine G_convu ?_ | refine G_conv ?_ | refine G_slh ?_ | refine G_slo ?_ | refine G_shi ?_ | refine G_cat ?_ | refine G_eql_agg ?_ | refine G_bytesP ?_ | refine G_bytesstr ?_ | refine G_call ?_ | refine G_call0 ?_ | (refine G_strrow ?_; intro _ _) | (refine G_sliceR ?_; intro _) | (refine G_sliceO ?_; intro _) | refine G_skip ?_ | refine G_skip0 ?_)
        | (show spl _ _ _; first | refine spl_no rfl ?_ | refine spl_yes rfl ?_)
        | (show evC _ _ _ _ _; first | refine c_seq ?_ | refine c_region (by exact rfl) ?_ | refine c_cond (by exact rfl) ?_ | refine c_ret ?_ | refine c_skip ?_ | refine c_block ?_ | refine c_exit ?_ | refine std ?_)
        | (show Br _ _ _; first | refine Br.t rfl ?_ | refine Br.f rfl ?_ | refine brs ?_ | (first | refine Br.mkN (fun h => ?_) (fun h => ?_) | refine Br.mk (fun h => ?_) (fun h => ?_)) <;> (try (first | contradiction | (exfalso; omega) | (exfalso; simp at h; done))))
        | refine stp ?_
        | (show CallT _ 7 _ _ _; refine CA (h := gnew_ok (fun x i0 i1 A0 A1 m => ?_))))
      refine CA (h := gseeA_ok (j := 0) (l := []) (σ := sn0) (σ' := (seeL1 (seeL1 sn0 T1).1 ((pF T1).2.1 ++ T2)).1) (o := seeO1 sn0 T1 ++ seeO1 (seeL1 sn0 T1).1 ((pF T1).2.1 ++ T2)) (ks := []) (bs := T1 ++ T2) hcat hgo.1 hgo.2 rfl rfl (by simp; omega) sn0_inv rfl en_nil (fun A0 k0 A1 k1 lx ckx jx hjx hix habx hokx Ax cx => ?_))
      repeat' (first
        | (show evG _ _ _ _ _ _ _; first | refine G_add64 ?_ | refine G_rem ?_ | refine G_pure0 ?_ | refine evG_nil ?_ | refine G_br ?_ ?_ | refine G_pure ?_ | (refine G_append ?_; intro _ _) | (refine G_appendN ?_; intro _ _) | refine G_conv64 ?_ | refine G_conv8 ?_ | refine G_convu ?_ | refine G_conv ?_ | refine G_slh ?_ | refine G_slo ?_ | refine G_shi ?_ | refine G_cat ?_ | refine G_eql_agg ?_ | refine G_bytesP ?_ | refine G_bytesstr ?_ | refine G_call ?_ | refine G_call0 ?_ | (refine G_strrow ?_; intro _ _) | (refine G_sliceR ?_; intro _) | (refine G_sliceO ?_; intro _) | refine G_skip ?_ | refine G_skip0 ?_)
        | (show spl _ _ _; first | refine spl_no rfl ?_ | refine spl_yes rfl ?_)
        | (show evC _ _ _ _ _; first | refine c_seq ?_ | refine c_region (by exact rfl) ?_ | refine c_cond (by exact rfl) ?_ | refine c_ret ?_ | refine c_skip ?_ | refine c_block ?_ | refine c_exit ?_ | refine std ?_)
        | (show Br _ _ _; first | refine Br.t rfl ?_ | refine Br.f rfl ?_ | refine brs ?_ | (first | refine Br.mkN (fun h => ?_) (fun h => ?_) | refine Br.mk (fun h => ?_) (fun h => ?_)) <;> (try (first | contradiction | (exfalso; omega) | (exfalso; simp at h; done))))
        | refine stp ?_)
      rw [hnn]
      refine CA (h := gseeA_ok (j := 0) (l := []) (σ := sn0) (σ' := (seeL1 sn0 T1).1) (o := seeO1 sn0 T1) (ks := []) (bs := T1) (kk := (pF T1).2.1) (ee := 0) hT1 rfl rfl (if_pos he) he (by simp; omega) sn0_inv rfl en_nil (fun A0 k0 A1 k1 ly cky jy hjy hiy haby hoky Ay cy => ?_))
      repeat' (first
        | (show evG _ _ _ _ _ _ _; first | refine G_add64 ?_ | refine G_rem ?_ | refine G_pure0 ?_ | refine evG_nil ?_ | refine G_br ?_ ?_ | refine G_pure ?_ | (refine G_append ?_; intro _ _) | (refine G_appendN ?_; intro _ _) | refine G_conv64 ?_ | refine G_conv8 ?_ | refine G_convu ?_ | refine G_conv ?_ | refine G_slh ?_ | refine G_slo ?_ | refine G_shi ?_ | refine G_cat ?_ | refine G_eql_agg ?_ | refine G_bytesP ?_ | refine G_bytesstr ?_ | refine G_call ?_ | refine G_call0 ?_ | (refine G_strrow ?_; intro _ _) | (refine G_sliceR ?_; intro _) | (refine G_sliceO ?_; intro _) | refine G_skip ?_ | refine G_skip0 ?_)
        | (show spl _ _ _; first | refine spl_no rfl ?_ | refine spl_yes rfl ?_)
        | (show evC _ _ _ _ _; first | refine c_seq ?_ | refine c_region (by exact rfl) ?_ | refine c_cond (by exact rfl) ?_ | refine c_ret ?_ | refine c_skip ?_ | refine c_block ?_ | refine c_exit ?_ | refine std ?_)
        | (show Br _ _ _; first | refine Br.t rfl ?_ | refine Br.f rfl ?_ | refine brs ?_ | (first | refine Br.mkN (fun h => ?_) (fun h => ?_) | refine Br.mk (fun h => ?_) (fun h => ?_)) <;> (try (first | contradiction | (exfalso; omega) | (exfalso; simp at h; done))))
        | refine stp ?_)
      rw [hnn]
      refine CA (h := gseeA_ok (j := jy) (σ := (seeL1 sn0 T1).1) (σ' := (seeL1 (seeL1 sn0 T1).1 ((pF T1).2.1 ++ T2)).1) (o := seeO1 (seeL1 sn0 T1).1 ((pF T1).2.1 ++ T2)) (ks := (pF T1).2.1) (bs := (pF T1).2.1 ++ T2) (by rw [hT2]) rfl rfl rfl rfl (by simp at hjy; omega) hiy haby hoky (fun A0 k0 A1 k1 lz ckz jz hjz hiz habz hokz Az cz => ?_))
      have bx := abs_len habx
      have bz := abs_len habz
      have lo : (seeO1 sn0 T1 ++ seeO1 (seeL1 sn0 T1).1 ((pF T1).2.1 ++ T2)).length ≤ 1000000 := by rw [List.length_append]; omega
      have lo1 : (seeO1 sn0 T1).length ≤ 100000 := by omega
      have lo2 : (seeO1 (seeL1 sn0 T1).1 ((pF T1).2.1 ++ T2)).length ≤ 100000 := by omega
      repeat' (first
        | (show evG _ _ _ _ _ _ _; refine G_append (E := siC) ?_; intro _ _)
        | (show evG _ _ _ _ _ _ _; first | refine G_add64 ?_ | refine G_rem ?_ | refine G_pure0 ?_ | refine evG_nil ?_ | refine G_br ?_ ?_ | refine G_pure ?_ | (refine G_append ?_; intro _ _) | (refine G_appendN ?_; intro _ _) | refine G_conv64 ?_ | refine G_conv8 ?_ | refine G_convu ?_ | refine G_conv ?_ | refine G_slh ?_ | refine G_slo ?_ | refine G_shi ?_ | refine G_cat ?_ | refine G_eql_agg ?_ | refine G_bytesP ?_ | refine G_bytesstr ?_ | refine G_call ?_ | refine G_call0 ?_ | (refine G_strrow ?_; intro _ _) | (refine G_sliceR ?_; intro _) | (refine G_sliceO ?_; intro _) | refine G_skip ?_ | refine G_skip0 ?_)
        | (show spl _ _ _; first | refine spl_no rfl ?_ | refine spl_yes rfl ?_)
        | (show evC _ _ _ _ _; first | refine c_seq ?_ | refine c_region (by exact rfl) ?_ | refine c_cond (by exact rfl) ?_ | refine c_ret ?_ | refine c_skip ?_ | refine c_block ?_ | refine c_exit ?_ | refine std ?_)
        | (show Br _ _ _; first | refine Br.t rfl ?_ | refine Br.f rfl ?_ | refine brs ?_ | (first | refine Br.mkN (fun h => ?_) (fun h => ?_) | refine Br.mk (fun h => ?_) (fun h => ?_)) <;> (try (first | contradiction | (exfalso; omega) | (exfalso; simp at h; done))))
        | refine stp ?_
        | (show CallT _ 6 _ _ _; refine CA (h := awake33_ok ?_)))
      refine CA (h := intsG_ok (l := seeO1 sn0 T1 ++ seeO1 (seeL1 sn0 T1).1 ((pF T1).2.1 ++ T2)) (by exact viewA) (by exact viewA) rfl rfl lo ?_)
      repeat' (first
        | (show evG _ _ _ _ _ _ _; first | refine G_add64 ?_ | refine G_rem ?_ | refine G_pure0 ?_ | refine evG_nil ?_ | refine G_br ?_ ?_ | refine G_pure ?_ | (refine G_append ?_; intro _ _) | (refine G_appendN ?_; intro _ _) | refine G_conv64 ?_ | refine G_conv8 ?_ | refine G_convu ?_ | refine G_conv ?_ | refine G_slh ?_ | refine G_slo ?_ | refine G_shi ?_ | refine G_cat ?_ | refine G_eql_agg ?_ | refine G_bytesP ?_ | refine G_bytesstr ?_ | refine G_call ?_ | refine G_call0 ?_ | (refine G_strrow ?_; intro _ _) | (refine G_sliceR ?_; intro _) | (refine G_sliceO ?_; intro _) | refine G_skip ?_ | refine G_skip0 ?_)
        | (show spl _ _ _; first | refine spl_no rfl ?_ | refine spl_yes rfl ?_)
        | (show evC _ _ _ _ _; first | refine c_seq ?_ | refine c_region (by exact rfl) ?_ | refine c_cond (by exact rfl) ?_ | refine c_ret ?_ | refine c_skip ?_ | refine c_block ?_ | refine c_exit ?_ | refine std ?_)
        | (show Br _ _ _; first | refine Br.t rfl ?_ | refine Br.f rfl ?_ | refine brs ?_ | (first | refine Br.mkN (fun h => ?_) (fun h => ?_) | refine Br.mk (fun h => ?_) (fun h => ?_)) <;> (try (first | contradiction | (exfalso; omega) | (exfalso; simp at h; done))))
        | refine stp ?_)
      refine CA (h := gstreams_ok hokx habx (by omega) (fun B1 d1 => ?_))
      repeat' (first
        | (show evG _ _ _ _ _ _ _; first | refine G_add64 ?_ | refine G_rem ?_ | refine G_pure0 ?_ | refine evG_nil ?_ | refine G_br ?_ ?_ | refine G_pure ?_ | (refine G_append ?_; intro _ _) | (refine G_appendN ?_; intro _ _) | refine G_conv64 ?_ | refine G_conv8 ?_ | refine G_convu ?_ | refine G_conv ?_ | refine G_slh ?_ | refine G_slo ?_ | refine G_shi ?_ | refine G_cat ?_ | refine G_eql_agg ?_ | refine G_bytesP ?_ | refine G_bytesstr ?_ | refine G_call ?_ | refine G_call0 ?_ | (refine G_strrow ?_; intro _ _) | (refine G_sliceR ?_; intro _) | (refine G_sliceO ?_; intro _) | refine G_skip ?_ | refine G_skip0 ?_)
        | (show spl _ _ _; first | refine spl_no rfl ?_ | refine spl_yes rfl ?_)
        | (show evC _ _ _ _ _; first | refine c_seq ?_ | refine c_region (by exact rfl) ?_ | refine c_cond (by exact rfl) ?_ | refine c_ret ?_ | refine c_skip ?_ | refine c_block ?_ | refine c_exit ?_ | refine std ?_)
        | (show Br _ _ _; first | refine Br.t rfl ?_ | refine Br.f rfl ?_ | refine brs ?_ | (first | refine Br.mkN (fun h => ?_) (fun h => ?_) | refine Br.mk (fun h => ?_) (fun h => ?_)) <;> (try (first | contradiction | (exfalso; omega) | (exfalso; simp at h; done))))
        | refine stp ?_)
      refine CA (h := gstreams_ok hokz habz (by omega) (fun B2 d2 => ?_))
      repeat' (first
        | (show evG _ _ _ _ _ _ _; first | refine G_add64 ?_ | refine G_rem ?_ | refine G_pure0 ?_ | refine evG_nil ?_ | refine G_br ?_ ?_ | refine G_pure ?_ | (refine G_append ?_; intro _ _) | (refine G_appendN ?_; intro _ _) | refine G_conv64 ?_ | refine G_conv8 ?_ | refine G_convu ?_ | refine G_conv ?_ | refine G_slh ?_ | refine G_slo ?_ | refine G_shi ?_ | refine G_cat ?_ | refine G_eql_agg ?_ | refine G_bytesP ?_ | refine G_bytesstr ?_ | refine G_call ?_ | refine G_call0 ?_ | (refine G_strrow ?_; intro _ _) | (refine G_sliceR ?_; intro _) | (refine G_sliceO ?_; intro _) | refine G_skip ?_ | refine G_skip0 ?_)
        | (show spl _ _ _; first | refine spl_no rfl ?_ | refine spl_yes rfl ?_)
        | (show evC _ _ _ _ _; first | refine c_seq ?_ | refine c_region (by exact rfl) ?_ | refine c_cond (by exact rfl) ?_ | refine c_ret ?_ | refine c_skip ?_ | refine c_block ?_ | refine c_exit ?_ | refine std ?_)
        | (show Br _ _ _; first | refine Br.t rfl ?_ | refine Br.f rfl ?_ | refine brs ?_ | (first | refine Br.mkN (fun h => ?_) (fun h => ?_) | refine Br.mk (fun h => ?_) (fun h => ?_)) <;> (try (first | contradiction | (exfalso; omega) | (exfalso; simp at h; done))))
        | refine stp ?_)
      refine CA (h := intsG_ok (l := srtK ((seeL1 (seeL1 sn0 T1).1 ((pF T1).2.1 ++ T2)).1.ls.map Prod.fst)) (by exact viewA) (by exact viewA) rfl rfl (by rw [srtK_len, List.length_map]; omega) ?_)
      repeat' (first
        | (show evG _ _ _ _ _ _ _; first | refine G_add64 ?_ | refine G_rem ?_ | refine G_pure0 ?_ | refine evG_nil ?_ | refine G_br ?_ ?_ | refine G_pure ?_ | (refine G_append ?_; intro _ _) | (refine G_appendN ?_; intro _ _) | refine G_conv64 ?_ | refine G_conv8 ?_ | refine G_convu ?_ | refine G_conv ?_ | refine G_slh ?_ | refine G_slo ?_ | refine G_shi ?_ | refine G_cat ?_ | refine G_eql_agg ?_ | refine G_bytesP ?_ | refine G_bytesstr ?_ | refine G_call ?_ | refine G_call0 ?_ | (refine G_strrow ?_; intro _ _) | (refine G_sliceR ?_; intro _) | (refine G_sliceO ?_; intro _) | refine G_skip ?_ | refine G_skip0 ?_)
        | (show spl _ _ _; first | refine spl_no rfl ?_ | refine spl_yes rfl ?_)
        | (show evC _ _ _ _ _; first | refine c_seq ?_ | refine c_region (by exact rfl) ?_ | refine c_cond (by exact rfl) ?_ | refine c_ret ?_ | refine c_skip ?_ | refine c_block ?_ | refine c_exit ?_ | refine std ?_)
        | (show Br _ _ _; first | refine Br.t rfl ?_ | refine Br.f rfl ?_ | refine brs ?_ | (first | refine Br.mkN (fun h => ?_) (fun h => ?_) | refine Br.mk (fun h => ?_) (fun h => ?_)) <;> (try (first | contradiction | (exfalso; omega) | (exfalso; simp at h; done))))
        | refine stp ?_
        | (show CallT _ 11 _ _ _; refine CA (h := bytes10_ok ?_)))
      all_goals (show retC _ _ _ _ _ _; refine RETC ?_; exact ret_done (kb (hK _) (by simp)))
    · have hgo := see_stop (σ := sn0) (a := T1) (b := T2) he
      refine callT_intro mixed Try.func3 rfl (by decide) (by decide +kernel) (by exact Nat.le_of_ble_eq_true rfl) ?_
      repeat' (first
        | (show evG _ _ _ _ _ _ _; first | refine G_add64 ?_ | refine G_rem ?_ | refine G_pure0 ?_ | refine evG_nil ?_ | refine G_br ?_ ?_ | refine G_pure ?_ | (refine G_append ?_; intro _ _) | (refine G_appendN ?_; intro _ _) | refine G_conv64 ?_ | refine G_conv8 ?_ | refine G_convu ?_ | refine G_conv ?_ | refine G_slh ?_ | refine G_slo ?_ | refine G_shi ?_ | refine G_cat ?_ | refine G_eql_agg ?_ | refine G_bytesP ?_ | refine G_bytesstr ?_ | refine G_call ?_ | refine G_call0 ?_ | (refine G_strrow ?_; intro _ _) | (refine G_sliceR ?_; intro _) | (refine G_sliceO ?_; intro _) | refine G_skip ?_ | refine G_skip0 ?_)
        | (show spl _ _ _; first | refine spl_no rfl ?_ | refine spl_yes rfl ?_)
        | (show evC _ _ _ _ _; first | refine c_seq ?_ | refine c_region (by exact rfl) ?_ | refine c_cond (by exact rfl) ?_ | refine c_ret ?_ | refine c_skip ?_ | refine c_block ?_ | refine c_exit ?_ | refine std ?_)
        | (show Br _ _ _; first | refine Br.t rfl ?_ | refine Br.f rfl ?_ | refine brs ?_ | (first | refine Br.mkN (fun h => ?_) (fun h => ?_) | refine Br.mk (fun h => ?_) (fun h => ?_)) <;> (try (first | contradiction | (exfalso; omega) | (exfalso; simp at h; done))))
        | refine stp ?_
        | (show CallT _ 7 _ _ _; refine CA (h := gnew_ok (fun x i0 i1 A0 A1 m => ?_))))
      refine CA (h := gseeA_ok (j := 0) (l := []) (σ := sn0) (σ' := (seeL1 sn0 T1).1) (o := seeO1 sn0 T1) (ks := []) (bs := T1 ++ T2) hcat hgo.1 hgo.2 rfl rfl (by simp; omega) sn0_inv rfl en_nil (fun A0 k0 A1 k1 lx ckx jx hjx hix habx hokx Ax cx => ?_))
      repeat' (first
        | (show evG _ _ _ _ _ _ _; first | refine G_add64 ?_ | refine G_rem ?_ | refine G_pure0 ?_ | refine evG_nil ?_ | refine G_br ?_ ?_ | refine G_pure ?_ | (refine G_append ?_; intro _ _) | (refine G_appendN ?_; intro _ _) | refine G_conv64 ?_ | refine G_conv8 ?_ | refine G_convu ?_ | refine G_conv ?_ | refine G_slh ?_ | refine G_slo ?_ | refine G_shi ?_ | refine G_cat ?_ | refine G_eql_agg ?_ | refine G_bytesP ?_ | refine G_bytesstr ?_ | refine G_call ?_ | refine G_call0 ?_ | (refine G_strrow ?_; intro _ _) | (refine G_sliceR ?_; intro _) | (refine G_sliceO ?_; intro _) | refine G_skip ?_ | refine G_skip0 ?_)
        | (show spl _ _ _; first | refine spl_no rfl ?_ | refine spl_yes rfl ?_)
        | (show evC _ _ _ _ _; first | refine c_seq ?_ | refine c_region (by exact rfl) ?_ | refine c_cond (by exact rfl) ?_ | refine c_ret ?_ | refine c_skip ?_ | refine c_block ?_ | refine c_exit ?_ | refine std ?_)
        | (show Br _ _ _; first | refine Br.t rfl ?_ | refine Br.f rfl ?_ | refine brs ?_ | (first | refine Br.mkN (fun h => ?_) (fun h => ?_) | refine Br.mk (fun h => ?_) (fun h => ?_)) <;> (try (first | contradiction | (exfalso; omega) | (exfalso; simp at h; done))))
        | refine stp ?_)
      rw [hnn]
      refine CA (h := gseeA_ok (j := 0) (l := []) (σ := sn0) (σ' := (seeL1 sn0 T1).1) (o := seeO1 sn0 T1) (ks := []) (bs := T1) (kk := []) (ee := (pF T1).2.2) hT1 rfl rfl (if_neg he) rfl (by simp; omega) sn0_inv rfl en_nil (fun A0 k0 A1 k1 lz ckz jz hjz hiz habz hokz Az cz => ?_))
      repeat' (first
        | (show evG _ _ _ _ _ _ _; first | refine G_add64 ?_ | refine G_rem ?_ | refine G_pure0 ?_ | refine evG_nil ?_ | refine G_br ?_ ?_ | refine G_pure ?_ | (refine G_append ?_; intro _ _) | (refine G_appendN ?_; intro _ _) | refine G_conv64 ?_ | refine G_conv8 ?_ | refine G_convu ?_ | refine G_conv ?_ | refine G_slh ?_ | refine G_slo ?_ | refine G_shi ?_ | refine G_cat ?_ | refine G_eql_agg ?_ | refine G_bytesP ?_ | refine G_bytesstr ?_ | refine G_call ?_ | refine G_call0 ?_ | (refine G_strrow ?_; intro _ _) | (refine G_sliceR ?_; intro _) | (refine G_sliceO ?_; intro _) | refine G_skip ?_ | refine G_skip0 ?_)
        | (show spl _ _ _; first | refine spl_no rfl ?_ | refine spl_yes rfl ?_)
        | (show evC _ _ _ _ _; first | refine c_seq ?_ | refine c_region (by exact rfl) ?_ | refine c_cond (by exact rfl) ?_ | refine c_ret ?_ | refine c_skip ?_ | refine c_block ?_ | refine c_exit ?_ | refine std ?_)
        | (show Br _ _ _; first | refine Br.t rfl ?_ | refine Br.f rfl ?_ | refine brs ?_ | (first | refine Br.mkN (fun h => ?_) (fun h => ?_) | refine Br.mk (fun h => ?_) (fun h => ?_)) <;> (try (first | contradiction | (exfalso; omega) | (exfalso; simp at h; done))))
        | refine stp ?_)
      refine CA (h := seeBroken_ok he ?_)
      have bx := abs_len habx
      have bz := abs_len habz
      have lo : (seeO1 sn0 T1).length ≤ 100000 := by omega
      repeat' (first
        | (show evG _ _ _ _ _ _ _; refine G_append (E := siC) (ys := []) ?_ (hsrc := src_view view_nil rfl); intro _ _; rw [List.append_nil])
        | (show evG _ _ _ _ _ _ _; first | refine G_add64 ?_ | refine G_rem ?_ | refine G_pure0 ?_ | refine evG_nil ?_ | refine G_br ?_ ?_ | refine G_pure ?_ | (refine G_append ?_; intro _ _) | (refine G_appendN ?_; intro _ _) | refine G_conv64 ?_ | refine G_conv8 ?_ | refine G_convu ?_ | refine G_conv ?_ | refine G_slh ?_ | refine G_slo ?_ | refine G_shi ?_ | refine G_cat ?_ | refine G_eql_agg ?_ | refine G_bytesP ?_ | refine G_bytesstr ?_ | refine G_call ?_ | refine G_call0 ?_ | (refine G_strrow ?_; intro _ _) | (refine G_sliceR ?_; intro _) | (refine G_sliceO ?_; intro _) | refine G_skip ?_ | refine G_skip0 ?_)
        | (show spl _ _ _; first | refine spl_no rfl ?_ | refine spl_yes rfl ?_)
        | (show evC _ _ _ _ _; first | refine c_seq ?_ | refine c_region (by exact rfl) ?_ | refine c_cond (by exact rfl) ?_ | refine c_ret ?_ | refine c_skip ?_ | refine c_block ?_ | refine c_exit ?_ | refine std ?_)
        | (show Br _ _ _; first | refine Br.t rfl ?_ | refine Br.f rfl ?_ | refine brs ?_ | (first | refine Br.mkN (fun h => ?_) (fun h => ?_) | refine Br.mk (fun h => ?_) (fun h => ?_)) <;> (try (first | contradiction | (exfalso; omega) | (exfalso; simp at h; done))))
        | refine stp ?_
        | (show CallT _ 6 _ _ _; refine CA (h := awake33_ok ?_)))
      refine CA (h := intsG_ok (l := seeO1 sn0 T1) (by exact viewA) (by exact viewA) rfl rfl (by omega) ?_)
      repeat' (first
        | (show evG _ _ _ _ _ _ _; first | refine G_add64 ?_ | refine G_rem ?_ | refine G_pure0 ?_ | refine evG_nil ?_ | refine G_br ?_ ?_ | refine G_pure ?_ | (refine G_append ?_; intro _ _) | (refine G_appendN ?_; intro _ _) | refine G_conv64 ?_ | refine G_conv8 ?_ | refine G_convu ?_ | refine G_conv ?_ | refine G_slh ?_ | refine G_slo ?_ | refine G_shi ?_ | refine G_cat ?_ | refine G_eql_agg ?_ | refine G_bytesP ?_ | refine G_bytesstr ?_ | refine G_call ?_ | refine G_call0 ?_ | (refine G_strrow ?_; intro _ _) | (refine G_sliceR ?_; intro _) | (refine G_sliceO ?_; intro _) | refine G_skip ?_ | refine G_skip0 ?_)
        | (show spl _ _ _; first | refine spl_no rfl ?_ | refine spl_yes rfl ?_)
        | (show evC _ _ _ _ _; first | refine c_seq ?_ | refine c_region (by exact rfl) ?_ | refine c_cond (by exact rfl) ?_ | refine c_ret ?_ | refine c_skip ?_ | refine c_block ?_ | refine c_exit ?_ | refine std ?_)
        | (show Br _ _ _; first | refine Br.t rfl ?_ | refine Br.f rfl ?_ | refine brs ?_ | (first | refine Br.mkN (fun h => ?_) (fun h => ?_) | refine Br.mk (fun h => ?_) (fun h => ?_)) <;> (try (first | contradiction | (exfalso; omega) | (exfalso; simp at h; done))))
        | refine stp ?_)
      refine CA (h := gstreams_ok hokx habx (by omega) (fun B1 d1 => ?_))
      repeat' (first
        | (show evG _ _ _ _ _ _ _; first | refine G_add64 ?_ | refine G_rem ?_ | refine G_pure0 ?_ | refine evG_nil ?_ | refine G_br ?_ ?_ | refine G_pure ?_ | (refine G_append ?_; intro _ _) | (refine G_appendN ?_; intro _ _) | refine G_conv64 ?_ | refine G_conv8 ?_ | refine G_convu ?_ | refine G_conv ?_ | refine G_slh ?_ | refine G_slo ?_ | refine G_shi ?_ | refine G_cat ?_ | refine G_eql_agg ?_ | refine G_bytesP ?_ | refine G_bytesstr ?_ | refine G_call ?_ | refine G_call0 ?_ | (refine G_strrow ?_; intro _ _) | (refine G_sliceR ?_; intro _) | (refine G_sliceO ?_; intro _) | refine G_skip ?_ | refine G_skip0 ?_)
        | (show spl _ _ _; first | refine spl_no rfl ?_ | refine spl_yes rfl ?_)
        | (show evC _ _ _ _ _; first | refine c_seq ?_ | refine c_region (by exact rfl) ?_ | refine c_cond (by exact rfl) ?_ | refine c_ret ?_ | refine c_skip ?_ | refine c_block ?_ | refine c_exit ?_ | refine std ?_)
        | (show Br _ _ _; first | refine Br.t rfl ?_ | refine Br.f rfl ?_ | refine brs ?_ | (first | refine Br.mkN (fun h => ?_) (fun h => ?_) | refine Br.mk (fun h => ?_) (fun h => ?_)) <;> (try (first | contradiction | (exfalso; omega) | (exfalso; simp at h; done))))
        | refine stp ?_)
      refine CA (h := gstreams_ok hokz habz (by omega) (fun B2 d2 => ?_))
      repeat' (first
        | (show evG _ _ _ _ _ _ _; first | refine G_add64 ?_ | refine G_rem ?_ | refine G_pure0 ?_ | refine evG_nil ?_ | refine G_br ?_ ?_ | refine G_pure ?_ | (refine G_append ?_; intro _ _) | (refine G_appendN ?_; intro _ _) | refine G_conv64 ?_ | refine G_conv8 ?_ | refine G_convu ?_ | refine G_conv ?_ | refine G_slh ?_ | refine G_slo ?_ | refine G_shi ?_ | refine G_cat ?_ | refine G_eql_agg ?_ | refine G_bytesP ?_ | refine G_bytesstr ?_ | refine G_call ?_ | refine G_call0 ?_ | (refine G_strrow ?_; intro _ _) | (refine G_sliceR ?_; intro _) | (refine G_sliceO ?_; intro _) | refine G_skip ?_ | refine G_skip0 ?_)
        | (show spl _ _ _; first | refine spl_no rfl ?_ | refine spl_yes rfl ?_)
        | (show evC _ _ _ _ _; first | refine c_seq ?_ | refine c_region (by exact rfl) ?_ | refine c_cond (by exact rfl) ?_ | refine c_ret ?_ | refine c_skip ?_ | refine c_block ?_ | refine c_exit ?_ | refine std ?_)
        | (show Br _ _ _; first | refine Br.t rfl ?_ | refine Br.f rfl ?_ | refine brs ?_ | (first | refine Br.mkN (fun h => ?_) (fun h => ?_) | refine Br.mk (fun h => ?_) (fun h => ?_)) <;> (try (first | contradiction | (exfalso; omega) | (exfalso; simp at h; done))))
        | refine stp ?_)
      refine CA (h := intsG_ok (l := srtK ((seeL1 sn0 T1).1.ls.map Prod.fst)) (by exact viewA) (by exact viewA) rfl rfl (by rw [srtK_len, List.length_map]; omega) ?_)
      repeat' (first
        | (show evG _ _ _ _ _ _ _; first | refine G_add64 ?_ | refine G_rem ?_ | refine G_pure0 ?_ | refine evG_nil ?_ | refine G_br ?_ ?_ | refine G_pure ?_ | (refine G_append ?_; intro _ _) | (refine G_appendN ?_; intro _ _) | refine G_conv64 ?_ | refine G_conv8 ?_ | refine G_convu ?_ | refine G_conv ?_ | refine G_slh ?_ | refine G_slo ?_ | refine G_shi ?_ | refine G_cat ?_ | refine G_eql_agg ?_ | refine G_bytesP ?_ | refine G_bytesstr ?_ | refine G_call ?_ | refine G_call0 ?_ | (refine G_strrow ?_; intro _ _) | (refine G_sliceR ?_; intro _) | (refine G_sliceO ?_; intro _) | refine G_skip ?_ | refine G_skip0 ?_)
        | (show spl _ _ _; first | refine spl_no rfl ?_ | refine spl_yes rfl ?_)
        | (show evC _ _ _ _ _; first | refine c_seq ?_ | refine c_region (by exact rfl) ?_ | refine c_cond (by exact rfl) ?_ | refine c_ret ?_ | refine c_skip ?_ | refine c_block ?_ | refine c_exit ?_ | refine std ?_)
        | (show Br _ _ _; first | refine Br.t rfl ?_ | refine Br.f rfl ?_ | refine brs ?_ | (first | refine Br.mkN (fun h => ?_) (fun h => ?_) | refine Br.mk (fun h => ?_) (fun h => ?_)) <;> (try (first | contradiction | (exfalso; omega) | (exfalso; simp at h; done))))
        | refine stp ?_
        | (show CallT _ 11 _ _ _; refine CA (h := bytes10_ok ?_)))
      all_goals (show retC _ _ _ _ _ _; refine RETC ?_; exact ret_done (kb (hK _) (by simp)))
end Go.Proofs.Ythoagholmkiknaa

