/- Sniff: acknowledgements, grants, data: lemmas; each with the conditions that it states. -/
import Derived.Test.YthoagholmkiknaaFh
import Derived.Test.YthoagholmkiknaaS13

namespace Go.Proofs.Ythoagholmkiknaa
open Go Go.Proofs Go.Sl
set_option maxRecDepth 100000
set_option maxHeartbeats 4000000
set_option linter.unusedSimpArgs false
set_option linter.unusedVariables false
attribute [local irreducible] evG evC spl thenC inBlockC noGotoC CallT retC RetG TurnG CutG pt ro exP star sep pureP
attribute [local irreducible] mp mit
variable {R C : List HP} {K : Value → List HP → Prop}
/-- what one knows of the entries: no two of one birth, all born before ck -/
def EnOk (l : List En) (ck : Nat) : Prop := (l.map En.b).Nodup ∧ ∀ e ∈ l, e.b < ck
def curP (up : Ln → Ln) (seen : List Nat) (e : En) : HP := lnP e.q (if e.b ∈ seen then up e.y else e.y)
theorem cur_start {up : Ln → Ln} {l : List En} : Ent (stars enP l :: C) (stars (curP up []) l :: C) := by
  have := Ent.starsMap (C := C) (P := enP) (Q := curP up []) (f := id) (l := l) (fun e _ => by simp [curP, enP])
  simpa using this
theorem cur_end {up : Ln → Ln} {seen : List Nat} {l : List En} (h : ∀ e ∈ l, e.b ∈ seen) : Ent (stars (curP up seen) l :: C) (stars enP (l.map fun e => ⟨e.k, e.q, e.b, up e.y⟩) :: C) :=
  Ent.starsMap (fun e he => by simp [curP, enP, h e he])
theorem nodup_mid {a c : List En} {e : En} (h : ((a ++ e :: c).map En.b).Nodup) : ∀ z ∈ a ++ c, z.b ≠ e.b := fun z hz => by
  rw [List.map_append, List.map_cons] at h
  have h1 := (List.perm_middle.nodup_iff).1 h
  have := (List.nodup_cons.1 h1).1
  intro hq
  apply this
  rw [← hq, ← List.map_append]
  exact List.mem_map_of_mem hz
theorem cur_out {up : Ln → Ln} {seen : List Nat} {a c : List En} {e : En} (h : e.b ∉ seen) : Ent (stars (curP up seen) (a ++ e :: c) :: C) (lnP e.q e.y :: stars (curP up seen) (a ++ c) :: C) := by
  have := Ent.starsOut (P := curP up seen) (C := C) (a := a) (b := c) (x := e)
  have e1 : curP up seen e = lnP e.q e.y := by unfold curP; rw [if_neg h]
  rw [e1] at this
  exact this
theorem cur_in {up : Ln → Ln} {seen : List Nat} {a c : List En} {e : En} {z : Ln} (h : ((a ++ e :: c).map En.b).Nodup) (hz : up e.y = z) : Ent (lnP e.q z :: stars (curP up seen) (a ++ c) :: C) (stars (curP up (seen ++ [e.b])) (a ++ e :: c) :: C) := by
  have h1 : Ent (stars (curP up seen) (a ++ c) :: C) (stars (curP up (seen ++ [e.b])) (a ++ c) :: C) := by
    have := Ent.starsMap (C := C) (P := curP up seen) (Q := curP up (seen ++ [e.b])) (f := id) (l := a ++ c) (fun z hz => by
      have := nodup_mid h z hz
      simp [curP, this])
    simpa using this
  have e1 : lnP e.q z = curP up (seen ++ [e.b]) e := by unfold curP; rw [if_pos (by simp), hz]
  rw [e1]
  exact Ent.trans (Ent.cons h1) Ent.starsIn
/-- how many are left -/
def leftN (l : List En) (seen : List Nat) : Nat := (l.filter fun e => !decide (e.b ∈ seen)).length
theorem left_step {l : List En} {seen : List Nat} {e : En} (he : e ∈ l) (hs : e.b ∉ seen) : leftN l (seen ++ [e.b]) < leftN l seen := by
  unfold leftN
  have h1 : (l.filter fun z => !decide (z.b ∈ seen ++ [e.b])) = (l.filter fun z => !decide (z.b ∈ seen)).filter fun z => !decide (z.b = e.b) := by
    rw [List.filter_filter]
    congr 1
    funext z
    simp [Bool.and_comm, not_or]
  rw [h1]
  have h2 : e ∈ l.filter fun z => !decide (z.b ∈ seen) := List.mem_filter.2 ⟨he, by simpa using hs⟩
  exact List.length_filter_lt_length_iff_exists.2 ⟨e, h2, by simp⟩
theorem find_b {l : List En} {e : En} (h : (l.map En.b).Nodup) (he : e ∈ l) : (l.map enM).find? (fun z => z.b == e.b) = some (enM e) := by
  induction l with
  | nil => cases he
  | cons z l ih =>
    rw [List.map_cons] at h
    obtain ⟨h1, h2⟩ := List.nodup_cons.1 h
    rcases List.mem_cons.1 he with rfl | he
    · simp [enM]
    · have : z.b ≠ e.b := fun q => h1 (by rw [q]; exact List.mem_map_of_mem he)
      rw [List.map_cons, List.find?_cons_of_neg (by simpa [enM] using this)]
      exact ih h2 he
variable {x i0 i1 m ck k0 k1 a0 a1 : Nat} {A0 A1 : Option Addr} {s0 s1 : List St3} {c0 c1 : Int} {l : List En} {id : Int}
def ackU0 (n : Nat) (d : Int) (y : Ln) : Ln := if y.f0 ≤ n then ⟨y.b0 + d, y.b1, y.i0, y.i1, y.f0, y.f1⟩ else y
theorem gackN0_ok (hl0 : s1.length ≤ a0 + 1) (hb : a0 ≤ 1000000) (hK : K (.tuple #[]) (pt x [.pointer (some ⟨i0, 0, none⟩), .pointer (some ⟨i1, 0, none⟩), .slice A0 s0.length k0, .slice A1 s1.length k1, .int .i64 (a0 : Nat), .int .i64 (a1 : Nat), .int .i64 c0, .int .i64 c1, .map (some m)] 55 :: R)) : CallT Try.prog 37 #[.pointer (some ⟨x, 0, none⟩), .int .i64 0] (pt x [.pointer (some ⟨i0, 0, none⟩), .pointer (some ⟨i1, 0, none⟩), .slice A0 s0.length k0, .slice A1 s1.length k1, .int .i64 (a0 : Nat), .int .i64 (a1 : Nat), .int .i64 c0, .int .i64 c1, .map (some m)] 55 :: R) K := by
  refine callT_intro mixed Try.func37 rfl (by decide) (by decide +kernel) (by exact Nat.le_of_ble_eq_true rfl) ?_
  repeat' (first
    | (show evG _ _ _ _ _ _ _; first | refine G_add64 ?_ | refine G_sub64 ?_ | refine G_pure0 ?_ | refine G_load ?_ | refine evG_nil ?_ | refine G_br ?_ ?_ | refine G_field ?_ | refine G_pure ?_ | refine G_store ?_ | refine G_loadV ?_ | refine G_loadV0 ?_ | refine G_loadV2 ?_ | refine G_index ?_ | refine G_indexA ?_ | refine G_cat ?_ | (refine G_indexV ?_; intro _ _ hA; subst hA))
    | (show spl _ _ _; first | refine spl_no rfl ?_ | refine spl_yes rfl ?_)
    | (show evC _ _ _ _ _; first | refine c_seq ?_ | refine c_region (by exact rfl) ?_ | refine c_cond (by exact rfl) ?_ | refine c_ret ?_ | refine c_skip ?_ | refine c_block ?_ | refine c_exit ?_ | (show evC _ (.region 8 _ true) _ _ _; refine c_drawB (bl := [0, 0, 1, 5, 15, 31, 0, 0, 192, 448, 960, 0, 0, 4096, 14336, 30720, 63488, 131008, 262143, 1, 524289, 2097151, 4194303]) (br := [4194303, 2097151, 524289, 1, 262143, 131008, 63488, 30720, 14336, 4096, 0, 0, 960, 448, 192, 0, 0, 31, 15, 5, 1, 0, 0]) (l := [(0, 0), (1, 0), (2, 0), (3, 0), (4, 0), (5, 0), (6, 0), (7, 0), (8, 0), (9, 0), (10, 0), (11, 0), (12, 0), (13, 0), (14, 0), (15, 0), (16, 0), (17, 0), (18, 0), (19, 0), (20, 0), (21, 0), (22, 1)]) (by decide +kernel) (by decide +kernel) (by decide +kernel) (by decide +kernel) (by exact rfl) ?_) | refine std ?_)
    | (show Br _ _ _; first | refine Br.t rfl ?_ | refine Br.f rfl ?_ | refine brs ?_ | (first | refine Br.mkN (fun h => ?_) (fun h => ?_) | refine Br.mk (fun h => ?_) (fun h => ?_)) <;> (try (first | contradiction | (exfalso; omega) | (exfalso; simp at h; done))))
    | refine stp ?_)
  all_goals (show retC _ _ _ _ _ _; refine RETC ?_; exact ret_done (hK))
set_option maxHeartbeats 40000000 in
theorem gackY0_ok {w1 w0 : St3} {B : Int} (hl0 : a0 + 1 < s1.length) (hl1 : s1.length ≤ 1000000) (hok : EnOk l ck) (hw1 : s1[(((a0 + 1 : Nat) : Int)).toNat]? = some w1) (hw0 : s1[((((a0 + 1 : Nat) : Int)) - 1).toNat]? = some w0) (hr : 0 ≤ w1.w ∧ w1.w ≤ 2147483647 ∧ 0 ≤ w0.w ∧ w0.w ≤ 2147483647) (hB : B ≤ 1000000000000000) (hbd : ∀ e ∈ l, -B ≤ e.y.b0 ∧ e.y.b0 ≤ B)
    (hK : K (.tuple #[]) (pt x [.pointer (some ⟨i0, 0, none⟩), .pointer (some ⟨i1, 0, none⟩), .slice A0 s0.length k0, .slice A1 s1.length k1, .int .i64 ((a0 + 1) : Nat), .int .i64 (a1 : Nat), .int .i64 c0, .int .i64 c1, .map (some m)] 55 :: row A1 k1 58 st3C s1 :: mp m (l.map enM) ck :: stars enP (l.map fun e => ⟨e.k, e.q, e.b, ackU0 (a0 + 1) (w1.w - w0.w) e.y⟩) :: R)) : CallT Try.prog 37 #[.pointer (some ⟨x, 0, none⟩), .int .i64 0] (pt x [.pointer (some ⟨i0, 0, none⟩), .pointer (some ⟨i1, 0, none⟩), .slice A0 s0.length k0, .slice A1 s1.length k1, .int .i64 (a0 : Nat), .int .i64 (a1 : Nat), .int .i64 c0, .int .i64 c1, .map (some m)] 55 :: row A1 k1 58 st3C s1 :: mp m (l.map enM) ck :: stars enP l :: R) K := by
  obtain ⟨hnd, hck⟩ := hok
  refine callT_intro mixed Try.func37 rfl (by decide) (by decide +kernel) (by exact Nat.le_of_ble_eq_true rfl) ?_
  repeat' (first
    | (show evG _ _ _ _ _ _ _; refine G_range ?_; intro _)
    | (show evG _ _ _ _ _ _ _; first | refine G_add64 ?_ | refine G_sub64 ?_ | refine G_pure0 ?_ | refine G_load ?_ | refine evG_nil ?_ | refine G_br ?_ ?_ | refine G_field ?_ | refine G_pure ?_ | refine G_store ?_ | refine G_loadV ?_ | refine G_loadV0 ?_ | refine G_loadV2 ?_ | refine G_index ?_ | refine G_indexA ?_ | refine G_cat ?_ | (refine G_indexV ?_; intro _ _ hA; subst hA))
    | (show spl _ _ _; first | refine spl_no rfl ?_ | refine spl_yes rfl ?_)
    | (show evC _ _ _ _ _; first | refine c_seq ?_ | refine c_region (by exact rfl) ?_ | refine c_cond (by exact rfl) ?_ | refine c_ret ?_ | refine c_skip ?_ | refine c_block ?_ | refine c_exit ?_ | (show evC _ (.region 8 _ true) _ _ _; refine c_drawB (bl := [0, 0, 1, 5, 15, 31, 0, 0, 192, 448, 960, 0, 0, 4096, 14336, 30720, 63488, 131008, 262143, 1, 524289, 2097151, 4194303]) (br := [4194303, 2097151, 524289, 1, 262143, 131008, 63488, 30720, 14336, 4096, 0, 0, 960, 448, 192, 0, 0, 31, 15, 5, 1, 0, 0]) (l := [(0, 0), (1, 0), (2, 0), (3, 0), (4, 0), (5, 0), (6, 0), (7, 0), (8, 0), (9, 0), (10, 0), (11, 0), (12, 0), (13, 0), (14, 0), (15, 0), (16, 0), (17, 0), (18, 0), (19, 0), (20, 0), (21, 0), (22, 1)]) (by decide +kernel) (by decide +kernel) (by decide +kernel) (by decide +kernel) (by exact rfl) ?_) | refine std ?_)
    | (show Br _ _ _; first | refine Br.t rfl ?_ | refine Br.f rfl ?_ | refine brs ?_ | (first | refine Br.mkN (fun h => ?_) (fun h => ?_) | refine Br.mk (fun h => ?_) (fun h => ?_)) <;> (try (first | contradiction | (exfalso; omega) | (exfalso; simp at h; done))))
    | refine stp ?_)
  rename_i it
  refine evC_ent (Ent.trans (Ent.pickA (A := stars enP l) (h := Ent.refl _)) (cur_start (up := ackU0 (a0 + 1) (w1.w - w0.w)))) ?_
  refine LOOP (fun kk a C' => ∃ seen : List Nat, leftN l seen ≤ kk ∧ Agree a [(0, .pointer (some ⟨x, 0, none⟩)), (1, .int .i64 0), (4, .slice A1 s1.length k1), (5, .int .i64 (a0 + 1 : Nat)), (36, .pointer (some ⟨it, 0, none⟩))] ∧ C' = mit it m ck seen ck :: pt x [.pointer (some ⟨i0, 0, none⟩), .pointer (some ⟨i1, 0, none⟩), .slice A0 s0.length k0, .slice A1 s1.length k1, .int .i64 ((a0 + 1) : Nat), .int .i64 (a1 : Nat), .int .i64 c0, .int .i64 c1, .map (some m)] 55 :: row A1 k1 58 st3C s1 :: mp m (l.map enM) ck :: stars (curP (ackU0 (a0 + 1) (w1.w - w0.w)) seen) l :: R) (leftN l []) (turn (leftN l []) ⟨[], Nat.le_refl _, ⟨rfl, rfl, rfl, rfl, rfl, trivial⟩, rfl⟩ (by omega)) ?_
  rintro kk a C' ⟨seen, hk, ha, rfl⟩
  refine c_fr _ ha ?_
  simp only [updL]
  repeat' (first
    | (show evG _ _ _ _ _ _ _; first | refine G_add64 ?_ | refine G_sub64 ?_ | refine G_pure0 ?_ | refine G_load ?_ | refine evG_nil ?_ | refine G_br ?_ ?_ | refine G_field ?_ | refine G_pure ?_ | refine G_store ?_ | refine G_loadV ?_ | refine G_loadV0 ?_ | refine G_loadV2 ?_ | refine G_index ?_ | refine G_indexA ?_ | refine G_cat ?_ | (refine G_indexV ?_; intro _ _ hA; subst hA))
    | (show spl _ _ _; first | refine spl_no rfl ?_ | refine spl_yes rfl ?_)
    | (show evC _ _ _ _ _; first | refine c_seq ?_ | refine c_region (by exact rfl) ?_ | refine c_cond (by exact rfl) ?_ | refine c_ret ?_ | refine c_skip ?_ | refine c_block ?_ | refine c_exit ?_ | (show evC _ (.region 8 _ true) _ _ _; refine c_drawB (bl := [0, 0, 1, 5, 15, 31, 0, 0, 192, 448, 960, 0, 0, 4096, 14336, 30720, 63488, 131008, 262143, 1, 524289, 2097151, 4194303]) (br := [4194303, 2097151, 524289, 1, 262143, 131008, 63488, 30720, 14336, 4096, 0, 0, 960, 448, 192, 0, 0, 31, 15, 5, 1, 0, 0]) (l := [(0, 0), (1, 0), (2, 0), (3, 0), (4, 0), (5, 0), (6, 0), (7, 0), (8, 0), (9, 0), (10, 0), (11, 0), (12, 0), (13, 0), (14, 0), (15, 0), (16, 0), (17, 0), (18, 0), (19, 0), (20, 0), (21, 0), (22, 1)]) (by decide +kernel) (by decide +kernel) (by decide +kernel) (by decide +kernel) (by exact rfl) ?_) | refine std ?_)
    | (show Br _ _ _; first | refine Br.t rfl ?_ | refine Br.f rfl ?_ | refine brs ?_ | (first | refine Br.mkN (fun h => ?_) (fun h => ?_) | refine Br.mk (fun h => ?_) (fun h => ?_)) <;> (try (first | contradiction | (exfalso; omega) | (exfalso; simp at h; done))))
    | refine stp ?_)
  refine G_next (fun e he hn => ?_) (fun hs => ?_) rfl (by exact Pick.here) ⟨_, by ((repeat (first | exact Pick.here | apply Pick.there)) <;> exact Pick.here)⟩ (fun e he => by obtain ⟨z, hz, rfl⟩ := List.mem_map.1 he; exact hck z hz) (by
    cases l with
    | nil => exact .inr (.inl rfl)
    | cons z l => exact .inr (.inr ⟨enM z, List.mem_cons_self .., hck z (List.mem_cons_self ..)⟩)) (by exact rfl)
  · obtain ⟨e0, he0, rfl⟩ := List.mem_map.1 he
    obtain ⟨la, lc, rfl⟩ := List.append_of_mem he0
    have hfb := find_b hnd he0
    have hlt := left_step he0 hn
    have hbe := hbd e0 he0
    refine spl_no rfl ?_
    refine evG_ent (Ent.trans (Ent.pickA (A := stars (curP (ackU0 (a0 + 1) (w1.w - w0.w)) seen) (la ++ e0 :: lc)) (h := Ent.refl _)) (cur_out hn)) ?_
    simp only [lnP]
    by_cases hf : e0.y.f0 ≤ a0 + 1
    · have hz : ackU0 (a0 + 1) (w1.w - w0.w) e0.y = ⟨e0.y.b0 + (w1.w - w0.w), e0.y.b1, e0.y.i0, e0.y.i1, e0.y.f0, e0.y.f1⟩ := by unfold ackU0; rw [if_pos hf]
      repeat' (first
        | (show evG _ _ _ _ _ _ _; refine G_entry ?_ (he := hfb))
        | (show evG _ _ _ _ _ _ _; first | refine G_add64 ?_ | refine G_sub64 ?_ | refine G_pure0 ?_ | refine G_load ?_ | refine evG_nil ?_ | refine G_br ?_ ?_ | refine G_field ?_ | refine G_pure ?_ | refine G_store ?_ | refine G_loadV ?_ | refine G_loadV0 ?_ | refine G_loadV2 ?_ | refine G_index ?_ | refine G_indexA ?_ | refine G_cat ?_ | (refine G_indexV ?_; intro _ _ hA; subst hA))
        | (show spl _ _ _; first | refine spl_no rfl ?_ | refine spl_yes rfl ?_)
        | (show evC _ _ _ _ _; first | refine c_seq ?_ | refine c_region (by exact rfl) ?_ | refine c_cond (by exact rfl) ?_ | refine c_ret ?_ | refine c_skip ?_ | refine c_block ?_ | refine c_exit ?_ | (show evC _ (.region 8 _ true) _ _ _; refine c_drawB (bl := [0, 0, 1, 5, 15, 31, 0, 0, 192, 448, 960, 0, 0, 4096, 14336, 30720, 63488, 131008, 262143, 1, 524289, 2097151, 4194303]) (br := [4194303, 2097151, 524289, 1, 262143, 131008, 63488, 30720, 14336, 4096, 0, 0, 960, 448, 192, 0, 0, 31, 15, 5, 1, 0, 0]) (l := [(0, 0), (1, 0), (2, 0), (3, 0), (4, 0), (5, 0), (6, 0), (7, 0), (8, 0), (9, 0), (10, 0), (11, 0), (12, 0), (13, 0), (14, 0), (15, 0), (16, 0), (17, 0), (18, 0), (19, 0), (20, 0), (21, 0), (22, 1)]) (by decide +kernel) (by decide +kernel) (by decide +kernel) (by decide +kernel) (by exact rfl) ?_) | refine std ?_)
        | (show Br _ _ _; first | refine Br.t rfl ?_ | refine Br.f rfl ?_ | refine brs ?_ | (first | refine Br.mkN (fun h => ?_) (fun h => ?_) | refine Br.mk (fun h => ?_) (fun h => ?_)) <;> (try (first | contradiction | (exfalso; omega) | (exfalso; simp at h; done))))
        | refine stp ?_)
      all_goals exact turn (leftN (la ++ e0 :: lc) (seen ++ [e0.b])) ⟨seen ++ [e0.b], Nat.le_refl _, ⟨rfl, rfl, rfl, rfl, rfl, trivial⟩, rfl⟩ (by omega) (Ent.trans (Ent.pickA (A := lnP e0.q ⟨e0.y.b0 + (w1.w - w0.w), e0.y.b1, e0.y.i0, e0.y.i1, e0.y.f0, e0.y.f1⟩) (h := Ent.pickA (A := stars (curP (ackU0 (a0 + 1) (w1.w - w0.w)) seen) (la ++ lc)) (h := Ent.refl _))) (Ent.trans (cur_in hnd hz) (by exact entA)))
    · have hz : ackU0 (a0 + 1) (w1.w - w0.w) e0.y = e0.y := by unfold ackU0; rw [if_neg hf]
      repeat' (first
        | (show evG _ _ _ _ _ _ _; refine G_entry ?_ (he := hfb))
        | (show evG _ _ _ _ _ _ _; first | refine G_add64 ?_ | refine G_sub64 ?_ | refine G_pure0 ?_ | refine G_load ?_ | refine evG_nil ?_ | refine G_br ?_ ?_ | refine G_field ?_ | refine G_pure ?_ | refine G_store ?_ | refine G_loadV ?_ | refine G_loadV0 ?_ | refine G_loadV2 ?_ | refine G_index ?_ | refine G_indexA ?_ | refine G_cat ?_ | (refine G_indexV ?_; intro _ _ hA; subst hA))
        | (show spl _ _ _; first | refine spl_no rfl ?_ | refine spl_yes rfl ?_)
        | (show evC _ _ _ _ _; first | refine c_seq ?_ | refine c_region (by exact rfl) ?_ | refine c_cond (by exact rfl) ?_ | refine c_ret ?_ | refine c_skip ?_ | refine c_block ?_ | refine c_exit ?_ | (show evC _ (.region 8 _ true) _ _ _; refine c_drawB (bl := [0, 0, 1, 5, 15, 31, 0, 0, 192, 448, 960, 0, 0, 4096, 14336, 30720, 63488, 131008, 262143, 1, 524289, 2097151, 4194303]) (br := [4194303, 2097151, 524289, 1, 262143, 131008, 63488, 30720, 14336, 4096, 0, 0, 960, 448, 192, 0, 0, 31, 15, 5, 1, 0, 0]) (l := [(0, 0), (1, 0), (2, 0), (3, 0), (4, 0), (5, 0), (6, 0), (7, 0), (8, 0), (9, 0), (10, 0), (11, 0), (12, 0), (13, 0), (14, 0), (15, 0), (16, 0), (17, 0), (18, 0), (19, 0), (20, 0), (21, 0), (22, 1)]) (by decide +kernel) (by decide +kernel) (by decide +kernel) (by decide +kernel) (by exact rfl) ?_) | refine std ?_)
        | (show Br _ _ _; first | refine Br.t rfl ?_ | refine Br.f rfl ?_ | refine brs ?_ | (first | refine Br.mkN (fun h => ?_) (fun h => ?_) | refine Br.mk (fun h => ?_) (fun h => ?_)) <;> (try (first | contradiction | (exfalso; omega) | (exfalso; simp at h; done))))
        | refine stp ?_)
      all_goals exact turn (leftN (la ++ e0 :: lc) (seen ++ [e0.b])) ⟨seen ++ [e0.b], Nat.le_refl _, ⟨rfl, rfl, rfl, rfl, rfl, trivial⟩, rfl⟩ (by omega) (Ent.trans (Ent.pickA (A := lnP e0.q e0.y) (h := Ent.pickA (A := stars (curP (ackU0 (a0 + 1) (w1.w - w0.w)) seen) (la ++ lc)) (h := Ent.refl _))) (Ent.trans (cur_in hnd hz) (by exact entA)))
  · refine spl_no rfl ?_
    refine evG_ent (Ent.trans (Ent.pickA (A := stars (curP (ackU0 (a0 + 1) (w1.w - w0.w)) seen) l) (h := Ent.refl _)) (cur_end (fun e he => hs (enM e) (List.mem_map_of_mem he)))) ?_
    repeat' (first
      | (show evG _ _ _ _ _ _ _; first | refine G_add64 ?_ | refine G_sub64 ?_ | refine G_pure0 ?_ | refine G_load ?_ | refine evG_nil ?_ | refine G_br ?_ ?_ | refine G_field ?_ | refine G_pure ?_ | refine G_store ?_ | refine G_loadV ?_ | refine G_loadV0 ?_ | refine G_loadV2 ?_ | refine G_index ?_ | refine G_indexA ?_ | refine G_cat ?_ | (refine G_indexV ?_; intro _ _ hA; subst hA))
      | (show spl _ _ _; first | refine spl_no rfl ?_ | refine spl_yes rfl ?_)
      | (show evC _ _ _ _ _; first | refine c_seq ?_ | refine c_region (by exact rfl) ?_ | refine c_cond (by exact rfl) ?_ | refine c_ret ?_ | refine c_skip ?_ | refine c_block ?_ | refine c_exit ?_ | (show evC _ (.region 8 _ true) _ _ _; refine c_drawB (bl := [0, 0, 1, 5, 15, 31, 0, 0, 192, 448, 960, 0, 0, 4096, 14336, 30720, 63488, 131008, 262143, 1, 524289, 2097151, 4194303]) (br := [4194303, 2097151, 524289, 1, 262143, 131008, 63488, 30720, 14336, 4096, 0, 0, 960, 448, 192, 0, 0, 31, 15, 5, 1, 0, 0]) (l := [(0, 0), (1, 0), (2, 0), (3, 0), (4, 0), (5, 0), (6, 0), (7, 0), (8, 0), (9, 0), (10, 0), (11, 0), (12, 0), (13, 0), (14, 0), (15, 0), (16, 0), (17, 0), (18, 0), (19, 0), (20, 0), (21, 0), (22, 1)]) (by decide +kernel) (by decide +kernel) (by decide +kernel) (by decide +kernel) (by exact rfl) ?_) | refine std ?_)
      | (show Br _ _ _; first | refine Br.t rfl ?_ | refine Br.f rfl ?_ | refine brs ?_ | (first | refine Br.mkN (fun h => ?_) (fun h => ?_) | refine Br.mk (fun h => ?_) (fun h => ?_)) <;> (try (first | contradiction | (exfalso; omega) | (exfalso; simp at h; done))))
      | refine stp ?_)
    all_goals (show retC _ _ _ _ _ _; refine RETC ?_; exact ret_done (hK))
def ackU1 (n : Nat) (d : Int) (y : Ln) : Ln := if y.f1 ≤ n then ⟨y.b0, y.b1 + d, y.i0, y.i1, y.f0, y.f1⟩ else y
theorem gackN1_ok (hl0 : s0.length ≤ a1 + 1) (hb : a1 ≤ 1000000) (hK : K (.tuple #[]) (pt x [.pointer (some ⟨i0, 0, none⟩), .pointer (some ⟨i1, 0, none⟩), .slice A0 s0.length k0, .slice A1 s1.length k1, .int .i64 (a0 : Nat), .int .i64 (a1 : Nat), .int .i64 c0, .int .i64 c1, .map (some m)] 55 :: R)) : CallT Try.prog 37 #[.pointer (some ⟨x, 0, none⟩), .int .i64 1] (pt x [.pointer (some ⟨i0, 0, none⟩), .pointer (some ⟨i1, 0, none⟩), .slice A0 s0.length k0, .slice A1 s1.length k1, .int .i64 (a0 : Nat), .int .i64 (a1 : Nat), .int .i64 c0, .int .i64 c1, .map (some m)] 55 :: R) K := by
  refine callT_intro mixed Try.func37 rfl (by decide) (by decide +kernel) (by exact Nat.le_of_ble_eq_true rfl) ?_
  repeat' (first
    | (show evG _ _ _ _ _ _ _; first | refine G_add64 ?_ | refine G_sub64 ?_ | refine G_pure0 ?_ | refine G_load ?_ | refine evG_nil ?_ | refine G_br ?_ ?_ | refine G_field ?_ | refine G_pure ?_ | refine G_store ?_ | refine G_loadV ?_ | refine G_loadV0 ?_ | refine G_loadV2 ?_ | refine G_index ?_ | refine G_indexA ?_ | refine G_cat ?_ | (refine G_indexV ?_; intro _ _ hA; subst hA))
    | (show spl _ _ _; first | refine spl_no rfl ?_ | refine spl_yes rfl ?_)
    | (show evC _ _ _ _ _; first | refine c_seq ?_ | refine c_region (by exact rfl) ?_ | refine c_cond (by exact rfl) ?_ | refine c_ret ?_ | refine c_skip ?_ | refine c_block ?_ | refine c_exit ?_ | (show evC _ (.region 8 _ true) _ _ _; refine c_drawB (bl := [0, 0, 1, 5, 15, 31, 0, 0, 192, 448, 960, 0, 0, 4096, 14336, 30720, 63488, 131008, 262143, 1, 524289, 2097151, 4194303]) (br := [4194303, 2097151, 524289, 1, 262143, 131008, 63488, 30720, 14336, 4096, 0, 0, 960, 448, 192, 0, 0, 31, 15, 5, 1, 0, 0]) (l := [(0, 0), (1, 0), (2, 0), (3, 0), (4, 0), (5, 0), (6, 0), (7, 0), (8, 0), (9, 0), (10, 0), (11, 0), (12, 0), (13, 0), (14, 0), (15, 0), (16, 0), (17, 0), (18, 0), (19, 0), (20, 0), (21, 0), (22, 1)]) (by decide +kernel) (by decide +kernel) (by decide +kernel) (by decide +kernel) (by exact rfl) ?_) | refine std ?_)
    | (show Br _ _ _; first | refine Br.t rfl ?_ | refine Br.f rfl ?_ | refine brs ?_ | (first | refine Br.mkN (fun h => ?_) (fun h => ?_) | refine Br.mk (fun h => ?_) (fun h => ?_)) <;> (try (first | contradiction | (exfalso; omega) | (exfalso; simp at h; done))))
    | refine stp ?_)
  all_goals (show retC _ _ _ _ _ _; refine RETC ?_; exact ret_done (hK))
set_option maxHeartbeats 40000000 in
theorem gackY1_ok {w1 w0 : St3} {B : Int} (hl0 : a1 + 1 < s0.length) (hl1 : s0.length ≤ 1000000) (hok : EnOk l ck) (hw1 : s0[(((a1 + 1 : Nat) : Int)).toNat]? = some w1) (hw0 : s0[((((a1 + 1 : Nat) : Int)) - 1).toNat]? = some w0) (hr : 0 ≤ w1.w ∧ w1.w ≤ 2147483647 ∧ 0 ≤ w0.w ∧ w0.w ≤ 2147483647) (hB : B ≤ 1000000000000000) (hbd : ∀ e ∈ l, -B ≤ e.y.b1 ∧ e.y.b1 ≤ B)
    (hK : K (.tuple #[]) (pt x [.pointer (some ⟨i0, 0, none⟩), .pointer (some ⟨i1, 0, none⟩), .slice A0 s0.length k0, .slice A1 s1.length k1, .int .i64 (a0 : Nat), .int .i64 ((a1 + 1) : Nat), .int .i64 c0, .int .i64 c1, .map (some m)] 55 :: row A0 k0 58 st3C s0 :: mp m (l.map enM) ck :: stars enP (l.map fun e => ⟨e.k, e.q, e.b, ackU1 (a1 + 1) (w1.w - w0.w) e.y⟩) :: R)) : CallT Try.prog 37 #[.pointer (some ⟨x, 0, none⟩), .int .i64 1] (pt x [.pointer (some ⟨i0, 0, none⟩), .pointer (some ⟨i1, 0, none⟩), .slice A0 s0.length k0, .slice A1 s1.length k1, .int .i64 (a0 : Nat), .int .i64 (a1 : Nat), .int .i64 c0, .int .i64 c1, .map (some m)] 55 :: row A0 k0 58 st3C s0 :: mp m (l.map enM) ck :: stars enP l :: R) K := by
  obtain ⟨hnd, hck⟩ := hok
  refine callT_intro mixed Try.func37 rfl (by decide) (by decide +kernel) (by exact Nat.le_of_ble_eq_true rfl) ?_
  repeat' (first
    | (show evG _ _ _ _ _ _ _; refine G_range ?_; intro _)
    | (show evG _ _ _ _ _ _ _; first | refine G_add64 ?_ | refine G_sub64 ?_ | refine G_pure0 ?_ | refine G_load ?_ | refine evG_nil ?_ | refine G_br ?_ ?_ | refine G_field ?_ | refine G_pure ?_ | refine G_store ?_ | refine G_loadV ?_ | refine G_loadV0 ?_ | refine G_loadV2 ?_ | refine G_index ?_ | refine G_indexA ?_ | refine G_cat ?_ | (refine G_indexV ?_; intro _ _ hA; subst hA))
    | (show spl _ _ _; first | refine spl_no rfl ?_ | refine spl_yes rfl ?_)
    | (show evC _ _ _ _ _; first | refine c_seq ?_ | refine c_region (by exact rfl) ?_ | refine c_cond (by exact rfl) ?_ | refine c_ret ?_ | refine c_skip ?_ | refine c_block ?_ | refine c_exit ?_ | (show evC _ (.region 8 _ true) _ _ _; refine c_drawB (bl := [0, 0, 1, 5, 15, 31, 0, 0, 192, 448, 960, 0, 0, 4096, 14336, 30720, 63488, 131008, 262143, 1, 524289, 2097151, 4194303]) (br := [4194303, 2097151, 524289, 1, 262143, 131008, 63488, 30720, 14336, 4096, 0, 0, 960, 448, 192, 0, 0, 31, 15, 5, 1, 0, 0]) (l := [(0, 0), (1, 0), (2, 0), (3, 0), (4, 0), (5, 0), (6, 0), (7, 0), (8, 0), (9, 0), (10, 0), (11, 0), (12, 0), (13, 0), (14, 0), (15, 0), (16, 0), (17, 0), (18, 0), (19, 0), (20, 0), (21, 0), (22, 1)]) (by decide +kernel) (by decide +kernel) (by decide +kernel) (by decide +kernel) (by exact rfl) ?_) | refine std ?_)
    | (show Br _ _ _; first | refine Br.t rfl ?_ | refine Br.f rfl ?_ | refine brs ?_ | (first | refine Br.mkN (fun h => ?_) (fun h => ?_) | refine Br.mk (fun h => ?_) (fun h => ?_)) <;> (try (first | contradiction | (exfalso; omega) | (exfalso; simp at h; done))))
    | refine stp ?_)
  rename_i it
  refine evC_ent (Ent.trans (Ent.pickA (A := stars enP l) (h := Ent.refl _)) (cur_start (up := ackU1 (a1 + 1) (w1.w - w0.w)))) ?_
  refine LOOP (fun kk a C' => ∃ seen : List Nat, leftN l seen ≤ kk ∧ Agree a [(0, .pointer (some ⟨x, 0, none⟩)), (1, .int .i64 1), (4, .slice A0 s0.length k0), (5, .int .i64 (a1 + 1 : Nat)), (36, .pointer (some ⟨it, 0, none⟩))] ∧ C' = mit it m ck seen ck :: pt x [.pointer (some ⟨i0, 0, none⟩), .pointer (some ⟨i1, 0, none⟩), .slice A0 s0.length k0, .slice A1 s1.length k1, .int .i64 (a0 : Nat), .int .i64 ((a1 + 1) : Nat), .int .i64 c0, .int .i64 c1, .map (some m)] 55 :: row A0 k0 58 st3C s0 :: mp m (l.map enM) ck :: stars (curP (ackU1 (a1 + 1) (w1.w - w0.w)) seen) l :: R) (leftN l []) (turn (leftN l []) ⟨[], Nat.le_refl _, ⟨rfl, rfl, rfl, rfl, rfl, trivial⟩, rfl⟩ (by omega)) ?_
  rintro kk a C' ⟨seen, hk, ha, rfl⟩
  refine c_fr _ ha ?_
  simp only [updL]
  repeat' (first
    | (show evG _ _ _ _ _ _ _; first | refine G_add64 ?_ | refine G_sub64 ?_ | refine G_pure0 ?_ | refine G_load ?_ | refine evG_nil ?_ | refine G_br ?_ ?_ | refine G_field ?_ | refine G_pure ?_ | refine G_store ?_ | refine G_loadV ?_ | refine G_loadV0 ?_ | refine G_loadV2 ?_ | refine G_index ?_ | refine G_indexA ?_ | refine G_cat ?_ | (refine G_indexV ?_; intro _ _ hA; subst hA))
    | (show spl _ _ _; first | refine spl_no rfl ?_ | refine spl_yes rfl ?_)
    | (show evC _ _ _ _ _; first | refine c_seq ?_ | refine c_region (by exact rfl) ?_ | refine c_cond (by exact rfl) ?_ | refine c_ret ?_ | refine c_skip ?_ | refine c_block ?_ | refine c_exit ?_ | (show evC _ (.region 8 _ true) _ _ _; refine c_drawB (bl := [0, 0, 1, 5, 15, 31, 0, 0, 192, 448, 960, 0, 0, 4096, 14336, 30720, 63488, 131008, 262143, 1, 524289, 2097151, 4194303]) (br := [4194303, 2097151, 524289, 1, 262143, 131008, 63488, 30720, 14336, 4096, 0, 0, 960, 448, 192, 0, 0, 31, 15, 5, 1, 0, 0]) (l := [(0, 0), (1, 0), (2, 0), (3, 0), (4, 0), (5, 0), (6, 0), (7, 0), (8, 0), (9, 0), (10, 0), (11, 0), (12, 0), (13, 0), (14, 0), (15, 0), (16, 0), (17, 0), (18, 0), (19, 0), (20, 0), (21, 0), (22, 1)]) (by decide +kernel) (by decide +kernel) (by decide +kernel) (by decide +kernel) (by exact rfl) ?_) | refine std ?_)
    | (show Br _ _ _; first | refine Br.t rfl ?_ | refine Br.f rfl ?_ | refine brs ?_ | (first | refine Br.mkN (fun h => ?_) (fun h => ?_) | refine Br.mk (fun h => ?_) (fun h => ?_)) <;> (try (first | contradiction | (exfalso; omega) | (exfalso; simp at h; done))))
    | refine stp ?_)
  refine G_next (fun e he hn => ?_) (fun hs => ?_) rfl (by exact Pick.here) ⟨_, by ((repeat (first | exact Pick.here | apply Pick.there)) <;> exact Pick.here)⟩ (fun e he => by obtain ⟨z, hz, rfl⟩ := List.mem_map.1 he; exact hck z hz) (by
    cases l with
    | nil => exact .inr (.inl rfl)
    | cons z l => exact .inr (.inr ⟨enM z, List.mem_cons_self .., hck z (List.mem_cons_self ..)⟩)) (by exact rfl)
  · obtain ⟨e0, he0, rfl⟩ := List.mem_map.1 he
    obtain ⟨la, lc, rfl⟩ := List.append_of_mem he0
    have hfb := find_b hnd he0
    have hlt := left_step he0 hn
    have hbe := hbd e0 he0
    refine spl_no rfl ?_
    refine evG_ent (Ent.trans (Ent.pickA (A := stars (curP (ackU1 (a1 + 1) (w1.w - w0.w)) seen) (la ++ e0 :: lc)) (h := Ent.refl _)) (cur_out hn)) ?_
    simp only [lnP]
    by_cases hf : e0.y.f1 ≤ a1 + 1
    · have hz : ackU1 (a1 + 1) (w1.w - w0.w) e0.y = ⟨e0.y.b0, e0.y.b1 + (w1.w - w0.w), e0.y.i0, e0.y.i1, e0.y.f0, e0.y.f1⟩ := by unfold ackU1; rw [if_pos hf]
      repeat' (first
        | (show evG _ _ _ _ _ _ _; refine G_entry ?_ (he := hfb))
        | (show evG _ _ _ _ _ _ _; first | refine G_add64 ?_ | refine G_sub64 ?_ | refine G_pure0 ?_ | refine G_load ?_ | refine evG_nil ?_ | refine G_br ?_ ?_ | refine G_field ?_ | refine G_pure ?_ | refine G_store ?_ | refine G_loadV ?_ | refine G_loadV0 ?_ | refine G_loadV2 ?_ | refine G_index ?_ | refine G_indexA ?_ | refine G_cat ?_ | (refine G_indexV ?_; intro _ _ hA; subst hA))
        | (show spl _ _ _; first | refine spl_no rfl ?_ | refine spl_yes rfl ?_)
        | (show evC _ _ _ _ _; first | refine c_seq ?_ | refine c_region (by exact rfl) ?_ | refine c_cond (by exact rfl) ?_ | refine c_ret ?_ | refine c_skip ?_ | refine c_block ?_ | refine c_exit ?_ | (show evC _ (.region 8 _ true) _ _ _; refine c_drawB (bl := [0, 0, 1, 5, 15, 31, 0, 0, 192, 448, 960, 0, 0, 4096, 14336, 30720, 63488, 131008, 262143, 1, 524289, 2097151, 4194303]) (br := [4194303, 2097151, 524289, 1, 262143, 131008, 63488, 30720, 14336, 4096, 0, 0, 960, 448, 192, 0, 0, 31, 15, 5, 1, 0, 0]) (l := [(0, 0), (1, 0), (2, 0), (3, 0), (4, 0), (5, 0), (6, 0), (7, 0), (8, 0), (9, 0), (10, 0), (11, 0), (12, 0), (13, 0), (14, 0), (15, 0), (16, 0), (17, 0), (18, 0), (19, 0), (20, 0), (21, 0), (22, 1)]) (by decide +kernel) (by decide +kernel) (by decide +kernel) (by decide +kernel) (by exact rfl) ?_) | refine std ?_)
        | (show Br _ _ _; first | refine Br.t rfl ?_ | refine Br.f rfl ?_ | refine brs ?_ | (first | refine Br.mkN (fun h => ?_) (fun h => ?_) | refine Br.mk (fun h => ?_) (fun h => ?_)) <;> (try (first | contradiction | (exfalso; omega) | (exfalso; simp at h; done))))
        | refine stp ?_)
      all_goals exact turn (leftN (la ++ e0 :: lc) (seen ++ [e0.b])) ⟨seen ++ [e0.b], Nat.le_refl _, ⟨rfl, rfl, rfl, rfl, rfl, trivial⟩, rfl⟩ (by omega) (Ent.trans (Ent.pickA (A := lnP e0.q ⟨e0.y.b0, e0.y.b1 + (w1.w - w0.w), e0.y.i0, e0.y.i1, e0.y.f0, e0.y.f1⟩) (h := Ent.pickA (A := stars (curP (ackU1 (a1 + 1) (w1.w - w0.w)) seen) (la ++ lc)) (h := Ent.refl _))) (Ent.trans (cur_in hnd hz) (by exact entA)))
    · have hz : ackU1 (a1 + 1) (w1.w - w0.w) e0.y = e0.y := by unfold ackU1; rw [if_neg hf]
      repeat' (first
        | (show evG _ _ _ _ _ _ _; refine G_entry ?_ (he := hfb))
        | (show evG _ _ _ _ _ _ _; first | refine G_add64 ?_ | refine G_sub64 ?_ | refine G_pure0 ?_ | refine G_load ?_ | refine evG_nil ?_ | refine G_br ?_ ?_ | refine G_field ?_ | refine G_pure ?_ | refine G_store ?_ | refine G_loadV ?_ | refine G_loadV0 ?_ | refine G_loadV2 ?_ | refine G_index ?_ | refine G_indexA ?_ | refine G_cat ?_ | (refine G_indexV ?_; intro _ _ hA; subst hA))
        | (show spl _ _ _; first | refine spl_no rfl ?_ | refine spl_yes rfl ?_)
        | (show evC _ _ _ _ _; first | refine c_seq ?_ | refine c_region (by exact rfl) ?_ | refine c_cond (by exact rfl) ?_ | refine c_ret ?_ | refine c_skip ?_ | refine c_block ?_ | refine c_exit ?_ | (show evC _ (.region 8 _ true) _ _ _; refine c_drawB (bl := [0, 0, 1, 5, 15, 31, 0, 0, 192, 448, 960, 0, 0, 4096, 14336, 30720, 63488, 131008, 262143, 1, 524289, 2097151, 4194303]) (br := [4194303, 2097151, 524289, 1, 262143, 131008, 63488, 30720, 14336, 4096, 0, 0, 960, 448, 192, 0, 0, 31, 15, 5, 1, 0, 0]) (l := [(0, 0), (1, 0), (2, 0), (3, 0), (4, 0), (5, 0), (6, 0), (7, 0), (8, 0), (9, 0), (10, 0), (11, 0), (12, 0), (13, 0), (14, 0), (15, 0), (16, 0), (17, 0), (18, 0), (19, 0), (20, 0), (21, 0), (22, 1)]) (by decide +kernel) (by decide +kernel) (by decide +kernel) (by decide +kernel) (by exact rfl) ?_) | refine std ?_)
        | (show Br _ _ _; first | refine Br.t rfl ?_ | refine Br.f rfl ?_ | refine brs ?_ | (first | refine Br.mkN (fun h => ?_) (fun h => ?_) | refine Br.mk (fun h => ?_) (fun h => ?_)) <;> (try (first | contradiction | (exfalso; omega) | (exfalso; simp at h; done))))
        | refine stp ?_)
      all_goals exact turn (leftN (la ++ e0 :: lc) (seen ++ [e0.b])) ⟨seen ++ [e0.b], Nat.le_refl _, ⟨rfl, rfl, rfl, rfl, rfl, trivial⟩, rfl⟩ (by omega) (Ent.trans (Ent.pickA (A := lnP e0.q e0.y) (h := Ent.pickA (A := stars (curP (ackU1 (a1 + 1) (w1.w - w0.w)) seen) (la ++ lc)) (h := Ent.refl _))) (Ent.trans (cur_in hnd hz) (by exact entA)))
  · refine spl_no rfl ?_
    refine evG_ent (Ent.trans (Ent.pickA (A := stars (curP (ackU1 (a1 + 1) (w1.w - w0.w)) seen) l) (h := Ent.refl _)) (cur_end (fun e he => hs (enM e) (List.mem_map_of_mem he)))) ?_
    repeat' (first
      | (show evG _ _ _ _ _ _ _; first | refine G_add64 ?_ | refine G_sub64 ?_ | refine G_pure0 ?_ | refine G_load ?_ | refine evG_nil ?_ | refine G_br ?_ ?_ | refine G_field ?_ | refine G_pure ?_ | refine G_store ?_ | refine G_loadV ?_ | refine G_loadV0 ?_ | refine G_loadV2 ?_ | refine G_index ?_ | refine G_indexA ?_ | refine G_cat ?_ | (refine G_indexV ?_; intro _ _ hA; subst hA))
      | (show spl _ _ _; first | refine spl_no rfl ?_ | refine spl_yes rfl ?_)
      | (show evC _ _ _ _ _; first | refine c_seq ?_ | refine c_region (by exact rfl) ?_ | refine c_cond (by exact rfl) ?_ | refine c_ret ?_ | refine c_skip ?_ | refine c_block ?_ | refine c_exit ?_ | (show evC _ (.region 8 _ true) _ _ _; refine c_drawB (bl := [0, 0, 1, 5, 15, 31, 0, 0, 192, 448, 960, 0, 0, 4096, 14336, 30720, 63488, 131008, 262143, 1, 524289, 2097151, 4194303]) (br := [4194303, 2097151, 524289, 1, 262143, 131008, 63488, 30720, 14336, 4096, 0, 0, 960, 448, 192, 0, 0, 31, 15, 5, 1, 0, 0]) (l := [(0, 0), (1, 0), (2, 0), (3, 0), (4, 0), (5, 0), (6, 0), (7, 0), (8, 0), (9, 0), (10, 0), (11, 0), (12, 0), (13, 0), (14, 0), (15, 0), (16, 0), (17, 0), (18, 0), (19, 0), (20, 0), (21, 0), (22, 1)]) (by decide +kernel) (by decide +kernel) (by decide +kernel) (by decide +kernel) (by exact rfl) ?_) | refine std ?_)
      | (show Br _ _ _; first | refine Br.t rfl ?_ | refine Br.f rfl ?_ | refine brs ?_ | (first | refine Br.mkN (fun h => ?_) (fun h => ?_) | refine Br.mk (fun h => ?_) (fun h => ?_)) <;> (try (first | contradiction | (exfalso; omega) | (exfalso; simp at h; done))))
      | refine stp ?_)
    all_goals (show retC _ _ _ _ _ _; refine RETC ?_; exact ret_done (hK))
end Go.Proofs.Ythoagholmkiknaa

