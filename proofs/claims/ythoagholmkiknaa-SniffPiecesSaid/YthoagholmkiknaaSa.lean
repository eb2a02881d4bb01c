/- Sniff: its functions, of any state. Sniff: settings, acknowledgements. Sniff: acknowledgements, grants, data: lemmas; each with the conditions that it states. -/
import Derived.Test.YthoagholmkiknaaFh
import Derived.Test.YthoagholmkiknaaS2

namespace Go.Proofs.Ythoagholmkiknaa
open Go Go.Proofs Go.Sl
set_option maxRecDepth 100000
set_option maxHeartbeats 4000000
set_option linter.unusedSimpArgs false
set_option linter.unusedVariables false
attribute [local irreducible] evG evC spl thenC inBlockC noGotoC CallT retC RetG TurnG CutG pt ro exP star sep pureP
attribute [local irreducible] mp mit
variable {R C : List HP} {K : Value → List HP → Prop}
structure St3 where
  w : Int
  st : Int
  it : Int
def st3D : List Value → Option St3
  | [.int .i64 w, .int .i64 st, .int .i64 it] => some ⟨w, st, it⟩
  | _ => none
theorem st3D_ok (cs : List Value) (y : St3) (h : st3D cs = some y) : [.int .i64 y.w, .int .i64 y.st, .int .i64 y.it] = cs := by
  unfold st3D at h
  split at h
  · cases h; rfl
  · cases h
def st3C : Cod St3 := { enc := fun p => [.int .i64 p.w, .int .i64 p.st, .int .i64 p.it], sz := 3, dec := st3D, len := fun _ => rfl, one := fun _ => rfl, ok := st3D_ok }
/-- a line of a stream -/
structure Ln where
  b0 : Int
  b1 : Int
  i0 : Int
  i1 : Int
  f0 : Nat
  f1 : Nat
def lnP (q : Nat) (y : Ln) : HP := pt q [.int .i64 y.b0, .int .i64 y.b1, .int .i64 y.i0, .int .i64 y.i1, .int .i64 (y.f0 : Nat), .int .i64 (y.f1 : Nat)] 70
/-- an entry of the map: its key, where its line lies, when it was born, the line -/
structure En where
  k : Int
  q : Nat
  b : Nat
  y : Ln
def enM (e : En) : MEnt := ⟨e.k, .pointer (some ⟨e.q, 0, none⟩), e.b⟩
def enP (e : En) : HP := lnP e.q e.y
theorem mfind_no {id : Int} : ∀ {l : List En} (j : Nat), (∀ e ∈ l, e.k ≠ id) → mfind id (l.map enM) j = none
  | [], _, _ => rfl
  | e :: l, j, h => by
    have h1 : ¬ id = e.k := fun q => h e (List.mem_cons_self ..) q.symm
    simp only [List.map_cons, mfind, enM]
    rw [if_neg (fun q => h1 (beq_iff_eq.1 q))]
    exact mfind_no (j + 1) fun z hz => h z (List.mem_cons_of_mem _ hz)
theorem mfind_yes {id : Int} {e : En} {c : List En} (he : e.k = id) : ∀ {a : List En} (j : Nat), (∀ z ∈ a, z.k ≠ id) → mfind id ((a ++ e :: c).map enM) j = some (j + a.length, .pointer (some ⟨e.q, 0, none⟩))
  | [], j, _ => by
    simp only [List.nil_append, List.map_cons, mfind, enM]
    rw [if_pos (beq_iff_eq.2 he.symm)]
    rfl
  | z :: a, j, h => by
    have h1 : ¬ id = z.k := fun q => h z (List.mem_cons_self ..) q.symm
    simp only [List.cons_append, List.map_cons, mfind]
    rw [show (enM z).k = z.k from rfl, if_neg (fun q => h1 (beq_iff_eq.1 q)), mfind_yes he (j + 1) fun z hz => h z (List.mem_cons_of_mem _ hz)]
    simp only [List.length_cons]
    congr 2
    omega
theorem look_no {id : Int} {l : List En} (h : ∀ e ∈ l, e.k ≠ id) : lookV true (.pointer none) (mfind id (l.map enM) 0) = .tuple #[.pointer none, .bool false] := by rw [mfind_no 0 h]; rfl
theorem look_yes {id : Int} {e : En} {a c : List En} (he : e.k = id) (h : ∀ z ∈ a, z.k ≠ id) : lookV true (.pointer none) (mfind id ((a ++ e :: c).map enM) 0) = .tuple #[.pointer (some ⟨e.q, 0, none⟩), .bool true] := by rw [mfind_yes he 0 h]; rfl
theorem put_no {id : Int} {l : List En} {ck : Nat} (h : ∀ e ∈ l, e.k ≠ id) (q : Nat) (y : Ln) : mapPut id (.pointer (some ⟨q, 0, none⟩)) (l.map enM) ck = ((l ++ [En.mk id q ck y]).map enM, ck + 1) := by
  unfold mapPut
  rw [mfind_no 0 h, List.map_append]
  rfl
variable {x i0 i1 m ck k0 k1 a0 a1 : Nat} {A0 A1 : Option Addr} {s0 s1 : List St3} {c0 c1 : Int} {l : List En} {id : Int}
theorem gspC1_ok {n : Int} (hn : 0 ≤ n ∧ n ≤ 100000) (hb : -1000000000000000 ≤ c1 ∧ c1 ≤ 1000000000000000) (hK : K (.bool (spO c1 n)) (pt x [.pointer (some ⟨i0, 0, none⟩), .pointer (some ⟨i1, 0, none⟩), .slice A0 s0.length k0, .slice A1 s1.length k1, .int .i64 (a0 : Nat), .int .i64 (a1 : Nat), .int .i64 c0, .int .i64 (spN c1 n), .map (some m)] 55 :: R)) : CallT Try.prog 48 #[.pointer (some ⟨x, 7, none⟩), .int .i64 n] (pt x [.pointer (some ⟨i0, 0, none⟩), .pointer (some ⟨i1, 0, none⟩), .slice A0 s0.length k0, .slice A1 s1.length k1, .int .i64 (a0 : Nat), .int .i64 (a1 : Nat), .int .i64 c0, .int .i64 c1, .map (some m)] 55 :: R) K := by
  by_cases h : 0 < n ∧ c1 < n
  · simp only [spN, spO, if_pos h] at hK
    refine callT_intro mixed Try.func48 rfl (by decide) (by decide +kernel) (by exact Nat.le_of_ble_eq_true rfl) ?_
    repeat' (first
      | (show evG _ _ _ _ _ _ _; first | refine G_sub64 ?_ | refine G_pure0 ?_ | refine G_load ?_ | refine evG_nil ?_ | refine G_br ?_ ?_ | refine G_pure ?_ | refine G_store ?_ | refine G_loadV ?_ | refine G_loadV0 ?_ | refine G_loadV2 ?_ | refine G_min ?_ | refine G_skip ?_ | refine G_skip0 ?_)
      | (show spl _ _ _; first | refine spl_no rfl ?_ | refine spl_yes rfl ?_)
      | (show evC _ _ _ _ _; first | refine c_seq ?_ | refine c_region (by exact rfl) ?_ | refine c_cond (by exact rfl) ?_ | refine c_ret ?_ | refine c_skip ?_ | refine c_block ?_ | refine c_exit ?_ | refine std ?_)
      | (show Br _ _ _; first | refine Br.t rfl ?_ | refine Br.f rfl ?_ | refine brs ?_ | (first | refine Br.mkN (fun h => ?_) (fun h => ?_) | refine Br.mk (fun h => ?_) (fun h => ?_)) <;> (try (first | contradiction | (exfalso; omega) | (exfalso; simp at h; done))))
      | refine stp ?_)
    all_goals (show retC _ _ _ _ _ _; refine RETC ?_; exact ret_done (hK))
  · simp only [spN, spO, if_neg h] at hK
    refine callT_intro mixed Try.func48 rfl (by decide) (by decide +kernel) (by exact Nat.le_of_ble_eq_true rfl) ?_
    repeat' (first
      | (show evG _ _ _ _ _ _ _; first | refine G_sub64 ?_ | refine G_pure0 ?_ | refine G_load ?_ | refine evG_nil ?_ | refine G_br ?_ ?_ | refine G_pure ?_ | refine G_store ?_ | refine G_loadV ?_ | refine G_loadV0 ?_ | refine G_loadV2 ?_ | refine G_min ?_ | refine G_skip ?_ | refine G_skip0 ?_)
      | (show spl _ _ _; first | refine spl_no rfl ?_ | refine spl_yes rfl ?_)
      | (show evC _ _ _ _ _; first | refine c_seq ?_ | refine c_region (by exact rfl) ?_ | refine c_cond (by exact rfl) ?_ | refine c_ret ?_ | refine c_skip ?_ | refine c_block ?_ | refine c_exit ?_ | refine std ?_)
      | (show Br _ _ _; first | refine Br.t rfl ?_ | refine Br.f rfl ?_ | refine brs ?_ | (first | refine Br.mkN (fun h => ?_) (fun h => ?_) | refine Br.mk (fun h => ?_) (fun h => ?_)) <;> (try (first | contradiction | (exfalso; omega) | (exfalso; simp at h; done))))
      | refine stp ?_)
    all_goals (show retC _ _ _ _ _ _; refine RETC ?_; exact ret_done (hK))
theorem gspB1_ok {q : Nat} {n b0 b1 j0 j1 : Int} {f0 f1 : Nat} (hn : 0 ≤ n ∧ n ≤ 100000) (hb : -1000000000000000 ≤ b1 ∧ b1 ≤ 1000000000000000) (hK : K (.bool (spO b1 n)) (pt q [.int .i64 b0, .int .i64 (spN b1 n), .int .i64 j0, .int .i64 j1, .int .i64 (f0 : Nat), .int .i64 (f1 : Nat)] 70 :: R)) : CallT Try.prog 48 #[.pointer (some ⟨q, 1, none⟩), .int .i64 n] (pt q [.int .i64 b0, .int .i64 b1, .int .i64 j0, .int .i64 j1, .int .i64 (f0 : Nat), .int .i64 (f1 : Nat)] 70 :: R) K := by
  by_cases h : 0 < n ∧ b1 < n
  · simp only [spN, spO, if_pos h] at hK
    refine callT_intro mixed Try.func48 rfl (by decide) (by decide +kernel) (by exact Nat.le_of_ble_eq_true rfl) ?_
    repeat' (first
      | (show evG _ _ _ _ _ _ _; first | refine G_sub64 ?_ | refine G_pure0 ?_ | refine G_load ?_ | refine evG_nil ?_ | refine G_br ?_ ?_ | refine G_pure ?_ | refine G_store ?_ | refine G_loadV ?_ | refine G_loadV0 ?_ | refine G_loadV2 ?_ | refine G_min ?_ | refine G_skip ?_ | refine G_skip0 ?_)
      | (show spl _ _ _; first | refine spl_no rfl ?_ | refine spl_yes rfl ?_)
      | (show evC _ _ _ _ _; first | refine c_seq ?_ | refine c_region (by exact rfl) ?_ | refine c_cond (by exact rfl) ?_ | refine c_ret ?_ | refine c_skip ?_ | refine c_block ?_ | refine c_exit ?_ | refine std ?_)
      | (show Br _ _ _; first | refine Br.t rfl ?_ | refine Br.f rfl ?_ | refine brs ?_ | (first | refine Br.mkN (fun h => ?_) (fun h => ?_) | refine Br.mk (fun h => ?_) (fun h => ?_)) <;> (try (first | contradiction | (exfalso; omega) | (exfalso; simp at h; done))))
      | refine stp ?_)
    all_goals (show retC _ _ _ _ _ _; refine RETC ?_; exact ret_done (hK))
  · simp only [spN, spO, if_neg h] at hK
    refine callT_intro mixed Try.func48 rfl (by decide) (by decide +kernel) (by exact Nat.le_of_ble_eq_true rfl) ?_
    repeat' (first
      | (show evG _ _ _ _ _ _ _; first | refine G_sub64 ?_ | refine G_pure0 ?_ | refine G_load ?_ | refine evG_nil ?_ | refine G_br ?_ ?_ | refine G_pure ?_ | refine G_store ?_ | refine G_loadV ?_ | refine G_loadV0 ?_ | refine G_loadV2 ?_ | refine G_min ?_ | refine G_skip ?_ | refine G_skip0 ?_)
      | (show spl _ _ _; first | refine spl_no rfl ?_ | refine spl_yes rfl ?_)
      | (show evC _ _ _ _ _; first | refine c_seq ?_ | refine c_region (by exact rfl) ?_ | refine c_cond (by exact rfl) ?_ | refine c_ret ?_ | refine c_skip ?_ | refine c_block ?_ | refine c_exit ?_ | refine std ?_)
      | (show Br _ _ _; first | refine Br.t rfl ?_ | refine Br.f rfl ?_ | refine brs ?_ | (first | refine Br.mkN (fun h => ?_) (fun h => ?_) | refine Br.mk (fun h => ?_) (fun h => ?_)) <;> (try (first | contradiction | (exfalso; omega) | (exfalso; simp at h; done))))
      | refine stp ?_)
    all_goals (show retC _ _ _ _ _ _; refine RETC ?_; exact ret_done (hK))
theorem gspI1_ok {q : Nat} {n b0 b1 j0 j1 : Int} {f0 f1 : Nat} (hn : 0 ≤ n ∧ n ≤ 100000) (hb : -1000000000000000 ≤ j1 ∧ j1 ≤ 1000000000000000) (hK : K (.bool (spO j1 n)) (pt q [.int .i64 b0, .int .i64 b1, .int .i64 j0, .int .i64 (spN j1 n), .int .i64 (f0 : Nat), .int .i64 (f1 : Nat)] 70 :: R)) : CallT Try.prog 48 #[.pointer (some ⟨q, 3, none⟩), .int .i64 n] (pt q [.int .i64 b0, .int .i64 b1, .int .i64 j0, .int .i64 j1, .int .i64 (f0 : Nat), .int .i64 (f1 : Nat)] 70 :: R) K := by
  by_cases h : 0 < n ∧ j1 < n
  · simp only [spN, spO, if_pos h] at hK
    refine callT_intro mixed Try.func48 rfl (by decide) (by decide +kernel) (by exact Nat.le_of_ble_eq_true rfl) ?_
    repeat' (first
      | (show evG _ _ _ _ _ _ _; first | refine G_sub64 ?_ | refine G_pure0 ?_ | refine G_load ?_ | refine evG_nil ?_ | refine G_br ?_ ?_ | refine G_pure ?_ | refine G_store ?_ | refine G_loadV ?_ | refine G_loadV0 ?_ | refine G_loadV2 ?_ | refine G_min ?_ | refine G_skip ?_ | refine G_skip0 ?_)
      | (show spl _ _ _; first | refine spl_no rfl ?_ | refine spl_yes rfl ?_)
      | (show evC _ _ _ _ _; first | refine c_seq ?_ | refine c_region (by exact rfl) ?_ | refine c_cond (by exact rfl) ?_ | refine c_ret ?_ | refine c_skip ?_ | refine c_block ?_ | refine c_exit ?_ | refine std ?_)
      | (show Br _ _ _; first | refine Br.t rfl ?_ | refine Br.f rfl ?_ | refine brs ?_ | (first | refine Br.mkN (fun h => ?_) (fun h => ?_) | refine Br.mk (fun h => ?_) (fun h => ?_)) <;> (try (first | contradiction | (exfalso; omega) | (exfalso; simp at h; done))))
      | refine stp ?_)
    all_goals (show retC _ _ _ _ _ _; refine RETC ?_; exact ret_done (hK))
  · simp only [spN, spO, if_neg h] at hK
    refine callT_intro mixed Try.func48 rfl (by decide) (by decide +kernel) (by exact Nat.le_of_ble_eq_true rfl) ?_
    repeat' (first
      | (show evG _ _ _ _ _ _ _; first | refine G_sub64 ?_ | refine G_pure0 ?_ | refine G_load ?_ | refine evG_nil ?_ | refine G_br ?_ ?_ | refine G_pure ?_ | refine G_store ?_ | refine G_loadV ?_ | refine G_loadV0 ?_ | refine G_loadV2 ?_ | refine G_min ?_ | refine G_skip ?_ | refine G_skip0 ?_)
      | (show spl _ _ _; first | refine spl_no rfl ?_ | refine spl_yes rfl ?_)
      | (show evC _ _ _ _ _; first | refine c_seq ?_ | refine c_region (by exact rfl) ?_ | refine c_cond (by exact rfl) ?_ | refine c_ret ?_ | refine c_skip ?_ | refine c_block ?_ | refine c_exit ?_ | refine std ?_)
      | (show Br _ _ _; first | refine Br.t rfl ?_ | refine Br.f rfl ?_ | refine brs ?_ | (first | refine Br.mkN (fun h => ?_) (fun h => ?_) | refine Br.mk (fun h => ?_) (fun h => ?_)) <;> (try (first | contradiction | (exfalso; omega) | (exfalso; simp at h; done))))
      | refine stp ?_)
    all_goals (show retC _ _ _ _ _ _; refine RETC ?_; exact ret_done (hK))
def wrL (l : List Int) (w : Int) (ok : Bool) : List Int := if ok = true then l else l ++ [w]
theorem wrL_len (l : List Int) (w : Int) (ok : Bool) : (wrL l w ok).length ≤ l.length + 1 := by unfold wrL; split <;> simp
theorem wrongG_ok {r c : Nat} {A : Option Addr} {w : Int} {l : List Int} {ok : Bool} (hl : l.length ≤ 100) (hK : ∀ A' c', K (.tuple #[]) (pt r [.slice A' (wrL l w ok).length c'] 26 :: row A' c' 3 siC (wrL l w ok) :: R)) : CallT Try.prog 47 #[.int .i64 w, .bool ok, .pointer (some ⟨r, 0, none⟩)] (pt r [.slice A l.length c] 26 :: row A c 3 siC l :: R) K := by
  cases ok with
  | true =>
    simp only [wrL, if_true] at hK
    refine callT_intro mixed Try.func47 rfl (by decide) (by decide +kernel) (by exact Nat.le_of_ble_eq_true rfl) ?_
    repeat' (first
      | (show evG _ _ _ _ _ _ _; first | refine G_pure0 ?_ | refine G_load ?_ | refine evG_nil ?_ | refine G_br ?_ ?_ | refine G_pure ?_ | refine G_store ?_ | refine G_loadV ?_ | refine G_loadV0 ?_ | refine G_loadV2 ?_ | (refine G_append ?_; intro _ _) | (refine G_appendN ?_; intro _ _) | refine G_not ?_ | (refine G_buildSlice ?_; intro _))
      | (show spl _ _ _; first | refine spl_no rfl ?_ | refine spl_yes rfl ?_)
      | (show evC _ _ _ _ _; first | refine c_seq ?_ | refine c_region (by exact rfl) ?_ | refine c_cond (by exact rfl) ?_ | refine c_ret ?_ | refine c_skip ?_ | refine c_block ?_ | refine c_exit ?_ | refine std ?_)
      | (show Br _ _ _; first | refine Br.t rfl ?_ | refine Br.f rfl ?_ | refine brs ?_ | (first | refine Br.mkN (fun h => ?_) (fun h => ?_) | refine Br.mk (fun h => ?_) (fun h => ?_)) <;> (try (first | contradiction | (exfalso; omega) | (exfalso; simp at h; done))))
      | refine stp ?_)
    all_goals (show retC _ _ _ _ _ _; refine RETC ?_; exact ret_done (hK _ _))
  | false =>
    simp only [wrL, Bool.false_eq_true, if_false] at hK
    refine callT_intro mixed Try.func47 rfl (by decide) (by decide +kernel) (by exact Nat.le_of_ble_eq_true rfl) ?_
    repeat' (first
      | (show evG _ _ _ _ _ _ _; first | refine G_pure0 ?_ | refine G_load ?_ | refine evG_nil ?_ | refine G_br ?_ ?_ | refine G_pure ?_ | refine G_store ?_ | refine G_loadV ?_ | refine G_loadV0 ?_ | refine G_loadV2 ?_ | (refine G_append ?_; intro _ _) | (refine G_appendN ?_; intro _ _) | refine G_not ?_ | (refine G_buildSlice ?_; intro _))
      | (show spl _ _ _; first | refine spl_no rfl ?_ | refine spl_yes rfl ?_)
      | (show evC _ _ _ _ _; first | refine c_seq ?_ | refine c_region (by exact rfl) ?_ | refine c_cond (by exact rfl) ?_ | refine c_ret ?_ | refine c_skip ?_ | refine c_block ?_ | refine c_exit ?_ | refine std ?_)
      | (show Br _ _ _; first | refine Br.t rfl ?_ | refine Br.f rfl ?_ | refine brs ?_ | (first | refine Br.mkN (fun h => ?_) (fun h => ?_) | refine Br.mk (fun h => ?_) (fun h => ?_)) <;> (try (first | contradiction | (exfalso; omega) | (exfalso; simp at h; done))))
      | refine stp ?_)
    all_goals (show retC _ _ _ _ _ _; refine RETC ?_; exact ret_done (hK _ _))
theorem gopenY1_ok {q : Nat} (hlk : lookV true (.pointer none) (mfind id (l.map enM) 0) = .tuple #[.pointer (some ⟨q, 0, none⟩), .bool true]) (hK : K (.tuple #[]) (pt x [.pointer (some ⟨i0, 0, none⟩), .pointer (some ⟨i1, 0, none⟩), .slice A0 s0.length k0, .slice A1 s1.length k1, .int .i64 (a0 : Nat), .int .i64 (a1 : Nat), .int .i64 c0, .int .i64 c1, .map (some m)] 55 :: mp m (l.map enM) ck :: R)) : CallT Try.prog 35 #[.pointer (some ⟨x, 0, none⟩), .int .i64 1, .int .i64 id] (pt x [.pointer (some ⟨i0, 0, none⟩), .pointer (some ⟨i1, 0, none⟩), .slice A0 s0.length k0, .slice A1 s1.length k1, .int .i64 (a0 : Nat), .int .i64 (a1 : Nat), .int .i64 c0, .int .i64 c1, .map (some m)] 55 :: mp m (l.map enM) ck :: R) K := by
  refine callT_intro mixed Try.func35 rfl (by decide) (by decide +kernel) (by exact Nat.le_of_ble_eq_true rfl) ?_
  repeat' (first
    | (show evG _ _ _ _ _ _ _; first | refine G_lookup ?_ (hv := hlk))
    | (show evG _ _ _ _ _ _ _; first | refine G_add64 ?_ | refine G_sub64 ?_ | refine G_pure0 ?_ | refine G_load ?_ | refine evG_nil ?_ | refine G_br ?_ ?_ | refine G_field ?_ | refine G_pure ?_ | refine G_store ?_ | refine G_loadV ?_ | refine G_loadV0 ?_ | refine G_loadV2 ?_ | refine G_index ?_ | refine G_indexA ?_ | refine G_build ?_ | refine G_cat ?_ | (refine G_box ?_; intro _) | (refine G_indexV ?_; intro _ _ hA; subst hA))
    | (show spl _ _ _; first | refine spl_no rfl ?_ | refine spl_yes rfl ?_)
    | (show evC _ _ _ _ _; first | refine c_seq ?_ | refine c_region (by exact rfl) ?_ | refine c_cond (by exact rfl) ?_ | refine c_ret ?_ | refine c_skip ?_ | refine c_block ?_ | refine c_exit ?_ | (show evC _ (.region 4 _ true) _ _ _; refine c_drawB (bl := [0, 0, 0, 0, 0, 0, 16, 80, 240, 496, 0, 0, 1024, 5120, 15360, 31744, 65520, 131056, 262128, 0, 0, 524288, 2621440, 7864320, 16252928, 33030144, 1, 67108865, 234881011, 503316467, 4, 1073741828, 4294967295, 8589934591]) (br := [8589934591, 4294967295, 1073741828, 4, 503316467, 234881011, 67108865, 1, 33030144, 16252928, 7864320, 2621440, 524288, 0, 0, 262128, 131056, 65520, 31744, 15360, 5120, 1024, 0, 0, 496, 240, 80, 16, 0, 0, 0, 0, 0, 0]) (l := [(0, 0), (1, 0), (4, 0), (5, 0), (6, 0), (7, 0), (8, 0), (9, 0), (10, 0), (11, 0), (12, 0), (13, 0), (14, 0), (15, 0), (16, 0), (17, 0), (18, 0), (19, 0), (20, 0), (21, 0), (22, 0), (23, 0), (24, 0), (26, 0), (27, 0), (28, 0), (29, 1), (2, 1), (3, 1), (25, 1), (30, 1), (31, 1), (32, 0), (33, 1)]) (by decide +kernel) (by decide +kernel) (by decide +kernel) (by decide +kernel) (by exact rfl) ?_) | (show evC _ (.region 5 _ true) _ _ _; refine c_drawB (bl := [0, 0, 0, 0, 0, 0, 16, 80, 240, 496, 0, 0, 1024, 5120, 15360, 31744, 64512, 130048, 262128, 524272, 1048560, 0, 0, 2097152, 10485760, 31457280, 65011712, 132120576, 1, 268435457, 939524083, 2013265907, 4, 4294967300, 17179869183, 34359738367]) (br := [34359738367, 17179869183, 4294967300, 4, 2013265907, 939524083, 268435457, 1, 132120576, 65011712, 31457280, 10485760, 2097152, 0, 0, 1048560, 524272, 262128, 130048, 64512, 31744, 15360, 5120, 1024, 0, 0, 496, 240, 80, 16, 0, 0, 0, 0, 0, 0]) (l := [(0, 0), (1, 0), (4, 0), (5, 0), (6, 0), (7, 0), (8, 0), (9, 0), (10, 0), (11, 0), (12, 0), (13, 0), (14, 0), (15, 0), (16, 0), (17, 0), (18, 0), (19, 0), (20, 0), (21, 0), (22, 0), (23, 0), (24, 0), (25, 0), (26, 0), (28, 0), (29, 0), (30, 0), (31, 1), (2, 1), (3, 1), (27, 1), (32, 1), (33, 1), (34, 0), (35, 1)]) (by decide +kernel) (by decide +kernel) (by decide +kernel) (by decide +kernel) (by exact rfl) ?_) | refine std ?_)
    | (show Br _ _ _; first | refine Br.t rfl ?_ | refine Br.f rfl ?_ | refine brs ?_ | (first | refine Br.mkN (fun h => ?_) (fun h => ?_) | refine Br.mk (fun h => ?_) (fun h => ?_)) <;> (try (first | contradiction | (exfalso; omega) | (exfalso; simp at h; done))))
    | refine stp ?_
    | (show CallT _ 47 _ _ _; refine CA (h := wrongG_ok (by simp) (fun _ _ => ?_))))
  all_goals (show retC _ _ _ _ _ _; refine RETC ?_; exact ret_done (hK))
set_option maxHeartbeats 40000000 in
theorem gopenN1_ok {wo ws : St3} (hlk : lookV true (.pointer none) (mfind id (l.map enM) 0) = .tuple #[.pointer none, .bool false]) (hput : ∀ q y, mapPut id (.pointer (some ⟨q, 0, none⟩)) (l.map enM) ck = ((l ++ [En.mk id q ck y]).map enM, ck + 1)) (hl0 : s1.length ≤ 1000000) (hl2 : s0.length ≤ 1000000) (hl1 : s1 ≠ []) (ha : a1 < s0.length) (hwo : s0[((a1 : Nat) : Int).toNat]? = some wo) (hws : s1[(((s1.length : Nat) : Int) - 1).toNat]? = some ws) (hK : ∀ q, K (.tuple #[]) (pt x [.pointer (some ⟨i0, 0, none⟩), .pointer (some ⟨i1, 0, none⟩), .slice A0 s0.length k0, .slice A1 s1.length k1, .int .i64 (a0 : Nat), .int .i64 (a1 : Nat), .int .i64 c0, .int .i64 c1, .map (some m)] 55 :: row A0 k0 58 st3C s0 :: row A1 k1 58 st3C s1 :: mp m ((l ++ [En.mk id q ck ⟨ws.w, wo.w, 0, 0, s1.length, a1 + 1⟩]).map enM) (ck + 1) :: lnP q ⟨ws.w, wo.w, 0, 0, s1.length, a1 + 1⟩ :: R)) : CallT Try.prog 35 #[.pointer (some ⟨x, 0, none⟩), .int .i64 1, .int .i64 id] (pt x [.pointer (some ⟨i0, 0, none⟩), .pointer (some ⟨i1, 0, none⟩), .slice A0 s0.length k0, .slice A1 s1.length k1, .int .i64 (a0 : Nat), .int .i64 (a1 : Nat), .int .i64 c0, .int .i64 c1, .map (some m)] 55 :: row A0 k0 58 st3C s0 :: row A1 k1 58 st3C s1 :: mp m (l.map enM) ck :: R) K := by
  have hlp : 0 < s1.length := List.length_pos_iff.2 hl1
  refine callT_intro mixed Try.func35 rfl (by decide) (by decide +kernel) (by exact Nat.le_of_ble_eq_true rfl) ?_
  repeat' (first
    | (show evG _ _ _ _ _ _ _; first | refine G_lookup ?_ (hv := hlk))
    | (show evG _ _ _ _ _ _ _; refine G_mapUpdate ?_ (hv := hput _ ⟨ws.w, wo.w, 0, 0, s1.length, a1 + 1⟩))
    | (show evG _ _ _ _ _ _ _; first | refine G_add64 ?_ | refine G_sub64 ?_ | refine G_pure0 ?_ | refine G_load ?_ | refine evG_nil ?_ | refine G_br ?_ ?_ | refine G_field ?_ | refine G_pure ?_ | refine G_store ?_ | refine G_loadV ?_ | refine G_loadV0 ?_ | refine G_loadV2 ?_ | refine G_index ?_ | refine G_indexA ?_ | refine G_build ?_ | refine G_cat ?_ | (refine G_box ?_; intro _) | (refine G_indexV ?_; intro _ _ hA; subst hA))
    | (show spl _ _ _; first | refine spl_no rfl ?_ | refine spl_yes rfl ?_)
    | (show evC _ _ _ _ _; first | refine c_seq ?_ | refine c_region (by exact rfl) ?_ | refine c_cond (by exact rfl) ?_ | refine c_ret ?_ | refine c_skip ?_ | refine c_block ?_ | refine c_exit ?_ | (show evC _ (.region 4 _ true) _ _ _; refine c_drawB (bl := [0, 0, 0, 0, 0, 0, 16, 80, 240, 496, 0, 0, 1024, 5120, 15360, 31744, 65520, 131056, 262128, 0, 0, 524288, 2621440, 7864320, 16252928, 33030144, 1, 67108865, 234881011, 503316467, 4, 1073741828, 4294967295, 8589934591]) (br := [8589934591, 4294967295, 1073741828, 4, 503316467, 234881011, 67108865, 1, 33030144, 16252928, 7864320, 2621440, 524288, 0, 0, 262128, 131056, 65520, 31744, 15360, 5120, 1024, 0, 0, 496, 240, 80, 16, 0, 0, 0, 0, 0, 0]) (l := [(0, 0), (1, 0), (4, 0), (5, 0), (6, 0), (7, 0), (8, 0), (9, 0), (10, 0), (11, 0), (12, 0), (13, 0), (14, 0), (15, 0), (16, 0), (17, 0), (18, 0), (19, 0), (20, 0), (21, 0), (22, 0), (23, 0), (24, 0), (26, 0), (27, 0), (28, 0), (29, 1), (2, 1), (3, 1), (25, 1), (30, 1), (31, 1), (32, 0), (33, 1)]) (by decide +kernel) (by decide +kernel) (by decide +kernel) (by decide +kernel) (by exact rfl) ?_) | (show evC _ (.region 5 _ true) _ _ _; refine c_drawB (bl := [0, 0, 0, 0, 0, 0, 16, 80, 240, 496, 0, 0, 1024, 5120, 15360, 31744, 64512, 130048, 262128, 524272, 1048560, 0, 0, 2097152, 10485760, 31457280, 65011712, 132120576, 1, 268435457, 939524083, 2013265907, 4, 4294967300, 17179869183, 34359738367]) (br := [34359738367, 17179869183, 4294967300, 4, 2013265907, 939524083, 268435457, 1, 132120576, 65011712, 31457280, 10485760, 2097152, 0, 0, 1048560, 524272, 262128, 130048, 64512, 31744, 15360, 5120, 1024, 0, 0, 496, 240, 80, 16, 0, 0, 0, 0, 0, 0]) (l := [(0, 0), (1, 0), (4, 0), (5, 0), (6, 0), (7, 0), (8, 0), (9, 0), (10, 0), (11, 0), (12, 0), (13, 0), (14, 0), (15, 0), (16, 0), (17, 0), (18, 0), (19, 0), (20, 0), (21, 0), (22, 0), (23, 0), (24, 0), (25, 0), (26, 0), (28, 0), (29, 0), (30, 0), (31, 1), (2, 1), (3, 1), (27, 1), (32, 1), (33, 1), (34, 0), (35, 1)]) (by decide +kernel) (by decide +kernel) (by decide +kernel) (by decide +kernel) (by exact rfl) ?_) | refine std ?_)
    | (show Br _ _ _; first | refine Br.t rfl ?_ | refine Br.f rfl ?_ | refine brs ?_ | (first | refine Br.mkN (fun h => ?_) (fun h => ?_) | refine Br.mk (fun h => ?_) (fun h => ?_)) <;> (try (first | contradiction | (exfalso; omega) | (exfalso; simp at h; done))))
    | refine stp ?_)
  all_goals (show retC _ _ _ _ _ _; refine RETC ?_; exact ret_done (hK _))
end Go.Proofs.Ythoagholmkiknaa


namespace Go.Proofs.Ythoagholmkiknaa
open Go Go.Proofs Go.Sl
set_option maxRecDepth 100000
set_option maxHeartbeats 4000000
set_option linter.unusedSimpArgs false
set_option linter.unusedVariables false
attribute [local irreducible] evG evC spl thenC inBlockC noGotoC CallT retC RetG TurnG CutG pt ro exP star sep pureP
attribute [local irreducible] mp mit
variable {R C : List HP} {K : Value → List HP → Prop}
theorem gwithin_ok {n mm : Int} (hK : K (.bool (decide (0 ≤ n) && decide (n ≤ mm))) R) : CallT Try.prog 69 #[.int .i64 n, .int .i64 mm] R K := by
  refine callT_intro mixed Try.func69 rfl (by decide) (by decide +kernel) (by exact Nat.le_of_ble_eq_true rfl) ?_
  repeat' (first
    | (show evG _ _ _ _ _ _ _; first | refine G_pure0 ?_ | refine evG_nil ?_ | refine G_br ?_ ?_ | refine G_pure ?_ | refine G_skip ?_ | refine G_skip0 ?_)
    | (show spl _ _ _; first | refine spl_no rfl ?_ | refine spl_yes rfl ?_)
    | (show evC _ _ _ _ _; first | refine c_seq ?_ | refine c_region (by exact rfl) ?_ | refine c_cond (by exact rfl) ?_ | refine c_ret ?_ | refine c_skip ?_ | refine c_block ?_ | refine c_exit ?_ | refine std ?_)
    | (show Br _ _ _; first | refine Br.t rfl ?_ | refine Br.f rfl ?_ | refine brs ?_ | (first | refine Br.mkN (fun h => ?_) (fun h => ?_) | refine Br.mk (fun h => ?_) (fun h => ?_)) <;> (try (first | contradiction | (exfalso; omega) | (exfalso; simp at h; done))))
    | refine stp ?_)
  all_goals (show retC _ _ _ _ _ _; refine RETC ?_; exact ret_done (kb hK (by simp <;> omega)))
/-- a setting that may be -/
def inW (n : Int) : Bool := decide (0 ≤ n) && decide (n ≤ 2147483647)
theorem gwinW_ok {n : Int} {b : Bool} (hb : inW n = b) (hK : K (.bool b) R) : CallT Try.prog 69 #[.int .i64 n, .int .i64 2147483647] R K := gwithin_ok (by unfold inW at hb; rw [hb]; exact hK)
def ap1 (s : St3) (p : Pr) : St3 := if p.i = 1 then ⟨p.v, s.st, s.it⟩ else if p.i = 2 then ⟨s.w, p.v, s.it⟩ else if p.i = 3 then ⟨s.w, s.st, p.v⟩ else s
def apL : St3 → List Pr → Option St3
  | s, [] => some s
  | s, p :: ps => if 0 ≤ p.v ∧ p.v ≤ 2147483647 then apL (ap1 s p) ps else none
theorem apL_at {s : St3} {ps : List Pr} {j : Nat} {p : Pr} (h : ps[j]? = some p) : apL s (ps.drop j) = if 0 ≤ p.v ∧ p.v ≤ 2147483647 then apL (ap1 s p) (ps.drop (j + 1)) else none := by
  have hj := (List.getElem?_eq_some_iff.1 h).1
  rw [List.drop_eq_getElem_cons hj]
  have := (List.getElem?_eq_some_iff.1 h).2
  rw [this]
  rfl
def apV (o : Option St3) : Value := match o with
  | some s => .tuple #[.agg #[.int .i64 s.w, .int .i64 s.st, .int .i64 s.it], .int .i64 0]
  | none => .tuple #[.agg #[.int .i64 0, .int .i64 0, .int .i64 0], .int .i64 4]
theorem gapply_ok {s : St3} {A : Option Addr} {n c : Nat} {ps : List Pr} (hv : View R A prC ps) (hn : ps.length = n ∧ n < 1000000000000000) (hK : K (apV (apL s ps)) R) : CallT Try.prog 46 #[.agg #[.int .i64 s.w, .int .i64 s.st, .int .i64 s.it], .slice A n c] R K := by
  obtain ⟨hn, hnb⟩ := hn
  subst hn
  refine callT_intro mixed Try.func46 rfl (by decide) (by decide +kernel) (by exact Nat.le_of_ble_eq_true rfl) ?_
  repeat' (first
    | (show evG _ _ _ _ _ _ _; first | refine G_add64 ?_ | refine G_pure0 ?_ | refine G_load ?_ | refine evG_nil ?_ | refine G_br ?_ ?_ | refine G_field ?_ | refine G_pure ?_ | refine G_store ?_ | refine G_loadV ?_ | refine G_loadV0 ?_ | refine G_loadV2 ?_ | refine G_not ?_ | refine G_index ?_ | refine G_indexA ?_ | refine G_build ?_ | refine G_cat ?_ | refine G_eql_agg ?_ | refine G_call ?_ | refine G_call0 ?_ | (refine G_box ?_; intro _) | (refine G_alloc ?_; intro _) | (refine G_indexV ?_; intro _ _ hA; subst hA))
    | (show spl _ _ _; first | refine spl_no rfl ?_ | refine spl_yes rfl ?_)
    | (show evC _ _ _ _ _; first | refine c_seq ?_ | refine c_region (by exact rfl) ?_ | refine c_cond (by exact rfl) ?_ | refine c_ret ?_ | refine c_skip ?_ | refine c_block ?_ | refine c_exit ?_ | refine std ?_)
    | (show Br _ _ _; first | refine Br.t rfl ?_ | refine Br.f rfl ?_ | refine brs ?_ | (first | refine Br.mkN (fun h => ?_) (fun h => ?_) | refine Br.mk (fun h => ?_) (fun h => ?_)) <;> (try (first | contradiction | (exfalso; omega) | (exfalso; simp at h; done))))
    | refine stp ?_)
  rename_i r2 r4
  refine LOOP (fun kk a C' => ∃ (j : Nat) (z : St3), j + kk = ps.length ∧ apL s ps = apL z (ps.drop j) ∧ Agree a [(2, .pointer (some ⟨r2, 0, none⟩)), (4, .pointer (some ⟨r4, 0, none⟩)), (8, .slice A ps.length c), (9, .int .i64 ps.length), (10, .int .i64 j)] ∧ C' = pt r4 [.int .i64 0, .int .i64 0, .int .i64 0] 58 :: pt r2 [.int .i64 z.w, .int .i64 z.st, .int .i64 z.it] 58 :: R) ps.length (turn ps.length ⟨0, s, by omega, rfl, ⟨rfl, rfl, rfl, rfl, rfl, trivial⟩, rfl⟩ (by omega)) ?_
  rintro kk a C' ⟨j, z, hj, hap, ha, rfl⟩
  have hv' : View (pt r4 [.int .i64 0, .int .i64 0, .int .i64 0] 58 :: pt r2 [.int .i64 z.w, .int .i64 z.st, .int .i64 z.it] 58 :: R) A prC ps := view_there (view_there hv)
  refine c_fr _ ha ?_
  simp only [updL]
  by_cases hlt : j < ps.length
  · obtain ⟨p, hp⟩ : ∃ p, ps[j]? = some p := ⟨_, List.getElem?_eq_getElem hlt⟩
    rw [apL_at hp] at hap
    by_cases hw : 0 ≤ p.v ∧ p.v ≤ 2147483647
    · rw [if_pos hw] at hap
      have hwd : inW p.v = true := by unfold inW; simp [hw]
      clear hw
      by_cases h1 : p.i = 1
      · have e : ap1 z p = ⟨p.v, z.st, z.it⟩ := by unfold ap1; rw [if_pos h1]
        rw [e] at hap
        repeat' (first
          | (show evG _ _ _ _ _ _ _; refine G_indexV ?_ (hv := hv') (h0 := Int.natCast_nonneg j) (h1 := Int.ofNat_lt.2 hlt); intro _ _ hA; subst hA)
          | (show evG _ _ _ _ _ _ _; first | refine G_add64 ?_ | refine G_pure0 ?_ | refine G_load ?_ | refine evG_nil ?_ | refine G_br ?_ ?_ | refine G_field ?_ | refine G_pure ?_ | refine G_store ?_ | refine G_loadV ?_ | refine G_loadV0 ?_ | refine G_loadV2 ?_ | refine G_not ?_ | refine G_index ?_ | refine G_indexA ?_ | refine G_build ?_ | refine G_cat ?_ | refine G_eql_agg ?_ | refine G_call ?_ | refine G_call0 ?_ | (refine G_box ?_; intro _) | (refine G_alloc ?_; intro _) | (refine G_indexV ?_; intro _ _ hA; subst hA))
          | (show spl _ _ _; first | refine spl_no rfl ?_ | refine spl_yes rfl ?_)
          | (show evC _ _ _ _ _; first | refine c_seq ?_ | refine c_region (by exact rfl) ?_ | refine c_cond (by exact rfl) ?_ | refine c_ret ?_ | refine c_skip ?_ | refine c_block ?_ | refine c_exit ?_ | refine std ?_)
          | (show Br _ _ _; first | refine Br.t rfl ?_ | refine Br.f rfl ?_ | refine brs ?_ | (first | refine Br.mkN (fun h => ?_) (fun h => ?_) | refine Br.mk (fun h => ?_) (fun h => ?_)) <;> (try (first | contradiction | (exfalso; omega) | (exfalso; simp at h; done))))
          | refine stp ?_
          | (show CallT _ 69 _ _ _; refine CA (h := gwinW_ok hwd ?_)))
        all_goals (show TurnG _ _ _ _; exact turn (kk - 1) ⟨j + 1, _, by omega, hap, ⟨rfl, rfl, rfl, rfl, rfl, trivial⟩, rfl⟩)
      · by_cases h2 : p.i = 2
        · have e : ap1 z p = ⟨z.w, p.v, z.it⟩ := by unfold ap1; rw [if_neg h1, if_pos h2]
          rw [e] at hap
          repeat' (first
            | (show evG _ _ _ _ _ _ _; refine G_indexV ?_ (hv := hv') (h0 := Int.natCast_nonneg j) (h1 := Int.ofNat_lt.2 hlt); intro _ _ hA; subst hA)
            | (show evG _ _ _ _ _ _ _; first | refine G_add64 ?_ | refine G_pure0 ?_ | refine G_load ?_ | refine evG_nil ?_ | refine G_br ?_ ?_ | refine G_field ?_ | refine G_pure ?_ | refine G_store ?_ | refine G_loadV ?_ | refine G_loadV0 ?_ | refine G_loadV2 ?_ | refine G_not ?_ | refine G_index ?_ | refine G_indexA ?_ | refine G_build ?_ | refine G_cat ?_ | refine G_eql_agg ?_ | refine G_call ?_ | refine G_call0 ?_ | (refine G_box ?_; intro _) | (refine G_alloc ?_; intro _) | (refine G_indexV ?_; intro _ _ hA; subst hA))
            | (show spl _ _ _; first | refine spl_no rfl ?_ | refine spl_yes rfl ?_)
            | (show evC _ _ _ _ _; first | refine c_seq ?_ | refine c_region (by exact rfl) ?_ | refine c_cond (by exact rfl) ?_ | refine c_ret ?_ | refine c_skip ?_ | refine c_block ?_ | refine c_exit ?_ | refine std ?_)
            | (show Br _ _ _; first | refine Br.t rfl ?_ | refine Br.f rfl ?_ | refine brs ?_ | (first | refine Br.mkN (fun h => ?_) (fun h => ?_) | refine Br.mk (fun h => ?_) (fun h => ?_)) <;> (try (first | contradiction | (exfalso; omega) | (exfalso; simp at h; done))))
            | refine stp ?_
            | (show CallT _ 69 _ _ _; refine CA (h := gwinW_ok hwd ?_)))
          all_goals (show TurnG _ _ _ _; exact turn (kk - 1) ⟨j + 1, _, by omega, hap, ⟨rfl, rfl, rfl, rfl, rfl, trivial⟩, rfl⟩)
        · by_cases h3 : p.i = 3
          · have e : ap1 z p = ⟨z.w, z.st, p.v⟩ := by unfold ap1; rw [if_neg h1, if_neg h2, if_pos h3]
            rw [e] at hap
            repeat' (first
              | (show evG _ _ _ _ _ _ _; refine G_indexV ?_ (hv := hv') (h0 := Int.natCast_nonneg j) (h1 := Int.ofNat_lt.2 hlt); intro _ _ hA; subst hA)
              | (show evG _ _ _ _ _ _ _; first | refine G_add64 ?_ | refine G_pure0 ?_ | refine G_load ?_ | refine evG_nil ?_ | refine G_br ?_ ?_ | refine G_field ?_ | refine G_pure ?_ | refine G_store ?_ | refine G_loadV ?_ | refine G_loadV0 ?_ | refine G_loadV2 ?_ | refine G_not ?_ | refine G_index ?_ | refine G_indexA ?_ | refine G_build ?_ | refine G_cat ?_ | refine G_eql_agg ?_ | refine G_call ?_ | refine G_call0 ?_ | (refine G_box ?_; intro _) | (refine G_alloc ?_; intro _) | (refine G_indexV ?_; intro _ _ hA; subst hA))
              | (show spl _ _ _; first | refine spl_no rfl ?_ | refine spl_yes rfl ?_)
              | (show evC _ _ _ _ _; first | refine c_seq ?_ | refine c_region (by exact rfl) ?_ | refine c_cond (by exact rfl) ?_ | refine c_ret ?_ | refine c_skip ?_ | refine c_block ?_ | refine c_exit ?_ | refine std ?_)
              | (show Br _ _ _; first | refine Br.t rfl ?_ | refine Br.f rfl ?_ | refine brs ?_ | (first | refine Br.mkN (fun h => ?_) (fun h => ?_) | refine Br.mk (fun h => ?_) (fun h => ?_)) <;> (try (first | contradiction | (exfalso; omega) | (exfalso; simp at h; done))))
              | refine stp ?_
              | (show CallT _ 69 _ _ _; refine CA (h := gwinW_ok hwd ?_)))
            all_goals (show TurnG _ _ _ _; exact turn (kk - 1) ⟨j + 1, _, by omega, hap, ⟨rfl, rfl, rfl, rfl, rfl, trivial⟩, rfl⟩)
          · have e : ap1 z p = z := by unfold ap1; rw [if_neg h1, if_neg h2, if_neg h3]
            rw [e] at hap
            repeat' (first
              | (show evG _ _ _ _ _ _ _; refine G_indexV ?_ (hv := hv') (h0 := Int.natCast_nonneg j) (h1 := Int.ofNat_lt.2 hlt); intro _ _ hA; subst hA)
              | (show evG _ _ _ _ _ _ _; first | refine G_add64 ?_ | refine G_pure0 ?_ | refine G_load ?_ | refine evG_nil ?_ | refine G_br ?_ ?_ | refine G_field ?_ | refine G_pure ?_ | refine G_store ?_ | refine G_loadV ?_ | refine G_loadV0 ?_ | refine G_loadV2 ?_ | refine G_not ?_ | refine G_index ?_ | refine G_indexA ?_ | refine G_build ?_ | refine G_cat ?_ | refine G_eql_agg ?_ | refine G_call ?_ | refine G_call0 ?_ | (refine G_box ?_; intro _) | (refine G_alloc ?_; intro _) | (refine G_indexV ?_; intro _ _ hA; subst hA))
              | (show spl _ _ _; first | refine spl_no rfl ?_ | refine spl_yes rfl ?_)
              | (show evC _ _ _ _ _; first | refine c_seq ?_ | refine c_region (by exact rfl) ?_ | refine c_cond (by exact rfl) ?_ | refine c_ret ?_ | refine c_skip ?_ | refine c_block ?_ | refine c_exit ?_ | refine std ?_)
              | (show Br _ _ _; first | refine Br.t rfl ?_ | refine Br.f rfl ?_ | refine brs ?_ | (first | refine Br.mkN (fun h => ?_) (fun h => ?_) | refine Br.mk (fun h => ?_) (fun h => ?_)) <;> (try (first | contradiction | (exfalso; omega) | (exfalso; simp at h; done))))
              | refine stp ?_
              | (show CallT _ 69 _ _ _; refine CA (h := gwinW_ok hwd ?_)))
            all_goals (show TurnG _ _ _ _; exact turn (kk - 1) ⟨j + 1, _, by omega, hap, ⟨rfl, rfl, rfl, rfl, rfl, trivial⟩, rfl⟩)
    · rw [if_neg hw] at hap
      rw [hap] at hK
      have hwd : inW p.v = false := by
        unfold inW
        rw [Bool.and_eq_false_iff]; simp only [decide_eq_false_iff_not]; omega
      clear hw
      repeat' (first
        | (show evG _ _ _ _ _ _ _; refine G_indexV ?_ (hv := hv') (h0 := Int.natCast_nonneg j) (h1 := Int.ofNat_lt.2 hlt); intro _ _ hA; subst hA)
        | (show evG _ _ _ _ _ _ _; first | refine G_add64 ?_ | refine G_pure0 ?_ | refine G_load ?_ | refine evG_nil ?_ | refine G_br ?_ ?_ | refine G_field ?_ | refine G_pure ?_ | refine G_store ?_ | refine G_loadV ?_ | refine G_loadV0 ?_ | refine G_loadV2 ?_ | refine G_not ?_ | refine G_index ?_ | refine G_indexA ?_ | refine G_build ?_ | refine G_cat ?_ | refine G_eql_agg ?_ | refine G_call ?_ | refine G_call0 ?_ | (refine G_box ?_; intro _) | (refine G_alloc ?_; intro _) | (refine G_indexV ?_; intro _ _ hA; subst hA))
        | (show spl _ _ _; first | refine spl_no rfl ?_ | refine spl_yes rfl ?_)
        | (show evC _ _ _ _ _; first | refine c_seq ?_ | refine c_region (by exact rfl) ?_ | refine c_cond (by exact rfl) ?_ | refine c_ret ?_ | refine c_skip ?_ | refine c_block ?_ | refine c_exit ?_ | refine std ?_)
        | (show Br _ _ _; first | refine Br.t rfl ?_ | refine Br.f rfl ?_ | refine brs ?_ | (first | refine Br.mkN (fun h => ?_) (fun h => ?_) | refine Br.mk (fun h => ?_) (fun h => ?_)) <;> (try (first | contradiction | (exfalso; omega) | (exfalso; simp at h; done))))
        | refine stp ?_
        | (show CallT _ 69 _ _ _; refine CA (h := gwinW_ok hwd ?_)))
      all_goals (show retC _ _ _ _ _ _; refine RETC ?_; exact ret_done (hK))
  · have hjl : j = ps.length := by omega
    rw [List.drop_eq_nil_of_le (by omega)] at hap
    rw [hap] at hK
    repeat' (first
      | (show evG _ _ _ _ _ _ _; first | refine G_add64 ?_ | refine G_pure0 ?_ | refine G_load ?_ | refine evG_nil ?_ | refine G_br ?_ ?_ | refine G_field ?_ | refine G_pure ?_ | refine G_store ?_ | refine G_loadV ?_ | refine G_loadV0 ?_ | refine G_loadV2 ?_ | refine G_not ?_ | refine G_index ?_ | refine G_indexA ?_ | refine G_build ?_ | refine G_cat ?_ | refine G_eql_agg ?_ | refine G_call ?_ | refine G_call0 ?_ | (refine G_box ?_; intro _) | (refine G_alloc ?_; intro _) | (refine G_indexV ?_; intro _ _ hA; subst hA))
      | (show spl _ _ _; first | refine spl_no rfl ?_ | refine spl_yes rfl ?_)
      | (show evC _ _ _ _ _; first | refine c_seq ?_ | refine c_region (by exact rfl) ?_ | refine c_cond (by exact rfl) ?_ | refine c_ret ?_ | refine c_skip ?_ | refine c_block ?_ | refine c_exit ?_ | refine std ?_)
      | (show Br _ _ _; first | refine Br.t rfl ?_ | refine Br.f rfl ?_ | refine brs ?_ | (first | refine Br.mkN (fun h => ?_) (fun h => ?_) | refine Br.mk (fun h => ?_) (fun h => ?_)) <;> (try (first | contradiction | (exfalso; omega) | (exfalso; simp at h; done))))
      | refine stp ?_)
    all_goals (show retC _ _ _ _ _ _; refine RETC ?_; exact ret_done (hK))
variable {x i0 i1 m ck k0 k1 a0 a1 : Nat} {A0 A1 : Option Addr} {s0 s1 : List St3} {c0 c1 : Int} {l : List En} {id : Int}
/-- settings with others, or as they were -/
def apS (s : St3) (ps : List Pr) : St3 := (apL s ps).getD s
set_option maxHeartbeats 40000000 in
theorem gset1_ok {tf stf : Int} {ef : Bool} {df : ByteArray} {kf onf wf : Int} {xf : Bool} {cf laf nf : Int} {paf : Option Addr} {pnf pcf : Nat} {ws : St3} {ps : List Pr} (hl0 : s1.length ≤ 1000000) (hl1 : s1 ≠ []) (hws : s1[(((s1.length : Nat) : Int) - 1).toNat]? = some ws) (hv : View R paf prC ps) (hn : ps.length = pnf ∧ pnf < 1000000000000000) (hK : ∀ A' k', K (.tuple #[]) (pt x [.pointer (some ⟨i0, 0, none⟩), .pointer (some ⟨i1, 0, none⟩), .slice A0 s0.length k0, .slice A' (s1 ++ [apS ws ps]).length k', .int .i64 (a0 : Nat), .int .i64 (a1 : Nat), .int .i64 c0, .int .i64 c1, .map (some m)] 55 :: row A' k' 58 st3C (s1 ++ [apS ws ps]) :: R)) : CallT Try.prog 36 #[.pointer (some ⟨x, 0, none⟩), .int .i64 1, .agg #[.int .i64 tf, .int .i64 stf, .bool ef, .string df, .int .i64 kf, .int .i64 onf, .int .i64 wf, .bool xf, .int .i64 cf, .int .i64 laf, .int .i64 nf, .slice paf pnf pcf]] (pt x [.pointer (some ⟨i0, 0, none⟩), .pointer (some ⟨i1, 0, none⟩), .slice A0 s0.length k0, .slice A1 s1.length k1, .int .i64 (a0 : Nat), .int .i64 (a1 : Nat), .int .i64 c0, .int .i64 c1, .map (some m)] 55 :: row A1 k1 58 st3C s1 :: R) K := by
  have hlp : 0 < s1.length := List.length_pos_iff.2 hl1
  cases hap : apL ws ps with
  | none =>
    have e : apS ws ps = ws := by unfold apS; rw [hap]; rfl
    rw [e] at hK
    refine callT_intro mixed Try.func36 rfl (by decide) (by decide +kernel) (by exact Nat.le_of_ble_eq_true rfl) ?_
    repeat' (first
      | (show evG _ _ _ _ _ _ _; first | refine G_sub64 ?_ | refine G_pure0 ?_ | refine G_load ?_ | refine evG_nil ?_ | refine G_br ?_ ?_ | refine G_field ?_ | refine G_pure ?_ | refine G_store ?_ | refine G_loadV ?_ | refine G_loadV0 ?_ | refine G_loadV2 ?_ | (refine G_append ?_; intro _ _) | (refine G_appendN ?_; intro _ _) | refine G_index ?_ | refine G_indexA ?_ | refine G_eql_agg ?_ | refine G_call ?_ | refine G_call0 ?_ | (refine G_box ?_; intro _) | (refine G_alloc ?_; intro _) | (refine G_buildSlice ?_; intro _) | (refine G_indexV ?_; intro _ _ hA; subst hA))
      | (show spl _ _ _; first | refine spl_no rfl ?_ | refine spl_yes rfl ?_)
      | (show evC _ _ _ _ _; first | refine c_seq ?_ | refine c_region (by exact rfl) ?_ | refine c_cond (by exact rfl) ?_ | refine c_ret ?_ | refine c_skip ?_ | refine c_block ?_ | refine c_exit ?_ | (show evC _ (.region 1 _ true) _ _ _; refine c_draw (l := [(16, 1), (0, 1), (1, 1), (2, 1), (3, 1), (4, 1), (5, 1), (6, 1), (7, 1), (8, 1), (9, 1), (10, 1), (11, 1), (12, 1), (13, 1), (14, 1), (15, 1), (17, 1)]) (by decide +kernel) (by decide +kernel) (by exact rfl) ?_) | (show evC _ (.region 5 _ true) _ _ _; refine c_draw (l := [(8, 0), (9, 1), (2, 1), (3, 1), (4, 1), (5, 1), (6, 1), (7, 1), (10, 1), (0, 2), (1, 2), (11, 2), (12, 2), (13, 0), (14, 1)]) (by decide +kernel) (by decide +kernel) (by exact rfl) ?_) | refine std ?_)
      | (show Br _ _ _; first | refine Br.t rfl ?_ | refine Br.f rfl ?_ | refine brs ?_ | (first | refine Br.mkN (fun h => ?_) (fun h => ?_) | refine Br.mk (fun h => ?_) (fun h => ?_)) <;> (try (first | contradiction | (exfalso; omega) | (exfalso; simp at h; done))))
      | refine stp ?_
      | (show CallT _ 46 _ _ _; refine CA (h := gapply_ok (s := ws) (ps := ps) (by exact viewA) hn ?_); rw [hap])
      | (show evG _ _ _ _ _ _ _; first | (refine G_append (E := st3C) (ys := [ws]) ?_; intro _ _) | (refine G_appendU (E := st3C) (ys := [ws]) ?_; intro _ _)))
    all_goals (show retC _ _ _ _ _ _; refine RETC ?_; exact ret_done (hK _ _))
  | some z =>
    have e : apS ws ps = z := by unfold apS; rw [hap]; rfl
    rw [e] at hK
    refine callT_intro mixed Try.func36 rfl (by decide) (by decide +kernel) (by exact Nat.le_of_ble_eq_true rfl) ?_
    repeat' (first
      | (show evG _ _ _ _ _ _ _; first | refine G_sub64 ?_ | refine G_pure0 ?_ | refine G_load ?_ | refine evG_nil ?_ | refine G_br ?_ ?_ | refine G_field ?_ | refine G_pure ?_ | refine G_store ?_ | refine G_loadV ?_ | refine G_loadV0 ?_ | refine G_loadV2 ?_ | (refine G_append ?_; intro _ _) | (refine G_appendN ?_; intro _ _) | refine G_index ?_ | refine G_indexA ?_ | refine G_eql_agg ?_ | refine G_call ?_ | refine G_call0 ?_ | (refine G_box ?_; intro _) | (refine G_alloc ?_; intro _) | (refine G_buildSlice ?_; intro _) | (refine G_indexV ?_; intro _ _ hA; subst hA))
      | (show spl _ _ _; first | refine spl_no rfl ?_ | refine spl_yes rfl ?_)
      | (show evC _ _ _ _ _; first | refine c_seq ?_ | refine c_region (by exact rfl) ?_ | refine c_cond (by exact rfl) ?_ | refine c_ret ?_ | refine c_skip ?_ | refine c_block ?_ | refine c_exit ?_ | (show evC _ (.region 1 _ true) _ _ _; refine c_draw (l := [(16, 1), (0, 1), (1, 1), (2, 1), (3, 1), (4, 1), (5, 1), (6, 1), (7, 1), (8, 1), (9, 1), (10, 1), (11, 1), (12, 1), (13, 1), (14, 1), (15, 1), (17, 1)]) (by decide +kernel) (by decide +kernel) (by exact rfl) ?_) | (show evC _ (.region 5 _ true) _ _ _; refine c_draw (l := [(8, 0), (9, 1), (2, 1), (3, 1), (4, 1), (5, 1), (6, 1), (7, 1), (10, 1), (0, 2), (1, 2), (11, 2), (12, 2), (13, 0), (14, 1)]) (by decide +kernel) (by decide +kernel) (by exact rfl) ?_) | refine std ?_)
      | (show Br _ _ _; first | refine Br.t rfl ?_ | refine Br.f rfl ?_ | refine brs ?_ | (first | refine Br.mkN (fun h => ?_) (fun h => ?_) | refine Br.mk (fun h => ?_) (fun h => ?_)) <;> (try (first | contradiction | (exfalso; omega) | (exfalso; simp at h; done))))
      | refine stp ?_
      | (show CallT _ 46 _ _ _; refine CA (h := gapply_ok (s := ws) (ps := ps) (by exact viewA) hn ?_); rw [hap])
      | (show evG _ _ _ _ _ _ _; first | (refine G_append (E := st3C) (ys := [z]) ?_; intro _ _) | (refine G_appendU (E := st3C) (ys := [z]) ?_; intro _ _)))
    all_goals (show retC _ _ _ _ _ _; refine RETC ?_; exact ret_done (hK _ _))
end Go.Proofs.Ythoagholmkiknaa


namespace Go.Proofs.Ythoagholmkiknaa
open Go Go.Proofs Go.Sl
set_option maxRecDepth 100000
set_option maxHeartbeats 4000000
set_option linter.unusedSimpArgs false
set_option linter.unusedVariables false
attribute [local irreducible] evG evC spl thenC inBlockC noGotoC CallT retC RetG TurnG CutG pt ro exP star sep pureP
attribute [local irreducible] mp mit
variable {R C : List HP} {K : Value → List HP → Prop}
/-- what one knows of the entries: no two of one birth, all born before ck -/
def EnOk (l : List En) (ck : Nat) : Prop := (l.map En.b).Nodup ∧ ∀ e ∈ l, e.b < ck
def curP (up : Ln → Ln) (seen : List Nat) (e : En) : HP := lnP e.q (if e.b ∈ seen then up e.y else e.y)
theorem cur_start {up : Ln → Ln} {l : List En} : Ent (stars enP l :: C) (stars (curP up []) l :: C) := by
  have := Ent.starsMap (C := C) (P := enP) (Q := curP up []) (f := id) (l := l) (fun e _ => by simp [curP, enP])
  simpa using this
theorem cur_end {up : Ln → Ln} {seen : List Nat} {l : List En} (h : ∀ e ∈ l, e.b ∈ seen) : Ent (stars (curP up seen) l :: C) (stars enP (l.map fun e => ⟨e.k, e.q, e.b, up e.y⟩) :: C) :=
  Ent.starsMap (fun e he => by simp [curP, enP, h e he])
theorem nodup_mid {a c : List En} {e : En} (h : ((a ++ e :: c).map En.b).Nodup) : ∀ z ∈ a ++ c, z.b ≠ e.b := fun z hz => by
  rw [List.map_append, List.map_cons] at h
  have h1 := (List.perm_middle.nodup_iff).1 h
  have := (List.nodup_cons.1 h1).1
  intro hq
  apply this
  rw [← hq, ← List.map_append]
  exact List.mem_map_of_mem hz
theorem cur_out {up : Ln → Ln} {seen : List Nat} {a c : List En} {e : En} (h : e.b ∉ seen) : Ent (stars (curP up seen) (a ++ e :: c) :: C) (lnP e.q e.y :: stars (curP up seen) (a ++ c) :: C) := by
  have := Ent.starsOut (P := curP up seen) (C := C) (a := a) (b := c) (x := e)
  have e1 : curP up seen e = lnP e.q e.y := by unfold curP; rw [if_neg h]
  rw [e1] at this
  exact this
theorem cur_in {up : Ln → Ln} {seen : List Nat} {a c : List En} {e : En} {z : Ln} (h : ((a ++ e :: c).map En.b).Nodup) (hz : up e.y = z) : Ent (lnP e.q z :: stars (curP up seen) (a ++ c) :: C) (stars (curP up (seen ++ [e.b])) (a ++ e :: c) :: C) := by
  have h1 : Ent (stars (curP up seen) (a ++ c) :: C) (stars (curP up (seen ++ [e.b])) (a ++ c) :: C) := by
    have := Ent.starsMap (C := C) (P := curP up seen) (Q := curP up (seen ++ [e.b])) (f := id) (l := a ++ c) (fun z hz => by
      have := nodup_mid h z hz
      simp [curP, this])
    simpa using this
  have e1 : lnP e.q z = curP up (seen ++ [e.b]) e := by unfold curP; rw [if_pos (by simp), hz]
  rw [e1]
  exact Ent.trans (Ent.cons h1) Ent.starsIn
/-- how many are left -/
def leftN (l : List En) (seen : List Nat) : Nat := (l.filter fun e => !decide (e.b ∈ seen)).length
theorem left_step {l : List En} {seen : List Nat} {e : En} (he : e ∈ l) (hs : e.b ∉ seen) : leftN l (seen ++ [e.b]) < leftN l seen := by
  unfold leftN
  have h1 : (l.filter fun z => !decide (z.b ∈ seen ++ [e.b])) = (l.filter fun z => !decide (z.b ∈ seen)).filter fun z => !decide (z.b = e.b) := by
    rw [List.filter_filter]
    congr 1
    funext z
    simp [Bool.and_comm, not_or]
  rw [h1]
  have h2 : e ∈ l.filter fun z => !decide (z.b ∈ seen) := List.mem_filter.2 ⟨he, by simpa using hs⟩
  exact List.length_filter_lt_length_iff_exists.2 ⟨e, h2, by simp⟩
theorem find_b {l : List En} {e : En} (h : (l.map En.b).Nodup) (he : e ∈ l) : (l.map enM).find? (fun z => z.b == e.b) = some (enM e) := by
  induction l with
  | nil => cases he
  | cons z l ih =>
    rw [List.map_cons] at h
    obtain ⟨h1, h2⟩ := List.nodup_cons.1 h
    rcases List.mem_cons.1 he with rfl | he
    · simp [enM]
    · have : z.b ≠ e.b := fun q => h1 (by rw [q]; exact List.mem_map_of_mem he)
      rw [List.map_cons, List.find?_cons_of_neg (by simpa [enM] using this)]
      exact ih h2 he
variable {x i0 i1 m ck k0 k1 a0 a1 : Nat} {A0 A1 : Option Addr} {s0 s1 : List St3} {c0 c1 : Int} {l : List En} {id : Int}
def ackU0 (n : Nat) (d : Int) (y : Ln) : Ln := if y.f0 ≤ n then ⟨y.b0 + d, y.b1, y.i0, y.i1, y.f0, y.f1⟩ else y
def ackU1 (n : Nat) (d : Int) (y : Ln) : Ln := if y.f1 ≤ n then ⟨y.b0, y.b1 + d, y.i0, y.i1, y.f0, y.f1⟩ else y
theorem gackN1_ok (hl0 : s0.length ≤ a1 + 1) (hb : a1 ≤ 1000000) (hK : K (.tuple #[]) (pt x [.pointer (some ⟨i0, 0, none⟩), .pointer (some ⟨i1, 0, none⟩), .slice A0 s0.length k0, .slice A1 s1.length k1, .int .i64 (a0 : Nat), .int .i64 (a1 : Nat), .int .i64 c0, .int .i64 c1, .map (some m)] 55 :: R)) : CallT Try.prog 37 #[.pointer (some ⟨x, 0, none⟩), .int .i64 1] (pt x [.pointer (some ⟨i0, 0, none⟩), .pointer (some ⟨i1, 0, none⟩), .slice A0 s0.length k0, .slice A1 s1.length k1, .int .i64 (a0 : Nat), .int .i64 (a1 : Nat), .int .i64 c0, .int .i64 c1, .map (some m)] 55 :: R) K := by
  refine callT_intro mixed Try.func37 rfl (by decide) (by decide +kernel) (by exact Nat.le_of_ble_eq_true rfl) ?_
  repeat' (first
    | (show evG _ _ _ _ _ _ _; first | refine G_add64 ?_ | refine G_sub64 ?_ | refine G_pure0 ?_ | refine G_load ?_ | refine evG_nil ?_ | refine G_br ?_ ?_ | refine G_field ?_ | refine G_pure ?_ | refine G_store ?_ | refine G_loadV ?_ | refine G_loadV0 ?_ | refine G_loadV2 ?_ | refine G_index ?_ | refine G_indexA ?_ | refine G_cat ?_ | (refine G_indexV ?_; intro _ _ hA; subst hA))
    | (show spl _ _ _; first | refine spl_no rfl ?_ | refine spl_yes rfl ?_)
    | (show evC _ _ _ _ _; first | refine c_seq ?_ | refine c_region (by exact rfl) ?_ | refine c_cond (by exact rfl) ?_ | refine c_ret ?_ | refine c_skip ?_ | refine c_block ?_ | refine c_exit ?_ | (show evC _ (.region 8 _ true) _ _ _; refine c_drawB (bl := [0, 0, 1, 5, 15, 31, 0, 0, 192, 448, 960, 0, 0, 4096, 14336, 30720, 63488, 131008, 262143, 1, 524289, 2097151, 4194303]) (br := [4194303, 2097151, 524289, 1, 262143, 131008, 63488, 30720, 14336, 4096, 0, 0, 960, 448, 192, 0, 0, 31, 15, 5, 1, 0, 0]) (l := [(0, 0), (1, 0), (2, 0), (3, 0), (4, 0), (5, 0), (6, 0), (7, 0), (8, 0), (9, 0), (10, 0), (11, 0), (12, 0), (13, 0), (14, 0), (15, 0), (16, 0), (17, 0), (18, 0), (19, 0), (20, 0), (21, 0), (22, 1)]) (by decide +kernel) (by decide +kernel) (by decide +kernel) (by decide +kernel) (by exact rfl) ?_) | refine std ?_)
    | (show Br _ _ _; first | refine Br.t rfl ?_ | refine Br.f rfl ?_ | refine brs ?_ | (first | refine Br.mkN (fun h => ?_) (fun h => ?_) | refine Br.mk (fun h => ?_) (fun h => ?_)) <;> (try (first | contradiction | (exfalso; omega) | (exfalso; simp at h; done))))
    | refine stp ?_)
  all_goals (show retC _ _ _ _ _ _; refine RETC ?_; exact ret_done (hK))
set_option maxHeartbeats 40000000 in
theorem gackY1_ok {w1 w0 : St3} {B : Int} (hl0 : a1 + 1 < s0.length) (hl1 : s0.length ≤ 1000000) (hok : EnOk l ck) (hw1 : s0[(((a1 + 1 : Nat) : Int)).toNat]? = some w1) (hw0 : s0[((((a1 + 1 : Nat) : Int)) - 1).toNat]? = some w0) (hr : 0 ≤ w1.w ∧ w1.w ≤ 2147483647 ∧ 0 ≤ w0.w ∧ w0.w ≤ 2147483647) (hB : B ≤ 1000000000000000) (hbd : ∀ e ∈ l, -B ≤ e.y.b1 ∧ e.y.b1 ≤ B)
    (hK : K (.tuple #[]) (pt x [.pointer (some ⟨i0, 0, none⟩), .pointer (some ⟨i1, 0, none⟩), .slice A0 s0.length k0, .slice A1 s1.length k1, .int .i64 (a0 : Nat), .int .i64 ((a1 + 1) : Nat), .int .i64 c0, .int .i64 c1, .map (some m)] 55 :: row A0 k0 58 st3C s0 :: mp m (l.map enM) ck :: stars enP (l.map fun e => ⟨e.k, e.q, e.b, ackU1 (a1 + 1) (w1.w - w0.w) e.y⟩) :: R)) : CallT Try.prog 37 #[.pointer (some ⟨x, 0, none⟩), .int .i64 1] (pt x [.pointer (some ⟨i0, 0, none⟩), .pointer (some ⟨i1, 0, none⟩), .slice A0 s0.length k0, .slice A1 s1.length k1, .int .i64 (a0 : Nat), .int .i64 (a1 : Nat), .int .i64 c0, .int .i64 c1, .map (some m)] 55 :: row A0 k0 58 st3C s0 :: mp m (l.map enM) ck :: stars enP l :: R) K := by
  obtain ⟨hnd, hck⟩ := hok
  refine callT_intro mixed Try.func37 rfl (by decide) (by decide +kernel) (by exact Nat.le_of_ble_eq_true rfl) ?_
  repeat' (first
    | (show evG _ _ _ _ _ _ _; refine G_range ?_; intro _)
    | (show evG _ _ _ _ _ _ _; first | refine G_add64 ?_ | refine G_sub64 ?_ | refine G_pure0 ?_ | refine G_load ?_ | refine evG_nil ?_ | refine G_br ?_ ?_ | refine G_field ?_ | refine G_pure ?_ | refine G_store ?_ | refine G_loadV ?_ | refine G_loadV0 ?_ | refine G_loadV2 ?_ | refine G_index ?_ | refine G_indexA ?_ | refine G_cat ?_ | (refine G_indexV ?_; intro _ _ hA; subst hA))
    | (show spl _ _ _; first | refine spl_no rfl ?_ | refine spl_yes rfl ?_)
    | (show evC _ _ _ _ _; first | refine c_seq ?_ | refine c_region (by exact rfl) ?_ | refine c_cond (by exact rfl) ?_ | refine c_ret ?_ | refine c_skip ?_ | refine c_block ?_ | refine c_exit ?_ | (show evC _ (.region 8 _ true) _ _ _; refine c_drawB (bl := [0, 0, 1, 5, 15, 31, 0, 0, 192, 448, 960, 0, 0, 4096, 14336, 30720, 63488, 131008, 262143, 1, 524289, 2097151, 4194303]) (br := [4194303, 2097151, 524289, 1, 262143, 131008, 63488, 30720, 14336, 4096, 0, 0, 960, 448, 192, 0, 0, 31, 15, 5, 1, 0, 0]) (l := [(0, 0), (1, 0), (2, 0), (3, 0), (4, 0), (5, 0), (6, 0), (7, 0), (8, 0), (9, 0), (10, 0), (11, 0), (12, 0), (13, 0), (14, 0), (15, 0), (16, 0), (17, 0), (18, 0), (19, 0), (20, 0), (21, 0), (22, 1)]) (by decide +kernel) (by decide +kernel) (by decide +kernel) (by decide +kernel) (by exact rfl) ?_) | refine std ?_)
    | (show Br _ _ _; first | refine Br.t rfl ?_ | refine Br.f rfl ?_ | refine brs ?_ | (first | refine Br.mkN (fun h => ?_) (fun h => ?_) | refine Br.mk (fun h => ?_) (fun h => ?_)) <;> (try (first | contradiction | (exfalso; omega) | (exfalso; simp at h; done))))
    | refine stp ?_)
  rename_i it
  refine evC_ent (Ent.trans (Ent.pickA (A := stars enP l) (h := Ent.refl _)) (cur_start (up := ackU1 (a1 + 1) (w1.w - w0.w)))) ?_
  refine LOOP (fun kk a C' => ∃ seen : List Nat, leftN l seen ≤ kk ∧ Agree a [(0, .pointer (some ⟨x, 0, none⟩)), (1, .int .i64 1), (4, .slice A0 s0.length k0), (5, .int .i64 (a1 + 1 : Nat)), (36, .pointer (some ⟨it, 0, none⟩))] ∧ C' = mit it m ck seen ck :: pt x [.pointer (some ⟨i0, 0, none⟩), .pointer (some ⟨i1, 0, none⟩), .slice A0 s0.length k0, .slice A1 s1.length k1, .int .i64 (a0 : Nat), .int .i64 ((a1 + 1) : Nat), .int .i64 c0, .int .i64 c1, .map (some m)] 55 :: row A0 k0 58 st3C s0 :: mp m (l.map enM) ck :: stars (curP (ackU1 (a1 + 1) (w1.w - w0.w)) seen) l :: R) (leftN l []) (turn (leftN l []) ⟨[], Nat.le_refl _, ⟨rfl, rfl, rfl, rfl, rfl, trivial⟩, rfl⟩ (by omega)) ?_
  rintro kk a C' ⟨seen, hk, ha, rfl⟩
  refine c_fr _ ha ?_
  simp only [updL]
  repeat' (first
    | (show evG _ _ _ _ _ _ _; first | refine G_add64 ?_ | refine G_sub64 ?_ | refine G_pure0 ?_ | refine G_load ?_ | refine evG_nil ?_ | refine G_br ?_ ?_ | refine G_field ?_ | refine G_pure ?_ | refine G_store ?_ | refine G_loadV ?_ | refine G_loadV0 ?_ | refine G_loadV2 ?_ | refine G_index ?_ | refine G_indexA ?_ | refine G_cat ?_ | (refine G_indexV ?_; intro _ _ hA; subst hA))
    | (show spl _ _ _; first | refine spl_no rfl ?_ | refine spl_yes rfl ?_)
    | (show evC _ _ _ _ _; first | refine c_seq ?_ | refine c_region (by exact rfl) ?_ | refine c_cond (by exact rfl) ?_ | refine c_ret ?_ | refine c_skip ?_ | refine c_block ?_ | refine c_exit ?_ | (show evC _ (.region 8 _ true) _ _ _; refine c_drawB (bl := [0, 0, 1, 5, 15, 31, 0, 0, 192, 448, 960, 0, 0, 4096, 14336, 30720, 63488, 131008, 262143, 1, 524289, 2097151, 4194303]) (br := [4194303, 2097151, 524289, 1, 262143, 131008, 63488, 30720, 14336, 4096, 0, 0, 960, 448, 192, 0, 0, 31, 15, 5, 1, 0, 0]) (l := [(0, 0), (1, 0), (2, 0), (3, 0), (4, 0), (5, 0), (6, 0), (7, 0), (8, 0), (9, 0), (10, 0), (11, 0), (12, 0), (13, 0), (14, 0), (15, 0), (16, 0), (17, 0), (18, 0), (19, 0), (20, 0), (21, 0), (22, 1)]) (by decide +kernel) (by decide +kernel) (by decide +kernel) (by decide +kernel) (by exact rfl) ?_) | refine std ?_)
    | (show Br _ _ _; first | refine Br.t rfl ?_ | refine Br.f rfl ?_ | refine brs ?_ | (first | refine Br.mkN (fun h => ?_) (fun h => ?_) | refine Br.mk (fun h => ?_) (fun h => ?_)) <;> (try (first | contradiction | (exfalso; omega) | (exfalso; simp at h; done))))
    | refine stp ?_)
  refine G_next (fun e he hn => ?_) (fun hs => ?_) rfl (by exact Pick.here) ⟨_, by ((repeat (first | exact Pick.here | apply Pick.there)) <;> exact Pick.here)⟩ (fun e he => by obtain ⟨z, hz, rfl⟩ := List.mem_map.1 he; exact hck z hz) (by
    cases l with
    | nil => exact .inr (.inl rfl)
    | cons z l => exact .inr (.inr ⟨enM z, List.mem_cons_self .., hck z (List.mem_cons_self ..)⟩)) (by exact rfl)
  · obtain ⟨e0, he0, rfl⟩ := List.mem_map.1 he
    obtain ⟨la, lc, rfl⟩ := List.append_of_mem he0
    have hfb := find_b hnd he0
    have hlt := left_step he0 hn
    have hbe := hbd e0 he0
    refine spl_no rfl ?_
    refine evG_ent (Ent.trans (Ent.pickA (A := stars (curP (ackU1 (a1 + 1) (w1.w - w0.w)) seen) (la ++ e0 :: lc)) (h := Ent.refl _)) (cur_out hn)) ?_
    simp only [lnP]
    by_cases hf : e0.y.f1 ≤ a1 + 1
    · have hz : ackU1 (a1 + 1) (w1.w - w0.w) e0.y = ⟨e0.y.b0, e0.y.b1 + (w1.w - w0.w), e0.y.i0, e0.y.i1, e0.y.f0, e0.y.f1⟩ := by unfold ackU1; rw [if_pos hf]
      repeat' (first
        | (show evG _ _ _ _ _ _ _; refine G_entry ?_ (he := hfb))
        | (show evG _ _ _ _ _ _ _; first | refine G_add64 ?_ | refine G_sub64 ?_ | refine G_pure0 ?_ | refine G_load ?_ | refine evG_nil ?_ | refine G_br ?_ ?_ | refine G_field ?_ | refine G_pure ?_ | refine G_store ?_ | refine G_loadV ?_ | refine G_loadV0 ?_ | refine G_loadV2 ?_ | refine G_index ?_ | refine G_indexA ?_ | refine G_cat ?_ | (refine G_indexV ?_; intro _ _ hA; subst hA))
        | (show spl _ _ _; first | refine spl_no rfl ?_ | refine spl_yes rfl ?_)
        | (show evC _ _ _ _ _; first | refine c_seq ?_ | refine c_region (by exact rfl) ?_ | refine c_cond (by exact rfl) ?_ | refine c_ret ?_ | refine c_skip ?_ | refine c_block ?_ | refine c_exit ?_ | (show evC _ (.region 8 _ true) _ _ _; refine c_drawB (bl := [0, 0, 1, 5, 15, 31, 0, 0, 192, 448, 960, 0, 0, 4096, 14336, 30720, 63488, 131008, 262143, 1, 524289, 2097151, 4194303]) (br := [4194303, 2097151, 524289, 1, 262143, 131008, 63488, 30720, 14336, 4096, 0, 0, 960, 448, 192, 0, 0, 31, 15, 5, 1, 0, 0]) (l := [(0, 0), (1, 0), (2, 0), (3, 0), (4, 0), (5, 0), (6, 0), (7, 0), (8, 0), (9, 0), (10, 0), (11, 0), (12, 0), (13, 0), (14, 0), (15, 0), (16, 0), (17, 0), (18, 0), (19, 0), (20, 0), (21, 0), (22, 1)]) (by decide +kernel) (by decide +kernel) (by decide +kernel) (by decide +kernel) (by exact rfl) ?_) | refine std ?_)
        | (show Br _ _ _; first | refine Br.t rfl ?_ | refine Br.f rfl ?_ | refine brs ?_ | (first | refine Br.mkN (fun h => ?_) (fun h => ?_) | refine Br.mk (fun h => ?_) (fun h => ?_)) <;> (try (first | contradiction | (exfalso; omega) | (exfalso; simp at h; done))))
        | refine stp ?_)
      all_goals exact turn (leftN (la ++ e0 :: lc) (seen ++ [e0.b])) ⟨seen ++ [e0.b], Nat.le_refl _, ⟨rfl, rfl, rfl, rfl, rfl, trivial⟩, rfl⟩ (by omega) (Ent.trans (Ent.pickA (A := lnP e0.q ⟨e0.y.b0, e0.y.b1 + (w1.w - w0.w), e0.y.i0, e0.y.i1, e0.y.f0, e0.y.f1⟩) (h := Ent.pickA (A := stars (curP (ackU1 (a1 + 1) (w1.w - w0.w)) seen) (la ++ lc)) (h := Ent.refl _))) (Ent.trans (cur_in hnd hz) (by exact entA)))
    · have hz : ackU1 (a1 + 1) (w1.w - w0.w) e0.y = e0.y := by unfold ackU1; rw [if_neg hf]
      repeat' (first
        | (show evG _ _ _ _ _ _ _; refine G_entry ?_ (he := hfb))
        | (show evG _ _ _ _ _ _ _; first | refine G_add64 ?_ | refine G_sub64 ?_ | refine G_pure0 ?_ | refine G_load ?_ | refine evG_nil ?_ | refine G_br ?_ ?_ | refine G_field ?_ | refine G_pure ?_ | refine G_store ?_ | refine G_loadV ?_ | refine G_loadV0 ?_ | refine G_loadV2 ?_ | refine G_index ?_ | refine G_indexA ?_ | refine G_cat ?_ | (refine G_indexV ?_; intro _ _ hA; subst hA))
        | (show spl _ _ _; first | refine spl_no rfl ?_ | refine spl_yes rfl ?_)
        | (show evC _ _ _ _ _; first | refine c_seq ?_ | refine c_region (by exact rfl) ?_ | refine c_cond (by exact rfl) ?_ | refine c_ret ?_ | refine c_skip ?_ | refine c_block ?_ | refine c_exit ?_ | (show evC _ (.region 8 _ true) _ _ _; refine c_drawB (bl := [0, 0, 1, 5, 15, 31, 0, 0, 192, 448, 960, 0, 0, 4096, 14336, 30720, 63488, 131008, 262143, 1, 524289, 2097151, 4194303]) (br := [4194303, 2097151, 524289, 1, 262143, 131008, 63488, 30720, 14336, 4096, 0, 0, 960, 448, 192, 0, 0, 31, 15, 5, 1, 0, 0]) (l := [(0, 0), (1, 0), (2, 0), (3, 0), (4, 0), (5, 0), (6, 0), (7, 0), (8, 0), (9, 0), (10, 0), (11, 0), (12, 0), (13, 0), (14, 0), (15, 0), (16, 0), (17, 0), (18, 0), (19, 0), (20, 0), (21, 0), (22, 1)]) (by decide +kernel) (by decide +kernel) (by decide +kernel) (by decide +kernel) (by exact rfl) ?_) | refine std ?_)
        | (show Br _ _ _; first | refine Br.t rfl ?_ | refine Br.f rfl ?_ | refine brs ?_ | (first | refine Br.mkN (fun h => ?_) (fun h => ?_) | refine Br.mk (fun h => ?_) (fun h => ?_)) <;> (try (first | contradiction | (exfalso; omega) | (exfalso; simp at h; done))))
        | refine stp ?_)
      all_goals exact turn (leftN (la ++ e0 :: lc) (seen ++ [e0.b])) ⟨seen ++ [e0.b], Nat.le_refl _, ⟨rfl, rfl, rfl, rfl, rfl, trivial⟩, rfl⟩ (by omega) (Ent.trans (Ent.pickA (A := lnP e0.q e0.y) (h := Ent.pickA (A := stars (curP (ackU1 (a1 + 1) (w1.w - w0.w)) seen) (la ++ lc)) (h := Ent.refl _))) (Ent.trans (cur_in hnd hz) (by exact entA)))
  · refine spl_no rfl ?_
    refine evG_ent (Ent.trans (Ent.pickA (A := stars (curP (ackU1 (a1 + 1) (w1.w - w0.w)) seen) l) (h := Ent.refl _)) (cur_end (fun e he => hs (enM e) (List.mem_map_of_mem he)))) ?_
    repeat' (first
      | (show evG _ _ _ _ _ _ _; first | refine G_add64 ?_ | refine G_sub64 ?_ | refine G_pure0 ?_ | refine G_load ?_ | refine evG_nil ?_ | refine G_br ?_ ?_ | refine G_field ?_ | refine G_pure ?_ | refine G_store ?_ | refine G_loadV ?_ | refine G_loadV0 ?_ | refine G_loadV2 ?_ | refine G_index ?_ | refine G_indexA ?_ | refine G_cat ?_ | (refine G_indexV ?_; intro _ _ hA; subst hA))
      | (show spl _ _ _; first | refine spl_no rfl ?_ | refine spl_yes rfl ?_)
      | (show evC _ _ _ _ _; first | refine c_seq ?_ | refine c_region (by exact rfl) ?_ | refine c_cond (by exact rfl) ?_ | refine c_ret ?_ | refine c_skip ?_ | refine c_block ?_ | refine c_exit ?_ | (show evC _ (.region 8 _ true) _ _ _; refine c_drawB (bl := [0, 0, 1, 5, 15, 31, 0, 0, 192, 448, 960, 0, 0, 4096, 14336, 30720, 63488, 131008, 262143, 1, 524289, 2097151, 4194303]) (br := [4194303, 2097151, 524289, 1, 262143, 131008, 63488, 30720, 14336, 4096, 0, 0, 960, 448, 192, 0, 0, 31, 15, 5, 1, 0, 0]) (l := [(0, 0), (1, 0), (2, 0), (3, 0), (4, 0), (5, 0), (6, 0), (7, 0), (8, 0), (9, 0), (10, 0), (11, 0), (12, 0), (13, 0), (14, 0), (15, 0), (16, 0), (17, 0), (18, 0), (19, 0), (20, 0), (21, 0), (22, 1)]) (by decide +kernel) (by decide +kernel) (by decide +kernel) (by decide +kernel) (by exact rfl) ?_) | refine std ?_)
      | (show Br _ _ _; first | refine Br.t rfl ?_ | refine Br.f rfl ?_ | refine brs ?_ | (first | refine Br.mkN (fun h => ?_) (fun h => ?_) | refine Br.mk (fun h => ?_) (fun h => ?_)) <;> (try (first | contradiction | (exfalso; omega) | (exfalso; simp at h; done))))
      | refine stp ?_)
    all_goals (show retC _ _ _ _ _ _; refine RETC ?_; exact ret_done (hK))
end Go.Proofs.Ythoagholmkiknaa

