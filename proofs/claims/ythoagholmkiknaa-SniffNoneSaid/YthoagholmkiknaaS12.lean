/- Sniff: its functions, of any state: lemmas; each with the conditions that it states. -/
import Derived.Test.YthoagholmkiknaaFh
import Derived.Test.YthoagholmkiknaaS2

namespace Go.Proofs.Ythoagholmkiknaa
open Go Go.Proofs Go.Sl
set_option maxRecDepth 100000
set_option maxHeartbeats 4000000
set_option linter.unusedSimpArgs false
set_option linter.unusedVariables false
attribute [local irreducible] evG evC spl thenC inBlockC noGotoC CallT retC RetG TurnG CutG pt ro exP star sep pureP
attribute [local irreducible] mp mit
variable {R C : List HP} {K : Value → List HP → Prop}
structure St3 where
  w : Int
  st : Int
  it : Int
def st3D : List Value → Option St3
  | [.int .i64 w, .int .i64 st, .int .i64 it] => some ⟨w, st, it⟩
  | _ => none
theorem st3D_ok (cs : List Value) (y : St3) (h : st3D cs = some y) : [.int .i64 y.w, .int .i64 y.st, .int .i64 y.it] = cs := by
  unfold st3D at h
  split at h
  · cases h; rfl
  · cases h
def st3C : Cod St3 := { enc := fun p => [.int .i64 p.w, .int .i64 p.st, .int .i64 p.it], sz := 3, dec := st3D, len := fun _ => rfl, one := fun _ => rfl, ok := st3D_ok }
/-- a line of a stream -/
structure Ln where
  b0 : Int
  b1 : Int
  i0 : Int
  i1 : Int
  f0 : Nat
  f1 : Nat
def lnP (q : Nat) (y : Ln) : HP := pt q [.int .i64 y.b0, .int .i64 y.b1, .int .i64 y.i0, .int .i64 y.i1, .int .i64 (y.f0 : Nat), .int .i64 (y.f1 : Nat)] 70
/-- an entry of the map: its key, where its line lies, when it was born, the line -/
structure En where
  k : Int
  q : Nat
  b : Nat
  y : Ln
def enM (e : En) : MEnt := ⟨e.k, .pointer (some ⟨e.q, 0, none⟩), e.b⟩
def enP (e : En) : HP := lnP e.q e.y
theorem mfind_no {id : Int} : ∀ {l : List En} (j : Nat), (∀ e ∈ l, e.k ≠ id) → mfind id (l.map enM) j = none
  | [], _, _ => rfl
  | e :: l, j, h => by
    have h1 : ¬ id = e.k := fun q => h e (List.mem_cons_self ..) q.symm
    simp only [List.map_cons, mfind, enM]
    rw [if_neg (fun q => h1 (beq_iff_eq.1 q))]
    exact mfind_no (j + 1) fun z hz => h z (List.mem_cons_of_mem _ hz)
theorem mfind_yes {id : Int} {e : En} {c : List En} (he : e.k = id) : ∀ {a : List En} (j : Nat), (∀ z ∈ a, z.k ≠ id) → mfind id ((a ++ e :: c).map enM) j = some (j + a.length, .pointer (some ⟨e.q, 0, none⟩))
  | [], j, _ => by
    simp only [List.nil_append, List.map_cons, mfind, enM]
    rw [if_pos (beq_iff_eq.2 he.symm)]
    rfl
  | z :: a, j, h => by
    have h1 : ¬ id = z.k := fun q => h z (List.mem_cons_self ..) q.symm
    simp only [List.cons_append, List.map_cons, mfind]
    rw [show (enM z).k = z.k from rfl, if_neg (fun q => h1 (beq_iff_eq.1 q)), mfind_yes he (j + 1) fun z hz => h z (List.mem_cons_of_mem _ hz)]
    simp only [List.length_cons]
    congr 2
    omega
theorem look_no {id : Int} {l : List En} (h : ∀ e ∈ l, e.k ≠ id) : lookV true (.pointer none) (mfind id (l.map enM) 0) = .tuple #[.pointer none, .bool false] := by rw [mfind_no 0 h]; rfl
theorem look_yes {id : Int} {e : En} {a c : List En} (he : e.k = id) (h : ∀ z ∈ a, z.k ≠ id) : lookV true (.pointer none) (mfind id ((a ++ e :: c).map enM) 0) = .tuple #[.pointer (some ⟨e.q, 0, none⟩), .bool true] := by rw [mfind_yes he 0 h]; rfl
theorem put_no {id : Int} {l : List En} {ck : Nat} (h : ∀ e ∈ l, e.k ≠ id) (q : Nat) (y : Ln) : mapPut id (.pointer (some ⟨q, 0, none⟩)) (l.map enM) ck = ((l ++ [En.mk id q ck y]).map enM, ck + 1) := by
  unfold mapPut
  rw [mfind_no 0 h, List.map_append]
  rfl
variable {x i0 i1 m ck k0 k1 a0 a1 : Nat} {A0 A1 : Option Addr} {s0 s1 : List St3} {c0 c1 : Int} {l : List En} {id : Int}
theorem gspC0_ok {n : Int} (hn : 0 ≤ n ∧ n ≤ 100000) (hb : -1000000000000000 ≤ c0 ∧ c0 ≤ 1000000000000000) (hK : K (.bool (spO c0 n)) (pt x [.pointer (some ⟨i0, 0, none⟩), .pointer (some ⟨i1, 0, none⟩), .slice A0 s0.length k0, .slice A1 s1.length k1, .int .i64 (a0 : Nat), .int .i64 (a1 : Nat), .int .i64 (spN c0 n), .int .i64 c1, .map (some m)] 55 :: R)) : CallT Try.prog 48 #[.pointer (some ⟨x, 6, none⟩), .int .i64 n] (pt x [.pointer (some ⟨i0, 0, none⟩), .pointer (some ⟨i1, 0, none⟩), .slice A0 s0.length k0, .slice A1 s1.length k1, .int .i64 (a0 : Nat), .int .i64 (a1 : Nat), .int .i64 c0, .int .i64 c1, .map (some m)] 55 :: R) K := by
  by_cases h : 0 < n ∧ c0 < n
  · simp only [spN, spO, if_pos h] at hK
    refine callT_intro mixed Try.func48 rfl (by decide) (by decide +kernel) (by exact Nat.le_of_ble_eq_true rfl) ?_
    repeat' (first
      | (show evG _ _ _ _ _ _ _; first | refine G_sub64 ?_ | refine G_pure0 ?_ | refine G_load ?_ | refine evG_nil ?_ | refine G_br ?_ ?_ | refine G_pure ?_ | refine G_store ?_ | refine G_loadV ?_ | refine G_loadV0 ?_ | refine G_loadV2 ?_ | refine G_min ?_ | refine G_skip ?_ | refine G_skip0 ?_)
      | (show spl _ _ _; first | refine spl_no rfl ?_ | refine spl_yes rfl ?_)
      | (show evC _ _ _ _ _; first | refine c_seq ?_ | refine c_region (by exact rfl) ?_ | refine c_cond (by exact rfl) ?_ | refine c_ret ?_ | refine c_skip ?_ | refine c_block ?_ | refine c_exit ?_ | refine std ?_)
      | (show Br _ _ _; first | refine Br.t rfl ?_ | refine Br.f rfl ?_ | refine brs ?_ | (first | refine Br.mkN (fun h => ?_) (fun h => ?_) | refine Br.mk (fun h => ?_) (fun h => ?_)) <;> (try (first | contradiction | (exfalso; omega) | (exfalso; simp at h; done))))
      | refine stp ?_)
    all_goals (show retC _ _ _ _ _ _; refine RETC ?_; exact ret_done (hK))
  · simp only [spN, spO, if_neg h] at hK
    refine callT_intro mixed Try.func48 rfl (by decide) (by decide +kernel) (by exact Nat.le_of_ble_eq_true rfl) ?_
    repeat' (first
      | (show evG _ _ _ _ _ _ _; first | refine G_sub64 ?_ | refine G_pure0 ?_ | refine G_load ?_ | refine evG_nil ?_ | refine G_br ?_ ?_ | refine G_pure ?_ | refine G_store ?_ | refine G_loadV ?_ | refine G_loadV0 ?_ | refine G_loadV2 ?_ | refine G_min ?_ | refine G_skip ?_ | refine G_skip0 ?_)
      | (show spl _ _ _; first | refine spl_no rfl ?_ | refine spl_yes rfl ?_)
      | (show evC _ _ _ _ _; first | refine c_seq ?_ | refine c_region (by exact rfl) ?_ | refine c_cond (by exact rfl) ?_ | refine c_ret ?_ | refine c_skip ?_ | refine c_block ?_ | refine c_exit ?_ | refine std ?_)
      | (show Br _ _ _; first | refine Br.t rfl ?_ | refine Br.f rfl ?_ | refine brs ?_ | (first | refine Br.mkN (fun h => ?_) (fun h => ?_) | refine Br.mk (fun h => ?_) (fun h => ?_)) <;> (try (first | contradiction | (exfalso; omega) | (exfalso; simp at h; done))))
      | refine stp ?_)
    all_goals (show retC _ _ _ _ _ _; refine RETC ?_; exact ret_done (hK))
theorem gspC1_ok {n : Int} (hn : 0 ≤ n ∧ n ≤ 100000) (hb : -1000000000000000 ≤ c1 ∧ c1 ≤ 1000000000000000) (hK : K (.bool (spO c1 n)) (pt x [.pointer (some ⟨i0, 0, none⟩), .pointer (some ⟨i1, 0, none⟩), .slice A0 s0.length k0, .slice A1 s1.length k1, .int .i64 (a0 : Nat), .int .i64 (a1 : Nat), .int .i64 c0, .int .i64 (spN c1 n), .map (some m)] 55 :: R)) : CallT Try.prog 48 #[.pointer (some ⟨x, 7, none⟩), .int .i64 n] (pt x [.pointer (some ⟨i0, 0, none⟩), .pointer (some ⟨i1, 0, none⟩), .slice A0 s0.length k0, .slice A1 s1.length k1, .int .i64 (a0 : Nat), .int .i64 (a1 : Nat), .int .i64 c0, .int .i64 c1, .map (some m)] 55 :: R) K := by
  by_cases h : 0 < n ∧ c1 < n
  · simp only [spN, spO, if_pos h] at hK
    refine callT_intro mixed Try.func48 rfl (by decide) (by decide +kernel) (by exact Nat.le_of_ble_eq_true rfl) ?_
    repeat' (first
      | (show evG _ _ _ _ _ _ _; first | refine G_sub64 ?_ | refine G_pure0 ?_ | refine G_load ?_ | refine evG_nil ?_ | refine G_br ?_ ?_ | refine G_pure ?_ | refine G_store ?_ | refine G_loadV ?_ | refine G_loadV0 ?_ | refine G_loadV2 ?_ | refine G_min ?_ | refine G_skip ?_ | refine G_skip0 ?_)
      | (show spl _ _ _; first | refine spl_no rfl ?_ | refine spl_yes rfl ?_)
      | (show evC _ _ _ _ _; first | refine c_seq ?_ | refine c_region (by exact rfl) ?_ | refine c_cond (by exact rfl) ?_ | refine c_ret ?_ | refine c_skip ?_ | refine c_block ?_ | refine c_exit ?_ | refine std ?_)
      | (show Br _ _ _; first | refine Br.t rfl ?_ | refine Br.f rfl ?_ | refine brs ?_ | (first | refine Br.mkN (fun h => ?_) (fun h => ?_) | refine Br.mk (fun h => ?_) (fun h => ?_)) <;> (try (first | contradiction | (exfalso; omega) | (exfalso; simp at h; done))))
      | refine stp ?_)
    all_goals (show retC _ _ _ _ _ _; refine RETC ?_; exact ret_done (hK))
  · simp only [spN, spO, if_neg h] at hK
    refine callT_intro mixed Try.func48 rfl (by decide) (by decide +kernel) (by exact Nat.le_of_ble_eq_true rfl) ?_
    repeat' (first
      | (show evG _ _ _ _ _ _ _; first | refine G_sub64 ?_ | refine G_pure0 ?_ | refine G_load ?_ | refine evG_nil ?_ | refine G_br ?_ ?_ | refine G_pure ?_ | refine G_store ?_ | refine G_loadV ?_ | refine G_loadV0 ?_ | refine G_loadV2 ?_ | refine G_min ?_ | refine G_skip ?_ | refine G_skip0 ?_)
      | (show spl _ _ _; first | refine spl_no rfl ?_ | refine spl_yes rfl ?_)
      | (show evC _ _ _ _ _; first | refine c_seq ?_ | refine c_region (by exact rfl) ?_ | refine c_cond (by exact rfl) ?_ | refine c_ret ?_ | refine c_skip ?_ | refine c_block ?_ | refine c_exit ?_ | refine std ?_)
      | (show Br _ _ _; first | refine Br.t rfl ?_ | refine Br.f rfl ?_ | refine brs ?_ | (first | refine Br.mkN (fun h => ?_) (fun h => ?_) | refine Br.mk (fun h => ?_) (fun h => ?_)) <;> (try (first | contradiction | (exfalso; omega) | (exfalso; simp at h; done))))
      | refine stp ?_)
    all_goals (show retC _ _ _ _ _ _; refine RETC ?_; exact ret_done (hK))
theorem gspB0_ok {q : Nat} {n b0 b1 j0 j1 : Int} {f0 f1 : Nat} (hn : 0 ≤ n ∧ n ≤ 100000) (hb : -1000000000000000 ≤ b0 ∧ b0 ≤ 1000000000000000) (hK : K (.bool (spO b0 n)) (pt q [.int .i64 (spN b0 n), .int .i64 b1, .int .i64 j0, .int .i64 j1, .int .i64 (f0 : Nat), .int .i64 (f1 : Nat)] 70 :: R)) : CallT Try.prog 48 #[.pointer (some ⟨q, 0, none⟩), .int .i64 n] (pt q [.int .i64 b0, .int .i64 b1, .int .i64 j0, .int .i64 j1, .int .i64 (f0 : Nat), .int .i64 (f1 : Nat)] 70 :: R) K := by
  by_cases h : 0 < n ∧ b0 < n
  · simp only [spN, spO, if_pos h] at hK
    refine callT_intro mixed Try.func48 rfl (by decide) (by decide +kernel) (by exact Nat.le_of_ble_eq_true rfl) ?_
    repeat' (first
      | (show evG _ _ _ _ _ _ _; first | refine G_sub64 ?_ | refine G_pure0 ?_ | refine G_load ?_ | refine evG_nil ?_ | refine G_br ?_ ?_ | refine G_pure ?_ | refine G_store ?_ | refine G_loadV ?_ | refine G_loadV0 ?_ | refine G_loadV2 ?_ | refine G_min ?_ | refine G_skip ?_ | refine G_skip0 ?_)
      | (show spl _ _ _; first | refine spl_no rfl ?_ | refine spl_yes rfl ?_)
      | (show evC _ _ _ _ _; first | refine c_seq ?_ | refine c_region (by exact rfl) ?_ | refine c_cond (by exact rfl) ?_ | refine c_ret ?_ | refine c_skip ?_ | refine c_block ?_ | refine c_exit ?_ | refine std ?_)
      | (show Br _ _ _; first | refine Br.t rfl ?_ | refine Br.f rfl ?_ | refine brs ?_ | (first | refine Br.mkN (fun h => ?_) (fun h => ?_) | refine Br.mk (fun h => ?_) (fun h => ?_)) <;> (try (first | contradiction | (exfalso; omega) | (exfalso; simp at h; done))))
      | refine stp ?_)
    all_goals (show retC _ _ _ _ _ _; refine RETC ?_; exact ret_done (hK))
  · simp only [spN, spO, if_neg h] at hK
    refine callT_intro mixed Try.func48 rfl (by decide) (by decide +kernel) (by exact Nat.le_of_ble_eq_true rfl) ?_
    repeat' (first
      | (show evG _ _ _ _ _ _ _; first | refine G_sub64 ?_ | refine G_pure0 ?_ | refine G_load ?_ | refine evG_nil ?_ | refine G_br ?_ ?_ | refine G_pure ?_ | refine G_store ?_ | refine G_loadV ?_ | refine G_loadV0 ?_ | refine G_loadV2 ?_ | refine G_min ?_ | refine G_skip ?_ | refine G_skip0 ?_)
      | (show spl _ _ _; first | refine spl_no rfl ?_ | refine spl_yes rfl ?_)
      | (show evC _ _ _ _ _; first | refine c_seq ?_ | refine c_region (by exact rfl) ?_ | refine c_cond (by exact rfl) ?_ | refine c_ret ?_ | refine c_skip ?_ | refine c_block ?_ | refine c_exit ?_ | refine std ?_)
      | (show Br _ _ _; first | refine Br.t rfl ?_ | refine Br.f rfl ?_ | refine brs ?_ | (first | refine Br.mkN (fun h => ?_) (fun h => ?_) | refine Br.mk (fun h => ?_) (fun h => ?_)) <;> (try (first | contradiction | (exfalso; omega) | (exfalso; simp at h; done))))
      | refine stp ?_)
    all_goals (show retC _ _ _ _ _ _; refine RETC ?_; exact ret_done (hK))
theorem gspB1_ok {q : Nat} {n b0 b1 j0 j1 : Int} {f0 f1 : Nat} (hn : 0 ≤ n ∧ n ≤ 100000) (hb : -1000000000000000 ≤ b1 ∧ b1 ≤ 1000000000000000) (hK : K (.bool (spO b1 n)) (pt q [.int .i64 b0, .int .i64 (spN b1 n), .int .i64 j0, .int .i64 j1, .int .i64 (f0 : Nat), .int .i64 (f1 : Nat)] 70 :: R)) : CallT Try.prog 48 #[.pointer (some ⟨q, 1, none⟩), .int .i64 n] (pt q [.int .i64 b0, .int .i64 b1, .int .i64 j0, .int .i64 j1, .int .i64 (f0 : Nat), .int .i64 (f1 : Nat)] 70 :: R) K := by
  by_cases h : 0 < n ∧ b1 < n
  · simp only [spN, spO, if_pos h] at hK
    refine callT_intro mixed Try.func48 rfl (by decide) (by decide +kernel) (by exact Nat.le_of_ble_eq_true rfl) ?_
    repeat' (first
      | (show evG _ _ _ _ _ _ _; first | refine G_sub64 ?_ | refine G_pure0 ?_ | refine G_load ?_ | refine evG_nil ?_ | refine G_br ?_ ?_ | refine G_pure ?_ | refine G_store ?_ | refine G_loadV ?_ | refine G_loadV0 ?_ | refine G_loadV2 ?_ | refine G_min ?_ | refine G_skip ?_ | refine G_skip0 ?_)
      | (show spl _ _ _; first | refine spl_no rfl ?_ | refine spl_yes rfl ?_)
      | (show evC _ _ _ _ _; first | refine c_seq ?_ | refine c_region (by exact rfl) ?_ | refine c_cond (by exact rfl) ?_ | refine c_ret ?_ | refine c_skip ?_ | refine c_block ?_ | refine c_exit ?_ | refine std ?_)
      | (show Br _ _ _; first | refine Br.t rfl ?_ | refine Br.f rfl ?_ | refine brs ?_ | (first | refine Br.mkN (fun h => ?_) (fun h => ?_) | refine Br.mk (fun h => ?_) (fun h => ?_)) <;> (try (first | contradiction | (exfalso; omega) | (exfalso; simp at h; done))))
      | refine stp ?_)
    all_goals (show retC _ _ _ _ _ _; refine RETC ?_; exact ret_done (hK))
  · simp only [spN, spO, if_neg h] at hK
    refine callT_intro mixed Try.func48 rfl (by decide) (by decide +kernel) (by exact Nat.le_of_ble_eq_true rfl) ?_
    repeat' (first
      | (show evG _ _ _ _ _ _ _; first | refine G_sub64 ?_ | refine G_pure0 ?_ | refine G_load ?_ | refine evG_nil ?_ | refine G_br ?_ ?_ | refine G_pure ?_ | refine G_store ?_ | refine G_loadV ?_ | refine G_loadV0 ?_ | refine G_loadV2 ?_ | refine G_min ?_ | refine G_skip ?_ | refine G_skip0 ?_)
      | (show spl _ _ _; first | refine spl_no rfl ?_ | refine spl_yes rfl ?_)
      | (show evC _ _ _ _ _; first | refine c_seq ?_ | refine c_region (by exact rfl) ?_ | refine c_cond (by exact rfl) ?_ | refine c_ret ?_ | refine c_skip ?_ | refine c_block ?_ | refine c_exit ?_ | refine std ?_)
      | (show Br _ _ _; first | refine Br.t rfl ?_ | refine Br.f rfl ?_ | refine brs ?_ | (first | refine Br.mkN (fun h => ?_) (fun h => ?_) | refine Br.mk (fun h => ?_) (fun h => ?_)) <;> (try (first | contradiction | (exfalso; omega) | (exfalso; simp at h; done))))
      | refine stp ?_)
    all_goals (show retC _ _ _ _ _ _; refine RETC ?_; exact ret_done (hK))
theorem gspI0_ok {q : Nat} {n b0 b1 j0 j1 : Int} {f0 f1 : Nat} (hn : 0 ≤ n ∧ n ≤ 100000) (hb : -1000000000000000 ≤ j0 ∧ j0 ≤ 1000000000000000) (hK : K (.bool (spO j0 n)) (pt q [.int .i64 b0, .int .i64 b1, .int .i64 (spN j0 n), .int .i64 j1, .int .i64 (f0 : Nat), .int .i64 (f1 : Nat)] 70 :: R)) : CallT Try.prog 48 #[.pointer (some ⟨q, 2, none⟩), .int .i64 n] (pt q [.int .i64 b0, .int .i64 b1, .int .i64 j0, .int .i64 j1, .int .i64 (f0 : Nat), .int .i64 (f1 : Nat)] 70 :: R) K := by
  by_cases h : 0 < n ∧ j0 < n
  · simp only [spN, spO, if_pos h] at hK
    refine callT_intro mixed Try.func48 rfl (by decide) (by decide +kernel) (by exact Nat.le_of_ble_eq_true rfl) ?_
    repeat' (first
      | (show evG _ _ _ _ _ _ _; first | refine G_sub64 ?_ | refine G_pure0 ?_ | refine G_load ?_ | refine evG_nil ?_ | refine G_br ?_ ?_ | refine G_pure ?_ | refine G_store ?_ | refine G_loadV ?_ | refine G_loadV0 ?_ | refine G_loadV2 ?_ | refine G_min ?_ | refine G_skip ?_ | refine G_skip0 ?_)
      | (show spl _ _ _; first | refine spl_no rfl ?_ | refine spl_yes rfl ?_)
      | (show evC _ _ _ _ _; first | refine c_seq ?_ | refine c_region (by exact rfl) ?_ | refine c_cond (by exact rfl) ?_ | refine c_ret ?_ | refine c_skip ?_ | refine c_block ?_ | refine c_exit ?_ | refine std ?_)
      | (show Br _ _ _; first | refine Br.t rfl ?_ | refine Br.f rfl ?_ | refine brs ?_ | (first | refine Br.mkN (fun h => ?_) (fun h => ?_) | refine Br.mk (fun h => ?_) (fun h => ?_)) <;> (try (first | contradiction | (exfalso; omega) | (exfalso; simp at h; done))))
      | refine stp ?_)
    all_goals (show retC _ _ _ _ _ _; refine RETC ?_; exact ret_done (hK))
  · simp only [spN, spO, if_neg h] at hK
    refine callT_intro mixed Try.func48 rfl (by decide) (by decide +kernel) (by exact Nat.le_of_ble_eq_true rfl) ?_
    repeat' (first
      | (show evG _ _ _ _ _ _ _; first | refine G_sub64 ?_ | refine G_pure0 ?_ | refine G_load ?_ | refine evG_nil ?_ | refine G_br ?_ ?_ | refine G_pure ?_ | refine G_store ?_ | refine G_loadV ?_ | refine G_loadV0 ?_ | refine G_loadV2 ?_ | refine G_min ?_ | refine G_skip ?_ | refine G_skip0 ?_)
      | (show spl _ _ _; first | refine spl_no rfl ?_ | refine spl_yes rfl ?_)
      | (show evC _ _ _ _ _; first | refine c_seq ?_ | refine c_region (by exact rfl) ?_ | refine c_cond (by exact rfl) ?_ | refine c_ret ?_ | refine c_skip ?_ | refine c_block ?_ | refine c_exit ?_ | refine std ?_)
      | (show Br _ _ _; first | refine Br.t rfl ?_ | refine Br.f rfl ?_ | refine brs ?_ | (first | refine Br.mkN (fun h => ?_) (fun h => ?_) | refine Br.mk (fun h => ?_) (fun h => ?_)) <;> (try (first | contradiction | (exfalso; omega) | (exfalso; simp at h; done))))
      | refine stp ?_)
    all_goals (show retC _ _ _ _ _ _; refine RETC ?_; exact ret_done (hK))
theorem gspI1_ok {q : Nat} {n b0 b1 j0 j1 : Int} {f0 f1 : Nat} (hn : 0 ≤ n ∧ n ≤ 100000) (hb : -1000000000000000 ≤ j1 ∧ j1 ≤ 1000000000000000) (hK : K (.bool (spO j1 n)) (pt q [.int .i64 b0, .int .i64 b1, .int .i64 j0, .int .i64 (spN j1 n), .int .i64 (f0 : Nat), .int .i64 (f1 : Nat)] 70 :: R)) : CallT Try.prog 48 #[.pointer (some ⟨q, 3, none⟩), .int .i64 n] (pt q [.int .i64 b0, .int .i64 b1, .int .i64 j0, .int .i64 j1, .int .i64 (f0 : Nat), .int .i64 (f1 : Nat)] 70 :: R) K := by
  by_cases h : 0 < n ∧ j1 < n
  · simp only [spN, spO, if_pos h] at hK
    refine callT_intro mixed Try.func48 rfl (by decide) (by decide +kernel) (by exact Nat.le_of_ble_eq_true rfl) ?_
    repeat' (first
      | (show evG _ _ _ _ _ _ _; first | refine G_sub64 ?_ | refine G_pure0 ?_ | refine G_load ?_ | refine evG_nil ?_ | refine G_br ?_ ?_ | refine G_pure ?_ | refine G_store ?_ | refine G_loadV ?_ | refine G_loadV0 ?_ | refine G_loadV2 ?_ | refine G_min ?_ | refine G_skip ?_ | refine G_skip0 ?_)
      | (show spl _ _ _; first | refine spl_no rfl ?_ | refine spl_yes rfl ?_)
      | (show evC _ _ _ _ _; first | refine c_seq ?_ | refine c_region (by exact rfl) ?_ | refine c_cond (by exact rfl) ?_ | refine c_ret ?_ | refine c_skip ?_ | refine c_block ?_ | refine c_exit ?_ | refine std ?_)
      | (show Br _ _ _; first | refine Br.t rfl ?_ | refine Br.f rfl ?_ | refine brs ?_ | (first | refine Br.mkN (fun h => ?_) (fun h => ?_) | refine Br.mk (fun h => ?_) (fun h => ?_)) <;> (try (first | contradiction | (exfalso; omega) | (exfalso; simp at h; done))))
      | refine stp ?_)
    all_goals (show retC _ _ _ _ _ _; refine RETC ?_; exact ret_done (hK))
  · simp only [spN, spO, if_neg h] at hK
    refine callT_intro mixed Try.func48 rfl (by decide) (by decide +kernel) (by exact Nat.le_of_ble_eq_true rfl) ?_
    repeat' (first
      | (show evG _ _ _ _ _ _ _; first | refine G_sub64 ?_ | refine G_pure0 ?_ | refine G_load ?_ | refine evG_nil ?_ | refine G_br ?_ ?_ | refine G_pure ?_ | refine G_store ?_ | refine G_loadV ?_ | refine G_loadV0 ?_ | refine G_loadV2 ?_ | refine G_min ?_ | refine G_skip ?_ | refine G_skip0 ?_)
      | (show spl _ _ _; first | refine spl_no rfl ?_ | refine spl_yes rfl ?_)
      | (show evC _ _ _ _ _; first | refine c_seq ?_ | refine c_region (by exact rfl) ?_ | refine c_cond (by exact rfl) ?_ | refine c_ret ?_ | refine c_skip ?_ | refine c_block ?_ | refine c_exit ?_ | refine std ?_)
      | (show Br _ _ _; first | refine Br.t rfl ?_ | refine Br.f rfl ?_ | refine brs ?_ | (first | refine Br.mkN (fun h => ?_) (fun h => ?_) | refine Br.mk (fun h => ?_) (fun h => ?_)) <;> (try (first | contradiction | (exfalso; omega) | (exfalso; simp at h; done))))
      | refine stp ?_)
    all_goals (show retC _ _ _ _ _ _; refine RETC ?_; exact ret_done (hK))
def wrL (l : List Int) (w : Int) (ok : Bool) : List Int := if ok = true then l else l ++ [w]
theorem wrL_len (l : List Int) (w : Int) (ok : Bool) : (wrL l w ok).length ≤ l.length + 1 := by unfold wrL; split <;> simp
theorem wrongG_ok {r c : Nat} {A : Option Addr} {w : Int} {l : List Int} {ok : Bool} (hl : l.length ≤ 100) (hK : ∀ A' c', K (.tuple #[]) (pt r [.slice A' (wrL l w ok).length c'] 26 :: row A' c' 3 siC (wrL l w ok) :: R)) : CallT Try.prog 47 #[.int .i64 w, .bool ok, .pointer (some ⟨r, 0, none⟩)] (pt r [.slice A l.length c] 26 :: row A c 3 siC l :: R) K := by
  cases ok with
  | true =>
    simp only [wrL, if_true] at hK
    refine callT_intro mixed Try.func47 rfl (by decide) (by decide +kernel) (by exact Nat.le_of_ble_eq_true rfl) ?_
    repeat' (first
      | (show evG _ _ _ _ _ _ _; first | refine G_pure0 ?_ | refine G_load ?_ | refine evG_nil ?_ | refine G_br ?_ ?_ | refine G_pure ?_ | refine G_store ?_ | refine G_loadV ?_ | refine G_loadV0 ?_ | refine G_loadV2 ?_ | (refine G_append ?_; intro _ _) | (refine G_appendN ?_; intro _ _) | refine G_not ?_ | (refine G_buildSlice ?_; intro _))
      | (show spl _ _ _; first | refine spl_no rfl ?_ | refine spl_yes rfl ?_)
      | (show evC _ _ _ _ _; first | refine c_seq ?_ | refine c_region (by exact rfl) ?_ | refine c_cond (by exact rfl) ?_ | refine c_ret ?_ | refine c_skip ?_ | refine c_block ?_ | refine c_exit ?_ | refine std ?_)
      | (show Br _ _ _; first | refine Br.t rfl ?_ | refine Br.f rfl ?_ | refine brs ?_ | (first | refine Br.mkN (fun h => ?_) (fun h => ?_) | refine Br.mk (fun h => ?_) (fun h => ?_)) <;> (try (first | contradiction | (exfalso; omega) | (exfalso; simp at h; done))))
      | refine stp ?_)
    all_goals (show retC _ _ _ _ _ _; refine RETC ?_; exact ret_done (hK _ _))
  | false =>
    simp only [wrL, Bool.false_eq_true, if_false] at hK
    refine callT_intro mixed Try.func47 rfl (by decide) (by decide +kernel) (by exact Nat.le_of_ble_eq_true rfl) ?_
    repeat' (first
      | (show evG _ _ _ _ _ _ _; first | refine G_pure0 ?_ | refine G_load ?_ | refine evG_nil ?_ | refine G_br ?_ ?_ | refine G_pure ?_ | refine G_store ?_ | refine G_loadV ?_ | refine G_loadV0 ?_ | refine G_loadV2 ?_ | (refine G_append ?_; intro _ _) | (refine G_appendN ?_; intro _ _) | refine G_not ?_ | (refine G_buildSlice ?_; intro _))
      | (show spl _ _ _; first | refine spl_no rfl ?_ | refine spl_yes rfl ?_)
      | (show evC _ _ _ _ _; first | refine c_seq ?_ | refine c_region (by exact rfl) ?_ | refine c_cond (by exact rfl) ?_ | refine c_ret ?_ | refine c_skip ?_ | refine c_block ?_ | refine c_exit ?_ | refine std ?_)
      | (show Br _ _ _; first | refine Br.t rfl ?_ | refine Br.f rfl ?_ | refine brs ?_ | (first | refine Br.mkN (fun h => ?_) (fun h => ?_) | refine Br.mk (fun h => ?_) (fun h => ?_)) <;> (try (first | contradiction | (exfalso; omega) | (exfalso; simp at h; done))))
      | refine stp ?_)
    all_goals (show retC _ _ _ _ _ _; refine RETC ?_; exact ret_done (hK _ _))
theorem gopenY0_ok {q : Nat} (hlk : lookV true (.pointer none) (mfind id (l.map enM) 0) = .tuple #[.pointer (some ⟨q, 0, none⟩), .bool true]) (hK : K (.tuple #[]) (pt x [.pointer (some ⟨i0, 0, none⟩), .pointer (some ⟨i1, 0, none⟩), .slice A0 s0.length k0, .slice A1 s1.length k1, .int .i64 (a0 : Nat), .int .i64 (a1 : Nat), .int .i64 c0, .int .i64 c1, .map (some m)] 55 :: mp m (l.map enM) ck :: R)) : CallT Try.prog 35 #[.pointer (some ⟨x, 0, none⟩), .int .i64 0, .int .i64 id] (pt x [.pointer (some ⟨i0, 0, none⟩), .pointer (some ⟨i1, 0, none⟩), .slice A0 s0.length k0, .slice A1 s1.length k1, .int .i64 (a0 : Nat), .int .i64 (a1 : Nat), .int .i64 c0, .int .i64 c1, .map (some m)] 55 :: mp m (l.map enM) ck :: R) K := by
  refine callT_intro mixed Try.func35 rfl (by decide) (by decide +kernel) (by exact Nat.le_of_ble_eq_true rfl) ?_
  repeat' (first
    | (show evG _ _ _ _ _ _ _; first | refine G_lookup ?_ (hv := hlk))
    | (show evG _ _ _ _ _ _ _; first | refine G_add64 ?_ | refine G_sub64 ?_ | refine G_pure0 ?_ | refine G_load ?_ | refine evG_nil ?_ | refine G_br ?_ ?_ | refine G_field ?_ | refine G_pure ?_ | refine G_store ?_ | refine G_loadV ?_ | refine G_loadV0 ?_ | refine G_loadV2 ?_ | refine G_index ?_ | refine G_indexA ?_ | refine G_build ?_ | refine G_cat ?_ | (refine G_box ?_; intro _) | (refine G_indexV ?_; intro _ _ hA; subst hA))
    | (show spl _ _ _; first | refine spl_no rfl ?_ | refine spl_yes rfl ?_)
    | (show evC _ _ _ _ _; first | refine c_seq ?_ | refine c_region (by exact rfl) ?_ | refine c_cond (by exact rfl) ?_ | refine c_ret ?_ | refine c_skip ?_ | refine c_block ?_ | refine c_exit ?_ | (show evC _ (.region 4 _ true) _ _ _; refine c_drawB (bl := [0, 0, 0, 0, 0, 0, 16, 80, 240, 496, 0, 0, 1024, 5120, 15360, 31744, 65520, 131056, 262128, 0, 0, 524288, 2621440, 7864320, 16252928, 33030144, 1, 67108865, 234881011, 503316467, 4, 1073741828, 4294967295, 8589934591]) (br := [8589934591, 4294967295, 1073741828, 4, 503316467, 234881011, 67108865, 1, 33030144, 16252928, 7864320, 2621440, 524288, 0, 0, 262128, 131056, 65520, 31744, 15360, 5120, 1024, 0, 0, 496, 240, 80, 16, 0, 0, 0, 0, 0, 0]) (l := [(0, 0), (1, 0), (4, 0), (5, 0), (6, 0), (7, 0), (8, 0), (9, 0), (10, 0), (11, 0), (12, 0), (13, 0), (14, 0), (15, 0), (16, 0), (17, 0), (18, 0), (19, 0), (20, 0), (21, 0), (22, 0), (23, 0), (24, 0), (26, 0), (27, 0), (28, 0), (29, 1), (2, 1), (3, 1), (25, 1), (30, 1), (31, 1), (32, 0), (33, 1)]) (by decide +kernel) (by decide +kernel) (by decide +kernel) (by decide +kernel) (by exact rfl) ?_) | (show evC _ (.region 5 _ true) _ _ _; refine c_drawB (bl := [0, 0, 0, 0, 0, 0, 16, 80, 240, 496, 0, 0, 1024, 5120, 15360, 31744, 64512, 130048, 262128, 524272, 1048560, 0, 0, 2097152, 10485760, 31457280, 65011712, 132120576, 1, 268435457, 939524083, 2013265907, 4, 4294967300, 17179869183, 34359738367]) (br := [34359738367, 17179869183, 4294967300, 4, 2013265907, 939524083, 268435457, 1, 132120576, 65011712, 31457280, 10485760, 2097152, 0, 0, 1048560, 524272, 262128, 130048, 64512, 31744, 15360, 5120, 1024, 0, 0, 496, 240, 80, 16, 0, 0, 0, 0, 0, 0]) (l := [(0, 0), (1, 0), (4, 0), (5, 0), (6, 0), (7, 0), (8, 0), (9, 0), (10, 0), (11, 0), (12, 0), (13, 0), (14, 0), (15, 0), (16, 0), (17, 0), (18, 0), (19, 0), (20, 0), (21, 0), (22, 0), (23, 0), (24, 0), (25, 0), (26, 0), (28, 0), (29, 0), (30, 0), (31, 1), (2, 1), (3, 1), (27, 1), (32, 1), (33, 1), (34, 0), (35, 1)]) (by decide +kernel) (by decide +kernel) (by decide +kernel) (by decide +kernel) (by exact rfl) ?_) | refine std ?_)
    | (show Br _ _ _; first | refine Br.t rfl ?_ | refine Br.f rfl ?_ | refine brs ?_ | (first | refine Br.mkN (fun h => ?_) (fun h => ?_) | refine Br.mk (fun h => ?_) (fun h => ?_)) <;> (try (first | contradiction | (exfalso; omega) | (exfalso; simp at h; done))))
    | refine stp ?_
    | (show CallT _ 47 _ _ _; refine CA (h := wrongG_ok (by simp) (fun _ _ => ?_))))
  all_goals (show retC _ _ _ _ _ _; refine RETC ?_; exact ret_done (hK))
set_option maxHeartbeats 40000000 in
theorem gopenN0_ok {wo ws : St3} (hlk : lookV true (.pointer none) (mfind id (l.map enM) 0) = .tuple #[.pointer none, .bool false]) (hput : ∀ q y, mapPut id (.pointer (some ⟨q, 0, none⟩)) (l.map enM) ck = ((l ++ [En.mk id q ck y]).map enM, ck + 1)) (hl0 : s0.length ≤ 1000000) (hl2 : s1.length ≤ 1000000) (hl1 : s0 ≠ []) (ha : a0 < s1.length) (hwo : s1[((a0 : Nat) : Int).toNat]? = some wo) (hws : s0[(((s0.length : Nat) : Int) - 1).toNat]? = some ws) (hK : ∀ q, K (.tuple #[]) (pt x [.pointer (some ⟨i0, 0, none⟩), .pointer (some ⟨i1, 0, none⟩), .slice A0 s0.length k0, .slice A1 s1.length k1, .int .i64 (a0 : Nat), .int .i64 (a1 : Nat), .int .i64 c0, .int .i64 c1, .map (some m)] 55 :: row A0 k0 58 st3C s0 :: row A1 k1 58 st3C s1 :: mp m ((l ++ [En.mk id q ck ⟨wo.w, ws.w, 0, 0, a0 + 1, s0.length⟩]).map enM) (ck + 1) :: lnP q ⟨wo.w, ws.w, 0, 0, a0 + 1, s0.length⟩ :: R)) : CallT Try.prog 35 #[.pointer (some ⟨x, 0, none⟩), .int .i64 0, .int .i64 id] (pt x [.pointer (some ⟨i0, 0, none⟩), .pointer (some ⟨i1, 0, none⟩), .slice A0 s0.length k0, .slice A1 s1.length k1, .int .i64 (a0 : Nat), .int .i64 (a1 : Nat), .int .i64 c0, .int .i64 c1, .map (some m)] 55 :: row A0 k0 58 st3C s0 :: row A1 k1 58 st3C s1 :: mp m (l.map enM) ck :: R) K := by
  have hlp : 0 < s0.length := List.length_pos_iff.2 hl1
  refine callT_intro mixed Try.func35 rfl (by decide) (by decide +kernel) (by exact Nat.le_of_ble_eq_true rfl) ?_
  repeat' (first
    | (show evG _ _ _ _ _ _ _; first | refine G_lookup ?_ (hv := hlk))
    | (show evG _ _ _ _ _ _ _; refine G_mapUpdate ?_ (hv := hput _ ⟨wo.w, ws.w, 0, 0, a0 + 1, s0.length⟩))
    | (show evG _ _ _ _ _ _ _; first | refine G_add64 ?_ | refine G_sub64 ?_ | refine G_pure0 ?_ | refine G_load ?_ | refine evG_nil ?_ | refine G_br ?_ ?_ | refine G_field ?_ | refine G_pure ?_ | refine G_store ?_ | refine G_loadV ?_ | refine G_loadV0 ?_ | refine G_loadV2 ?_ | refine G_index ?_ | refine G_indexA ?_ | refine G_build ?_ | refine G_cat ?_ | (refine G_box ?_; intro _) | (refine G_indexV ?_; intro _ _ hA; subst hA))
    | (show spl _ _ _; first | refine spl_no rfl ?_ | refine spl_yes rfl ?_)
    | (show evC _ _ _ _ _; first | refine c_seq ?_ | refine c_region (by exact rfl) ?_ | refine c_cond (by exact rfl) ?_ | refine c_ret ?_ | refine c_skip ?_ | refine c_block ?_ | refine c_exit ?_ | (show evC _ (.region 4 _ true) _ _ _; refine c_drawB (bl := [0, 0, 0, 0, 0, 0, 16, 80, 240, 496, 0, 0, 1024, 5120, 15360, 31744, 65520, 131056, 262128, 0, 0, 524288, 2621440, 7864320, 16252928, 33030144, 1, 67108865, 234881011, 503316467, 4, 1073741828, 4294967295, 8589934591]) (br := [8589934591, 4294967295, 1073741828, 4, 503316467, 234881011, 67108865, 1, 33030144, 16252928, 7864320, 2621440, 524288, 0, 0, 262128, 131056, 65520, 31744, 15360, 5120, 1024, 0, 0, 496, 240, 80, 16, 0, 0, 0, 0, 0, 0]) (l := [(0, 0), (1, 0), (4, 0), (5, 0), (6, 0), (7, 0), (8, 0), (9, 0), (10, 0), (11, 0), (12, 0), (13, 0), (14, 0), (15, 0), (16, 0), (17, 0), (18, 0), (19, 0), (20, 0), (21, 0), (22, 0), (23, 0), (24, 0), (26, 0), (27, 0), (28, 0), (29, 1), (2, 1), (3, 1), (25, 1), (30, 1), (31, 1), (32, 0), (33, 1)]) (by decide +kernel) (by decide +kernel) (by decide +kernel) (by decide +kernel) (by exact rfl) ?_) | (show evC _ (.region 5 _ true) _ _ _; refine c_drawB (bl := [0, 0, 0, 0, 0, 0, 16, 80, 240, 496, 0, 0, 1024, 5120, 15360, 31744, 64512, 130048, 262128, 524272, 1048560, 0, 0, 2097152, 10485760, 31457280, 65011712, 132120576, 1, 268435457, 939524083, 2013265907, 4, 4294967300, 17179869183, 34359738367]) (br := [34359738367, 17179869183, 4294967300, 4, 2013265907, 939524083, 268435457, 1, 132120576, 65011712, 31457280, 10485760, 2097152, 0, 0, 1048560, 524272, 262128, 130048, 64512, 31744, 15360, 5120, 1024, 0, 0, 496, 240, 80, 16, 0, 0, 0, 0, 0, 0]) (l := [(0, 0), (1, 0), (4, 0), (5, 0), (6, 0), (7, 0), (8, 0), (9, 0), (10, 0), (11, 0), (12, 0), (13, 0), (14, 0), (15, 0), (16, 0), (17, 0), (18, 0), (19, 0), (20, 0), (21, 0), (22, 0), (23, 0), (24, 0), (25, 0), (26, 0), (28, 0), (29, 0), (30, 0), (31, 1), (2, 1), (3, 1), (27, 1), (32, 1), (33, 1), (34, 0), (35, 1)]) (by decide +kernel) (by decide +kernel) (by decide +kernel) (by decide +kernel) (by exact rfl) ?_) | refine std ?_)
    | (show Br _ _ _; first | refine Br.t rfl ?_ | refine Br.f rfl ?_ | refine brs ?_ | (first | refine Br.mkN (fun h => ?_) (fun h => ?_) | refine Br.mk (fun h => ?_) (fun h => ?_)) <;> (try (first | contradiction | (exfalso; omega) | (exfalso; simp at h; done))))
    | refine stp ?_)
  all_goals (show retC _ _ _ _ _ _; refine RETC ?_; exact ret_done (hK _))
theorem gopenY1_ok {q : Nat} (hlk : lookV true (.pointer none) (mfind id (l.map enM) 0) = .tuple #[.pointer (some ⟨q, 0, none⟩), .bool true]) (hK : K (.tuple #[]) (pt x [.pointer (some ⟨i0, 0, none⟩), .pointer (some ⟨i1, 0, none⟩), .slice A0 s0.length k0, .slice A1 s1.length k1, .int .i64 (a0 : Nat), .int .i64 (a1 : Nat), .int .i64 c0, .int .i64 c1, .map (some m)] 55 :: mp m (l.map enM) ck :: R)) : CallT Try.prog 35 #[.pointer (some ⟨x, 0, none⟩), .int .i64 1, .int .i64 id] (pt x [.pointer (some ⟨i0, 0, none⟩), .pointer (some ⟨i1, 0, none⟩), .slice A0 s0.length k0, .slice A1 s1.length k1, .int .i64 (a0 : Nat), .int .i64 (a1 : Nat), .int .i64 c0, .int .i64 c1, .map (some m)] 55 :: mp m (l.map enM) ck :: R) K := by
  refine callT_intro mixed Try.func35 rfl (by decide) (by decide +kernel) (by exact Nat.le_of_ble_eq_true rfl) ?_
  repeat' (first
    | (show evG _ _ _ _ _ _ _; first | refine G_lookup ?_ (hv := hlk))
    | (show evG _ _ _ _ _ _ _; first | refine G_add64 ?_ | refine G_sub64 ?_ | refine G_pure0 ?_ | refine G_load ?_ | refine evG_nil ?_ | refine G_br ?_ ?_ | refine G_field ?_ | refine G_pure ?_ | refine G_store ?_ | refine G_loadV ?_ | refine G_loadV0 ?_ | refine G_loadV2 ?_ | refine G_index ?_ | refine G_indexA ?_ | refine G_build ?_ | refine G_cat ?_ | (refine G_box ?_; intro _) | (refine G_indexV ?_; intro _ _ hA; subst hA))
    | (show spl _ _ _; first | refine spl_no rfl ?_ | refine spl_yes rfl ?_)
    | (show evC _ _ _ _ _; first | refine c_seq ?_ | refine c_region (by exact rfl) ?_ | refine c_cond (by exact rfl) ?_ | refine c_ret ?_ | refine c_skip ?_ | refine c_block ?_ | refine c_exit ?_ | (show evC _ (.region 4 _ true) _ _ _; refine c_drawB (bl := [0, 0, 0, 0, 0, 0, 16, 80, 240, 496, 0, 0, 1024, 5120, 15360, 31744, 65520, 131056, 262128, 0, 0, 524288, 2621440, 7864320, 16252928, 33030144, 1, 67108865, 234881011, 503316467, 4, 1073741828, 4294967295, 8589934591]) (br := [8589934591, 4294967295, 1073741828, 4, 503316467, 234881011, 67108865, 1, 33030144, 16252928, 7864320, 2621440, 524288, 0, 0, 262128, 131056, 65520, 31744, 15360, 5120, 1024, 0, 0, 496, 240, 80, 16, 0, 0, 0, 0, 0, 0]) (l := [(0, 0), (1, 0), (4, 0), (5, 0), (6, 0), (7, 0), (8, 0), (9, 0), (10, 0), (11, 0), (12, 0), (13, 0), (14, 0), (15, 0), (16, 0), (17, 0), (18, 0), (19, 0), (20, 0), (21, 0), (22, 0), (23, 0), (24, 0), (26, 0), (27, 0), (28, 0), (29, 1), (2, 1), (3, 1), (25, 1), (30, 1), (31, 1), (32, 0), (33, 1)]) (by decide +kernel) (by decide +kernel) (by decide +kernel) (by decide +kernel) (by exact rfl) ?_) | (show evC _ (.region 5 _ true) _ _ _; refine c_drawB (bl := [0, 0, 0, 0, 0, 0, 16, 80, 240, 496, 0, 0, 1024, 5120, 15360, 31744, 64512, 130048, 262128, 524272, 1048560, 0, 0, 2097152, 10485760, 31457280, 65011712, 132120576, 1, 268435457, 939524083, 2013265907, 4, 4294967300, 17179869183, 34359738367]) (br := [34359738367, 17179869183, 4294967300, 4, 2013265907, 939524083, 268435457, 1, 132120576, 65011712, 31457280, 10485760, 2097152, 0, 0, 1048560, 524272, 262128, 130048, 64512, 31744, 15360, 5120, 1024, 0, 0, 496, 240, 80, 16, 0, 0, 0, 0, 0, 0]) (l := [(0, 0), (1, 0), (4, 0), (5, 0), (6, 0), (7, 0), (8, 0), (9, 0), (10, 0), (11, 0), (12, 0), (13, 0), (14, 0), (15, 0), (16, 0), (17, 0), (18, 0), (19, 0), (20, 0), (21, 0), (22, 0), (23, 0), (24, 0), (25, 0), (26, 0), (28, 0), (29, 0), (30, 0), (31, 1), (2, 1), (3, 1), (27, 1), (32, 1), (33, 1), (34, 0), (35, 1)]) (by decide +kernel) (by decide +kernel) (by decide +kernel) (by decide +kernel) (by exact rfl) ?_) | refine std ?_)
    | (show Br _ _ _; first | refine Br.t rfl ?_ | refine Br.f rfl ?_ | refine brs ?_ | (first | refine Br.mkN (fun h => ?_) (fun h => ?_) | refine Br.mk (fun h => ?_) (fun h => ?_)) <;> (try (first | contradiction | (exfalso; omega) | (exfalso; simp at h; done))))
    | refine stp ?_
    | (show CallT _ 47 _ _ _; refine CA (h := wrongG_ok (by simp) (fun _ _ => ?_))))
  all_goals (show retC _ _ _ _ _ _; refine RETC ?_; exact ret_done (hK))
set_option maxHeartbeats 40000000 in
theorem gopenN1_ok {wo ws : St3} (hlk : lookV true (.pointer none) (mfind id (l.map enM) 0) = .tuple #[.pointer none, .bool false]) (hput : ∀ q y, mapPut id (.pointer (some ⟨q, 0, none⟩)) (l.map enM) ck = ((l ++ [En.mk id q ck y]).map enM, ck + 1)) (hl0 : s1.length ≤ 1000000) (hl2 : s0.length ≤ 1000000) (hl1 : s1 ≠ []) (ha : a1 < s0.length) (hwo : s0[((a1 : Nat) : Int).toNat]? = some wo) (hws : s1[(((s1.length : Nat) : Int) - 1).toNat]? = some ws) (hK : ∀ q, K (.tuple #[]) (pt x [.pointer (some ⟨i0, 0, none⟩), .pointer (some ⟨i1, 0, none⟩), .slice A0 s0.length k0, .slice A1 s1.length k1, .int .i64 (a0 : Nat), .int .i64 (a1 : Nat), .int .i64 c0, .int .i64 c1, .map (some m)] 55 :: row A0 k0 58 st3C s0 :: row A1 k1 58 st3C s1 :: mp m ((l ++ [En.mk id q ck ⟨ws.w, wo.w, 0, 0, s1.length, a1 + 1⟩]).map enM) (ck + 1) :: lnP q ⟨ws.w, wo.w, 0, 0, s1.length, a1 + 1⟩ :: R)) : CallT Try.prog 35 #[.pointer (some ⟨x, 0, none⟩), .int .i64 1, .int .i64 id] (pt x [.pointer (some ⟨i0, 0, none⟩), .pointer (some ⟨i1, 0, none⟩), .slice A0 s0.length k0, .slice A1 s1.length k1, .int .i64 (a0 : Nat), .int .i64 (a1 : Nat), .int .i64 c0, .int .i64 c1, .map (some m)] 55 :: row A0 k0 58 st3C s0 :: row A1 k1 58 st3C s1 :: mp m (l.map enM) ck :: R) K := by
  have hlp : 0 < s1.length := List.length_pos_iff.2 hl1
  refine callT_intro mixed Try.func35 rfl (by decide) (by decide +kernel) (by exact Nat.le_of_ble_eq_true rfl) ?_
  repeat' (first
    | (show evG _ _ _ _ _ _ _; first | refine G_lookup ?_ (hv := hlk))
    | (show evG _ _ _ _ _ _ _; refine G_mapUpdate ?_ (hv := hput _ ⟨ws.w, wo.w, 0, 0, s1.length, a1 + 1⟩))
    | (show evG _ _ _ _ _ _ _; first | refine G_add64 ?_ | refine G_sub64 ?_ | refine G_pure0 ?_ | refine G_load ?_ | refine evG_nil ?_ | refine G_br ?_ ?_ | refine G_field ?_ | refine G_pure ?_ | refine G_store ?_ | refine G_loadV ?_ | refine G_loadV0 ?_ | refine G_loadV2 ?_ | refine G_index ?_ | refine G_indexA ?_ | refine G_build ?_ | refine G_cat ?_ | (refine G_box ?_; intro _) | (refine G_indexV ?_; intro _ _ hA; subst hA))
    | (show spl _ _ _; first | refine spl_no rfl ?_ | refine spl_yes rfl ?_)
    | (show evC _ _ _ _ _; first | refine c_seq ?_ | refine c_region (by exact rfl) ?_ | refine c_cond (by exact rfl) ?_ | refine c_ret ?_ | refine c_skip ?_ | refine c_block ?_ | refine c_exit ?_ | (show evC _ (.region 4 _ true) _ _ _; refine c_drawB (bl := [0, 0, 0, 0, 0, 0, 16, 80, 240, 496, 0, 0, 1024, 5120, 15360, 31744, 65520, 131056, 262128, 0, 0, 524288, 2621440, 7864320, 16252928, 33030144, 1, 67108865, 234881011, 503316467, 4, 1073741828, 4294967295, 8589934591]) (br := [8589934591, 4294967295, 1073741828, 4, 503316467, 234881011, 67108865, 1, 33030144, 16252928, 7864320, 2621440, 524288, 0, 0, 262128, 131056, 65520, 31744, 15360, 5120, 1024, 0, 0, 496, 240, 80, 16, 0, 0, 0, 0, 0, 0]) (l := [(0, 0), (1, 0), (4, 0), (5, 0), (6, 0), (7, 0), (8, 0), (9, 0), (10, 0), (11, 0), (12, 0), (13, 0), (14, 0), (15, 0), (16, 0), (17, 0), (18, 0), (19, 0), (20, 0), (21, 0), (22, 0), (23, 0), (24, 0), (26, 0), (27, 0), (28, 0), (29, 1), (2, 1), (3, 1), (25, 1), (30, 1), (31, 1), (32, 0), (33, 1)]) (by decide +kernel) (by decide +kernel) (by decide +kernel) (by decide +kernel) (by exact rfl) ?_) | (show evC _ (.region 5 _ true) _ _ _; refine c_drawB (bl := [0, 0, 0, 0, 0, 0, 16, 80, 240, 496, 0, 0, 1024, 5120, 15360, 31744, 64512, 130048, 262128, 524272, 1048560, 0, 0, 2097152, 10485760, 31457280, 65011712, 132120576, 1, 268435457, 939524083, 2013265907, 4, 4294967300, 17179869183, 34359738367]) (br := [34359738367, 17179869183, 4294967300, 4, 2013265907, 939524083, 268435457, 1, 132120576, 65011712, 31457280, 10485760, 2097152, 0, 0, 1048560, 524272, 262128, 130048, 64512, 31744, 15360, 5120, 1024, 0, 0, 496, 240, 80, 16, 0, 0, 0, 0, 0, 0]) (l := [(0, 0), (1, 0), (4, 0), (5, 0), (6, 0), (7, 0), (8, 0), (9, 0), (10, 0), (11, 0), (12, 0), (13, 0), (14, 0), (15, 0), (16, 0), (17, 0), (18, 0), (19, 0), (20, 0), (21, 0), (22, 0), (23, 0), (24, 0), (25, 0), (26, 0), (28, 0), (29, 0), (30, 0), (31, 1), (2, 1), (3, 1), (27, 1), (32, 1), (33, 1), (34, 0), (35, 1)]) (by decide +kernel) (by decide +kernel) (by decide +kernel) (by decide +kernel) (by exact rfl) ?_) | refine std ?_)
    | (show Br _ _ _; first | refine Br.t rfl ?_ | refine Br.f rfl ?_ | refine brs ?_ | (first | refine Br.mkN (fun h => ?_) (fun h => ?_) | refine Br.mk (fun h => ?_) (fun h => ?_)) <;> (try (first | contradiction | (exfalso; omega) | (exfalso; simp at h; done))))
    | refine stp ?_)
  all_goals (show retC _ _ _ _ _ _; refine RETC ?_; exact ret_done (hK _))
end Go.Proofs.Ythoagholmkiknaa

