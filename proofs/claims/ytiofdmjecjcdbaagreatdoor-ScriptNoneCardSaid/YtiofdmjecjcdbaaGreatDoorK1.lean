/- Frame: its small functions: lemmas; each with the conditions that it states. -/
import Derived.Test.YtiofdmjecjcdbaaGreatDoorFh
import Derived.Test.YtiofdmjecjcdbaaGreatDoorHz
import Derived.Test.YtiofdmjecjcdbaaGreatDoorFe

namespace Go.Proofs.YtiofdmjecjcdbaaGreatDoor
open Go Go.Proofs Go.Sl
set_option maxRecDepth 100000
set_option maxHeartbeats 4000000
set_option linter.unusedSimpArgs false
set_option linter.unusedVariables false
attribute [local irreducible] evG evC spl thenC inBlockC noGotoC CallT retC RetG TurnG CutG pt ro exP star sep pureP
variable {R C : List HP} {K : Value → List HP → Prop}
structure Pr where
  i : Int
  v : Int
def prD : List Value → Option Pr
  | [.int .i64 i, .int .i64 v] => some ⟨i, v⟩
  | _ => none
theorem prD_ok (cs : List Value) (y : Pr) (h : prD cs = some y) : [.int .i64 y.i, .int .i64 y.v] = cs := by
  unfold prD at h
  split at h
  · cases h; rfl
  · cases h
def prC : Cod Pr := { enc := fun p => [.int .i64 p.i, .int .i64 p.v], sz := 2, dec := prD, len := fun _ => rfl, one := fun _ => rfl, ok := prD_ok }
/-- a frame: its settings are what its row holds -/
structure Fm where
  t : Int
  st : Int
  e : Bool
  d : ByteArray
  k : Int
  on : Int
  w : Int
  x : Bool
  c : Int
  la : Int
  n : Int
  pa : Option Addr
  pn : Nat
  pc : Nat
  ps : List Pr
theorem fwith_ok {n l h : Int} (hK : K (.bool (decide (l ≤ n) && decide (n ≤ h))) R) : CallT Tryz.prog 306 #[.int .i64 n, .int .i64 l, .int .i64 h] R K := by
  refine callT_intro mixed Tryz.func306 rfl (by decide) (by decide +kernel) (by exact Nat.le_of_ble_eq_true rfl) ?_
  repeat' (first
    | (show evG _ _ _ _ _ _ _; first | refine G_pure0 ?_ | refine evG_nil ?_ | refine G_br ?_ ?_ | refine G_pure ?_ | refine G_skip ?_ | refine G_skip0 ?_)
    | (show spl _ _ _; first | refine spl_no rfl ?_ | refine spl_yes rfl ?_)
    | (show evC _ _ _ _ _; first | refine c_seq ?_ | refine c_region (by exact rfl) ?_ | refine c_cond (by exact rfl) ?_ | refine c_ret ?_ | refine c_skip ?_ | refine c_block ?_ | refine c_exit ?_ | refine std ?_)
    | (show Br _ _ _; first | refine Br.t rfl ?_ | refine Br.f rfl ?_ | refine brs ?_ | (first | refine Br.mkN (fun h => ?_) (fun h => ?_) | refine Br.mk (fun h => ?_) (fun h => ?_)) <;> (try (first | contradiction | (exfalso; omega) | (exfalso; simp at h; done))))
    | refine stp ?_)
  all_goals (show retC _ _ _ _ _ _; refine RETC ?_; exact ret_done (kb hK (by simp <;> omega)))
def n31 (n : Int) : Bool := decide (0 ≤ n) && decide (n ≤ 2147483647)
theorem fnum_ok {n : Int} (hK : K (.bool (n31 n)) R) : CallT Tryz.prog 230 #[.int .i64 n] R K := by
  refine callT_intro mixed Tryz.func230 rfl (by decide) (by decide +kernel) (by exact Nat.le_of_ble_eq_true rfl) ?_
  repeat' (first
    | (show evG _ _ _ _ _ _ _; first | refine G_pure0 ?_ | refine evG_nil ?_ | refine G_br ?_ ?_ | refine G_pure ?_ | refine G_call ?_ | refine G_call0 ?_)
    | (show spl _ _ _; first | refine spl_no rfl ?_ | refine spl_yes rfl ?_)
    | (show evC _ _ _ _ _; first | refine c_seq ?_ | refine c_region (by exact rfl) ?_ | refine c_cond (by exact rfl) ?_ | refine c_ret ?_ | refine c_skip ?_ | refine c_block ?_ | refine c_exit ?_ | refine std ?_)
    | (show Br _ _ _; first | refine Br.t rfl ?_ | refine Br.f rfl ?_ | refine brs ?_ | (first | refine Br.mkN (fun h => ?_) (fun h => ?_) | refine Br.mk (fun h => ?_) (fun h => ?_)) <;> (try (first | contradiction | (exfalso; omega) | (exfalso; simp at h; done))))
    | refine stp ?_
    | (show CallT _ 306 _ _ _; refine CA (h := fwith_ok ?_)))
  (show retC _ _ _ _ _ _; refine RETC ?_; exact ret_done (hK))
def depB (on w : Int) : Bool := n31 on && (decide (1 ≤ w) && decide (w ≤ 256))
theorem n31_iff (n : Int) : n31 n = true ↔ (0 ≤ n ∧ n ≤ 2147483647) := by unfold n31; simp
theorem fdep_ok {on w : Int} {x : Bool} (hK : K (.bool (depB on w)) R) : CallT Tryz.prog 309 #[.agg #[.int .i64 on, .int .i64 w, .bool x]] R K := by
  refine callT_intro mixed Tryz.func309 rfl (by decide) (by decide +kernel) (by exact Nat.le_of_ble_eq_true rfl) ?_
  repeat' (first
    | (show evG _ _ _ _ _ _ _; first | refine G_pure0 ?_ | refine G_load ?_ | refine evG_nil ?_ | refine G_br ?_ ?_ | refine G_field ?_ | refine G_pure ?_ | refine G_loadV ?_ | refine G_loadV0 ?_ | refine G_loadV2 ?_ | refine G_call ?_ | refine G_call0 ?_ | (refine G_box ?_; intro _) | refine G_skip ?_ | refine G_skip0 ?_)
    | (show spl _ _ _; first | refine spl_no rfl ?_ | refine spl_yes rfl ?_)
    | (show evC _ _ _ _ _; first | refine c_seq ?_ | refine c_region (by exact rfl) ?_ | refine c_cond (by exact rfl) ?_ | refine c_ret ?_ | refine c_skip ?_ | refine c_block ?_ | refine c_exit ?_ | refine std ?_)
    | (show Br _ _ _; first | refine Br.t rfl ?_ | refine Br.f rfl ?_ | refine brs ?_ | (first | refine Br.mkN (fun h => ?_) (fun h => ?_) | refine Br.mk (fun h => ?_) (fun h => ?_)) <;> (try (first | contradiction | (exfalso; omega) | (exfalso; simp at h; done))))
    | refine stp ?_
    | (show CallT _ 306 _ _ _; refine CA (h := fwith_ok ?_))
    | (show CallT _ 230 _ _ _; refine CA (h := fnum_ok ?_)))
  all_goals (show retC _ _ _ _ _ _; refine RETC ?_; exact ret_done (kb hK (by unfold depB; simp [*])))
def noneB (on w : Int) (x : Bool) : Bool := decide (on = 0) && decide (w = 0) && !x
/-- the same settings -/
def peq : List Pr → List Pr → Bool
  | [], [] => true
  | a :: l, b :: m => (a.i == b.i && a.v == b.v) && peq l m
  | _, _ => false
theorem peq_self : ∀ l : List Pr, peq l l = true
  | [] => rfl
  | a :: l => by simp [peq, peq_self l]
theorem peq_len : ∀ {l m : List Pr}, peq l m = true → l.length = m.length
  | [], [], _ => rfl
  | a :: l, b :: m, h => by
    simp only [peq, Bool.and_eq_true] at h
    simp [peq_len h.2]
  | [], _ :: _, h => by cases h
  | _ :: _, [], h => by cases h
theorem peq_nil (l : List Pr) : peq l [] = decide (l.length = 0) := by cases l <;> simp [peq]
theorem equal_ok {A B : Option Addr} {n n' c c' : Nat} {xs ys : List Pr} (hv : View C A prC xs) (hw : View C B prC ys) (hn : xs.length = n) (hn' : ys.length = n') (hn2 : n < 1000000000000000) (hK : K (.bool (peq xs ys)) C) : CallT Tryz.prog 308 #[.slice A n c, .slice B n' c'] C K := by
  by_cases hnn : n = n'
  · subst hnn
    refine callT_intro mixed Tryz.func308 rfl (by decide) (by decide +kernel) (by exact Nat.le_of_ble_eq_true rfl) ?_
    repeat' (first
      | (show evG _ _ _ _ _ _ _; first | refine G_add64 ?_ | refine G_pure0 ?_ | refine G_load ?_ | refine evG_nil ?_ | refine G_br ?_ ?_ | refine G_pure ?_ | refine G_loadV ?_ | refine G_loadV0 ?_ | refine G_loadV2 ?_ | refine G_index ?_ | refine G_indexA ?_ | refine G_cat ?_ | refine G_neq_agg ?_ | (refine G_indexV ?_; intro _ _ hA; subst hA))
      | (show spl _ _ _; first | refine spl_no rfl ?_ | refine spl_yes rfl ?_)
      | (show evC _ _ _ _ _; first | refine c_seq ?_ | refine c_region (by exact rfl) ?_ | refine c_cond (by exact rfl) ?_ | refine c_ret ?_ | refine c_skip ?_ | refine c_block ?_ | refine c_exit ?_ | (show evC _ (.region 6 _ true) _ _ _; refine c_draw (l := [(0, 0), (1, 0), (2, 0), (3, 0), (4, 0), (5, 0), (6, 0), (7, 0), (8, 0)]) (by decide +kernel) (by decide +kernel) (by exact rfl) ?_) | refine std ?_)
      | (show Br _ _ _; first | refine Br.t rfl ?_ | refine Br.f rfl ?_ | refine brs ?_ | (first | refine Br.mkN (fun h => ?_) (fun h => ?_) | refine Br.mk (fun h => ?_) (fun h => ?_)) <;> (try (first | contradiction | (exfalso; omega) | (exfalso; simp at h; done))))
      | refine stp ?_)
    refine LOOP (fun m a C' => ∃ j : Nat, j + m = n ∧ C' = C ∧ peq xs ys = peq (xs.drop j) (ys.drop j) ∧ Agree a [(0, .slice A n c), (1, .slice B n c'), (12, .int .i64 n), (13, .int .i64 j)]) n (turn n ⟨0, by omega, rfl, rfl, rfl, rfl, rfl, rfl, trivial⟩) ?_
    rintro n1 a C' ⟨j, hj, rfl, hp, ha⟩
    refine c_fr _ ha ?_
    simp only [updL]
    by_cases hlt : j < n
    · obtain ⟨x, hx, hd⟩ := at_drop (l := xs) (j := j) (by omega)
      obtain ⟨y, hy, hd'⟩ := at_drop (l := ys) (j := j) (by omega)
      rw [hd, hd', peq] at hp
      by_cases hxy : x.i = y.i ∧ x.v = y.v
      · have e1 : (x.i == y.i) = true := by simpa using hxy.1
        have e2 : (x.v == y.v) = true := by simpa using hxy.2
        rw [e1, e2, Bool.and_self, Bool.true_and] at hp
        repeat' (first
          | (show evG _ _ _ _ _ _ _; first | refine G_add64 ?_ | refine G_pure0 ?_ | refine G_load ?_ | refine evG_nil ?_ | refine G_br ?_ ?_ | refine G_pure ?_ | refine G_loadV ?_ | refine G_loadV0 ?_ | refine G_loadV2 ?_ | refine G_index ?_ | refine G_indexA ?_ | refine G_cat ?_ | refine G_neq_agg ?_ | (refine G_indexV ?_; intro _ _ hA; subst hA))
          | (show spl _ _ _; first | refine spl_no rfl ?_ | refine spl_yes rfl ?_)
          | (show evC _ _ _ _ _; first | refine c_seq ?_ | refine c_region (by exact rfl) ?_ | refine c_cond (by exact rfl) ?_ | refine c_ret ?_ | refine c_skip ?_ | refine c_block ?_ | refine c_exit ?_ | (show evC _ (.region 6 _ true) _ _ _; refine c_draw (l := [(0, 0), (1, 0), (2, 0), (3, 0), (4, 0), (5, 0), (6, 0), (7, 0), (8, 0)]) (by decide +kernel) (by decide +kernel) (by exact rfl) ?_) | refine std ?_)
          | (show Br _ _ _; first | refine Br.t rfl ?_ | refine Br.f rfl ?_ | refine brs ?_ | (first | refine Br.mkN (fun h => ?_) (fun h => ?_) | refine Br.mk (fun h => ?_) (fun h => ?_)) <;> (try (first | contradiction | (exfalso; omega) | (exfalso; simp at h; done))))
          | refine stp ?_)
        exact turn (n1 - 1) ⟨j + 1, by omega, rfl, hp, rfl, rfl, rfl, rfl, trivial⟩
      · have e1 : (x.i == y.i && x.v == y.v) = false := by
          rw [Bool.and_eq_false_iff]; simp; omega
        rw [e1, Bool.false_and] at hp
        rw [hp] at hK
        repeat' (first
          | (show evG _ _ _ _ _ _ _; first | refine G_add64 ?_ | refine G_pure0 ?_ | refine G_load ?_ | refine evG_nil ?_ | refine G_br ?_ ?_ | refine G_pure ?_ | refine G_loadV ?_ | refine G_loadV0 ?_ | refine G_loadV2 ?_ | refine G_index ?_ | refine G_indexA ?_ | refine G_cat ?_ | refine G_neq_agg ?_ | (refine G_indexV ?_; intro _ _ hA; subst hA))
          | (show spl _ _ _; first | refine spl_no rfl ?_ | refine spl_yes rfl ?_)
          | (show evC _ _ _ _ _; first | refine c_seq ?_ | refine c_region (by exact rfl) ?_ | refine c_cond (by exact rfl) ?_ | refine c_ret ?_ | refine c_skip ?_ | refine c_block ?_ | refine c_exit ?_ | (show evC _ (.region 6 _ true) _ _ _; refine c_draw (l := [(0, 0), (1, 0), (2, 0), (3, 0), (4, 0), (5, 0), (6, 0), (7, 0), (8, 0)]) (by decide +kernel) (by decide +kernel) (by exact rfl) ?_) | refine std ?_)
          | (show Br _ _ _; first | refine Br.t rfl ?_ | refine Br.f rfl ?_ | refine brs ?_ | (first | refine Br.mkN (fun h => ?_) (fun h => ?_) | refine Br.mk (fun h => ?_) (fun h => ?_)) <;> (try (first | contradiction | (exfalso; omega) | (exfalso; simp at h; done))))
          | refine stp ?_)
        (show retC _ _ _ _ _ _; refine RETC ?_; exact ret_done (hK))
    · obtain rfl : j = n := by omega
      rw [List.drop_eq_nil_of_le (by omega), List.drop_eq_nil_of_le (by omega), peq] at hp
      rw [hp] at hK
      repeat' (first
        | (show evG _ _ _ _ _ _ _; first | refine G_add64 ?_ | refine G_pure0 ?_ | refine G_load ?_ | refine evG_nil ?_ | refine G_br ?_ ?_ | refine G_pure ?_ | refine G_loadV ?_ | refine G_loadV0 ?_ | refine G_loadV2 ?_ | refine G_index ?_ | refine G_indexA ?_ | refine G_cat ?_ | refine G_neq_agg ?_ | (refine G_indexV ?_; intro _ _ hA; subst hA))
        | (show spl _ _ _; first | refine spl_no rfl ?_ | refine spl_yes rfl ?_)
        | (show evC _ _ _ _ _; first | refine c_seq ?_ | refine c_region (by exact rfl) ?_ | refine c_cond (by exact rfl) ?_ | refine c_ret ?_ | refine c_skip ?_ | refine c_block ?_ | refine c_exit ?_ | (show evC _ (.region 6 _ true) _ _ _; refine c_draw (l := [(0, 0), (1, 0), (2, 0), (3, 0), (4, 0), (5, 0), (6, 0), (7, 0), (8, 0)]) (by decide +kernel) (by decide +kernel) (by exact rfl) ?_) | refine std ?_)
        | (show Br _ _ _; first | refine Br.t rfl ?_ | refine Br.f rfl ?_ | refine brs ?_ | (first | refine Br.mkN (fun h => ?_) (fun h => ?_) | refine Br.mk (fun h => ?_) (fun h => ?_)) <;> (try (first | contradiction | (exfalso; omega) | (exfalso; simp at h; done))))
        | refine stp ?_)
      (show retC _ _ _ _ _ _; refine RETC ?_; exact ret_done (hK))
  · have e : peq xs ys = false := by
      cases h : peq xs ys
      · rfl
      · have := peq_len h; omega
    rw [e] at hK
    refine callT_intro mixed Tryz.func308 rfl (by decide) (by decide +kernel) (by exact Nat.le_of_ble_eq_true rfl) ?_
    repeat' (first
      | (show evG _ _ _ _ _ _ _; first | refine G_add64 ?_ | refine G_pure0 ?_ | refine G_load ?_ | refine evG_nil ?_ | refine G_br ?_ ?_ | refine G_pure ?_ | refine G_loadV ?_ | refine G_loadV0 ?_ | refine G_loadV2 ?_ | refine G_index ?_ | refine G_indexA ?_ | refine G_cat ?_ | refine G_neq_agg ?_ | (refine G_indexV ?_; intro _ _ hA; subst hA))
      | (show spl _ _ _; first | refine spl_no rfl ?_ | refine spl_yes rfl ?_)
      | (show evC _ _ _ _ _; first | refine c_seq ?_ | refine c_region (by exact rfl) ?_ | refine c_cond (by exact rfl) ?_ | refine c_ret ?_ | refine c_skip ?_ | refine c_block ?_ | refine c_exit ?_ | (show evC _ (.region 6 _ true) _ _ _; refine c_draw (l := [(0, 0), (1, 0), (2, 0), (3, 0), (4, 0), (5, 0), (6, 0), (7, 0), (8, 0)]) (by decide +kernel) (by decide +kernel) (by exact rfl) ?_) | refine std ?_)
      | (show Br _ _ _; first | refine Br.t rfl ?_ | refine Br.f rfl ?_ | refine brs ?_ | (first | refine Br.mkN (fun h => ?_) (fun h => ?_) | refine Br.mk (fun h => ?_) (fun h => ?_)) <;> (try (first | contradiction | (exfalso; omega) | (exfalso; simp at h; done))))
      | refine stp ?_)
    all_goals (show retC _ _ _ _ _ _; refine RETC ?_; exact ret_done (hK))
end Go.Proofs.YtiofdmjecjcdbaaGreatDoor

