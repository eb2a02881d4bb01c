/- Pace; settings. Rx: a nil receiver; of bytes. Rx: of items. Rx: every call of a receiver is answered as the document says: lemmas; each with the conditions that it states. -/
import Derived.Test.YtiofdmjecjcdbaaGreatDoorFh
import Derived.Test.YtiofdmjecjcdbaaGreatDoorQa
import Derived.Test.YtiofdmjecjcdbaaGreatDoorFg

namespace Go.Proofs.YtiofdmjecjcdbaaGreatDoor
open Go Go.Proofs Go.Sl
set_option maxRecDepth 100000
set_option maxHeartbeats 4000000
set_option linter.unusedSimpArgs false
set_option linter.unusedVariables false
attribute [local irreducible] evG evC spl thenC inBlockC noGotoC CallT retC RetG TurnG CutG pt ro exP star sep pureP
variable {R C : List HP} {K : Value → List HP → Prop}
def pcP (p : Nat) (cap most gr got us : Int) : HP := pt p [.int .i64 cap, .int .i64 most, .int .i64 gr, .int .i64 got, .int .i64 us] 287
theorem pcwithin_ok {n : Int} (hK : K (.bool (decide (0 ≤ n) && decide (n ≤ 2147483647))) R) : CallT Tryz.prog 160 #[.int .i64 n] R K := by
  refine callT_intro mixed Tryz.func160 rfl (by decide) (by decide +kernel) (by exact Nat.le_of_ble_eq_true rfl) ?_
  repeat' (first
    | (show evG _ _ _ _ _ _ _; first | refine G_pure0 ?_ | refine evG_nil ?_ | refine G_br ?_ ?_ | refine G_pure ?_ | refine G_skip ?_ | refine G_skip0 ?_)
    | (show spl _ _ _; first | refine spl_no rfl ?_ | refine spl_yes rfl ?_)
    | (show evC _ _ _ _ _; first | refine c_seq ?_ | refine c_region (by exact rfl) ?_ | refine c_cond (by exact rfl) ?_ | refine c_ret ?_ | refine c_skip ?_ | refine c_block ?_ | refine c_exit ?_ | refine std ?_)
    | (show Br _ _ _; first | refine Br.t rfl ?_ | refine Br.f rfl ?_ | refine brs ?_ | (first | refine Br.mkN (fun h => ?_) (fun h => ?_) | refine Br.mk (fun h => ?_) (fun h => ?_)) <;> (try (first | contradiction | (exfalso; omega) | (exfalso; simp at h; done))))
    | refine stp ?_)
  all_goals (show retC _ _ _ _ _ _; refine RETC ?_; exact ret_done (kb hK (by simp <;> omega)))
theorem pcnew_ok {n : Int} (h : 0 ≤ n ∧ n ≤ 4096) (hK : ∀ p, K (.tuple #[.pointer (some ⟨p, 0, none⟩), .int .i64 0]) (pcP p n n n 0 0 :: R)) : CallT Tryz.prog 116 #[.int .i64 n] R K := by
  have e : (decide (0 ≤ n) && decide (n ≤ 2147483647)) = true := by simp; omega
  refine callT_intro mixed Tryz.func116 rfl (by decide) (by decide +kernel) (by exact Nat.le_of_ble_eq_true rfl) ?_
  repeat' (first
    | (show spl _ _ _; rw [e])
    | (show evG _ _ _ _ _ _ _; first | refine G_pure0 ?_ | refine evG_nil ?_ | refine G_br ?_ ?_ | refine G_pure ?_ | refine G_not ?_ | refine G_build ?_ | refine G_call ?_ | refine G_call0 ?_ | (refine G_box ?_; intro _))
    | (show spl _ _ _; first | refine spl_no rfl ?_ | refine spl_yes rfl ?_)
    | (show evC _ _ _ _ _; first | refine c_seq ?_ | refine c_region (by exact rfl) ?_ | refine c_cond (by exact rfl) ?_ | refine c_ret ?_ | refine c_skip ?_ | refine c_block ?_ | refine c_exit ?_ | refine std ?_)
    | (show Br _ _ _; first | refine Br.t rfl ?_ | refine Br.f rfl ?_ | refine brs ?_ | (first | refine Br.mkN (fun h => ?_) (fun h => ?_) | refine Br.mk (fun h => ?_) (fun h => ?_)) <;> (try (first | contradiction | (exfalso; omega) | (exfalso; simp at h; done))))
    | refine stp ?_
    | (show CallT _ 160 _ _ _; refine CA (h := pcwithin_ok ?_)))
  (show retC _ _ _ _ _ _; refine RETC ?_; exact ret_done (hK _))
section
variable {p : Nat} {cap most gr got us : Int}
end
/-! settings -/
def chkS (w st it : Int) : Bool := decide (0 ≤ w ∧ w ≤ 4096 ∧ 0 ≤ st ∧ st ≤ 32 ∧ 0 ≤ it ∧ it ≤ 64)
theorem paramsin_ok {n m : Int} (hK : K (.bool (decide (0 ≤ n ∧ n ≤ m))) R) : CallT Tryz.prog 225 #[.int .i64 n, .int .i64 m] R K := by
  refine callT_intro mixed Tryz.func225 rfl (by decide) (by decide +kernel) (by exact Nat.le_of_ble_eq_true rfl) ?_
  repeat' (first
    | (show evG _ _ _ _ _ _ _; first | refine G_pure0 ?_ | refine evG_nil ?_ | refine G_br ?_ ?_ | refine G_pure ?_ | refine G_skip ?_ | refine G_skip0 ?_)
    | (show spl _ _ _; first | refine spl_no rfl ?_ | refine spl_yes rfl ?_)
    | (show evC _ _ _ _ _; first | refine c_seq ?_ | refine c_region (by exact rfl) ?_ | refine c_cond (by exact rfl) ?_ | refine c_ret ?_ | refine c_skip ?_ | refine c_block ?_ | refine c_exit ?_ | refine std ?_)
    | (show Br _ _ _; first | refine Br.t rfl ?_ | refine Br.f rfl ?_ | refine brs ?_ | (first | refine Br.mkN (fun h => ?_) (fun h => ?_) | refine Br.mk (fun h => ?_) (fun h => ?_)) <;> (try (first | contradiction | (exfalso; omega) | (exfalso; simp at h; done))))
    | refine stp ?_)
  all_goals (show retC _ _ _ _ _ _; refine RETC ?_; exact ret_done (kb hK (by simp <;> omega)))
theorem check_ok {w st it v : Int} (hv : (if chkS w st it = true then 0 else 3) = v) (hK : K (.int .i64 v) R) : CallT Tryz.prog 161 #[.agg #[.int .i64 w, .int .i64 st, .int .i64 it]] R K := by
  subst hv
  unfold chkS at hK
  refine callT_intro mixed Tryz.func161 rfl (by decide) (by decide +kernel) (by exact Nat.le_of_ble_eq_true rfl) ?_
  repeat' (first
    | (show evG _ _ _ _ _ _ _; first | refine G_pure0 ?_ | refine G_load ?_ | refine evG_nil ?_ | refine G_br ?_ ?_ | refine G_field ?_ | refine G_pure ?_ | refine G_loadV ?_ | refine G_loadV0 ?_ | refine G_loadV2 ?_ | refine G_not ?_ | refine G_call ?_ | refine G_call0 ?_ | (refine G_box ?_; intro _) | refine G_skip ?_ | refine G_skip0 ?_)
    | (show spl _ _ _; first | refine spl_no rfl ?_ | refine spl_yes rfl ?_)
    | (show evC _ _ _ _ _; first | refine c_seq ?_ | refine c_region (by exact rfl) ?_ | refine c_cond (by exact rfl) ?_ | refine c_ret ?_ | refine c_skip ?_ | refine c_block ?_ | refine c_exit ?_ | refine std ?_)
    | (show Br _ _ _; first | refine Br.t rfl ?_ | refine Br.f rfl ?_ | refine brs ?_ | (first | refine Br.mkN (fun h => ?_) (fun h => ?_) | refine Br.mk (fun h => ?_) (fun h => ?_)) <;> (try (first | contradiction | (exfalso; omega) | (exfalso; simp at h; done))))
    | refine stp ?_
    | (show CallT _ 225 _ _ _; refine CA (h := paramsin_ok ?_)))
  all_goals (show retC _ _ _ _ _ _; refine RETC ?_; exact ret_done (ki hK (by simp only [decide_eq_true_eq]; split <;> first | rfl | omega)))
end Go.Proofs.YtiofdmjecjcdbaaGreatDoor


namespace Go.Proofs.YtiofdmjecjcdbaaGreatDoor
open Go Go.Proofs Go.Sl
set_option maxRecDepth 100000
set_option maxHeartbeats 4000000
set_option linter.unusedSimpArgs false
set_option linter.unusedVariables false
attribute [local irreducible] evG evC spl thenC inBlockC noGotoC CallT retC RetG TurnG CutG pt ro exP star sep pureP
variable {R C : List HP} {K : Value → List HP → Prop}
/-! of bytes -/
def RB (cap most gr got us : Int) (bs : List UInt8) : Prop := got = us + bs.length ∧ 0 ≤ us ∧ cap ≤ gr ∧ gr - us ≤ cap ∧ 0 ≤ cap ∧ cap ≤ most ∧ most ≤ 4096 ∧ (bs.length : Int) ≤ most ∧ got ≤ 400000000
def rxB (r : Nat) (cap most gr got us : Int) (bs : List UInt8) (en : Bool) : HP := exP fun g => exP fun p => sep (pt r [.int .i64 1, .pointer (some ⟨g, 0, none⟩), .pointer (some ⟨p, 0, none⟩), .pointer none, .pointer none, .int .i64 0, .int .i64 0, .bool en] 249) (sep (ringP g 4096 bs) (sep (pcP p cap most gr got us) (pureP (RB cap most gr got us bs))))
section
variable {r : Nat} {cap most gr got us : Int} {bs : List UInt8} {en : Bool} {n : Int} {s : ByteArray}
theorem rxB_fold {g p : Nat} (h : RB cap most gr got us bs) : Ent (pt r [.int .i64 1, .pointer (some ⟨g, 0, none⟩), .pointer (some ⟨p, 0, none⟩), .pointer none, .pointer none, .int .i64 0, .int .i64 0, .bool en] 249 :: ringP g 4096 bs :: pcP p cap most gr got us :: R) (rxB r cap most gr got us bs en :: R) :=
  Ent.ex g (Ent.ex p (ent_fold4 h))
theorem rxnewB_ok {w st it : Int} (hs : chkS w st it = true) (hK : ∀ r, K (.tuple #[.pointer (some ⟨r, 0, none⟩), .int .i64 0]) (rxB r w w w 0 0 [] false :: R)) : CallT Tryz.prog 221 #[.int .i64 1, .agg #[.int .i64 w, .int .i64 st, .int .i64 it]] R K := by
  have hs2 := hs
  unfold chkS at hs2
  rw [decide_eq_true_eq] at hs2
  refine callT_intro mixed Tryz.func221 rfl (by decide) (by decide +kernel) (by exact Nat.le_of_ble_eq_true rfl) ?_
  repeat' (first
    | (show evG _ _ _ _ _ _ _; first | refine G_pure0 ?_ | refine G_load ?_ | refine evG_nil ?_ | refine G_br ?_ ?_ | refine G_field ?_ | refine G_pure ?_ | refine G_store ?_ | refine G_loadV ?_ | refine G_loadV0 ?_ | refine G_loadV2 ?_ | refine G_build ?_ | refine G_eql_agg ?_ | refine G_neq_agg ?_ | refine G_call ?_ | refine G_call0 ?_ | (refine G_box ?_; intro _) | refine G_skip ?_ | refine G_skip0 ?_)
    | (show spl _ _ _; first | refine spl_no rfl ?_ | refine spl_yes rfl ?_)
    | (show evC _ _ _ _ _; first | refine c_seq ?_ | refine c_region (by exact rfl) ?_ | refine c_cond (by exact rfl) ?_ | refine c_ret ?_ | refine c_skip ?_ | refine c_block ?_ | refine c_exit ?_ | refine std ?_)
    | (show Br _ _ _; first | refine Br.t rfl ?_ | refine Br.f rfl ?_ | refine brs ?_ | (first | refine Br.mkN (fun h => ?_) (fun h => ?_) | refine Br.mk (fun h => ?_) (fun h => ?_)) <;> (try (first | contradiction | (exfalso; omega) | (exfalso; simp at h; done))))
    | refine stp ?_
    | (show CallT _ 161 _ _ _; refine CA (h := check_ok (v := 0) (by rw [if_pos hs]) ?_))
    | (show CallT _ 301 _ _ _; refine CA (h := rnew_ok (cap := 4096) (by omega) (fun g => ?_)))
    | (show CallT _ 116 _ _ _; refine CA (h := pcnew_ok (by omega) (fun p => ?_))))
  (show retC _ _ _ _ _ _; refine RETC ?_; exact ret_of (Ent.trans (by exact entA) ((rxB_fold ⟨by simp, by omega, by omega, by omega, by omega, by omega, by omega, by simp; omega, by omega⟩))) (hK _))
theorem rxnewY_ok {k w st it : Int} (h : k = 1 ∨ k = 2) (hs : chkS w st it = false) (hK : K (.tuple #[.pointer none, .int .i64 3]) R) : CallT Tryz.prog 221 #[.int .i64 k, .agg #[.int .i64 w, .int .i64 st, .int .i64 it]] R K := by
  refine callT_intro mixed Tryz.func221 rfl (by decide) (by decide +kernel) (by exact Nat.le_of_ble_eq_true rfl) ?_
  repeat' (first
    | (show evG _ _ _ _ _ _ _; first | refine G_pure0 ?_ | refine G_load ?_ | refine evG_nil ?_ | refine G_br ?_ ?_ | refine G_field ?_ | refine G_pure ?_ | refine G_store ?_ | refine G_loadV ?_ | refine G_loadV0 ?_ | refine G_loadV2 ?_ | refine G_build ?_ | refine G_eql_agg ?_ | refine G_neq_agg ?_ | refine G_call ?_ | refine G_call0 ?_ | (refine G_box ?_; intro _) | refine G_skip ?_ | refine G_skip0 ?_)
    | (show spl _ _ _; first | refine spl_no rfl ?_ | refine spl_yes rfl ?_)
    | (show evC _ _ _ _ _; first | refine c_seq ?_ | refine c_region (by exact rfl) ?_ | refine c_cond (by exact rfl) ?_ | refine c_ret ?_ | refine c_skip ?_ | refine c_block ?_ | refine c_exit ?_ | refine std ?_)
    | (show Br _ _ _; first | refine Br.t rfl ?_ | refine Br.f rfl ?_ | refine brs ?_ | (first | refine Br.mkN (fun h => ?_) (fun h => ?_) | refine Br.mk (fun h => ?_) (fun h => ?_)) <;> (try (first | contradiction | (exfalso; omega) | (exfalso; simp at h; done))))
    | refine stp ?_
    | (show CallT _ 161 _ _ _; refine CA (h := check_ok (v := 3) (by rw [hs]; rfl) ?_)))
  all_goals (show retC _ _ _ _ _ _; refine RETC ?_; exact ret_done (hK))
end
end Go.Proofs.YtiofdmjecjcdbaaGreatDoor


namespace Go.Proofs.YtiofdmjecjcdbaaGreatDoor
open Go Go.Proofs Go.Sl
set_option maxRecDepth 100000
set_option maxHeartbeats 4000000
set_option linter.unusedSimpArgs false
set_option linter.unusedVariables false
attribute [local irreducible] evG evC spl thenC inBlockC noGotoC CallT retC RetG TurnG CutG pt ro exP star sep pureP
variable {R C : List HP} {K : Value → List HP → Prop}
/-- mr: the greatest room that it had -/
def RI (mr room open_ ask : Int) (l : List ByteArray) (ac tk dr : Int) : Prop := ac = tk + dr + l.length ∧ 0 ≤ tk ∧ 0 ≤ dr ∧ ac ≤ 400000000 ∧ 0 ≤ open_ ∧ open_ + l.length ≤ mr ∧ 0 ≤ room ∧ room ≤ mr ∧ mr ≤ 64 ∧ 0 ≤ ask ∧ ask ≤ 2147483647
def rxI (r : Nat) (mr room open_ ask : Int) (l : List ByteArray) (ac tk dr : Int) (en : Bool) : HP := exP fun q => exP fun d => sep (pt r [.int .i64 2, .pointer none, .pointer none, .pointer (some ⟨q, 0, none⟩), .pointer (some ⟨d, 0, none⟩), .int .i64 room, .int .i64 open_, .bool en] 249) (sep (quP q 64 0 l ac tk dr) (sep (demP d ask 2147483647) (pureP (RI mr room open_ ask l ac tk dr))))
section
variable {r : Nat} {mr room open_ ask ac tk dr : Int} {l : List ByteArray} {en : Bool} {n : Int} {s : ByteArray}
theorem rxI_fold {q d : Nat} (h : RI mr room open_ ask l ac tk dr) : Ent (pt r [.int .i64 2, .pointer none, .pointer none, .pointer (some ⟨q, 0, none⟩), .pointer (some ⟨d, 0, none⟩), .int .i64 room, .int .i64 open_, .bool en] 249 :: quP q 64 0 l ac tk dr :: demP d ask 2147483647 :: R) (rxI r mr room open_ ask l ac tk dr en :: R) :=
  Ent.ex q (Ent.ex d (ent_fold4 h))
theorem rxnewI_ok {w st it : Int} (hs : chkS w st it = true) (hK : ∀ r, K (.tuple #[.pointer (some ⟨r, 0, none⟩), .int .i64 0]) (rxI r it it 0 0 [] 0 0 0 false :: R)) : CallT Tryz.prog 221 #[.int .i64 2, .agg #[.int .i64 w, .int .i64 st, .int .i64 it]] R K := by
  have hs2 := hs
  unfold chkS at hs2
  rw [decide_eq_true_eq] at hs2
  refine callT_intro mixed Tryz.func221 rfl (by decide) (by decide +kernel) (by exact Nat.le_of_ble_eq_true rfl) ?_
  repeat' (first
    | (show evG _ _ _ _ _ _ _; first | refine G_pure0 ?_ | refine G_load ?_ | refine evG_nil ?_ | refine G_br ?_ ?_ | refine G_field ?_ | refine G_pure ?_ | refine G_store ?_ | refine G_loadV ?_ | refine G_loadV0 ?_ | refine G_loadV2 ?_ | refine G_build ?_ | refine G_eql_agg ?_ | refine G_neq_agg ?_ | refine G_call ?_ | refine G_call0 ?_ | (refine G_box ?_; intro _) | refine G_skip ?_ | refine G_skip0 ?_)
    | (show spl _ _ _; first | refine spl_no rfl ?_ | refine spl_yes rfl ?_)
    | (show evC _ _ _ _ _; first | refine c_seq ?_ | refine c_region (by exact rfl) ?_ | refine c_cond (by exact rfl) ?_ | refine c_ret ?_ | refine c_skip ?_ | refine c_block ?_ | refine c_exit ?_ | refine std ?_)
    | (show Br _ _ _; first | refine Br.t rfl ?_ | refine Br.f rfl ?_ | refine brs ?_ | (first | refine Br.mkN (fun h => ?_) (fun h => ?_) | refine Br.mk (fun h => ?_) (fun h => ?_)) <;> (try (first | contradiction | (exfalso; omega) | (exfalso; simp at h; done))))
    | refine stp ?_
    | (show CallT _ 161 _ _ _; refine CA (h := check_ok (v := 0) (by rw [if_pos hs]) ?_))
    | (show CallT _ 302 _ _ _; refine CA (h := qunew_ok (by omega) (by omega) (fun q => ?_)))
    | (show CallT _ 303 _ _ _; refine CA (h := dnew_ok (by omega) (fun d => ?_))))
  (show retC _ _ _ _ _ _; refine RETC ?_; exact ret_of (Ent.trans (by exact entA) ((rxI_fold ⟨by simp, by omega, by omega, by omega, by omega, by simp; omega, by omega, by omega, by omega, by omega, by omega⟩))) (hK _))
end
end Go.Proofs.YtiofdmjecjcdbaaGreatDoor


namespace Go.Proofs.YtiofdmjecjcdbaaGreatDoor
open Go Go.Proofs Go.Sl
set_option maxRecDepth 100000
set_option maxHeartbeats 4000000
set_option linter.unusedSimpArgs false
set_option linter.unusedVariables false
attribute [local irreducible] evG evC spl thenC inBlockC noGotoC CallT retC RetG TurnG CutG pt ro exP star sep pureP
variable {R C : List HP} {K : Value → List HP → Prop}
structure RA where
  k : Int
  m : Int
  s : ByteArray
  w : Int
  st : Int
  it : Int
section
variable {r x p n c : Nat} {A : Option Addr} {cap most gr got us mr room ask open_ a1 t1 d1 k m w st it v : Int} {bs : List UInt8} {l : List ByteArray} {en : Bool} {s : ByteArray}
end
section
variable {A : Option Addr} {n c : Nat} {ls : List RA} {kd w st it : Int}
end
end Go.Proofs.YtiofdmjecjcdbaaGreatDoor

