/- Queue: items that wait. Demand: a count and its limit. Ring: bytes in a circle: lemmas; each with the conditions that it states. -/
import Derived.Test.YtiofdmjecjcdbaaGreatDoorFh
import Derived.Test.YtiofdmjecjcdbaaGreatDoorB0
import Derived.Test.YtiofdmjecjcdbaaGreatDoorFg

namespace Go.Proofs.YtiofdmjecjcdbaaGreatDoor
open Go Go.Proofs Go.Sl
set_option maxRecDepth 100000
set_option maxHeartbeats 4000000
set_option linter.unusedSimpArgs false
set_option linter.unusedVariables false
attribute [local irreducible] evG evC spl thenC inBlockC noGotoC CallT retC RetG TurnG CutG pt ro exP star sep pureP
variable {R C : List HP} {K : Value → List HP → Prop}
def sxD : List Value → Option ByteArray
  | [.string s] => some s
  | _ => none
theorem sxD_ok (cs : List Value) (y : ByteArray) (h : sxD cs = some y) : [.string y] = cs := by
  unfold sxD at h
  split at h
  · cases h; rfl
  · cases h
def sxC : Cod ByteArray := { enc := fun s => [.string s], sz := 1, dec := sxD, len := fun _ => rfl, one := fun _ => rfl, ok := sxD_ok }
/-- a queue: capacity, strategy, items, counts -/
def quP (q : Nat) (cap st : Int) (l : List ByteArray) (ac tk dr : Int) : HP := exP fun A => exP fun c => sep (pt q [.int .i64 cap, .int .i64 st, .slice A l.length c, .int .i64 ac, .int .i64 tk, .int .i64 dr] 315) (row A c 9 sxC l)
theorem qu_fold {q n : Nat} {cap st ac tk dr : Int} {l : List ByteArray} {A : Option Addr} {c : Nat} (h : l.length = n) : Ent (pt q [.int .i64 cap, .int .i64 st, .slice A n c, .int .i64 ac, .int .i64 tk, .int .i64 dr] 315 :: row A c 9 sxC l :: R) (quP q cap st l ac tk dr :: R) := by
  subst h
  exact Ent.ex A (Ent.ex c (Ent.sep (Ent.refl _)))
theorem qunew_ok {cap st : Int} (h : 0 ≤ cap ∧ cap ≤ 64) (h2 : 0 ≤ st ∧ st ≤ 2) (hK : ∀ q, K (.tuple #[.pointer (some ⟨q, 0, none⟩), .int .i64 0]) (quP q cap st [] 0 0 0 :: R)) : CallT Tryz.prog 302 #[.int .i64 cap, .int .i64 st] R K := by
  refine callT_intro mixed Tryz.func302 rfl (by decide) (by decide +kernel) (by exact Nat.le_of_ble_eq_true rfl) ?_
  repeat' (first
    | (show evG _ _ _ _ _ _ _; first | refine G_pure0 ?_ | refine evG_nil ?_ | refine G_br ?_ ?_ | refine G_pure ?_ | refine G_build ?_ | (refine G_box ?_; intro _) | refine G_skip ?_ | refine G_skip0 ?_)
    | (show spl _ _ _; first | refine spl_no rfl ?_ | refine spl_yes rfl ?_)
    | (show evC _ _ _ _ _; first | refine c_seq ?_ | refine c_region (by exact rfl) ?_ | refine c_cond (by exact rfl) ?_ | refine c_ret ?_ | refine c_skip ?_ | refine c_block ?_ | refine c_exit ?_ | refine std ?_)
    | (show Br _ _ _; first | refine Br.t rfl ?_ | refine Br.f rfl ?_ | refine brs ?_ | (first | refine Br.mkN (fun h => ?_) (fun h => ?_) | refine Br.mk (fun h => ?_) (fun h => ?_)) <;> (try (first | contradiction | (exfalso; omega) | (exfalso; simp at h; done))))
    | refine stp ?_)
  refine RETC ?_
  exact ret_of (Ent.trans (Ent.pick Pick.here (Ent.nilrow' (Ent.refl _))) (qu_fold (A := none) (c := 0) (l := []) rfl)) (hK _)
theorem qunewX_ok {cap st : Int} (h : cap < 0 ∨ 64 < cap) (hK : K (.tuple #[.pointer none, .int .i64 3]) R) : CallT Tryz.prog 302 #[.int .i64 cap, .int .i64 st] R K := by
  refine callT_intro mixed Tryz.func302 rfl (by decide) (by decide +kernel) (by exact Nat.le_of_ble_eq_true rfl) ?_
  repeat' (first
    | (show evG _ _ _ _ _ _ _; first | refine G_pure0 ?_ | refine evG_nil ?_ | refine G_br ?_ ?_ | refine G_pure ?_ | refine G_build ?_ | (refine G_box ?_; intro _) | refine G_skip ?_ | refine G_skip0 ?_)
    | (show spl _ _ _; first | refine spl_no rfl ?_ | refine spl_yes rfl ?_)
    | (show evC _ _ _ _ _; first | refine c_seq ?_ | refine c_region (by exact rfl) ?_ | refine c_cond (by exact rfl) ?_ | refine c_ret ?_ | refine c_skip ?_ | refine c_block ?_ | refine c_exit ?_ | refine std ?_)
    | (show Br _ _ _; first | refine Br.t rfl ?_ | refine Br.f rfl ?_ | refine brs ?_ | (first | refine Br.mkN (fun h => ?_) (fun h => ?_) | refine Br.mk (fun h => ?_) (fun h => ?_)) <;> (try (first | contradiction | (exfalso; omega) | (exfalso; simp at h; done))))
    | refine stp ?_)
  all_goals (show retC _ _ _ _ _ _; refine RETC ?_; exact ret_done (hK))
theorem qunewY_ok {cap st : Int} (h : 0 ≤ cap ∧ cap ≤ 64) (h2 : st < 0 ∨ 2 < st) (hK : K (.tuple #[.pointer none, .int .i64 2]) R) : CallT Tryz.prog 302 #[.int .i64 cap, .int .i64 st] R K := by
  refine callT_intro mixed Tryz.func302 rfl (by decide) (by decide +kernel) (by exact Nat.le_of_ble_eq_true rfl) ?_
  repeat' (first
    | (show evG _ _ _ _ _ _ _; first | refine G_pure0 ?_ | refine evG_nil ?_ | refine G_br ?_ ?_ | refine G_pure ?_ | refine G_build ?_ | (refine G_box ?_; intro _) | refine G_skip ?_ | refine G_skip0 ?_)
    | (show spl _ _ _; first | refine spl_no rfl ?_ | refine spl_yes rfl ?_)
    | (show evC _ _ _ _ _; first | refine c_seq ?_ | refine c_region (by exact rfl) ?_ | refine c_cond (by exact rfl) ?_ | refine c_ret ?_ | refine c_skip ?_ | refine c_block ?_ | refine c_exit ?_ | refine std ?_)
    | (show Br _ _ _; first | refine Br.t rfl ?_ | refine Br.f rfl ?_ | refine brs ?_ | (first | refine Br.mkN (fun h => ?_) (fun h => ?_) | refine Br.mk (fun h => ?_) (fun h => ?_)) <;> (try (first | contradiction | (exfalso; omega) | (exfalso; simp at h; done))))
    | refine stp ?_)
  all_goals (show retC _ _ _ _ _ _; refine RETC ?_; exact ret_done (hK))
end Go.Proofs.YtiofdmjecjcdbaaGreatDoor


namespace Go.Proofs.YtiofdmjecjcdbaaGreatDoor
open Go Go.Proofs Go.Sl
set_option maxRecDepth 100000
set_option maxHeartbeats 4000000
set_option linter.unusedSimpArgs false
set_option linter.unusedVariables false
attribute [local irreducible] evG evC spl thenC inBlockC noGotoC CallT retC RetG TurnG CutG pt ro exP star sep pureP
variable {R C : List HP} {K : Value → List HP → Prop}
def demP (d : Nat) (m l : Int) : HP := pt d [.int .i64 m, .int .i64 l] 404
theorem dnew_ok {l : Int} (h : 1 ≤ l ∧ l ≤ 2147483647) (hK : ∀ d, K (.tuple #[.pointer (some ⟨d, 0, none⟩), .int .i64 0]) (demP d 0 l :: R)) : CallT Tryz.prog 303 #[.int .i64 l] R K := by
  refine callT_intro mixed Tryz.func303 rfl (by decide) (by decide +kernel) (by exact Nat.le_of_ble_eq_true rfl) ?_
  repeat' (first
    | (show evG _ _ _ _ _ _ _; first | refine G_pure0 ?_ | refine evG_nil ?_ | refine G_br ?_ ?_ | refine G_pure ?_ | refine G_build ?_ | (refine G_box ?_; intro _) | refine G_skip ?_ | refine G_skip0 ?_)
    | (show spl _ _ _; first | refine spl_no rfl ?_ | refine spl_yes rfl ?_)
    | (show evC _ _ _ _ _; first | refine c_seq ?_ | refine c_region (by exact rfl) ?_ | refine c_cond (by exact rfl) ?_ | refine c_ret ?_ | refine c_skip ?_ | refine c_block ?_ | refine c_exit ?_ | refine std ?_)
    | (show Br _ _ _; first | refine Br.t rfl ?_ | refine Br.f rfl ?_ | refine brs ?_ | (first | refine Br.mkN (fun h => ?_) (fun h => ?_) | refine Br.mk (fun h => ?_) (fun h => ?_)) <;> (try (first | contradiction | (exfalso; omega) | (exfalso; simp at h; done))))
    | refine stp ?_)
  all_goals (show retC _ _ _ _ _ _; refine RETC ?_; exact ret_done (hK _))
end Go.Proofs.YtiofdmjecjcdbaaGreatDoor


namespace Go.Proofs.YtiofdmjecjcdbaaGreatDoor
open Go Go.Proofs Go.Sl
set_option maxRecDepth 100000
set_option maxHeartbeats 4000000
set_option linter.unusedSimpArgs false
set_option linter.unusedVariables false
attribute [local irreducible] evG evC spl thenC inBlockC noGotoC CallT retC RetG TurnG CutG pt ro exP star sep pureP
variable {R C : List HP} {K : Value → List HP → Prop}
/-- how a ring's row holds its bytes -/
def RingI (cap fi : Nat) (buf bs : List UInt8) : Prop := buf.length = cap ∧ (fi < cap ∨ (cap = 0 ∧ fi = 0)) ∧ bs.length ≤ cap ∧ ∀ i, i < bs.length → bs[i]? = buf[(fi + i) % cap]?
def ringP (r cap : Nat) (bs : List UInt8) : HP := exP fun A => exP fun c => exP fun fi => exP fun buf => sep (pt r [.slice A cap c, .int .i64 (fi : Nat), .int .i64 bs.length] 313) (sep (row A c 5 byteC buf) (pureP (RingI cap fi buf bs)))
theorem ring_fold {r cap fi m : Nat} {bs buf : List UInt8} {A : Option Addr} {c : Nat} (h : RingI cap fi buf bs) (hm : bs.length = m) : Ent (pt r [.slice A cap c, .int .i64 fi, .int .i64 m] 313 :: row A c 5 byteC buf :: R) (ringP r cap bs :: R) := by
  subst hm
  exact Ent.ex A (Ent.ex c (Ent.ex fi (Ent.ex buf (Ent.sep (Ent.pick Pick.here (Ent.sep (Ent.pick Pick.here (Ent.pure h (Ent.refl _)))))))))
theorem ring_zero (cap : Nat) : RingI cap 0 (List.replicate cap 0) [] := ⟨by simp, by omega, by simp, fun i h => by simp at h⟩
theorem rnew_ok {cap : Nat} (h : cap ≤ 65536) (hK : ∀ r, K (.tuple #[.pointer (some ⟨r, 0, none⟩), .int .i64 0]) (ringP r cap [] :: R)) : CallT Tryz.prog 301 #[.int .i64 cap] R K := by
  refine callT_intro mixed Tryz.func301 rfl (by decide) (by decide +kernel) (by exact Nat.le_of_ble_eq_true rfl) ?_
  repeat' (first
    | (show evG _ _ _ _ _ _ _; first | refine G_pure0 ?_ | refine evG_nil ?_ | refine G_br ?_ ?_ | refine G_pure ?_ | refine G_build ?_ | (refine G_box ?_; intro _) | refine G_skip ?_ | refine G_skip0 ?_)
    | (show spl _ _ _; first | refine spl_no rfl ?_ | refine spl_yes rfl ?_)
    | (show evC _ _ _ _ _; first | refine c_seq ?_ | refine c_region (by exact rfl) ?_ | refine c_cond (by exact rfl) ?_ | refine c_ret ?_ | refine c_skip ?_ | refine c_block ?_ | refine c_exit ?_ | refine std ?_)
    | (show Br _ _ _; first | refine Br.t rfl ?_ | refine Br.f rfl ?_ | refine brs ?_ | (first | refine Br.mkN (fun h => ?_) (fun h => ?_) | refine Br.mk (fun h => ?_) (fun h => ?_)) <;> (try (first | contradiction | (exfalso; omega) | (exfalso; simp at h; done))))
    | refine stp ?_
    | (show evG _ _ _ _ _ _ _; refine G_makeBytes ?_; intro _))
  refine RETC ?_
  exact ret_of (Ent.trans (by exact entA) (ring_fold (ring_zero cap) rfl)) (hK _)
theorem rnewX_ok {n : Int} (h : n < 0 ∨ 65536 < n) (hK : K (.tuple #[.pointer none, .int .i64 3]) R) : CallT Tryz.prog 301 #[.int .i64 n] R K := by
  refine callT_intro mixed Tryz.func301 rfl (by decide) (by decide +kernel) (by exact Nat.le_of_ble_eq_true rfl) ?_
  repeat' (first
    | (show evG _ _ _ _ _ _ _; first | refine G_pure0 ?_ | refine evG_nil ?_ | refine G_br ?_ ?_ | refine G_pure ?_ | refine G_build ?_ | (refine G_box ?_; intro _) | refine G_skip ?_ | refine G_skip0 ?_)
    | (show spl _ _ _; first | refine spl_no rfl ?_ | refine spl_yes rfl ?_)
    | (show evC _ _ _ _ _; first | refine c_seq ?_ | refine c_region (by exact rfl) ?_ | refine c_cond (by exact rfl) ?_ | refine c_ret ?_ | refine c_skip ?_ | refine c_block ?_ | refine c_exit ?_ | refine std ?_)
    | (show Br _ _ _; first | refine Br.t rfl ?_ | refine Br.f rfl ?_ | refine brs ?_ | (first | refine Br.mkN (fun h => ?_) (fun h => ?_) | refine Br.mk (fun h => ?_) (fun h => ?_)) <;> (try (first | contradiction | (exfalso; omega) | (exfalso; simp at h; done))))
    | refine stp ?_)
  all_goals (show retC _ _ _ _ _ _; refine RETC ?_; exact ret_done (hK))
end Go.Proofs.YtiofdmjecjcdbaaGreatDoor

