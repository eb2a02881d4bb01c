/- Tx of bytes. Tx of items. Stream: new ones; the same frames; what must come at any rate; a nil stream. Stream: of items; streams that may not be: lemmas; each with the conditions that it states. -/
import Derived.Test.YtiofdmjecjcdbaaGreatDoorFh
import Derived.Test.YtiofdmjecjcdbaaGreatDoorQa
import Derived.Test.YtiofdmjecjcdbaaGreatDoorFg
import Derived.Test.YtiofdmjecjcdbaaGreatDoorWa

namespace Go.Proofs.YtiofdmjecjcdbaaGreatDoor
open Go Go.Proofs Go.Sl
set_option maxRecDepth 100000
set_option maxHeartbeats 4000000
set_option linter.unusedSimpArgs false
set_option linter.unusedVariables false
attribute [local irreducible] evG evC spl thenC inBlockC noGotoC CallT retC RetG TurnG CutG pt ro exP star sep pureP
variable {R C : List HP} {K : Value → List HP → Prop}
def TB (cap : Nat) (bs : List UInt8) (en ou : Bool) (ac se dr : Int) : Prop := ac = se + dr + bs.length ∧ 0 ≤ se ∧ 0 ≤ dr ∧ ac ≤ 900000000 ∧ bs.length ≤ cap ∧ cap ≤ 4096 ∧ (ou = true → en = true ∧ bs = [])
def txB (t cap : Nat) (bs : List UInt8) (en ou : Bool) (ac se dr : Int) : HP := exP fun r => sep (pt t [.int .i64 ac, .int .i64 se, .int .i64 dr, .int .i64 1, .pointer (some ⟨r, 0, none⟩), .pointer none, .pointer none, .bool en, .bool ou] 247) (sep (ringP r cap bs) (pureP (TB cap bs en ou ac se dr)))
theorem txB_fold {t cap r : Nat} {bs : List UInt8} {en ou : Bool} {ac se dr : Int} (h : TB cap bs en ou ac se dr) : Ent (pt t [.int .i64 ac, .int .i64 se, .int .i64 dr, .int .i64 1, .pointer (some ⟨r, 0, none⟩), .pointer none, .pointer none, .bool en, .bool ou] 247 :: ringP r cap bs :: R) (txB t cap bs en ou ac se dr :: R) :=
  Ent.ex r (Ent.sep (Ent.pick Pick.here (Ent.sep (Ent.pick Pick.here (Ent.pure h (Ent.refl _))))))
/-! what may be asked of a nil sender -/
/-! of bytes -/
theorem txnewB_ok {cap : Nat} {st : Int} (h : cap ≤ 4096) (hK : ∀ t, K (.tuple #[.pointer (some ⟨t, 0, none⟩), .int .i64 0]) (txB t cap [] false false 0 0 0 :: R)) : CallT Tryz.prog 220 #[.int .i64 1, .int .i64 cap, .int .i64 st] R K := by
  refine callT_intro mixed Tryz.func220 rfl (by decide) (by decide +kernel) (by exact Nat.le_of_ble_eq_true rfl) ?_
  repeat' (first
    | (show evG _ _ _ _ _ _ _; first | refine G_pure0 ?_ | refine evG_nil ?_ | refine G_br ?_ ?_ | refine G_field ?_ | refine G_pure ?_ | refine G_store ?_ | refine G_build ?_ | refine G_eql_agg ?_ | refine G_neq_agg ?_ | refine G_call ?_ | refine G_call0 ?_ | (refine G_box ?_; intro _))
    | (show spl _ _ _; first | refine spl_no rfl ?_ | refine spl_yes rfl ?_)
    | (show evC _ _ _ _ _; first | refine c_seq ?_ | refine c_region (by exact rfl) ?_ | refine c_cond (by exact rfl) ?_ | refine c_ret ?_ | refine c_skip ?_ | refine c_block ?_ | refine c_exit ?_ | refine std ?_)
    | (show Br _ _ _; first | refine Br.t rfl ?_ | refine Br.f rfl ?_ | refine brs ?_ | (first | refine Br.mkN (fun h => ?_) (fun h => ?_) | refine Br.mk (fun h => ?_) (fun h => ?_)) <;> (try (first | contradiction | (exfalso; omega) | (exfalso; simp at h; done))))
    | refine stp ?_
    | (show CallT _ 301 _ _ _; refine CA (h := rnew_ok (by omega) (fun r => ?_))))
  (show retC _ _ _ _ _ _; refine RETC ?_; exact ret_of (Ent.trans (by exact entA) ((txB_fold ⟨by simp, by omega, by omega, by omega, by simp, by omega, by simp⟩))) (hK _))
theorem txnewBX_ok {cap st : Int} (h : cap < 0 ∨ 4096 < cap) (hK : K (.tuple #[.pointer none, .int .i64 3]) R) : CallT Tryz.prog 220 #[.int .i64 1, .int .i64 cap, .int .i64 st] R K := by
  refine callT_intro mixed Tryz.func220 rfl (by decide) (by decide +kernel) (by exact Nat.le_of_ble_eq_true rfl) ?_
  repeat' (first
    | (show evG _ _ _ _ _ _ _; first | refine G_pure0 ?_ | refine evG_nil ?_ | refine G_br ?_ ?_ | refine G_field ?_ | refine G_pure ?_ | refine G_store ?_ | refine G_build ?_ | refine G_eql_agg ?_ | refine G_neq_agg ?_ | refine G_call ?_ | refine G_call0 ?_ | (refine G_box ?_; intro _))
    | (show spl _ _ _; first | refine spl_no rfl ?_ | refine spl_yes rfl ?_)
    | (show evC _ _ _ _ _; first | refine c_seq ?_ | refine c_region (by exact rfl) ?_ | refine c_cond (by exact rfl) ?_ | refine c_ret ?_ | refine c_skip ?_ | refine c_block ?_ | refine c_exit ?_ | refine std ?_)
    | (show Br _ _ _; first | refine Br.t rfl ?_ | refine Br.f rfl ?_ | refine brs ?_ | (first | refine Br.mkN (fun h => ?_) (fun h => ?_) | refine Br.mk (fun h => ?_) (fun h => ?_)) <;> (try (first | contradiction | (exfalso; omega) | (exfalso; simp at h; done))))
    | refine stp ?_
    | (show CallT _ 301 _ _ _; refine CA (h := rnewX_ok (by omega) ?_)))
  all_goals (show retC _ _ _ _ _ _; refine RETC ?_; exact ret_done (hK))
end Go.Proofs.YtiofdmjecjcdbaaGreatDoor


namespace Go.Proofs.YtiofdmjecjcdbaaGreatDoor
open Go Go.Proofs Go.Sl
set_option maxRecDepth 100000
set_option maxHeartbeats 4000000
set_option linter.unusedSimpArgs false
set_option linter.unusedVariables false
attribute [local irreducible] evG evC spl thenC inBlockC noGotoC CallT retC RetG TurnG CutG pt ro exP star sep pureP
variable {R C : List HP} {K : Value → List HP → Prop}
def TI (cap : Nat) (st : Int) (l : List ByteArray) (w : Int) (en ou : Bool) (ac se dr : Int) : Prop := ac = se + dr + l.length ∧ 0 ≤ se ∧ 0 ≤ dr ∧ ac ≤ 900000000 ∧ l.length ≤ cap ∧ cap ≤ 64 ∧ (0 ≤ w ∧ w ≤ 2147483647) ∧ (0 ≤ st ∧ st ≤ 2) ∧ (ou = true → en = true ∧ l = [])
def txI (t cap : Nat) (st : Int) (l : List ByteArray) (w : Int) (en ou : Bool) (ac se dr : Int) : HP := exP fun q => exP fun d => sep (pt t [.int .i64 ac, .int .i64 se, .int .i64 dr, .int .i64 2, .pointer none, .pointer (some ⟨q, 0, none⟩), .pointer (some ⟨d, 0, none⟩), .bool en, .bool ou] 247) (sep (quP q cap st l ac se dr) (sep (demP d w 2147483647) (pureP (TI cap st l w en ou ac se dr))))
theorem txI_fold {t cap q d : Nat} {st : Int} {l : List ByteArray} {w : Int} {en ou : Bool} {ac se dr : Int} (h : TI cap st l w en ou ac se dr) : Ent (pt t [.int .i64 ac, .int .i64 se, .int .i64 dr, .int .i64 2, .pointer none, .pointer (some ⟨q, 0, none⟩), .pointer (some ⟨d, 0, none⟩), .bool en, .bool ou] 247 :: quP q cap st l ac se dr :: demP d w 2147483647 :: R) (txI t cap st l w en ou ac se dr :: R) :=
  Ent.ex q (Ent.ex d (ent_fold4 h))
theorem txnewI_ok {cap : Nat} {st : Int} (h : cap ≤ 64) (hs : 0 ≤ st ∧ st ≤ 2) (hK : ∀ t, K (.tuple #[.pointer (some ⟨t, 0, none⟩), .int .i64 0]) (txI t cap st [] 0 false false 0 0 0 :: R)) : CallT Tryz.prog 220 #[.int .i64 2, .int .i64 cap, .int .i64 st] R K := by
  refine callT_intro mixed Tryz.func220 rfl (by decide) (by decide +kernel) (by exact Nat.le_of_ble_eq_true rfl) ?_
  repeat' (first
    | (show evG _ _ _ _ _ _ _; first | refine G_pure0 ?_ | refine evG_nil ?_ | refine G_br ?_ ?_ | refine G_field ?_ | refine G_pure ?_ | refine G_store ?_ | refine G_build ?_ | refine G_eql_agg ?_ | refine G_neq_agg ?_ | refine G_call ?_ | refine G_call0 ?_ | (refine G_box ?_; intro _))
    | (show spl _ _ _; first | refine spl_no rfl ?_ | refine spl_yes rfl ?_)
    | (show evC _ _ _ _ _; first | refine c_seq ?_ | refine c_region (by exact rfl) ?_ | refine c_cond (by exact rfl) ?_ | refine c_ret ?_ | refine c_skip ?_ | refine c_block ?_ | refine c_exit ?_ | refine std ?_)
    | (show Br _ _ _; first | refine Br.t rfl ?_ | refine Br.f rfl ?_ | refine brs ?_ | (first | refine Br.mkN (fun h => ?_) (fun h => ?_) | refine Br.mk (fun h => ?_) (fun h => ?_)) <;> (try (first | contradiction | (exfalso; omega) | (exfalso; simp at h; done))))
    | refine stp ?_
    | (show CallT _ 302 _ _ _; refine CA (h := qunew_ok (by omega) (by omega) (fun q => ?_)))
    | (show CallT _ 303 _ _ _; refine CA (h := dnew_ok (by omega) (fun d => ?_))))
  (show retC _ _ _ _ _ _; refine RETC ?_; exact ret_of (Ent.trans (by exact entA) ((txI_fold ⟨by simp, by omega, by omega, by omega, by simp, h, by omega, hs, by simp⟩))) (hK _))
theorem txnewIX_ok {cap st : Int} (h : cap < 0 ∨ 64 < cap) (hK : K (.tuple #[.pointer none, .int .i64 3]) R) : CallT Tryz.prog 220 #[.int .i64 2, .int .i64 cap, .int .i64 st] R K := by
  refine callT_intro mixed Tryz.func220 rfl (by decide) (by decide +kernel) (by exact Nat.le_of_ble_eq_true rfl) ?_
  repeat' (first
    | (show evG _ _ _ _ _ _ _; first | refine G_pure0 ?_ | refine evG_nil ?_ | refine G_br ?_ ?_ | refine G_field ?_ | refine G_pure ?_ | refine G_store ?_ | refine G_build ?_ | refine G_eql_agg ?_ | refine G_neq_agg ?_ | refine G_call ?_ | refine G_call0 ?_ | (refine G_box ?_; intro _))
    | (show spl _ _ _; first | refine spl_no rfl ?_ | refine spl_yes rfl ?_)
    | (show evC _ _ _ _ _; first | refine c_seq ?_ | refine c_region (by exact rfl) ?_ | refine c_cond (by exact rfl) ?_ | refine c_ret ?_ | refine c_skip ?_ | refine c_block ?_ | refine c_exit ?_ | refine std ?_)
    | (show Br _ _ _; first | refine Br.t rfl ?_ | refine Br.f rfl ?_ | refine brs ?_ | (first | refine Br.mkN (fun h => ?_) (fun h => ?_) | refine Br.mk (fun h => ?_) (fun h => ?_)) <;> (try (first | contradiction | (exfalso; omega) | (exfalso; simp at h; done))))
    | refine stp ?_
    | (show CallT _ 302 _ _ _; refine CA (h := qunewX_ok (by omega) ?_))
    | (show CallT _ 303 _ _ _; refine CA (h := dnew_ok (by omega) (fun d => ?_))))
  all_goals (show retC _ _ _ _ _ _; refine RETC ?_; exact ret_done (hK))
theorem txnewIY_ok {cap st : Int} (h : 0 ≤ cap ∧ cap ≤ 64) (h2 : st < 0 ∨ 2 < st) (hK : K (.tuple #[.pointer none, .int .i64 2]) R) : CallT Tryz.prog 220 #[.int .i64 2, .int .i64 cap, .int .i64 st] R K := by
  refine callT_intro mixed Tryz.func220 rfl (by decide) (by decide +kernel) (by exact Nat.le_of_ble_eq_true rfl) ?_
  repeat' (first
    | (show evG _ _ _ _ _ _ _; first | refine G_pure0 ?_ | refine evG_nil ?_ | refine G_br ?_ ?_ | refine G_field ?_ | refine G_pure ?_ | refine G_store ?_ | refine G_build ?_ | refine G_eql_agg ?_ | refine G_neq_agg ?_ | refine G_call ?_ | refine G_call0 ?_ | (refine G_box ?_; intro _))
    | (show spl _ _ _; first | refine spl_no rfl ?_ | refine spl_yes rfl ?_)
    | (show evC _ _ _ _ _; first | refine c_seq ?_ | refine c_region (by exact rfl) ?_ | refine c_cond (by exact rfl) ?_ | refine c_ret ?_ | refine c_skip ?_ | refine c_block ?_ | refine c_exit ?_ | refine std ?_)
    | (show Br _ _ _; first | refine Br.t rfl ?_ | refine Br.f rfl ?_ | refine brs ?_ | (first | refine Br.mkN (fun h => ?_) (fun h => ?_) | refine Br.mk (fun h => ?_) (fun h => ?_)) <;> (try (first | contradiction | (exfalso; omega) | (exfalso; simp at h; done))))
    | refine stp ?_
    | (show CallT _ 302 _ _ _; refine CA (h := qunewY_ok h (by omega) ?_))
    | (show CallT _ 303 _ _ _; refine CA (h := dnew_ok (by omega) (fun d => ?_))))
  all_goals (show retC _ _ _ _ _ _; refine RETC ?_; exact ret_done (hK))
section
variable {t cap : Nat} {st : Int} {l : List ByteArray} {w : Int} {en ou : Bool} {ac se dr : Int}
/-! offers: ended, too big, refused, kept, dropped, the first one out -/
end
end Go.Proofs.YtiofdmjecjcdbaaGreatDoor


namespace Go.Proofs.YtiofdmjecjcdbaaGreatDoor
open Go Go.Proofs Go.Sl
set_option maxRecDepth 100000
set_option maxHeartbeats 4000000
set_option linter.unusedSimpArgs false
set_option linter.unusedVariables false
attribute [local irreducible] evG evC spl thenC inBlockC noGotoC CallT retC RetG TurnG CutG pt ro exP star sep pureP
variable {R C : List HP} {K : Value → List HP → Prop}
section
variable {t st k on w c la n : Int} {e x : Bool} {d : ByteArray}
end
section
variable {id w st it sb si stg ev wa stl : Int} {own : Bool} {cap : Nat}
theorem snewB_ok (hid : 1 ≤ id ∧ id ≤ 2147483647) (hcap : cap ≤ 4096) (hs : chkS w st it = true) (hK : ∀ s li t r, K (.tuple #[.pointer (some ⟨s, 0, none⟩), .int .i64 0]) (pt s [.pointer (some ⟨li, 0, none⟩), .pointer (some ⟨t, 0, none⟩), .pointer (some ⟨r, 0, none⟩), .int .i64 id, .bool own] 242 :: liP li 1 :: txB t cap [] false false 0 0 0 :: rxB r w w w 0 0 [] false :: R)) : CallT Tryz.prog 157 #[.int .i64 id, .int .i64 1, .bool own, .agg #[.int .i64 w, .int .i64 st, .int .i64 it, .int .i64 cap, .int .i64 si, .int .i64 stg, .int .i64 ev, .int .i64 wa, .int .i64 stl]] R K := by
  cases own
  · refine callT_intro mixed Tryz.func157 rfl (by decide) (by decide +kernel) (by exact Nat.le_of_ble_eq_true rfl) ?_
    repeat' (first
      | (show evG _ _ _ _ _ _ _; first | refine G_pure0 ?_ | refine G_load ?_ | refine evG_nil ?_ | refine G_br ?_ ?_ | refine G_field ?_ | refine G_pure ?_ | refine G_loadV ?_ | refine G_loadV0 ?_ | refine G_loadV2 ?_ | refine G_build ?_ | refine G_eql_agg ?_ | refine G_neq_agg ?_ | refine G_call ?_ | refine G_call0 ?_ | (refine G_box ?_; intro _) | refine G_skip ?_ | refine G_skip0 ?_)
      | (show spl _ _ _; first | refine spl_no rfl ?_ | refine spl_yes rfl ?_)
      | (show evC _ _ _ _ _; first | refine c_seq ?_ | refine c_region (by exact rfl) ?_ | refine c_cond (by exact rfl) ?_ | refine c_ret ?_ | refine c_skip ?_ | refine c_block ?_ | refine c_exit ?_ | refine std ?_)
      | (show Br _ _ _; first | refine Br.t rfl ?_ | refine Br.f rfl ?_ | refine brs ?_ | (first | refine Br.mkN (fun h => ?_) (fun h => ?_) | refine Br.mk (fun h => ?_) (fun h => ?_)) <;> (try (first | contradiction | (exfalso; omega) | (exfalso; simp at h; done))))
      | refine stp ?_
      | (show CallT _ 220 _ _ _; refine CA (h := txnewB_ok hcap (fun t => ?_)))
      | (show CallT _ 221 _ _ _; refine CA (h := rxnewB_ok hs (fun r => ?_)))
      | (show CallT _ 222 _ _ _; refine CA (h := lnew_ok (fun li => ?_)))
      | (show CallT _ 223 _ _ _; refine CA (h := levent_ok (v := 1) (by omega) (by omega) rfl (by omega) ?_)))
    (show retC _ _ _ _ _ _; refine RETC ?_; exact ret_done (hK _ _ _ _))
  · refine callT_intro mixed Tryz.func157 rfl (by decide) (by decide +kernel) (by exact Nat.le_of_ble_eq_true rfl) ?_
    repeat' (first
      | (show evG _ _ _ _ _ _ _; first | refine G_pure0 ?_ | refine G_load ?_ | refine evG_nil ?_ | refine G_br ?_ ?_ | refine G_field ?_ | refine G_pure ?_ | refine G_loadV ?_ | refine G_loadV0 ?_ | refine G_loadV2 ?_ | refine G_build ?_ | refine G_eql_agg ?_ | refine G_neq_agg ?_ | refine G_call ?_ | refine G_call0 ?_ | (refine G_box ?_; intro _) | refine G_skip ?_ | refine G_skip0 ?_)
      | (show spl _ _ _; first | refine spl_no rfl ?_ | refine spl_yes rfl ?_)
      | (show evC _ _ _ _ _; first | refine c_seq ?_ | refine c_region (by exact rfl) ?_ | refine c_cond (by exact rfl) ?_ | refine c_ret ?_ | refine c_skip ?_ | refine c_block ?_ | refine c_exit ?_ | refine std ?_)
      | (show Br _ _ _; first | refine Br.t rfl ?_ | refine Br.f rfl ?_ | refine brs ?_ | (first | refine Br.mkN (fun h => ?_) (fun h => ?_) | refine Br.mk (fun h => ?_) (fun h => ?_)) <;> (try (first | contradiction | (exfalso; omega) | (exfalso; simp at h; done))))
      | refine stp ?_
      | (show CallT _ 220 _ _ _; refine CA (h := txnewB_ok hcap (fun t => ?_)))
      | (show CallT _ 221 _ _ _; refine CA (h := rxnewB_ok hs (fun r => ?_)))
      | (show CallT _ 222 _ _ _; refine CA (h := lnew_ok (fun li => ?_)))
      | (show CallT _ 223 _ _ _; refine CA (h := levent_ok (v := 1) (by omega) (by omega) rfl (by omega) ?_)))
    (show retC _ _ _ _ _ _; refine RETC ?_; exact ret_done (hK _ _ _ _))
end
section
variable {t st k on w c la n : Int} {e x : Bool} {d : ByteArray} {pa : Option Addr} {pn pc : Nat}
end
end Go.Proofs.YtiofdmjecjcdbaaGreatDoor


namespace Go.Proofs.YtiofdmjecjcdbaaGreatDoor
open Go Go.Proofs Go.Sl
set_option maxRecDepth 100000
set_option maxHeartbeats 4000000
set_option linter.unusedSimpArgs false
set_option linter.unusedVariables false
attribute [local irreducible] evG evC spl thenC inBlockC noGotoC CallT retC RetG TurnG CutG pt ro exP star sep pureP
variable {R C : List HP} {K : Value → List HP → Prop}
variable {id k w st it sb si stg ev wa stl : Int} {own : Bool} {cap : Nat}
theorem snewI_ok (hid : 1 ≤ id ∧ id ≤ 2147483647) (hcap : cap ≤ 64) (hst : 0 ≤ stg ∧ stg ≤ 2) (hs : chkS w st it = true) (hK : ∀ s li t r, K (.tuple #[.pointer (some ⟨s, 0, none⟩), .int .i64 0]) (pt s [.pointer (some ⟨li, 0, none⟩), .pointer (some ⟨t, 0, none⟩), .pointer (some ⟨r, 0, none⟩), .int .i64 id, .bool own] 242 :: liP li 1 :: txI t cap stg [] 0 false false 0 0 0 :: rxI r it it 0 0 [] 0 0 0 false :: R)) : CallT Tryz.prog 157 #[.int .i64 id, .int .i64 2, .bool own, .agg #[.int .i64 w, .int .i64 st, .int .i64 it, .int .i64 sb, .int .i64 cap, .int .i64 stg, .int .i64 ev, .int .i64 wa, .int .i64 stl]] R K := by
  cases own
  · refine callT_intro mixed Tryz.func157 rfl (by decide) (by decide +kernel) (by exact Nat.le_of_ble_eq_true rfl) ?_
    repeat' (first
      | (show evG _ _ _ _ _ _ _; first | refine G_pure0 ?_ | refine G_load ?_ | refine evG_nil ?_ | refine G_br ?_ ?_ | refine G_field ?_ | refine G_pure ?_ | refine G_loadV ?_ | refine G_loadV0 ?_ | refine G_loadV2 ?_ | refine G_build ?_ | refine G_eql_agg ?_ | refine G_neq_agg ?_ | refine G_call ?_ | refine G_call0 ?_ | (refine G_box ?_; intro _) | refine G_skip ?_ | refine G_skip0 ?_)
      | (show spl _ _ _; first | refine spl_no rfl ?_ | refine spl_yes rfl ?_)
      | (show evC _ _ _ _ _; first | refine c_seq ?_ | refine c_region (by exact rfl) ?_ | refine c_cond (by exact rfl) ?_ | refine c_ret ?_ | refine c_skip ?_ | refine c_block ?_ | refine c_exit ?_ | refine std ?_)
      | (show Br _ _ _; first | refine Br.t rfl ?_ | refine Br.f rfl ?_ | refine brs ?_ | (first | refine Br.mkN (fun h => ?_) (fun h => ?_) | refine Br.mk (fun h => ?_) (fun h => ?_)) <;> (try (first | contradiction | (exfalso; omega) | (exfalso; simp at h; done))))
      | refine stp ?_
      | (show CallT _ 220 _ _ _; refine CA (h := txnewI_ok hcap hst (fun t => ?_)))
      | (show CallT _ 221 _ _ _; refine CA (h := rxnewI_ok hs (fun r => ?_)))
      | (show CallT _ 222 _ _ _; refine CA (h := lnew_ok (fun li => ?_)))
      | (show CallT _ 223 _ _ _; refine CA (h := levent_ok (v := 1) (by omega) (by omega) rfl (by omega) ?_)))
    (show retC _ _ _ _ _ _; refine RETC ?_; exact ret_done (hK _ _ _ _))
  · refine callT_intro mixed Tryz.func157 rfl (by decide) (by decide +kernel) (by exact Nat.le_of_ble_eq_true rfl) ?_
    repeat' (first
      | (show evG _ _ _ _ _ _ _; first | refine G_pure0 ?_ | refine G_load ?_ | refine evG_nil ?_ | refine G_br ?_ ?_ | refine G_field ?_ | refine G_pure ?_ | refine G_loadV ?_ | refine G_loadV0 ?_ | refine G_loadV2 ?_ | refine G_build ?_ | refine G_eql_agg ?_ | refine G_neq_agg ?_ | refine G_call ?_ | refine G_call0 ?_ | (refine G_box ?_; intro _) | refine G_skip ?_ | refine G_skip0 ?_)
      | (show spl _ _ _; first | refine spl_no rfl ?_ | refine spl_yes rfl ?_)
      | (show evC _ _ _ _ _; first | refine c_seq ?_ | refine c_region (by exact rfl) ?_ | refine c_cond (by exact rfl) ?_ | refine c_ret ?_ | refine c_skip ?_ | refine c_block ?_ | refine c_exit ?_ | refine std ?_)
      | (show Br _ _ _; first | refine Br.t rfl ?_ | refine Br.f rfl ?_ | refine brs ?_ | (first | refine Br.mkN (fun h => ?_) (fun h => ?_) | refine Br.mk (fun h => ?_) (fun h => ?_)) <;> (try (first | contradiction | (exfalso; omega) | (exfalso; simp at h; done))))
      | refine stp ?_
      | (show CallT _ 220 _ _ _; refine CA (h := txnewI_ok hcap hst (fun t => ?_)))
      | (show CallT _ 221 _ _ _; refine CA (h := rxnewI_ok hs (fun r => ?_)))
      | (show CallT _ 222 _ _ _; refine CA (h := lnew_ok (fun li => ?_)))
      | (show CallT _ 223 _ _ _; refine CA (h := levent_ok (v := 1) (by omega) (by omega) rfl (by omega) ?_)))
    (show retC _ _ _ _ _ _; refine RETC ?_; exact ret_done (hK _ _ _ _))
theorem snewBX_ok (hid : 1 ≤ id ∧ id ≤ 2147483647) (hx : sb < 0 ∨ 4096 < sb) (hK : K (.tuple #[.pointer none, .int .i64 3]) R) : CallT Tryz.prog 157 #[.int .i64 id, .int .i64 1, .bool own, .agg #[.int .i64 w, .int .i64 st, .int .i64 it, .int .i64 sb, .int .i64 si, .int .i64 stg, .int .i64 ev, .int .i64 wa, .int .i64 stl]] R K := by
  refine callT_intro mixed Tryz.func157 rfl (by decide) (by decide +kernel) (by exact Nat.le_of_ble_eq_true rfl) ?_
  repeat' (first
    | (show evG _ _ _ _ _ _ _; first | refine G_pure0 ?_ | refine G_load ?_ | refine evG_nil ?_ | refine G_br ?_ ?_ | refine G_field ?_ | refine G_pure ?_ | refine G_loadV ?_ | refine G_loadV0 ?_ | refine G_loadV2 ?_ | refine G_build ?_ | refine G_eql_agg ?_ | refine G_neq_agg ?_ | refine G_call ?_ | refine G_call0 ?_ | (refine G_box ?_; intro _) | refine G_skip ?_ | refine G_skip0 ?_)
    | (show spl _ _ _; first | refine spl_no rfl ?_ | refine spl_yes rfl ?_)
    | (show evC _ _ _ _ _; first | refine c_seq ?_ | refine c_region (by exact rfl) ?_ | refine c_cond (by exact rfl) ?_ | refine c_ret ?_ | refine c_skip ?_ | refine c_block ?_ | refine c_exit ?_ | refine std ?_)
    | (show Br _ _ _; first | refine Br.t rfl ?_ | refine Br.f rfl ?_ | refine brs ?_ | (first | refine Br.mkN (fun h => ?_) (fun h => ?_) | refine Br.mk (fun h => ?_) (fun h => ?_)) <;> (try (first | contradiction | (exfalso; omega) | (exfalso; simp at h; done))))
    | refine stp ?_
    | (show CallT _ 220 _ _ _; refine CA (h := txnewBX_ok hx ?_)))
  all_goals (show retC _ _ _ _ _ _; refine RETC ?_; exact ret_done (hK))
theorem snewIX_ok (hid : 1 ≤ id ∧ id ≤ 2147483647) (hx : si < 0 ∨ 64 < si) (hK : K (.tuple #[.pointer none, .int .i64 3]) R) : CallT Tryz.prog 157 #[.int .i64 id, .int .i64 2, .bool own, .agg #[.int .i64 w, .int .i64 st, .int .i64 it, .int .i64 sb, .int .i64 si, .int .i64 stg, .int .i64 ev, .int .i64 wa, .int .i64 stl]] R K := by
  refine callT_intro mixed Tryz.func157 rfl (by decide) (by decide +kernel) (by exact Nat.le_of_ble_eq_true rfl) ?_
  repeat' (first
    | (show evG _ _ _ _ _ _ _; first | refine G_pure0 ?_ | refine G_load ?_ | refine evG_nil ?_ | refine G_br ?_ ?_ | refine G_field ?_ | refine G_pure ?_ | refine G_loadV ?_ | refine G_loadV0 ?_ | refine G_loadV2 ?_ | refine G_build ?_ | refine G_eql_agg ?_ | refine G_neq_agg ?_ | refine G_call ?_ | refine G_call0 ?_ | (refine G_box ?_; intro _) | refine G_skip ?_ | refine G_skip0 ?_)
    | (show spl _ _ _; first | refine spl_no rfl ?_ | refine spl_yes rfl ?_)
    | (show evC _ _ _ _ _; first | refine c_seq ?_ | refine c_region (by exact rfl) ?_ | refine c_cond (by exact rfl) ?_ | refine c_ret ?_ | refine c_skip ?_ | refine c_block ?_ | refine c_exit ?_ | refine std ?_)
    | (show Br _ _ _; first | refine Br.t rfl ?_ | refine Br.f rfl ?_ | refine brs ?_ | (first | refine Br.mkN (fun h => ?_) (fun h => ?_) | refine Br.mk (fun h => ?_) (fun h => ?_)) <;> (try (first | contradiction | (exfalso; omega) | (exfalso; simp at h; done))))
    | refine stp ?_
    | (show CallT _ 220 _ _ _; refine CA (h := txnewIX_ok hx ?_)))
  all_goals (show retC _ _ _ _ _ _; refine RETC ?_; exact ret_done (hK))
theorem snewIY_ok (hid : 1 ≤ id ∧ id ≤ 2147483647) (hx : 0 ≤ si ∧ si ≤ 64) (h2 : stg < 0 ∨ 2 < stg) (hK : K (.tuple #[.pointer none, .int .i64 2]) R) : CallT Tryz.prog 157 #[.int .i64 id, .int .i64 2, .bool own, .agg #[.int .i64 w, .int .i64 st, .int .i64 it, .int .i64 sb, .int .i64 si, .int .i64 stg, .int .i64 ev, .int .i64 wa, .int .i64 stl]] R K := by
  refine callT_intro mixed Tryz.func157 rfl (by decide) (by decide +kernel) (by exact Nat.le_of_ble_eq_true rfl) ?_
  repeat' (first
    | (show evG _ _ _ _ _ _ _; first | refine G_pure0 ?_ | refine G_load ?_ | refine evG_nil ?_ | refine G_br ?_ ?_ | refine G_field ?_ | refine G_pure ?_ | refine G_loadV ?_ | refine G_loadV0 ?_ | refine G_loadV2 ?_ | refine G_build ?_ | refine G_eql_agg ?_ | refine G_neq_agg ?_ | refine G_call ?_ | refine G_call0 ?_ | (refine G_box ?_; intro _) | refine G_skip ?_ | refine G_skip0 ?_)
    | (show spl _ _ _; first | refine spl_no rfl ?_ | refine spl_yes rfl ?_)
    | (show evC _ _ _ _ _; first | refine c_seq ?_ | refine c_region (by exact rfl) ?_ | refine c_cond (by exact rfl) ?_ | refine c_ret ?_ | refine c_skip ?_ | refine c_block ?_ | refine c_exit ?_ | refine std ?_)
    | (show Br _ _ _; first | refine Br.t rfl ?_ | refine Br.f rfl ?_ | refine brs ?_ | (first | refine Br.mkN (fun h => ?_) (fun h => ?_) | refine Br.mk (fun h => ?_) (fun h => ?_)) <;> (try (first | contradiction | (exfalso; omega) | (exfalso; simp at h; done))))
    | refine stp ?_
    | (show CallT _ 220 _ _ _; refine CA (h := txnewIY_ok hx h2 ?_)))
  all_goals (show retC _ _ _ _ _ _; refine RETC ?_; exact ret_done (hK))
theorem snewIS_ok (hid : 1 ≤ id ∧ id ≤ 2147483647) (hcap : cap ≤ 64) (hst : 0 ≤ stg ∧ stg ≤ 2) (hs : chkS w st it = false) (hK : K (.tuple #[.pointer none, .int .i64 3]) R) : CallT Tryz.prog 157 #[.int .i64 id, .int .i64 2, .bool own, .agg #[.int .i64 w, .int .i64 st, .int .i64 it, .int .i64 sb, .int .i64 cap, .int .i64 stg, .int .i64 ev, .int .i64 wa, .int .i64 stl]] R K := by
  refine callT_intro mixed Tryz.func157 rfl (by decide) (by decide +kernel) (by exact Nat.le_of_ble_eq_true rfl) ?_
  repeat' (first
    | (show evG _ _ _ _ _ _ _; first | refine G_pure0 ?_ | refine G_load ?_ | refine evG_nil ?_ | refine G_br ?_ ?_ | refine G_field ?_ | refine G_pure ?_ | refine G_loadV ?_ | refine G_loadV0 ?_ | refine G_loadV2 ?_ | refine G_build ?_ | refine G_eql_agg ?_ | refine G_neq_agg ?_ | refine G_call ?_ | refine G_call0 ?_ | (refine G_box ?_; intro _) | refine G_skip ?_ | refine G_skip0 ?_)
    | (show spl _ _ _; first | refine spl_no rfl ?_ | refine spl_yes rfl ?_)
    | (show evC _ _ _ _ _; first | refine c_seq ?_ | refine c_region (by exact rfl) ?_ | refine c_cond (by exact rfl) ?_ | refine c_ret ?_ | refine c_skip ?_ | refine c_block ?_ | refine c_exit ?_ | refine std ?_)
    | (show Br _ _ _; first | refine Br.t rfl ?_ | refine Br.f rfl ?_ | refine brs ?_ | (first | refine Br.mkN (fun h => ?_) (fun h => ?_) | refine Br.mk (fun h => ?_) (fun h => ?_)) <;> (try (first | contradiction | (exfalso; omega) | (exfalso; simp at h; done))))
    | refine stp ?_
    | (show CallT _ 220 _ _ _; refine CA (h := txnewI_ok hcap hst (fun t => ?_)))
    | (show CallT _ 221 _ _ _; refine CA (h := rxnewY_ok (.inr rfl) hs ?_)))
  (show retC _ _ _ _ _ _; refine RETC ?_; exact ret_done (hK))
section
variable {s li t r : Nat} {l : List ByteArray} {en ou : Bool} {ac se dr : Int}
end
end Go.Proofs.YtiofdmjecjcdbaaGreatDoor

