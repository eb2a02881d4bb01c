/- Split: its small functions; what took takes. Split: one frame is taken: lemmas; each with the conditions that it states. -/
import Derived.Test.YthoagholmkiknaaFh
import Derived.Test.YthoagholmkiknaaP1
import Derived.Test.YthoagholmkiknaaKd

namespace Go.Proofs.Ythoagholmkiknaa
open Go Go.Proofs Go.Sl
set_option maxRecDepth 100000
set_option maxHeartbeats 4000000
set_option linter.unusedSimpArgs false
set_option linter.unusedVariables false
attribute [local irreducible] evG evC spl thenC inBlockC noGotoC CallT retC RetG TurnG CutG pt ro exP star sep pureP
attribute [local irreducible] ByteArray.extract nAt scanP
variable {R C : List HP} {K : Value → List HP → Prop}
/-- a splitter: what it keeps, its code -/
def spP (x : Nat) (bs : List UInt8) (e : Int) : HP := exP fun A => exP fun c => sep (pt x [.slice A bs.length c, .int .i64 e] 78) (row A c 5 byteC bs)
theorem sp_fold {x n : Nat} {bs : List UInt8} {e : Int} {A : Option Addr} {c : Nat} (h : bs.length = n) : Ent (pt x [.slice A n c, .int .i64 e] 78 :: row A c 5 byteC bs :: R) (spP x bs e :: R) := by
  subst h
  exact Ent.ex A (Ent.ex c (Ent.sep (Ent.refl _)))
theorem sp_open {f : FuncId} {args : Array Value} {x : Nat} {bs : List UInt8} {e : Int} (h : ∀ A c, CallT Try.prog f args (pt x [.slice A bs.length c, .int .i64 e] 78 :: row A c 5 byteC bs :: R) K) : CallT Try.prog f args (spP x bs e :: R) K :=
  CallT.ex fun A => CallT.ex fun c => CallT.sep (h A c)
theorem snew_ok (hK : ∀ x, K (.pointer (some ⟨x, 0, none⟩)) (spP x [] 0 :: R)) : CallT Try.prog 18 #[] R K := by
  refine callT_intro mixed Try.func18 rfl (by decide) (by decide +kernel) (by exact Nat.le_of_ble_eq_true rfl) ?_
  repeat' (first
    | (show evG _ _ _ _ _ _ _; first | refine G_pure0 ?_ | refine evG_nil ?_ | refine G_br ?_ ?_ | refine G_pure ?_ | refine G_build ?_ | (refine G_box ?_; intro _))
    | (show spl _ _ _; first | refine spl_no rfl ?_ | refine spl_yes rfl ?_)
    | (show evC _ _ _ _ _; first | refine c_seq ?_ | refine c_region (by exact rfl) ?_ | refine c_cond (by exact rfl) ?_ | refine c_ret ?_ | refine c_skip ?_ | refine c_block ?_ | refine c_exit ?_ | refine std ?_)
    | (show Br _ _ _; first | refine Br.t rfl ?_ | refine Br.f rfl ?_ | refine brs ?_ | (first | refine Br.mkN (fun h => ?_) (fun h => ?_) | refine Br.mk (fun h => ?_) (fun h => ?_)) <;> (try (first | contradiction | (exfalso; omega) | (exfalso; simp at h; done))))
    | refine stp ?_)
  refine RETC ?_
  exact ret_of (Ent.trans (Ent.pick Pick.here (Ent.nilrow' (Ent.refl _))) (sp_fold (A := none) (c := 0) (bs := []) rfl)) (hK _)
theorem brokenR_ok {x n c : Nat} {A : Option Addr} {e : Int} (hK : K (.int .i64 e) (pt x [.slice A n c, .int .i64 e] 78 :: R)) : CallT Try.prog 21 #[.pointer (some ⟨x, 0, none⟩)] (pt x [.slice A n c, .int .i64 e] 78 :: R) K := by
  refine callT_intro mixed Try.func21 rfl (by decide) (by decide +kernel) (by exact Nat.le_of_ble_eq_true rfl) ?_
  repeat' (first
    | (show evG _ _ _ _ _ _ _; first | refine G_pure0 ?_ | refine G_load ?_ | refine evG_nil ?_ | refine G_br ?_ ?_ | refine G_field ?_ | refine G_pure ?_ | refine G_loadV ?_ | refine G_loadV0 ?_ | refine G_loadV2 ?_ | refine G_eql_agg ?_)
    | (show spl _ _ _; first | refine spl_no rfl ?_ | refine spl_yes rfl ?_)
    | (show evC _ _ _ _ _; first | refine c_seq ?_ | refine c_region (by exact rfl) ?_ | refine c_cond (by exact rfl) ?_ | refine c_ret ?_ | refine c_skip ?_ | refine c_block ?_ | refine c_exit ?_ | refine std ?_)
    | (show Br _ _ _; first | refine Br.t rfl ?_ | refine Br.f rfl ?_ | refine brs ?_ | (first | refine Br.mkN (fun h => ?_) (fun h => ?_) | refine Br.mk (fun h => ?_) (fun h => ?_)) <;> (try (first | contradiction | (exfalso; omega) | (exfalso; simp at h; done))))
    | refine stp ?_)
  (show retC _ _ _ _ _ _; refine RETC ?_; exact ret_done (hK))
theorem broken_ok {x : Nat} {bs : List UInt8} {e : Int} (hK : K (.int .i64 e) (spP x bs e :: R)) : CallT Try.prog 21 #[.pointer (some ⟨x, 0, none⟩)] (spP x bs e :: R) K := by
  refine sp_open fun A c => ?_
  refine callT_intro mixed Try.func21 rfl (by decide) (by decide +kernel) (by exact Nat.le_of_ble_eq_true rfl) ?_
  repeat' (first
    | (show evG _ _ _ _ _ _ _; first | refine G_pure0 ?_ | refine G_load ?_ | refine evG_nil ?_ | refine G_br ?_ ?_ | refine G_field ?_ | refine G_pure ?_ | refine G_loadV ?_ | refine G_loadV0 ?_ | refine G_loadV2 ?_ | refine G_eql_agg ?_)
    | (show spl _ _ _; first | refine spl_no rfl ?_ | refine spl_yes rfl ?_)
    | (show evC _ _ _ _ _; first | refine c_seq ?_ | refine c_region (by exact rfl) ?_ | refine c_cond (by exact rfl) ?_ | refine c_ret ?_ | refine c_skip ?_ | refine c_block ?_ | refine c_exit ?_ | refine std ?_)
    | (show Br _ _ _; first | refine Br.t rfl ?_ | refine Br.f rfl ?_ | refine brs ?_ | (first | refine Br.mkN (fun h => ?_) (fun h => ?_) | refine Br.mk (fun h => ?_) (fun h => ?_)) <;> (try (first | contradiction | (exfalso; omega) | (exfalso; simp at h; done))))
    | refine stp ?_)
  refine RETC ?_
  exact ret_of (sp_fold rfl) hK
/-- a cell with frames -/
def outP (r : Nat) (fs : List Fm) : HP := exP fun F => exP fun c => sep (pt r [.slice F fs.length c] 32) (sep (row F c 38 fmC fs) (allP fmP fs))
theorem out_open {f : FuncId} {args : Array Value} {r : Nat} {fs : List Fm} (h : ∀ F c, CallT Try.prog f args (pt r [.slice F fs.length c] 32 :: row F c 38 fmC fs :: allP fmP fs :: R) K) : CallT Try.prog f args (outP r fs :: R) K :=
  CallT.ex fun A => CallT.ex fun c => CallT.sep (CallT.ent (Ent.cons Ent.unsep) (h A c))
theorem out_fold {r n : Nat} {fs : List Fm} {A : Option Addr} {c : Nat} (h : fs.length = n) : Ent (pt r [.slice A n c] 32 :: row A c 38 fmC fs :: allP fmP fs :: R) (outP r fs :: R) := by
  subst h
  exact Ent.ex A (Ent.ex c (Ent.sep (Ent.pick Pick.here (Ent.sep (Ent.refl _)))))
theorem rowF_enc {A : Option Addr} {c : Nat} {e : TypeId} {xs ys : List Fm} (h : xs.flatMap fmC.enc = ys.flatMap fmC.enc) (hl : xs.length = ys.length) (H : Hp) (hr : row A c e fmC xs H) : row A c e fmC ys H := by
  rcases hr with ⟨h1, h2, h3⟩ | ⟨B, pre, post, h1, h2, h3, h4⟩
  · subst h2
    exact .inl ⟨h1, List.length_eq_zero_iff.1 hl.symm, h3⟩
  · rw [h] at h2
    rw [hl] at h3 h4
    exact .inr ⟨B, pre, post, h1, h2, h3, h4⟩
theorem out_push {r n : Nat} {fs : List Fm} {A : Option Addr} {c : Nat} (f0 f1 : Fm) (he : fmC.enc f0 = fmC.enc f1) (hn : n = (fs ++ [f0]).length) : Ent (pt r [.slice A n c] 32 :: row A c 38 fmC (fs ++ [f0]) :: rrow f1.pa prC f1.ps :: allP fmP fs :: R) (outP r (fs ++ [f1]) :: R) :=
  Ent.trans (Ent.cons (Ent.imp (rowF_enc (ys := fs ++ [f1]) (by simp [he]) (by simp)) (Ent.allsnoc (P := fmP) (x := f1) pers_fmP mono_fmP))) (out_fold (by rw [hn]; simp))
end Go.Proofs.Ythoagholmkiknaa


namespace Go.Proofs.Ythoagholmkiknaa
open Go Go.Proofs Go.Sl
set_option maxRecDepth 100000
set_option maxHeartbeats 4000000
set_option linter.unusedSimpArgs false
set_option linter.unusedVariables false
attribute [local irreducible] evG evC spl thenC inBlockC noGotoC CallT retC RetG TurnG CutG pt ro exP star sep pureP
attribute [local irreducible] ByteArray.extract nAt scanP
variable {R C : List HP} {K : Value → List HP → Prop}
theorem tookS_ok {r7 r2 r6 x n c nx cx : Nat} {A S : Option Addr} {bs : List UInt8} {e e0 : Int} (hn : bs.length = n) (hc : n ≤ c) (hz : n < 1000000000000) (h : stS (bsB bs) = some e) (hK : K (.bool false) (pt r7 [.slice A n c] 47 :: rrow A byteC bs :: pt x [.slice S nx cx, .int .i64 e] 78 :: pt r2 [.pointer (some ⟨x, 0, none⟩)] 49 :: R)) :
    CallT Try.prog 33 #[.pointer (some ⟨r7, 0, none⟩), .pointer (some ⟨r2, 0, none⟩), .pointer (some ⟨r6, 0, none⟩)] (pt r7 [.slice A n c] 47 :: rrow A byteC bs :: pt x [.slice S nx cx, .int .i64 e0] 78 :: pt r2 [.pointer (some ⟨x, 0, none⟩)] 49 :: R) K := by
  refine callT_intro mixed Try.func33 rfl (by decide) (by decide +kernel) (by exact Nat.le_of_ble_eq_true rfl) ?_
  repeat' (first
    | (show evG _ _ _ _ _ _ _; first | refine G_pure0 ?_ | refine G_load ?_ | refine evG_nil ?_ | refine G_br ?_ ?_ | refine G_field ?_ | refine G_pure ?_ | refine G_store ?_ | refine G_loadV ?_ | refine G_loadV0 ?_ | refine G_loadV2 ?_ | (refine G_append ?_; intro _ _) | (refine G_appendN ?_; intro _ _) | refine G_not ?_ | refine G_slh ?_ | refine G_slo ?_ | refine G_shi ?_ | refine G_call ?_ | refine G_call0 ?_ | (refine G_alloc ?_; intro _) | (refine G_buildSlice ?_; intro _) | (refine G_sliceR ?_; intro _) | (refine G_sliceO ?_; intro _))
    | (show spl _ _ _; first | refine spl_no rfl ?_ | refine spl_yes rfl ?_)
    | (show evC _ _ _ _ _; first | refine c_seq ?_ | refine c_region (by exact rfl) ?_ | refine c_cond (by exact rfl) ?_ | refine c_ret ?_ | refine c_skip ?_ | refine c_block ?_ | refine c_exit ?_ | refine std ?_)
    | (show Br _ _ _; first | refine Br.t rfl ?_ | refine Br.f rfl ?_ | refine brs ?_ | (first | refine Br.mkN (fun h => ?_) (fun h => ?_) | refine Br.mk (fun h => ?_) (fun h => ?_)) <;> (try (first | contradiction | (exfalso; omega) | (exfalso; simp at h; done))))
    | refine stp ?_
    | (show CallT _ 34 _ _ _; refine CA (h := oneS_ok hn hc hz h (fun n' => ?_))))
  all_goals (show retC _ _ _ _ _ _; refine RETC ?_; exact ret_done (hK))
theorem tookF_ok {r7 r2 r6 x n c nx cx : Nat} {A S : Option Addr} {bs : List UInt8} {p : ByteArray} {fs : List Fm} {e0 : Int} (hp : bsB bs = p) (hn : bs.length = n) (hc : n ≤ c) (hz : n < 1000000000000) (hf : fs.length < 1000000) (h : stS p = none) (hK : ∀ A' c' A2 c2, n - (9 + sL p).toNat ≤ c' → K (.bool true) (pt r7 [.slice A' (n - (9 + sL p).toNat) c'] 47 :: rrow A' byteC (bs.drop (9 + sL p).toNat) :: pt x [.slice S nx cx, .int .i64 e0] 78 :: pt r2 [.pointer (some ⟨x, 0, none⟩)] 49 :: outP r6 (fs ++ [frA p A2 c2]) :: R)) :
    CallT Try.prog 33 #[.pointer (some ⟨r7, 0, none⟩), .pointer (some ⟨r2, 0, none⟩), .pointer (some ⟨r6, 0, none⟩)] (pt r7 [.slice A n c] 47 :: rrow A byteC bs :: pt x [.slice S nx cx, .int .i64 e0] 78 :: pt r2 [.pointer (some ⟨x, 0, none⟩)] 49 :: outP r6 fs :: R) K := by
  obtain ⟨h1, h2, h3, h4, h5, h6, h7⟩ := st_none h
  have hps : p.size = bs.length := by rw [← hp]; exact bsB_size bs
  refine CallT.ent (C' := outP r6 fs :: pt r7 [.slice A n c] 47 :: rrow A byteC bs :: pt x [.slice S nx cx, .int .i64 e0] 78 :: pt r2 [.pointer (some ⟨x, 0, none⟩)] 49 :: R) (by exact entA) ?_
  refine out_open fun F cF => ?_
  refine callT_intro mixed Try.func33 rfl (by decide) (by decide +kernel) (by exact Nat.le_of_ble_eq_true rfl) ?_
  repeat' (first
    | (show evG _ _ _ _ _ _ _; first | refine G_pure0 ?_ | refine G_load ?_ | refine evG_nil ?_ | refine G_br ?_ ?_ | refine G_field ?_ | refine G_pure ?_ | refine G_store ?_ | refine G_loadV ?_ | refine G_loadV0 ?_ | refine G_loadV2 ?_ | (refine G_append ?_; intro _ _) | (refine G_appendN ?_; intro _ _) | refine G_not ?_ | refine G_slh ?_ | refine G_slo ?_ | refine G_shi ?_ | refine G_call ?_ | refine G_call0 ?_ | (refine G_alloc ?_; intro _) | (refine G_buildSlice ?_; intro _) | (refine G_sliceR ?_; intro _) | (refine G_sliceO ?_; intro _))
    | (show spl _ _ _; first | refine spl_no rfl ?_ | refine spl_yes rfl ?_)
    | (show evC _ _ _ _ _; first | refine c_seq ?_ | refine c_region (by exact rfl) ?_ | refine c_cond (by exact rfl) ?_ | refine c_ret ?_ | refine c_skip ?_ | refine c_block ?_ | refine c_exit ?_ | refine std ?_)
    | (show Br _ _ _; first | refine Br.t rfl ?_ | refine Br.f rfl ?_ | refine brs ?_ | (first | refine Br.mkN (fun h => ?_) (fun h => ?_) | refine Br.mk (fun h => ?_) (fun h => ?_)) <;> (try (first | contradiction | (exfalso; omega) | (exfalso; simp at h; done))))
    | refine stp ?_
    | (show CallT _ 34 _ _ _; refine CA (h := oneF_ok hp hn hc hz h (fun A2 c2 => ?_)))
    | (show evG _ _ _ _ _ _ _; first | (refine G_appendU ?_; intro _ _)))
  have hz1 : List.take (((n : Nat) : Int).toNat - (9 + sL p).toNat) (List.drop (9 + sL p).toNat bs) = bs.drop (9 + sL p).toNat := by
    rw [Int.toNat_natCast]
    exact List.take_of_length_le (by rw [List.length_drop]; omega)
  rw [hz1]
  refine RETC ?_
  refine ret_of (row_freeze (E := prC) (xs := gP (sT p) (sQ p)) (by ((repeat (first | exact Pick.here | apply Pick.there)) <;> exact Pick.here)) (Ent.trans (by exact entA) (Ent.trans (out_push ⟨sT p, sS p, (sF p == 1), gD (sT p) (sQ p), gK (sT p) (sQ p), gO (sT p) (sQ p), gW (sT p) (sQ p), gX (sT p) (sQ p), gC (sT p) (sQ p), gL (sT p) (sQ p), gN (sT p) (sQ p), A2, (gP (sT p) (sQ p)).length, c2, []⟩ (frA p A2 c2) rfl rfl) (by exact entA)))) (hK _ _ A2 c2 ?_)
  omega
end Go.Proofs.Ythoagholmkiknaa

