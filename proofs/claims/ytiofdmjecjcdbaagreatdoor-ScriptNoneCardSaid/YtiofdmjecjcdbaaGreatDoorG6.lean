/- Script: what it calls of Go's library: lemmas; each with the conditions that it states. -/
import Derived.Test.YtiofdmjecjcdbaaGreatDoorFh
import Derived.Test.YtiofdmjecjcdbaaGreatDoorG5
import Derived.Test.YtiofdmjecjcdbaaGreatDoorG4
import Derived.Test.YtiofdmjecjcdbaaGreatDoorSh31
import Derived.Test.YtiofdmjecjcdbaaGreatDoorTz
import Derived.Shelf.Strings.Split
import Derived.Shelf.Strings.OnBuilder
import Derived.Shelf.Small.Strs
import Derived.Shelf.Small.Wraps

namespace Go.Proofs.YtiofdmjecjcdbaaGreatDoor
open Go Go.Proofs Go.Sl
set_option maxRecDepth 100000
set_option maxHeartbeats 4000000
set_option linter.unusedSimpArgs false
set_option linter.unusedVariables false
attribute [local irreducible] evG evC spl thenC inBlockC noGotoC CallT retC RetG TurnG CutG pt ro exP star sep pureP
variable {R C : List HP} {K : Value → List HP → Prop}
def sgD : List Value → Option ByteArray
  | [.string s] => some s
  | _ => none
theorem sgD_ok (cs : List Value) (y : ByteArray) (h : sgD cs = some y) : [.string y] = cs := by
  unfold sgD at h
  split at h
  · cases h; rfl
  · cases h
def sgC : Cod ByteArray := { enc := fun s => [.string s], sz := 1, dec := sgD, len := fun _ => rfl, one := fun _ => rfl, ok := sgD_ok }
theorem gensplit_ok {s : ByteArray} {c : UInt8} {sv : Nat} {ps : List (List UInt8)} (hs : s.size ≤ 1100000) (hsv : sv ≤ 1) (hp : Lib.splitB ⟨#[c]⟩ sv (s.data.toList.count c) s = ps.map bq) (hl : ps.length = s.data.toList.count c + 1)
    (hK : ∀ r, K (.slice (some ⟨r, 0, none⟩) ps.length ps.length) (row (some ⟨r, 0, none⟩) ps.length 9 sgC (ps.map bq) :: R)) : CallT Tryz.prog 49 #[.string s, .string ⟨#[c]⟩, .int .i64 sv, .int .i64 (-1)] R K := by
  have hcl : s.data.toList.count c ≤ s.size := by have := List.count_le_length (a := c) (l := s.data.toList); rw [show s.data.toList.length = s.size from Array.length_toList] at this; exact this
  have hcb : Lib.countB s ⟨#[c]⟩ = s.data.toList.count c := Lib.count_one c s.data.toList
  refine CallT.entK ?_
  refine CallT.ofAlloc (g := fun b => .slice (some ⟨b, 0, none⟩) ps.length ps.length) (arr := ((ps.map bq).map Value.string).toArray) (e := 9) Tryz.func49 rfl (by decide +kernel) (fun H own w _ _ => ?_) (fun r => ⟨_, ?_, hK r⟩)
  · have hc := Any.strings_genSplit_core Tryz.lays221 (by kernel_rfl) s ⟨#[c]⟩ sv (-1) ps.length w (by omega) (Nat.le_refl 1) hsv
      (fun x cc _ => (Any.strings_Index_one { Tryz.lays221 with } x c _).mono fun e w' ⟨he, hw⟩ => ⟨by rw [he, ← Lib.index_one], hw⟩)
      ((Any.strings_Count_one { Tryz.lays221 with } s c w).mono fun e w' ⟨he, hw⟩ => ⟨by rw [he, hcb]; rfl, hw⟩) (by decide) (by decide) (by rw [if_pos (by decide), hcb]; omega)
    refine hc.mono fun e w' ⟨he, hw⟩ => ?_
    have e1 : ps.length - 1 = s.data.toList.count c := by omega
    rw [e1, hp] at he hw
    have e2 : Lib.cellsOf (ps.map bq) ps.length = ((ps.map bq).map Value.string).toArray := by
      have := Lib.cellsOf_full (ps.map bq)
      rw [List.length_map] at this
      exact this
    refine ⟨by rw [he, List.length_map], ?_⟩
    rw [hw, e2]
    rfl
  · exact Ent.ptRow1 (fun _ => rfl) (by simp)
theorem splits_ok {s : ByteArray} {c : UInt8} (hs : s.size ≤ 1100000) (hK : ∀ r, K (.slice (some ⟨r, 0, none⟩) (spl1 c s.data.toList).length (spl1 c s.data.toList).length) (row (some ⟨r, 0, none⟩) (spl1 c s.data.toList).length 9 sgC ((spl1 c s.data.toList).map bq) :: R)) : CallT Tryz.prog 24 #[.string s, .string ⟨#[c]⟩] R K := by
  have hp := splitB_spl c s
  have hl := spl1_count (c := c) s.data.toList
  have h0 : 0 ≤ 1 := by decide
  refine callT_intro mixed Tryz.func24 rfl (by decide) (by decide +kernel) (by exact Nat.le_of_ble_eq_true rfl) ?_
  repeat' (first
    | (show evG _ _ _ _ _ _ _; first | refine G_pure0 ?_ | refine evG_nil ?_ | refine G_br ?_ ?_ | refine G_pure ?_ | refine G_call ?_ | refine G_call0 ?_)
    | (show spl _ _ _; first | refine spl_no rfl ?_ | refine spl_yes rfl ?_)
    | (show evC _ _ _ _ _; first | refine c_seq ?_ | refine c_region (by exact rfl) ?_ | refine c_cond (by exact rfl) ?_ | refine c_ret ?_ | refine c_skip ?_ | refine c_block ?_ | refine c_exit ?_ | refine std ?_)
    | (show Br _ _ _; first | refine Br.t rfl ?_ | refine Br.f rfl ?_ | refine brs ?_ | (first | refine Br.mkN (fun h => ?_) (fun h => ?_) | refine Br.mk (fun h => ?_) (fun h => ?_)) <;> (try (first | contradiction | (exfalso; omega) | (exfalso; simp at h; done))))
    | refine stp ?_
    | (show CallT _ 49 _ _ _; refine CA (h := gensplit_ok (sv := 0) hs h0 hp hl (fun r => ?_))))
  all_goals (show retC _ _ _ _ _ _; refine RETC ?_; exact ret_done (hK _))
theorem splita_ok {s : ByteArray} {c : UInt8} (hs : s.size ≤ 1100000) (hK : ∀ r, K (.slice (some ⟨r, 0, none⟩) (spl1 c s.data.toList).length (spl1 c s.data.toList).length) (row (some ⟨r, 0, none⟩) (spl1 c s.data.toList).length 9 sgC ((aftL c (spl1 c s.data.toList)).map bq) :: R)) : CallT Tryz.prog 30 #[.string s, .string ⟨#[c]⟩] R K := by
  have hp := splitB_aft c s
  have hl : (aftL c (spl1 c s.data.toList)).length = s.data.toList.count c + 1 := by rw [aftL_len, spl1_count]
  have h0 : 1 ≤ 1 := by decide
  rw [← aftL_len (c := c)] at hK
  refine callT_intro mixed Tryz.func30 rfl (by decide) (by decide +kernel) (by exact Nat.le_of_ble_eq_true rfl) ?_
  repeat' (first
    | (show evG _ _ _ _ _ _ _; first | refine G_pure0 ?_ | refine evG_nil ?_ | refine G_br ?_ ?_ | refine G_pure ?_ | refine G_call ?_ | refine G_call0 ?_)
    | (show spl _ _ _; first | refine spl_no rfl ?_ | refine spl_yes rfl ?_)
    | (show evC _ _ _ _ _; first | refine c_seq ?_ | refine c_region (by exact rfl) ?_ | refine c_cond (by exact rfl) ?_ | refine c_ret ?_ | refine c_skip ?_ | refine c_block ?_ | refine c_exit ?_ | refine std ?_)
    | (show Br _ _ _; first | refine Br.t rfl ?_ | refine Br.f rfl ?_ | refine brs ?_ | (first | refine Br.mkN (fun h => ?_) (fun h => ?_) | refine Br.mk (fun h => ?_) (fun h => ?_)) <;> (try (first | contradiction | (exfalso; omega) | (exfalso; simp at h; done))))
    | refine stp ?_
    | (show CallT _ 49 _ _ _; refine CA (h := gensplit_ok (sv := 1) hs h0 hp hl (fun r => ?_))))
  all_goals (show retC _ _ _ _ _ _; refine RETC ?_; exact ret_done (hK _))
theorem builderX : Builder.Extra Tryz.prog Tryz.lays156_ren where
  sizeBuilder := by kernel_rfl
  liesBuilder := by kernel_rfl
  t5 := Tryz.underlying5
  a5 := Tryz.isAgg5
  z5 := Tryz.sizeOf5
  v5 := Tryz.zeroValue5
  infoByte := by kernel_rfl
  cellsByte := by kernel_rfl
  sizeByte := by kernel_rfl
  neB5 := by decide
theorem joins_ok {A : Option Addr} {n c : Nat} {ps : List (List UInt8)} {b : UInt8} (hn : ps.length = n) (hx : ps ≠ []) (hc : n ≤ 1000000) (hlen : (joi b ps).length ≤ 100000000) (hK : K (.string (bq (joi b ps))) (row A c 9 sgC (ps.map bq) :: R)) : CallT Tryz.prog 37 #[.slice A n c, .string ⟨#[b]⟩] (row A c 9 sgC (ps.map bq) :: R) K := by
  subst hn
  have e1 : Lib.join ((ps.map bq).map (·.data.toList)) (⟨#[b]⟩ : ByteArray).data.toList = joi b ps := by
    rw [List.map_map, show ((fun s : ByteArray => s.data.toList) ∘ bq) = id from funext data_bq, List.map_id]
    exact join_joi b ps
  refine CallT.ofBelow (v := .string (bq (joi b ps))) Tryz.func37 rfl (by decide +kernel) (fun H own w hs hw => ?_) hK
  obtain ⟨B, off, rfl, g1, g2, g3⟩ := row_cells (v := Value.string) (fun _ => rfl) hs hw (by simpa using hx)
  have := Any.strings_Join Tryz.lays156 builderX B off c (ps.map bq) ⟨#[b]⟩ w g3 g1 (by simp; omega) g2 (by rw [e1]; omega)
  rw [e1, List.length_map] at this
  exact this
theorem cutpre_raw {s p : ByteArray} (hK : K (.tuple #[.string ⟨(Lib.trimPrefix s.data.toList p.data.toList).toArray⟩, .bool (Lib.hasPrefix s.data.toList p.data.toList)]) R) : CallT Tryz.prog 74 #[.string s, .string p] R K :=
  CallT.ofSame Tryz.func74 rfl (by decide +kernel) (fun w => Any.strings_CutPrefix Tryz.lays103 s p w) hK
theorem cutsuf_raw {s p : ByteArray} (hs : s.size ≤ 9223372036854775807) (hK : K (.tuple #[.string ⟨(Lib.trimSuffix s.data.toList p.data.toList).toArray⟩, .bool (Lib.hasSuffix s.data.toList p.data.toList)]) R) : CallT Tryz.prog 31 #[.string s, .string p] R K :=
  CallT.ofSame Tryz.func31 rfl (by decide +kernel) (fun w => Any.strings_CutSuffix Tryz.lays104 s p w hs) hK
theorem cutpreY_ok {s : ByteArray} {b : UInt8} {r : List UInt8} (h : s.data.toList = b :: r) (hK : K (.tuple #[.string (bq r), .bool true]) R) : CallT Tryz.prog 74 #[.string s, .string ⟨#[b]⟩] R K := by
  have e : Lib.hasPrefix s.data.toList (⟨#[b]⟩ : ByteArray).data.toList = true := by rw [h]; simp [Lib.hasPrefix]
  have e2 : Lib.trimPrefix s.data.toList (⟨#[b]⟩ : ByteArray).data.toList = r := by unfold Lib.trimPrefix; rw [e, h]; rfl
  refine cutpre_raw ?_
  rw [e, e2]
  exact hK
theorem cutpreN_ok {s : ByteArray} {b : UInt8} (h : ∀ r, s.data.toList ≠ b :: r) (hK : K (.tuple #[.string s, .bool false]) R) : CallT Tryz.prog 74 #[.string s, .string ⟨#[b]⟩] R K := by
  have e : Lib.hasPrefix s.data.toList (⟨#[b]⟩ : ByteArray).data.toList = false := by
    cases hs : s.data.toList with
    | nil => rfl
    | cons x r =>
      have hx : x ≠ b := fun e => h r (by rw [hs, e])
      have hx2 : (b == x) = false := beq_eq_false_iff_ne.2 fun e => hx e.symm
      simp [Lib.hasPrefix, List.isPrefixOf, hx2]
  have e2 : Lib.trimPrefix s.data.toList (⟨#[b]⟩ : ByteArray).data.toList = s.data.toList := by unfold Lib.trimPrefix; rw [e]; rfl
  refine cutpre_raw ?_
  rw [e, e2]
  exact hK
theorem cutsufY_ok {l : List UInt8} {b : UInt8} (hl : l.length ≤ 100000000) (hK : K (.tuple #[.string (bq l), .bool true]) R) : CallT Tryz.prog 31 #[.string (bq (l ++ [b])), .string ⟨#[b]⟩] R K := by
  have e : Lib.hasSuffix (bq (l ++ [b])).data.toList (⟨#[b]⟩ : ByteArray).data.toList = true := by rw [data_bq]; simp [Lib.hasSuffix]
  have e2 : Lib.trimSuffix (bq (l ++ [b])).data.toList (⟨#[b]⟩ : ByteArray).data.toList = l := by unfold Lib.trimSuffix; rw [e, data_bq]; simp
  refine cutsuf_raw (by rw [bq_size]; simp; omega) ?_
  rw [e, e2]
  exact hK
theorem cutsufN_ok {l : List UInt8} {b : UInt8} (hl : l.length ≤ 100000000) (h : ∀ x ∈ l, x ≠ b) (hK : K (.tuple #[.string (bq l), .bool false]) R) : CallT Tryz.prog 31 #[.string (bq l), .string ⟨#[b]⟩] R K := by
  have e : Lib.hasSuffix (bq l).data.toList (⟨#[b]⟩ : ByteArray).data.toList = false := by
    rw [data_bq]
    cases hx : Lib.hasSuffix l [b] with
    | false => rfl
    | true =>
      exfalso
      have := List.isSuffixOf_iff_suffix.1 (show List.isSuffixOf [b] l = true from hx)
      exact h b (this.subset (by simp)) rfl
  have e2 : Lib.trimSuffix (bq l).data.toList (⟨#[b]⟩ : ByteArray).data.toList = l := by unfold Lib.trimSuffix; rw [e, data_bq]; rfl
  refine cutsuf_raw (by rw [bq_size]; omega) ?_
  rw [e, e2]
  exact hK
theorem idx_hex : ∀ n < 256, Lib.indexByte hexS.data.toList (UInt8.ofNat n) = unhex (UInt8.ofNat n) := by decide +kernel
theorem digit_ok {c : UInt8} (hK : K (.int .i64 (unhex c)) R) : CallT Tryz.prog 75 #[.int .u8 c.toNat] R K := by
  have e1 : Lib.indexByte hexS.data.toList ((c.toNat : Nat) : Int).toNat.toUInt8 = unhex c := by
    have := idx_hex c.toNat c.toNat_lt
    rw [UInt8.ofNat_toNat] at this
    rw [Int.toNat_natCast, show c.toNat.toUInt8 = c from UInt8.ofNat_toNat]
    exact this
  have hc : ∀ {R : List HP} {K : Value → List HP → Prop} (_ : K (.int .i64 (unhex c)) R), CallT Tryz.prog 124 #[.string hexS, .int .u8 c.toNat] R K := fun {R K} hK =>
    CallT.ofSame Tryz.func124 rfl (by decide +kernel) (fun w => by have := Any.strings_IndexByte Tryz.lays137 hexS c.toNat w; rw [e1] at this; exact this) hK
  refine callT_intro mixed Tryz.func75 rfl (by decide) (by decide +kernel) (by exact Nat.le_of_ble_eq_true rfl) ?_
  repeat' (first
    | (show evG _ _ _ _ _ _ _; first | refine G_pure0 ?_ | refine evG_nil ?_ | refine G_br ?_ ?_ | refine G_pure ?_ | refine G_call ?_ | refine G_call0 ?_)
    | (show spl _ _ _; first | refine spl_no rfl ?_ | refine spl_yes rfl ?_)
    | (show evC _ _ _ _ _; first | refine c_seq ?_ | refine c_region (by exact rfl) ?_ | refine c_cond (by exact rfl) ?_ | refine c_ret ?_ | refine c_skip ?_ | refine c_block ?_ | refine c_exit ?_ | refine std ?_)
    | (show Br _ _ _; first | refine Br.t rfl ?_ | refine Br.f rfl ?_ | refine brs ?_ | (first | refine Br.mkN (fun h => ?_) (fun h => ?_) | refine Br.mk (fun h => ?_) (fun h => ?_)) <;> (try (first | contradiction | (exfalso; omega) | (exfalso; simp at h; done))))
    | refine stp ?_
    | (show CallT _ 124 _ _ _; refine CA (h := hc ?_)))
  all_goals (show retC _ _ _ _ _ _; refine RETC ?_; exact ret_done (hK))
end Go.Proofs.YtiofdmjecjcdbaaGreatDoor

