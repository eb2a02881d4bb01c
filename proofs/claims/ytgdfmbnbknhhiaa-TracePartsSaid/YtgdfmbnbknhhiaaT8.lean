/- The arguments of a law: lemmas; each with the conditions that it states. -/
import Derived.Test.YtgdfmbnbknhhiaaT7
namespace Go.Sl
open Go.ChangeShapes Go.WideShapes Go.ChangeAt Go.RowKit Go.Deep
section
variable {H : Type} {enc : TypeId × Value → H} {P : Program} {W : World} {base : Nat} {ds : List (DataW H)} {ps : List MemPlace}
theorem trodAll_len : ∀ {ts : List TypeId} {vs : List Value} {ds : List (DataW H)} {ps : List MemPlace}, DataW.TrodAll enc P W 0 (fun _ => true) true ts vs ds ps → vs.length = ts.length ∧ ds.length = ts.length
  | [], [], [], _, _ => ⟨rfl, rfl⟩
  | _ :: _, _ :: _, _ :: _, _, ⟨_, _, _, h, _⟩ => by obtain ⟨h1, h2⟩ := trodAll_len h; simp [h1, h2]
  | [], _ :: _, _, _, h => h.elim
  | [], [], _ :: _, _, h => h.elim
  | _ :: _, [], _, _, h => h.elim
  | _ :: _, _ :: _, [], _, h => h.elim
variable {args : Array Value} {t0 t1 t2 t3 : TypeId}
theorem args1 (hA : DataW.TrodAll enc P W 0 (fun _ => true) true [t0] args.toList ds ps) : ∃ v0 d0, args = #[v0] ∧ ds = [d0] := by
  obtain ⟨l⟩ := args
  obtain ⟨h1, h2⟩ := trodAll_len hA
  match l, ds, h1, h2 with
  | [v0], [d0], _, _ => exact ⟨v0, d0, rfl, rfl⟩
theorem args2 (hA : DataW.TrodAll enc P W 0 (fun _ => true) true [t0, t1] args.toList ds ps) : ∃ v0 v1 d0 d1, args = #[v0, v1] ∧ ds = [d0, d1] := by
  obtain ⟨l⟩ := args
  obtain ⟨h1, h2⟩ := trodAll_len hA
  match l, ds, h1, h2 with
  | [v0, v1], [d0, d1], _, _ => exact ⟨v0, v1, d0, d1, rfl, rfl⟩
theorem args3 (hA : DataW.TrodAll enc P W 0 (fun _ => true) true [t0, t1, t2] args.toList ds ps) : ∃ v0 v1 v2 d0 d1 d2, args = #[v0, v1, v2] ∧ ds = [d0, d1, d2] := by
  obtain ⟨l⟩ := args
  obtain ⟨h1, h2⟩ := trodAll_len hA
  match l, ds, h1, h2 with
  | [v0, v1, v2], [d0, d1, d2], _, _ => exact ⟨v0, v1, v2, d0, d1, d2, rfl, rfl⟩
theorem args4 (hA : DataW.TrodAll enc P W 0 (fun _ => true) true [t0, t1, t2, t3] args.toList ds ps) : ∃ v0 v1 v2 v3 d0 d1 d2 d3, args = #[v0, v1, v2, v3] ∧ ds = [d0, d1, d2, d3] := by
  obtain ⟨l⟩ := args
  obtain ⟨h1, h2⟩ := trodAll_len hA
  match l, ds, h1, h2 with
  | [v0, v1, v2, v3], [d0, d1, d2, d3], _, _ => exact ⟨v0, v1, v2, v3, d0, d1, d2, d3, rfl, rfl⟩
variable {r : Reach} {b0 n : Nat} {t : TypeId} {v : Value}
theorem arg_int {k : IntKind} (ht : P.underlying t = some (.int k)) (hv : Value.okWide P W r b0 t v) (hg : Good P W n t v.cells.toList) : ∃ i, v = .int k i ∧ (Lit.int k i).wf = true := by
  obtain ⟨i, rfl⟩ := okWide_int ht hv
  cases n with
  | zero => exact hg.elim
  | succ n =>
    simp only [Good, ht] at hg
    obtain ⟨j, h1, h2⟩ := hg
    simp [Value.cells] at h1
    exact ⟨i, rfl, by rw [h1]; exact h2⟩
theorem arg_string (ht : P.underlying t = some .string) (hv : Value.okWide P W r b0 t v) (hg : Good P W n t v.cells.toList) : ∃ s : ByteArray, v = .string s ∧ s.size ≤ reachBytes := by
  obtain ⟨s, rfl⟩ := okWide_string ht hv
  cases n with
  | zero => exact hg.elim
  | succ n =>
    simp only [Good, ht] at hg
    obtain ⟨j, h1, h2⟩ := hg
    simp [Value.cells] at h1
    exact ⟨s, rfl, by rw [h1]; exact h2⟩
theorem arg_bool (ht : P.underlying t = some .bool) (hv : Value.okWide P W r b0 t v) : ∃ b, v = .bool b := okWide_bool ht hv
theorem arg_slice {e : TypeId} (ht : P.underlying t = some (.slice e)) (hv : Value.okWide P W r b0 t v) (hg : Good P W n t v.cells.toList) : v = .slice none 0 0 ∨ ∃ a len cap m, v = .slice (some a) len cap ∧ len ≤ cap ∧ cap * P.bytesOf e ≤ reachBytes ∧
        ∀ i, i < len → ∃ cs', W.cells? 0 (a.add (i * P.cellsOf e)) (P.cellsOf e) = some cs' ∧ Good P W m e cs' := by
  obtain ⟨A, l, c, rfl⟩ := okWide_slice ht hv
  cases n with
  | zero => exact hg.elim
  | succ n =>
    simp only [Good, ht] at hg
    rcases hg with hg | ⟨a, len, cap, h1, h2, h3, h4⟩
    · simp [Value.cells] at hg
      obtain ⟨rfl, rfl, rfl⟩ := hg
      exact .inl rfl
    · simp [Value.cells] at h1
      obtain ⟨rfl, rfl, rfl⟩ := h1
      exact .inr ⟨a, l, c, n, rfl, h2, h3, h4⟩
theorem arg_struct {fs : Array Field} (ht : P.underlying t = some (.struct fs)) (hv : Value.okWide P W r b0 t v) (hg : Good P W n t v.cells.toList) : ∃ cs : List Value, v = .agg cs.toArray ∧ Good P W n t cs := by
  obtain ⟨cs, rfl, _⟩ := okWide_struct ht hv
  exact ⟨cs.toList, rfl, hg⟩
end
/-! a value's cells, part by part -/
section
variable {P : Program} {W : World} {n : Nat} {t : TypeId} {cs : List Value}
theorem good_int {k : IntKind} (ht : P.underlying t = some (.int k)) (hg : Good P W n t cs) : ∃ i, cs = [.int k i] ∧ (Lit.int k i).wf = true := by
  cases n with
  | zero => exact hg.elim
  | succ n => simpa only [Good, ht] using hg
theorem good_bool (ht : P.underlying t = some .bool) (hg : Good P W n t cs) : ∃ b, cs = [.bool b] := by
  cases n with
  | zero => exact hg.elim
  | succ n => simpa only [Good, ht] using hg
theorem good_string (ht : P.underlying t = some .string) (hg : Good P W n t cs) : ∃ s : ByteArray, cs = [.string s] ∧ s.size ≤ reachBytes := by
  cases n with
  | zero => exact hg.elim
  | succ n => simpa only [Good, ht] using hg
theorem good_slice {e : TypeId} (ht : P.underlying t = some (.slice e)) (hg : Good P W n t cs) : cs = [.slice none 0 0] ∨ ∃ a len cap m, cs = [.slice (some a) len cap] ∧ len ≤ cap ∧ cap * P.bytesOf e ≤ reachBytes ∧
        ∀ i, i < len → ∃ cs', W.cells? 0 (a.add (i * P.cellsOf e)) (P.cellsOf e) = some cs' ∧ Good P W m e cs' := by
  cases n with
  | zero => exact hg.elim
  | succ n =>
    simp only [Good, ht] at hg
    rcases hg with hg | ⟨a, len, cap, h⟩
    · exact .inl hg
    · exact .inr ⟨a, len, cap, n, h⟩
theorem good_struct {fs : Array Field} (ht : P.underlying t = some (.struct fs)) (hg : Good P W n t cs) : ∃ m, cs.length = P.cellsOf t ∧ ∀ (j : Nat) (f : Field), fs[j]? = some f → Good P W m f.type ((cs.drop f.offset).take (P.cellsOf f.type)) := by
  cases n with
  | zero => exact hg.elim
  | succ n =>
    simp only [Good, ht] at hg
    exact ⟨n, hg⟩
end
theorem wf64 {i : Int} (h : (Lit.int .i64 i).wf = true) : -9223372036854775808 ≤ i ∧ i ≤ 9223372036854775807 := by
  simp [Lit.wf, IntKind.min, IntKind.max, IntKind.signed, IntKind.bits] at h
  omega
theorem wf8 {i : Int} (h : (Lit.int .u8 i).wf = true) : 0 ≤ i ∧ i ≤ 255 := by
  simp [Lit.wf, IntKind.min, IntKind.max, IntKind.signed, IntKind.bits] at h
  omega
theorem cells3 {cs : List Value} {v0 v1 v2 : Value} (hl : cs.length = 3) (h0 : (cs.drop 0).take 1 = [v0]) (h1 : (cs.drop 1).take 1 = [v1]) (h2 : (cs.drop 2).take 1 = [v2]) : cs = [v0, v1, v2] := by
  match cs, hl with
  | [a, b, c], _ => simp at h0 h1 h2; simp [h0, h1, h2]
theorem cells1 {cs : List Value} {v0 : Value} (hl : cs.length = 1) (h0 : (cs.drop 0).take 1 = [v0]) : cs = [v0] := by
  match cs, hl with
  | [a0], _ => simp at h0; simp [h0]
theorem cells2 {cs : List Value} {v0 v1 : Value} (hl : cs.length = 2) (h0 : (cs.drop 0).take 1 = [v0]) (h1 : (cs.drop 1).take 1 = [v1]) : cs = [v0, v1] := by
  match cs, hl with
  | [a0, a1], _ => simp at h0 h1; simp [h0, h1]
theorem cells4 {cs : List Value} {v0 v1 v2 v3 : Value} (hl : cs.length = 4) (h0 : (cs.drop 0).take 1 = [v0]) (h1 : (cs.drop 1).take 1 = [v1]) (h2 : (cs.drop 2).take 1 = [v2]) (h3 : (cs.drop 3).take 1 = [v3]) : cs = [v0, v1, v2, v3] := by
  match cs, hl with
  | [a0, a1, a2, a3], _ => simp at h0 h1 h2 h3; simp [h0, h1, h2, h3]
theorem cells5 {cs : List Value} {v0 v1 v2 v3 v4 : Value} (hl : cs.length = 5) (h0 : (cs.drop 0).take 1 = [v0]) (h1 : (cs.drop 1).take 1 = [v1]) (h2 : (cs.drop 2).take 1 = [v2]) (h3 : (cs.drop 3).take 1 = [v3]) (h4 : (cs.drop 4).take 1 = [v4]) : cs = [v0, v1, v2, v3, v4] := by
  match cs, hl with
  | [a0, a1, a2, a3, a4], _ => simp at h0 h1 h2 h3 h4; simp [h0, h1, h2, h3, h4]
theorem cells6 {cs : List Value} {v0 v1 v2 v3 v4 v5 : Value} (hl : cs.length = 6) (h0 : (cs.drop 0).take 1 = [v0]) (h1 : (cs.drop 1).take 1 = [v1]) (h2 : (cs.drop 2).take 1 = [v2]) (h3 : (cs.drop 3).take 1 = [v3]) (h4 : (cs.drop 4).take 1 = [v4]) (h5 : (cs.drop 5).take 1 = [v5]) : cs = [v0, v1, v2, v3, v4, v5] := by
  match cs, hl with
  | [a0, a1, a2, a3, a4, a5], _ => simp at h0 h1 h2 h3 h4 h5; simp [h0, h1, h2, h3, h4, h5]
theorem cells7 {cs : List Value} {v0 v1 v2 v3 v4 v5 v6 : Value} (hl : cs.length = 7) (h0 : (cs.drop 0).take 1 = [v0]) (h1 : (cs.drop 1).take 1 = [v1]) (h2 : (cs.drop 2).take 1 = [v2]) (h3 : (cs.drop 3).take 1 = [v3]) (h4 : (cs.drop 4).take 1 = [v4]) (h5 : (cs.drop 5).take 1 = [v5]) (h6 : (cs.drop 6).take 1 = [v6]) : cs = [v0, v1, v2, v3, v4, v5, v6] := by
  match cs, hl with
  | [a0, a1, a2, a3, a4, a5, a6], _ => simp at h0 h1 h2 h3 h4 h5 h6; simp [h0, h1, h2, h3, h4, h5, h6]
theorem cells8 {cs : List Value} {v0 v1 v2 v3 v4 v5 v6 v7 : Value} (hl : cs.length = 8) (h0 : (cs.drop 0).take 1 = [v0]) (h1 : (cs.drop 1).take 1 = [v1]) (h2 : (cs.drop 2).take 1 = [v2]) (h3 : (cs.drop 3).take 1 = [v3]) (h4 : (cs.drop 4).take 1 = [v4]) (h5 : (cs.drop 5).take 1 = [v5]) (h6 : (cs.drop 6).take 1 = [v6]) (h7 : (cs.drop 7).take 1 = [v7]) : cs = [v0, v1, v2, v3, v4, v5, v6, v7] := by
  match cs, hl with
  | [a0, a1, a2, a3, a4, a5, a6, a7], _ => simp at h0 h1 h2 h3 h4 h5 h6 h7; simp [h0, h1, h2, h3, h4, h5, h6, h7]
theorem cells12 {cs : List Value} {v0 v1 v2 v3 v4 v5 v6 v7 v8 v9 v10 v11 : Value} (hl : cs.length = 12) (h0 : (cs.drop 0).take 1 = [v0]) (h1 : (cs.drop 1).take 1 = [v1]) (h2 : (cs.drop 2).take 1 = [v2]) (h3 : (cs.drop 3).take 1 = [v3]) (h4 : (cs.drop 4).take 1 = [v4]) (h5 : (cs.drop 5).take 1 = [v5]) (h6 : (cs.drop 6).take 1 = [v6]) (h7 : (cs.drop 7).take 1 = [v7]) (h8 : (cs.drop 8).take 1 = [v8]) (h9 : (cs.drop 9).take 1 = [v9]) (h10 : (cs.drop 10).take 1 = [v10]) (h11 : (cs.drop 11).take 1 = [v11]) : cs = [v0, v1, v2, v3, v4, v5, v6, v7, v8, v9, v10, v11] := by
  match cs, hl with
  | [a0, a1, a2, a3, a4, a5, a6, a7, a8, a9, a10, a11], _ => simp at h0 h1 h2 h3 h4 h5 h6 h7 h8 h9 h10 h11; simp [h0, h1, h2, h3, h4, h5, h6, h7, h8, h9, h10, h11]
end Go.Sl
