/- What is handed in: read out of the world as rows that nobody writes. The arguments of a law. More steps: shifts, single bytes. Read-only facts of all elements of a list. Regions by name. Blocks by name; a cut behind any code: lemmas; each with the conditions that it states. -/
import Derived.Test.YtiofdmjecjcdbaaGreatDoorFb
import Derived.SizedLaws
import Derived.Deep.Slices
set_option linter.unusedVariables false
set_option linter.unusedSimpArgs false
namespace Go.Sl
open Go.ChangeShapes Go.WideShapes Go.ChangeAt Go.RowKit Go.Deep

/-- all of a world's cells, as they stand -/
def allRO (W : World) : Hp := fun B => match W.heap[B]? with
  | some (.cells arr e _) => some (.cells arr.toList e false)
  | _ => none
theorem sat_allRO (W : World) : Sat (fun i => W.heap.size ≤ i) (allRO W) W := by
  refine ⟨fun B b hb => ?_, fun B b hb ho => ?_, fun i hi => hi⟩
  · unfold allRO at hb
    split at hb
    · rename_i arr e fz h; cases hb; exact ⟨arr, fz, h, rfl, fun h => by cases h⟩
    · cases hb
  · unfold allRO at hb
    split at hb
    · cases hb; cases ho
    · cases hb
theorem CallT.below {P : Program} {f : FuncId} {args : Array Value} {C : List HP} {r : Value} {W : World} (h : CallT P f args C fun v _ => v = r) (hC : Sats C (allRO W)) :
    Calls P f args W fun e W' => e = .returned r ∧ Below W.heap.size W W' := by
  refine ((h _ hC).run (fun i => W.heap.size ≤ i) W (sat_allRO W)).mono ?_
  rintro e W' ⟨v, H', rfl, ⟨C', _, rfl⟩, ht⟩
  exact ⟨rfl, ht.chg.os, ht.chg.tape, ht.chg.output, ht.chg.size, fun k hk => ht.chg.kept k hk (by omega)⟩
theorem sats_ro_nil {W : World} : Sats [] (allRO W) := trivial
theorem sats_ro_cons {A : HP} {C : List HP} {W : World} (hp : Pers A) (ha : A (allRO W)) (hC : Sats C (allRO W)) : Sats (A :: C) (allRO W) := by
  obtain ⟨H', h1, h2, h3⟩ := hp _ ha
  refine ⟨H', allRO W, fun B b c hb hc => ⟨h3 B b hb, ?_⟩, h1, Hle.refl _, h2, hC⟩
  unfold allRO at hc
  split at hc
  · cases hc; rfl
  · cases hc

/-- values that can be read as data -/
def Good (P : Program) (W : World) : Nat → TypeId → List Value → Prop
  | 0, _, _ => False
  | n + 1, t, cs => match P.underlying t with
    | some .bool => ∃ b, cs = [.bool b]
    | some (.int k) => ∃ i, cs = [.int k i] ∧ (Lit.int k i).wf = true
    | some .string => ∃ s : ByteArray, cs = [.string s] ∧ s.size ≤ reachBytes
    | some (.slice e) => cs = [.slice none 0 0] ∨ ∃ a len cap, cs = [.slice (some a) len cap] ∧ len ≤ cap ∧ cap * P.bytesOf e ≤ reachBytes ∧
        ∀ i, i < len → ∃ cs', W.cells? 0 (a.add (i * P.cellsOf e)) (P.cellsOf e) = some cs' ∧ Good P W n e cs'
    | some (.struct fs) => cs.length = P.cellsOf t ∧ ∀ (j : Nat) (f : Field), fs[j]? = some f → Good P W n f.type ((cs.drop f.offset).take (P.cellsOf f.type))
    | _ => True

theorem weights_each {H : Type} {P : Program} : ∀ {ts : List TypeId} {ds : List (DataW H)} {j : Nat} {t : TypeId} {d : DataW H}, ts[j]? = some t → ds[j]? = some d → ∀ n ∈ d.weights P t, n ∈ DataW.weightsEach P ts ds := DataW.weights_mem_each
theorem weights_all {H : Type} {P : Program} {e : TypeId} : ∀ {ds : List (DataW H)} {d : DataW H}, d ∈ ds → ∀ n ∈ d.weights P e, n ∈ DataW.weightsAll P e ds
  | d0 :: ds, d, hd, n, hn => by
    simp only [DataW.weightsAll, List.mem_append]
    rcases List.mem_cons.1 hd with rfl | hd
    · exact .inl hn
    · exact .inr (weights_all hd n hn)
  | [], _, hd, _, _ => by cases hd

theorem good_of {H : Type} {enc : TypeId × Value → H} {P : Program} {W : World} : ∀ (fuel : Nat) (t : TypeId) (cs : List Value) (d : DataW H) (p : List MemPlace),
    DataW.trod enc P W 0 (fun _ => true) true fuel t cs = some (d, p) → (∀ n ∈ d.weights P t, n ≤ reachBytes) → Good P W fuel t cs
  | 0, _, _, _, _, h, _ => by simp [DataW.trod] at h
  | fuel + 1, t, cs, d, p, h, hw => by
    unfold Good
    split
    · rename_i hu
      obtain ⟨b, h1, _⟩ := DataW.trod_bool hu h
      exact ⟨b, h1⟩
    · rename_i k hu
      obtain ⟨n, h1, _, h2⟩ := DataW.trod_int hu h
      exact ⟨n, h1, h2⟩
    · rename_i hu
      obtain ⟨s, h1, h2, _⟩ := DataW.trod_string hu h
      cases h2
      exact ⟨s, h1, by simpa using hw s.data.toList.length (by simp [DataW.weights])⟩
    · rename_i e hu
      rcases DataW.trod_slice hu h with ⟨h1, _⟩ | ⟨a, len, cap, elems, rest, n, hn, h1, hx, _, hl, _, hel, hi, hsp, _⟩
      · exact .inl h1
      · cases hn
        cases hx
        obtain ⟨hrl, _⟩ := hsp rfl
        refine .inr ⟨a, len, cap, h1, hl, ?_, fun i hil => ?_⟩
        · have := hw (((elems.map (·.1)).length + (rest.map (·.1)).length) * P.bytesOf e) (by simp [DataW.weights, hu])
          simp only [List.length_map] at this
          rwa [hel, hrl, Nat.add_sub_cancel' hl] at this
        · have h2 := hi i hil
          have h3 : elems[i]? = some (elems[i]'(by omega)) := List.getElem?_eq_getElem (by omega)
          rw [h3, Option.bind_eq_some_iff] at h2
          obtain ⟨cs', k1, k2⟩ := h2
          refine ⟨cs', k1, good_of fuel e cs' _ _ k2 fun w hwm => hw w ?_⟩
          simp only [DataW.weights, hu, List.mem_cons, List.mem_append]
          exact .inr (.inl (weights_all (List.mem_map.2 ⟨_, List.getElem_mem (by omega), rfl⟩) w hwm))
    · rename_i fs hu
      obtain ⟨xs, n, hn, hx, hl, hlen, hf⟩ := DataW.trod_struct hu h
      cases hn
      refine ⟨hl, fun j f hj => ?_⟩
      have h1 := hf j f hj
      have hj' : j < fs.size := (Array.getElem?_eq_some_iff.1 hj).1
      have h2 : xs[j]? = some (xs[j]'(by omega)) := List.getElem?_eq_getElem (by omega)
      rw [h2] at h1
      cases hx
      refine good_of fuel f.type _ (xs[j]'(by omega)).1 (xs[j]'(by omega)).2 h1 fun w hwm => hw w ?_
      simp only [DataW.weights, hu]
      refine weights_each (j := j) (t := f.type) (d := (xs[j]'(by omega)).1) ?_ ?_ w hwm
      · simp [hj]
      · simp [h2]
    · trivial

/-- all parameters -/
theorem good_all {H : Type} {enc : TypeId × Value → H} {P : Program} {W : World} : ∀ {ts : List TypeId} {vs : List Value} {ds : List (DataW H)} {ps : List MemPlace},
    DataW.TrodAll enc P W 0 (fun _ => true) true ts vs ds ps → (∀ n ∈ DataW.weightsEach P ts ds, n ≤ reachBytes) → ∀ (j : Nat) (t : TypeId), ts[j]? = some t → ∃ v n, vs[j]? = some v ∧ Good P W n t v.cells.toList
  | t :: ts, v :: vs, d :: ds, _, ⟨p, q, ⟨fuel, h1⟩, h2, _⟩, hw, 0, t', ht => by
    cases ht
    exact ⟨v, fuel, rfl, good_of fuel t _ d p h1 fun n hn => hw n (by simp only [DataW.weightsEach, List.mem_append]; exact .inl hn)⟩
  | t :: ts, v :: vs, d :: ds, _, ⟨p, q, h1, h2, _⟩, hw, j + 1, t', ht => by
    obtain ⟨v', n, k1, k2⟩ := good_all h2 (fun n hn => hw n (by simp only [DataW.weightsEach, List.mem_append]; exact .inr hn)) j t' (by simpa using ht)
    exact ⟨v', n, by simpa using k1, k2⟩
  | [], _, _, _, _, _, _, _, ht => by simp at ht

theorem flat_of {α : Type} {E : Cod α} : ∀ (xs : List α) (off : Nat) (arr : List Value), (∀ i x, xs[i]? = some x → ∀ r, r < E.sz → arr[off + i * E.sz + r]? = (E.enc x)[r]?) → (arr.drop off).take (xs.length * E.sz) = xs.flatMap E.enc
  | [], _, _, _ => by simp
  | x :: xs, off, arr, h => by
    have h1 : (arr.drop off).take E.sz = E.enc x := by
      apply List.ext_getElem?
      intro r
      by_cases hr : r < E.sz
      · rw [List.getElem?_take_of_lt hr, List.getElem?_drop]
        have := h 0 x rfl r hr
        simpa using this
      · rw [List.getElem?_eq_none (by rw [List.length_take]; omega), List.getElem?_eq_none (by rw [E.len]; omega)]
    have h2 := flat_of xs (off + E.sz) arr fun i y hy r hr => by
      have := h (i + 1) y (by simpa using hy) r hr
      rw [show off + E.sz + i * E.sz + r = off + (i + 1) * E.sz + r by rw [Nat.add_mul]; omega]
      exact this
    rw [List.length_cons, Nat.add_mul, Nat.one_mul, Nat.add_comm (xs.length * E.sz), List.take_add, List.drop_drop, h1, h2, List.flatMap_cons]

/-- a slice that was handed in -/
theorem rrow_of {α : Type} {E : Cod α} {W : World} {a : Addr} {len : Nat} {φ : α → Prop} (hsz : 0 < E.sz) (h : ∀ i, i < len → ∃ x, W.cells? 0 (a.add (i * E.sz)) E.sz = some (E.enc x) ∧ φ x) :
    ∃ xs : List α, xs.length = len ∧ rrow (some a) E xs (allRO W) ∧ ∀ x ∈ xs, φ x := by
  have key : ∀ n, n ≤ len → ∃ xs : List α, xs.length = n ∧ (∀ i x, xs[i]? = some x → W.cells? 0 (a.add (i * E.sz)) E.sz = some (E.enc x)) ∧ ∀ x ∈ xs, φ x := by
    intro n
    induction n with
    | zero => exact fun _ => ⟨[], rfl, fun i x hx => by simp at hx, fun x hx => by cases hx⟩
    | succ n ih =>
      intro hn
      obtain ⟨xs, h1, h2, h3⟩ := ih (by omega)
      obtain ⟨x, h4, h5⟩ := h n (by omega)
      refine ⟨xs ++ [x], by simp [h1], fun i y hy => ?_, fun y hy => ?_⟩
      · by_cases hi : i < n
        · rw [List.getElem?_append_left (by omega)] at hy; exact h2 i y hy
        · rw [List.getElem?_append_right (by omega)] at hy
          have : i = n := by
            rcases Nat.lt_or_ge (i - xs.length) 1 with h | h
            · omega
            · rw [List.getElem?_eq_none (by simpa using h)] at hy; cases hy
          subst this
          rw [h1, Nat.sub_self] at hy
          cases hy
          exact h4
      · rcases List.mem_append.1 hy with hy | hy
        · exact h3 y hy
        · cases List.mem_singleton.1 hy; exact h5
  obtain ⟨xs, h1, h2, h3⟩ := key len (Nat.le_refl _)
  refine ⟨xs, h1, ?_, h3⟩
  cases xs with
  | nil => exact .inl rfl
  | cons x xs =>
    have h0 := h2 0 x rfl
    obtain ⟨_, hl, hc⟩ := World.cells?_some h0
    have hc0 := hc 0 hsz
    have ha : a.add (0 * E.sz) = a := by rw [Nat.zero_mul]; rfl
    rw [ha] at hc0
    have ha0 : a.add 0 = a := rfl
    rw [ha0] at hc0
    have hlen := E.len x
    have hx0 : (E.enc x)[0]? = some ((E.enc x)[0]'(by omega)) := List.getElem?_eq_getElem (by omega)
    rw [hx0] at hc0
    obtain ⟨B, off, sp⟩ := a
    unfold World.cell? at hc0
    simp only at hc0
    split at hc0
    · rename_i arr e fz hB
      split at hc0
      · cases hc0
      · rename_i hsp
        have hsp : sp = none := by cases sp <;> simp_all
        subst hsp
        have hlt : off < arr.size := (Array.getElem?_eq_some_iff.1 hc0).1
        have hfl : ((arr.toList).drop off).take ((x :: xs).length * E.sz) = (x :: xs).flatMap E.enc := flat_of (x :: xs) off arr.toList fun i y hy r hr => by
          obtain ⟨_, _, hcc⟩ := World.cells?_some (h2 i y hy)
          have := hcc r hr
          rw [add_off, add_off] at this
          unfold World.cell? at this
          simp only [hB] at this
          rw [← this]
          simp
        refine .inr ⟨B, arr.toList.take off, (arr.toList.drop off).drop ((x :: xs).length * E.sz), e, false, ?_, ?_⟩
        · rw [List.length_take, Nat.min_eq_left (by simp; omega)]
        · unfold allRO
          rw [hB]
          simp only
          rw [← hfl, List.append_assoc, List.take_append_drop, List.take_append_drop]
    · cases hc0
end Go.Sl
namespace Go.Sl
open Go.ChangeShapes Go.WideShapes Go.ChangeAt Go.RowKit Go.Deep
section
variable {H : Type} {enc : TypeId × Value → H} {P : Program} {W : World} {base : Nat} {ds : List (DataW H)} {ps : List MemPlace}
theorem trodAll_len : ∀ {ts : List TypeId} {vs : List Value} {ds : List (DataW H)} {ps : List MemPlace}, DataW.TrodAll enc P W 0 (fun _ => true) true ts vs ds ps → vs.length = ts.length ∧ ds.length = ts.length
  | [], [], [], _, _ => ⟨rfl, rfl⟩
  | _ :: _, _ :: _, _ :: _, _, ⟨_, _, _, h, _⟩ => by obtain ⟨h1, h2⟩ := trodAll_len h; simp [h1, h2]
  | [], _ :: _, _, _, h => h.elim
  | [], [], _ :: _, _, h => h.elim
  | _ :: _, [], _, _, h => h.elim
  | _ :: _, _ :: _, [], _, h => h.elim
variable {args : Array Value} {t0 t1 t2 t3 : TypeId}
theorem args1 (hA : DataW.TrodAll enc P W 0 (fun _ => true) true [t0] args.toList ds ps) : ∃ v0 d0, args = #[v0] ∧ ds = [d0] := by
  obtain ⟨l⟩ := args
  obtain ⟨h1, h2⟩ := trodAll_len hA
  match l, ds, h1, h2 with
  | [v0], [d0], _, _ => exact ⟨v0, d0, rfl, rfl⟩
theorem args2 (hA : DataW.TrodAll enc P W 0 (fun _ => true) true [t0, t1] args.toList ds ps) : ∃ v0 v1 d0 d1, args = #[v0, v1] ∧ ds = [d0, d1] := by
  obtain ⟨l⟩ := args
  obtain ⟨h1, h2⟩ := trodAll_len hA
  match l, ds, h1, h2 with
  | [v0, v1], [d0, d1], _, _ => exact ⟨v0, v1, d0, d1, rfl, rfl⟩
theorem args3 (hA : DataW.TrodAll enc P W 0 (fun _ => true) true [t0, t1, t2] args.toList ds ps) : ∃ v0 v1 v2 d0 d1 d2, args = #[v0, v1, v2] ∧ ds = [d0, d1, d2] := by
  obtain ⟨l⟩ := args
  obtain ⟨h1, h2⟩ := trodAll_len hA
  match l, ds, h1, h2 with
  | [v0, v1, v2], [d0, d1, d2], _, _ => exact ⟨v0, v1, v2, d0, d1, d2, rfl, rfl⟩
theorem args4 (hA : DataW.TrodAll enc P W 0 (fun _ => true) true [t0, t1, t2, t3] args.toList ds ps) : ∃ v0 v1 v2 v3 d0 d1 d2 d3, args = #[v0, v1, v2, v3] ∧ ds = [d0, d1, d2, d3] := by
  obtain ⟨l⟩ := args
  obtain ⟨h1, h2⟩ := trodAll_len hA
  match l, ds, h1, h2 with
  | [v0, v1, v2, v3], [d0, d1, d2, d3], _, _ => exact ⟨v0, v1, v2, v3, d0, d1, d2, d3, rfl, rfl⟩
variable {r : Reach} {b0 n : Nat} {t : TypeId} {v : Value}
theorem arg_int {k : IntKind} (ht : P.underlying t = some (.int k)) (hv : Value.okWide P W r b0 t v) (hg : Good P W n t v.cells.toList) : ∃ i, v = .int k i ∧ (Lit.int k i).wf = true := by
  obtain ⟨i, rfl⟩ := okWide_int ht hv
  cases n with
  | zero => exact hg.elim
  | succ n =>
    simp only [Good, ht] at hg
    obtain ⟨j, h1, h2⟩ := hg
    simp [Value.cells] at h1
    exact ⟨i, rfl, by rw [h1]; exact h2⟩
theorem arg_string (ht : P.underlying t = some .string) (hv : Value.okWide P W r b0 t v) (hg : Good P W n t v.cells.toList) : ∃ s : ByteArray, v = .string s ∧ s.size ≤ reachBytes := by
  obtain ⟨s, rfl⟩ := okWide_string ht hv
  cases n with
  | zero => exact hg.elim
  | succ n =>
    simp only [Good, ht] at hg
    obtain ⟨j, h1, h2⟩ := hg
    simp [Value.cells] at h1
    exact ⟨s, rfl, by rw [h1]; exact h2⟩
theorem arg_bool (ht : P.underlying t = some .bool) (hv : Value.okWide P W r b0 t v) : ∃ b, v = .bool b := okWide_bool ht hv
theorem arg_slice {e : TypeId} (ht : P.underlying t = some (.slice e)) (hv : Value.okWide P W r b0 t v) (hg : Good P W n t v.cells.toList) : v = .slice none 0 0 ∨ ∃ a len cap m, v = .slice (some a) len cap ∧ len ≤ cap ∧ cap * P.bytesOf e ≤ reachBytes ∧
        ∀ i, i < len → ∃ cs', W.cells? 0 (a.add (i * P.cellsOf e)) (P.cellsOf e) = some cs' ∧ Good P W m e cs' := by
  obtain ⟨A, l, c, rfl⟩ := okWide_slice ht hv
  cases n with
  | zero => exact hg.elim
  | succ n =>
    simp only [Good, ht] at hg
    rcases hg with hg | ⟨a, len, cap, h1, h2, h3, h4⟩
    · simp [Value.cells] at hg
      obtain ⟨rfl, rfl, rfl⟩ := hg
      exact .inl rfl
    · simp [Value.cells] at h1
      obtain ⟨rfl, rfl, rfl⟩ := h1
      exact .inr ⟨a, l, c, n, rfl, h2, h3, h4⟩
theorem arg_struct {fs : Array Field} (ht : P.underlying t = some (.struct fs)) (hv : Value.okWide P W r b0 t v) (hg : Good P W n t v.cells.toList) : ∃ cs : List Value, v = .agg cs.toArray ∧ Good P W n t cs := by
  obtain ⟨cs, rfl, _⟩ := okWide_struct ht hv
  exact ⟨cs.toList, rfl, hg⟩
end
/-! a value's cells, part by part -/
section
variable {P : Program} {W : World} {n : Nat} {t : TypeId} {cs : List Value}
theorem good_int {k : IntKind} (ht : P.underlying t = some (.int k)) (hg : Good P W n t cs) : ∃ i, cs = [.int k i] ∧ (Lit.int k i).wf = true := by
  cases n with
  | zero => exact hg.elim
  | succ n => simpa only [Good, ht] using hg
theorem good_bool (ht : P.underlying t = some .bool) (hg : Good P W n t cs) : ∃ b, cs = [.bool b] := by
  cases n with
  | zero => exact hg.elim
  | succ n => simpa only [Good, ht] using hg
theorem good_string (ht : P.underlying t = some .string) (hg : Good P W n t cs) : ∃ s : ByteArray, cs = [.string s] ∧ s.size ≤ reachBytes := by
  cases n with
  | zero => exact hg.elim
  | succ n => simpa only [Good, ht] using hg
theorem good_slice {e : TypeId} (ht : P.underlying t = some (.slice e)) (hg : Good P W n t cs) : cs = [.slice none 0 0] ∨ ∃ a len cap m, cs = [.slice (some a) len cap] ∧ len ≤ cap ∧ cap * P.bytesOf e ≤ reachBytes ∧
        ∀ i, i < len → ∃ cs', W.cells? 0 (a.add (i * P.cellsOf e)) (P.cellsOf e) = some cs' ∧ Good P W m e cs' := by
  cases n with
  | zero => exact hg.elim
  | succ n =>
    simp only [Good, ht] at hg
    rcases hg with hg | ⟨a, len, cap, h⟩
    · exact .inl hg
    · exact .inr ⟨a, len, cap, n, h⟩
theorem good_struct {fs : Array Field} (ht : P.underlying t = some (.struct fs)) (hg : Good P W n t cs) : ∃ m, cs.length = P.cellsOf t ∧ ∀ (j : Nat) (f : Field), fs[j]? = some f → Good P W m f.type ((cs.drop f.offset).take (P.cellsOf f.type)) := by
  cases n with
  | zero => exact hg.elim
  | succ n =>
    simp only [Good, ht] at hg
    exact ⟨n, hg⟩
end
theorem wf64 {i : Int} (h : (Lit.int .i64 i).wf = true) : -9223372036854775808 ≤ i ∧ i ≤ 9223372036854775807 := by
  simp [Lit.wf, IntKind.min, IntKind.max, IntKind.signed, IntKind.bits] at h
  omega
theorem wf8 {i : Int} (h : (Lit.int .u8 i).wf = true) : 0 ≤ i ∧ i ≤ 255 := by
  simp [Lit.wf, IntKind.min, IntKind.max, IntKind.signed, IntKind.bits] at h
  omega
theorem cells3 {cs : List Value} {v0 v1 v2 : Value} (hl : cs.length = 3) (h0 : (cs.drop 0).take 1 = [v0]) (h1 : (cs.drop 1).take 1 = [v1]) (h2 : (cs.drop 2).take 1 = [v2]) : cs = [v0, v1, v2] := by
  match cs, hl with
  | [a, b, c], _ => simp at h0 h1 h2; simp [h0, h1, h2]
theorem cells1 {cs : List Value} {v0 : Value} (hl : cs.length = 1) (h0 : (cs.drop 0).take 1 = [v0]) : cs = [v0] := by
  match cs, hl with
  | [a0], _ => simp at h0; simp [h0]
theorem cells2 {cs : List Value} {v0 v1 : Value} (hl : cs.length = 2) (h0 : (cs.drop 0).take 1 = [v0]) (h1 : (cs.drop 1).take 1 = [v1]) : cs = [v0, v1] := by
  match cs, hl with
  | [a0, a1], _ => simp at h0 h1; simp [h0, h1]
theorem cells4 {cs : List Value} {v0 v1 v2 v3 : Value} (hl : cs.length = 4) (h0 : (cs.drop 0).take 1 = [v0]) (h1 : (cs.drop 1).take 1 = [v1]) (h2 : (cs.drop 2).take 1 = [v2]) (h3 : (cs.drop 3).take 1 = [v3]) : cs = [v0, v1, v2, v3] := by
  match cs, hl with
  | [a0, a1, a2, a3], _ => simp at h0 h1 h2 h3; simp [h0, h1, h2, h3]
theorem cells5 {cs : List Value} {v0 v1 v2 v3 v4 : Value} (hl : cs.length = 5) (h0 : (cs.drop 0).take 1 = [v0]) (h1 : (cs.drop 1).take 1 = [v1]) (h2 : (cs.drop 2).take 1 = [v2]) (h3 : (cs.drop 3).take 1 = [v3]) (h4 : (cs.drop 4).take 1 = [v4]) : cs = [v0, v1, v2, v3, v4] := by
  match cs, hl with
  | [a0, a1, a2, a3, a4], _ => simp at h0 h1 h2 h3 h4; simp [h0, h1, h2, h3, h4]
theorem cells6 {cs : List Value} {v0 v1 v2 v3 v4 v5 : Value} (hl : cs.length = 6) (h0 : (cs.drop 0).take 1 = [v0]) (h1 : (cs.drop 1).take 1 = [v1]) (h2 : (cs.drop 2).take 1 = [v2]) (h3 : (cs.drop 3).take 1 = [v3]) (h4 : (cs.drop 4).take 1 = [v4]) (h5 : (cs.drop 5).take 1 = [v5]) : cs = [v0, v1, v2, v3, v4, v5] := by
  match cs, hl with
  | [a0, a1, a2, a3, a4, a5], _ => simp at h0 h1 h2 h3 h4 h5; simp [h0, h1, h2, h3, h4, h5]
theorem cells7 {cs : List Value} {v0 v1 v2 v3 v4 v5 v6 : Value} (hl : cs.length = 7) (h0 : (cs.drop 0).take 1 = [v0]) (h1 : (cs.drop 1).take 1 = [v1]) (h2 : (cs.drop 2).take 1 = [v2]) (h3 : (cs.drop 3).take 1 = [v3]) (h4 : (cs.drop 4).take 1 = [v4]) (h5 : (cs.drop 5).take 1 = [v5]) (h6 : (cs.drop 6).take 1 = [v6]) : cs = [v0, v1, v2, v3, v4, v5, v6] := by
  match cs, hl with
  | [a0, a1, a2, a3, a4, a5, a6], _ => simp at h0 h1 h2 h3 h4 h5 h6; simp [h0, h1, h2, h3, h4, h5, h6]
theorem cells8 {cs : List Value} {v0 v1 v2 v3 v4 v5 v6 v7 : Value} (hl : cs.length = 8) (h0 : (cs.drop 0).take 1 = [v0]) (h1 : (cs.drop 1).take 1 = [v1]) (h2 : (cs.drop 2).take 1 = [v2]) (h3 : (cs.drop 3).take 1 = [v3]) (h4 : (cs.drop 4).take 1 = [v4]) (h5 : (cs.drop 5).take 1 = [v5]) (h6 : (cs.drop 6).take 1 = [v6]) (h7 : (cs.drop 7).take 1 = [v7]) : cs = [v0, v1, v2, v3, v4, v5, v6, v7] := by
  match cs, hl with
  | [a0, a1, a2, a3, a4, a5, a6, a7], _ => simp at h0 h1 h2 h3 h4 h5 h6 h7; simp [h0, h1, h2, h3, h4, h5, h6, h7]
theorem cells12 {cs : List Value} {v0 v1 v2 v3 v4 v5 v6 v7 v8 v9 v10 v11 : Value} (hl : cs.length = 12) (h0 : (cs.drop 0).take 1 = [v0]) (h1 : (cs.drop 1).take 1 = [v1]) (h2 : (cs.drop 2).take 1 = [v2]) (h3 : (cs.drop 3).take 1 = [v3]) (h4 : (cs.drop 4).take 1 = [v4]) (h5 : (cs.drop 5).take 1 = [v5]) (h6 : (cs.drop 6).take 1 = [v6]) (h7 : (cs.drop 7).take 1 = [v7]) (h8 : (cs.drop 8).take 1 = [v8]) (h9 : (cs.drop 9).take 1 = [v9]) (h10 : (cs.drop 10).take 1 = [v10]) (h11 : (cs.drop 11).take 1 = [v11]) : cs = [v0, v1, v2, v3, v4, v5, v6, v7, v8, v9, v10, v11] := by
  match cs, hl with
  | [a0, a1, a2, a3, a4, a5, a6, a7, a8, a9, a10, a11], _ => simp at h0 h1 h2 h3 h4 h5 h6 h7 h8 h9 h10 h11; simp [h0, h1, h2, h3, h4, h5, h6, h7, h8, h9, h10, h11]
end Go.Sl
namespace Go.Sl
section
variable {P : Program} {C : List HP} {a : Fr} {d : Option Tmp} {ty : TypeId} {pos : String} {after : Array Edge} {g : Option (Nat × Bool)} {t yt : TypeId} {x y z : Operand}
theorem pv_shrN {k yk : IntKind} {m n : Int} (hx : opd a x = .int k m) (hy : opd a y = .int yk n) (h0 : 0 ≤ n) (h1 : n ≤ k.bits) : pureV P ⟨d, .binOp .shr t x y yt, ty, pos, after, g⟩ a = some (.int k (m / 2 ^ n.toNat)) := by
  have := pv_shr (P := P) (d := d) (t := t) (yt := yt) (ty := ty) (pos := pos) (after := after) (g := g) hx hy (by omega)
  rw [this, Nat.min_eq_left (by omega)]
  congr 2
  exact Int.fdiv_eq_ediv_of_nonneg m (Int.le_of_lt (Int.pow_pos (by decide)))
end
theorem bv_an0 (m : Int) (h0 : -9223372036854775808 ≤ m) (h1 : m ≤ 9223372036854775807) : IntKind.i64.wrap ((BitVec.ofInt 64 m &&& ~~~(BitVec.ofInt 64 0)).toNat) = m := by
  have e : (BitVec.ofInt 64 m &&& ~~~(BitVec.ofInt 64 0)) = BitVec.ofInt 64 m := by
    have : ~~~(BitVec.ofInt 64 0) = BitVec.allOnes 64 := by decide
    rw [this, BitVec.and_allOnes]
  rw [e]
  simp only [BitVec.toNat_ofInt, IntKind.wrap, IntKind.bits, IntKind.signed]
  simp
  omega
theorem bv_an1 (m : Int) (h0 : -9223372036854775808 ≤ m) (h1 : m ≤ 9223372036854775807) : IntKind.i64.wrap ((BitVec.ofInt 64 m &&& ~~~(BitVec.ofInt 64 1)).toNat) = m - m % 2 := by
  have e : (BitVec.ofInt 64 m &&& ~~~(BitVec.ofInt 64 1)).toNat = ((BitVec.ofInt 64 m).toNat / 2) * 2 := by
    have : (BitVec.ofInt 64 m &&& ~~~(BitVec.ofInt 64 1)) = (BitVec.ofInt 64 m >>> 1) <<< 1 := by
      apply BitVec.eq_of_getLsbD_eq
      intro i hi
      have h1 : BitVec.ofInt 64 1 = 1#64 := by decide
      rw [h1]
      have k : ∀ j : Nat, j < 64 → (~~~(1#64)).getLsbD j = decide (1 ≤ j) := by decide
      rw [BitVec.getLsbD_and, k i hi, BitVec.getLsbD_shiftLeft, BitVec.getLsbD_ushiftRight]
      by_cases h : 1 ≤ i
      · have e : 1 + (i - 1) = i := by omega
        simp [h, hi, e]
        intro; omega
      · have e : i = 0 := by omega
        subst e
        simp
    rw [this]
    have := (BitVec.ofInt 64 m).isLt
    simp [BitVec.toNat_shiftLeft, BitVec.toNat_ushiftRight, Nat.shiftLeft_eq, Nat.shiftRight_eq_div_pow]
    omega
  rw [e]
  simp only [BitVec.toNat_ofInt, IntKind.wrap, IntKind.bits, IntKind.signed]
  simp
  omega
section
variable {P : Program} {ops : Array Oper} {Q : Fr → List HP → Prop} {a : Fr} {C : List HP} {c : Nat} {gd : Bool} {es : ET} {hist : List (List HP)} {d' : Tmp} {v : Value}
variable {ty : TypeId} {pos : String} {after : Array Edge} {g : Option (Nat × Bool)} {t yt : TypeId} {x y : Operand}
theorem pv_andNot0 {d : Option Tmp} {m : Int} (hx : opd a x = .int .i64 m) (hy : opd a y = .int .i64 0) (h0 : -9223372036854775808 ≤ m) (h1 : m ≤ 9223372036854775807) : pureV P ⟨d, .binOp .andNot t x y yt, ty, pos, after, g⟩ a = some (.int .i64 m) :=
  pv_int hx hy rfl (by show some (Value.int .i64 _) = _; rw [show IntKind.i64.bits = 64 from rfl, bv_an0 m h0 h1])
theorem pv_andNot1 {d : Option Tmp} {m : Int} (hx : opd a x = .int .i64 m) (hy : opd a y = .int .i64 1) (h0 : -9223372036854775808 ≤ m) (h1 : m ≤ 9223372036854775807) : pureV P ⟨d, .binOp .andNot t x y yt, ty, pos, after, g⟩ a = some (.int .i64 (m - m % 2)) :=
  pv_int hx hy rfl (by show some (Value.int .i64 _) = _; rw [show IntKind.i64.bits = 64 from rfl, bv_an1 m h0 h1])
theorem G_andNot0 {m : Int} (h : spl gd (.int .i64 m) fun v => evG P ops Q es hist (upd a d' v) C) (hx : opd a x = .int .i64 m := by exact rfl) (hy : opd a y = .int .i64 0 := by exact rfl) (h0 : -9223372036854775808 ≤ m := by first | omega | assumption) (h1 : m ≤ 9223372036854775807 := by first | omega | assumption) (hw : wantB ops ⟨some d', .binOp .andNot t x y yt, ty, pos, after, g⟩ a = true := by exact rfl) : evG P ops Q (ET.cons (c, gd, ⟨some d', .binOp .andNot t x y yt, ty, pos, after, g⟩) es) hist a C :=
  evG_p rfl hw (pv_andNot0 hx hy h0 h1) h
theorem G_andNot1 {m : Int} (h : spl gd (.int .i64 (m - m % 2)) fun v => evG P ops Q es hist (upd a d' v) C) (hx : opd a x = .int .i64 m := by exact rfl) (hy : opd a y = .int .i64 1 := by exact rfl) (h0 : -9223372036854775808 ≤ m := by first | omega | assumption) (h1 : m ≤ 9223372036854775807 := by first | omega | assumption) (hw : wantB ops ⟨some d', .binOp .andNot t x y yt, ty, pos, after, g⟩ a = true := by exact rfl) : evG P ops Q (ET.cons (c, gd, ⟨some d', .binOp .andNot t x y yt, ty, pos, after, g⟩) es) hist a C :=
  evG_p rfl hw (pv_andNot1 hx hy h0 h1) h
end
theorem nb_f {b : Bool} (h : b = false) : (!b) = true := by rw [h]; rfl
theorem nb_t {b : Bool} (h : b = true) : (!b) = false := by rw [h]; rfl
theorem not_beq_self {α : Type} [BEq α] [LawfulBEq α] (x : α) : (!(x == x)) = false := by rw [beq_self_eq_true]; rfl
theorem at_upd {p : Fr → Prop} {a : Fr} {i : Nat} {v : Value} (h : a i = v) (k : p (upd a i v)) : p a := by
  have : upd a i v = a := by
    funext j; unfold upd; split
    · rename_i e; subst e; exact h.symm
    · rfl
  rw [this] at k; exact k
theorem at_updL {p : Fr → Prop} {a : Fr} (l : List (Nat × Value)) (h : Agree a l) (k : p (updL a l)) : p a := by rw [updL_eq h] at k; exact k
/-- bytes, laid out one by one -/
def decI : List Value → Option (List Int)
  | [] => some []
  | .int .u8 z :: cs => match decI cs with
    | some zs => some (z :: zs)
    | none => none
  | _ => none
def rngB : List Int → Prop
  | [] => True
  | z :: l => (0 ≤ z ∧ z < 256) ∧ rngB l
theorem byteI_id {z : Int} (h : 0 ≤ z ∧ z < 256) : byteV (byteI z) = .int .u8 z := by rw [byteV_of, Int.emod_eq_of_lt h.1 h.2]
theorem decI_flat : ∀ (cs : List Value) (zs : List Int), decI cs = some zs → rngB zs → (zs.map byteI).flatMap byteC.enc = cs
  | [], zs, h, _ => by cases h; rfl
  | v :: cs, zs, h, hr => by
    unfold decI at h
    split at h
    · rename_i h1; cases h1
    · rename_i z cs' h1
      split at h
      · rename_i ys hy
        cases h1; cases h
        rw [List.map_cons, List.flatMap_cons, decI_flat _ _ hy hr.2]
        show [byteV (byteI z)] ++ _ = _
        rw [byteI_id hr.1]; rfl
      · cases h
    · cases h
theorem view_bytes {C : List HP} {e : TypeId} {B : Nat} {cs : List Value} {zs : List Int} (hd : decI cs = some zs) (hr : rngB zs) : View (pt B cs e :: C) (some ⟨B, 0, none⟩) byteC (zs.map byteI) := fun H ⟨H1, H2, _, k1, _, h3, _⟩ => by
  obtain ⟨b, hb, l⟩ := k1 B _ h3
  have := Blk.le_own l rfl
  subst this
  exact .inr ⟨B, [], [], e, true, rfl, by rw [decI_flat cs zs hd hr, List.nil_append, List.append_nil]; exact hb⟩
section
variable {P : Program} {ops : Array Oper} {Q : Fr → List HP → Prop} {a : Fr} {C : List HP} {c : Nat} {gd : Bool} {es : ET} {hist : List (List HP)} {d' : Tmp} {d : Option Tmp} {v : Value}
variable {ty : TypeId} {pos : String} {after : Array Edge} {g : Option (Nat × Bool)} {t yt : TypeId} {x y z : Operand} {op : Op}
theorem G_shr {k yk : IntKind} {m n : Int} (h : spl gd (.int k (m / 2 ^ n.toNat)) fun v => evG P ops Q es hist (upd a d' v) C) (hx : opd a x = .int k m := by exact rfl) (hy : opd a y = .int yk n := by exact rfl)
    (h0 : 0 ≤ n := by first | omega | assumption) (h1 : n ≤ k.bits := by first | assumption | (show _ ≤ ((64 : Nat) : Int); omega) | (show _ ≤ ((8 : Nat) : Int); omega)) (hw : wantB ops ⟨some d', .binOp .shr t x y yt, ty, pos, after, g⟩ a = true := by exact rfl) : evG P ops Q (ET.cons (c, gd, ⟨some d', .binOp .shr t x y yt, ty, pos, after, g⟩) es) hist a C :=
  evG_p rfl hw (pv_shrN hx hy h0 h1) h
theorem fieldN_spec {n f : Nat} (h : (match fieldOff P t f with | some m => natF m | none => none) = some n) : fieldOff P t f = some n := by
  split at h
  · rename_i m hm; rw [hm, natF_eq h]
  · cases h
theorem G_field {B off n f : Nat} (h : spl gd (.pointer (some ⟨B, off + n, none⟩)) fun v => evG P ops Q es hist (upd a d' v) C) (hx : opd a x = .pointer (some ⟨B, off, none⟩) := by exact rfl)
    (hf : (match fieldOff P t f with | some m => natF m | none => none) = some n := by exact rfl) (hw : wantB ops ⟨some d', .fieldAddr t x f, ty, pos, after, g⟩ a = true := by exact rfl) : evG P ops Q (ET.cons (c, gd, ⟨some d', .fieldAddr t x f, ty, pos, after, g⟩) es) hist a C :=
  evG_p rfl hw (pv_field hx (fieldN_spec hf)) h
theorem G_bytesP {t' e e' : TypeId} {B n cp : Nat} {cs : List Value} {zs : List Int} {R : List HP} (h : spl gd (.string ⟨(zs.map byteI).toArray⟩) fun v => evG P ops Q es (C :: hist) (upd a d' v) C) (hx : opd a x = .slice (some ⟨B, 0, none⟩) n cp := by exact rfl) (hs : bytesT P t = some e := by exact rfl) (ht : isStrT P t' = true := by exact rfl)
    (hp : Pick (pt B cs e') C R := by ((repeat (first | exact Pick.here | apply Pick.there)) <;> exact Pick.here)) (hd : decI cs = some zs := by exact rfl) (hr : rngB zs := by ((repeat (first | exact trivial | refine ⟨⟨by omega, by omega⟩, ?_⟩)) <;> exact trivial)) (hn : (zs.map byteI).length = n := by exact rfl)
    (hk : kd P (.convert t t' x) = .other := by exact rfl) (hw : wantB ops ⟨some d', .convert t t' x, ty, pos, after, g⟩ a = true := by exact rfl) : evG P ops Q (ET.cons (c, gd, ⟨some d', .convert t t' x, ty, pos, after, g⟩) es) hist a C :=
  G_bytesstr (bs := zs.map byteI) h hx hs ht (view_ent (fun _ hs => hp.sats hs) (view_bytes hd hr)) hn hk hw
theorem G_strrow {t' e : TypeId} {s : ByteArray} (h : ∀ r N, spl gd (.slice (some ⟨r, 0, none⟩) s.size N) fun v => evG P ops Q es (C :: hist) (upd a d' v) (row (some ⟨r, 0, none⟩) N e byteC s.data.toList :: C))
    (hx : opd a x = .string s := by exact rfl) (hs : isStrT P t = true := by exact rfl) (ht : bytesT P t' = some e := by exact rfl)
    (hk : kd P (.convert t t' x) = .other := by exact rfl) (hw : wantB ops ⟨some d', .convert t t' x, ty, pos, after, g⟩ a = true := by exact rfl) : evG P ops Q (ET.cons (c, gd, ⟨some d', .convert t t' x, ty, pos, after, g⟩) es) hist a C :=
  evG_o hk hw fun H hH => eo_strbytes hs ht hx fun r N hr hN => ⟨_, row_sats (B := r) (pre := []) (post := List.replicate (N - s.size) (.int .u8 0)) rfl (by rw [bytes_flat, List.nil_append]; exact sats_new hr hH) (by simpa using hN) (by simp [byteC]), h r N⟩
/-- a fact of the chunks -/
theorem evG_fact {p : Prop} (hp : ∀ H, Sats C H → p) (h : p → evG P ops Q es hist a C) : evG P ops Q es hist a C := fun Hs H h1 h2 => h (hp H h2) Hs H h1 h2
end
end Go.Sl
namespace Go.Sl
theorem pers_and {A B : HP} (pa : Pers A) (pb : Pers B) (ma : MonoP A) (mb : MonoP B) : Pers (andP A B) := fun H ⟨ha, hb⟩ => by
  obtain ⟨X, x1, x2, x3⟩ := pa H ha
  obtain ⟨Y, y1, y2, y3⟩ := pb H hb
  have hxy : Comp X Y := fun r b c hb hc => ⟨x3 r b hb, y3 r c hc⟩
  refine ⟨hjoin X Y, hjoin_le x1 y1, ⟨ma _ _ x2 (hjoin_left _ _), mb _ _ y2 (hjoin_right hxy x1 y1)⟩, fun r b hb => ?_⟩
  unfold hjoin at hb
  split at hb
  · rename_i a ha; cases hb; exact x3 _ _ ha
  · exact y3 _ _ hb
theorem mono_and {A B : HP} (ma : MonoP A) (mb : MonoP B) : MonoP (andP A B) := fun H H' ⟨ha, hb⟩ hl => ⟨ma H H' ha hl, mb H H' hb hl⟩
section
variable {α : Type} {P : α → HP}
def allP (P : α → HP) (l : List α) : HP := fun H => ∀ x ∈ l, P x H
theorem mono_all (m : ∀ x, MonoP (P x)) (l : List α) : MonoP (allP P l) := fun H H' h hl x hx => m x H H' (h x hx) hl
theorem pers_all (p : ∀ x, Pers (P x)) (m : ∀ x, MonoP (P x)) : ∀ l : List α, Pers (allP P l)
  | [] => fun H _ => ⟨fun _ => none, (fun _ _ h => by cases h), (fun _ h => by cases h), (fun _ _ h => by cases h)⟩
  | x :: l => fun H h => by
    obtain ⟨X, x1, x2, x3⟩ := pers_and (p x) (pers_all p m l) (m x) (mono_all m l) H ⟨h x (by simp), fun y hy => h y (by simp [hy])⟩
    exact ⟨X, x1, fun y hy => by
      rcases List.mem_cons.1 hy with rfl | hy
      · exact x2.1
      · exact x2.2 y hy, x3⟩
theorem sats_allnil {C : List HP} {H : Hp} (hs : Sats C H) : Sats (allP P [] :: C) H :=
  ⟨fun _ => none, H, (fun _ _ _ h => by cases h), (fun _ _ h => by cases h), Hle.refl H, (fun _ h => by cases h), hs⟩
theorem Ent.allnil {C C' : List HP} (h : Ent C C') : Ent C (allP P [] :: C') := fun H hs => sats_allnil (h H hs)
/-- one more -/
theorem Ent.allsnoc {C : List HP} {l : List α} {x : α} (p : ∀ x, Pers (P x)) (m : ∀ x, MonoP (P x)) : Ent (P x :: allP P l :: C) (allP P (l ++ [x]) :: C) := fun H hs => by
  have h := sats_and (p x) (pers_all p m l) (m x) (mono_all m l) hs
  refine Ent.imp (fun H ⟨h1, h2⟩ y hy => ?_) (Ent.refl C) H h
  rcases List.mem_append.1 hy with hy | hy
  · exact h2 y hy
  · cases List.mem_singleton.1 hy; exact h1
/-- one of them -/
theorem Ent.allget {C : List HP} {l : List α} {x : α} (p : ∀ x, Pers (P x)) (m : ∀ x, MonoP (P x)) (hx : x ∈ l) : Ent (allP P l :: C) (P x :: allP P l :: C) := fun H hs =>
  Ent.imp (fun H h => h x hx) (Ent.refl _) H (hs.dup (pers_all p m l))
theorem Ent.allsub {C : List HP} {l l' : List α} (h : ∀ x ∈ l', x ∈ l) : Ent (allP P l :: C) (allP P l' :: C) := Ent.imp (fun _ k x hx => k x (h x hx)) (Ent.refl _)
end
/-- all ways through a region end alike -/
theorem c_regionC {P : Program} {Q : Exit → Fr → List HP → Prop} {a : Fr} {C : List HP} {id : Nat} {ol : List Oper} {es : ET} (I : Fr → List HP → Prop) (he : entL ol.toArray 0 ol = some es)
    (h : evG P ol.toArray (CutG I) es [] a C) (k : ∀ a C, I a C → Hold (Q .normal a C)) : evC P (.region id ol.toArray false) Q a C := fun H hs =>
  ev_monoQ _ (fun e a H hq => by
    obtain ⟨C', h1, h2⟩ := hq
    cases e <;> first
      | exact ⟨C', h1, h2⟩
      | (obtain ⟨C'', hE, hI⟩ := h2; exact ⟨C'', hE H h1, (k _ _ hI).h⟩)) a H ((c_region (id := id) (Q := thenC (CutG I) Q) he h) H hs)
end Go.Sl
namespace Go.Sl
/-- the regions of a code -/
def regionsOf : Code → List Code
  | .seq x y => regionsOf x ++ regionsOf y
  | .cond _ x y => regionsOf x ++ regionsOf y
  | .block _ c => regionsOf c
  | .scope c => regionsOf c
  | .loop c => regionsOf c
  | .region id o d => [.region id o d]
  | _ => []
def regionAt (f : Func) (k : Nat) : Code := match f.body with
  | some c => ((regionsOf c).find? fun r => match r with | .region id _ _ => id == k | _ => false).getD .skip
  | none => .skip
/-- all ways through a block that go on behind it end alike -/
theorem c_cutB {P : Program} {Q : Exit → Fr → List HP → Prop} {a : Fr} {C : List HP} {x : Code} {id : Nat} (I : Fr → List HP → Prop)
    (h : evC P x (inBlockC id (thenC (CutG I) Q)) a C) (k : ∀ a C, I a C → Hold (Q .normal a C)) : evC P (.block id x) Q a C := fun H hs =>
  ev_monoQ _ (fun e a H hq => by
    obtain ⟨C', h1, h2⟩ := hq
    cases e <;> first
      | exact ⟨C', h1, h2⟩
      | (obtain ⟨C'', hE, hI⟩ := h2; exact ⟨C'', hE H h1, (k _ _ hI).h⟩)) a H (c_block (id := id) (Q := thenC (CutG I) Q) h H hs)
end Go.Sl
namespace Go.Sl
/-- the blocks of a code -/
def blocksOf : Code → List Code
  | .seq x y => blocksOf x ++ blocksOf y
  | .cond _ x y => blocksOf x ++ blocksOf y
  | .block i c => .block i c :: blocksOf c
  | .scope c => blocksOf c
  | .loop c => blocksOf c
  | _ => []
def blockAt (f : Func) (k : Nat) : Code := match f.body with
  | some c => ((blocksOf c).find? fun r => match r with | .block id _ => id == k | _ => false).getD .skip
  | none => .skip
/-- all ways through a code that go on behind it end alike -/
theorem c_cutC {P : Program} {Q : Exit → Fr → List HP → Prop} {a : Fr} {C : List HP} {x : Code} (I : Fr → List HP → Prop)
    (h : evC P x (thenC (CutG I) Q) a C) (k : ∀ a C, I a C → Hold (Q .normal a C)) : evC P x Q a C := fun H hs =>
  ev_monoQ _ (fun e a H hq => by
    obtain ⟨C', h1, h2⟩ := hq
    cases e <;> first
      | exact ⟨C', h1, h2⟩
      | (obtain ⟨C'', hE, hI⟩ := h2; exact ⟨C'', hE H h1, (k _ _ hI).h⟩)) a H (h H hs)
end Go.Sl
