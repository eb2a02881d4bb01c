/- What is handed in: read out of the world as rows that nobody writes: lemmas; each with the conditions that it states. -/
import Derived.Test.YtgdfmbnbknhhiaaT4
import Derived.SizedLaws
import Derived.Deep.Slices
namespace Go.Sl
open Go.ChangeShapes Go.WideShapes Go.ChangeAt Go.RowKit Go.Deep

/-- all of a world's cells, as they stand -/
def allRO (W : World) : Hp := fun B => match W.heap[B]? with
  | some (.cells arr e _) => some (.cells arr.toList e false)
  | _ => none
theorem sat_allRO (W : World) : Sat (fun i => W.heap.size ≤ i) (allRO W) W := by
  refine ⟨fun B b hb => ?_, fun B b hb ho => ?_, fun i hi => hi⟩
  · unfold allRO at hb
    split at hb
    · rename_i arr e fz h; cases hb; exact ⟨arr, fz, h, rfl, fun h => by cases h⟩
    · cases hb
  · unfold allRO at hb
    split at hb
    · cases hb; cases ho
    · cases hb
theorem CallT.below {P : Program} {f : FuncId} {args : Array Value} {C : List HP} {r : Value} {W : World} (h : CallT P f args C fun v _ => v = r) (hC : Sats C (allRO W)) :
    Calls P f args W fun e W' => e = .returned r ∧ Below W.heap.size W W' := by
  refine ((h _ hC).run (fun i => W.heap.size ≤ i) W (sat_allRO W)).mono ?_
  rintro e W' ⟨v, H', rfl, ⟨C', _, rfl⟩, ht⟩
  exact ⟨rfl, ht.chg.os, ht.chg.tape, ht.chg.output, ht.chg.size, fun k hk => ht.chg.kept k hk (by omega)⟩
theorem sats_ro_nil {W : World} : Sats [] (allRO W) := trivial
theorem sats_ro_cons {A : HP} {C : List HP} {W : World} (hp : Pers A) (ha : A (allRO W)) (hC : Sats C (allRO W)) : Sats (A :: C) (allRO W) := by
  obtain ⟨H', h1, h2, h3⟩ := hp _ ha
  refine ⟨H', allRO W, fun B b c hb hc => ⟨h3 B b hb, ?_⟩, h1, Hle.refl _, h2, hC⟩
  unfold allRO at hc
  split at hc
  · cases hc; rfl
  · cases hc

/-- values that can be read as data -/
def Good (P : Program) (W : World) : Nat → TypeId → List Value → Prop
  | 0, _, _ => False
  | n + 1, t, cs => match P.underlying t with
    | some .bool => ∃ b, cs = [.bool b]
    | some (.int k) => ∃ i, cs = [.int k i] ∧ (Lit.int k i).wf = true
    | some .string => ∃ s : ByteArray, cs = [.string s] ∧ s.size ≤ reachBytes
    | some (.slice e) => cs = [.slice none 0 0] ∨ ∃ a len cap, cs = [.slice (some a) len cap] ∧ len ≤ cap ∧ cap * P.bytesOf e ≤ reachBytes ∧
        ∀ i, i < len → ∃ cs', W.cells? 0 (a.add (i * P.cellsOf e)) (P.cellsOf e) = some cs' ∧ Good P W n e cs'
    | some (.struct fs) => cs.length = P.cellsOf t ∧ ∀ (j : Nat) (f : Field), fs[j]? = some f → Good P W n f.type ((cs.drop f.offset).take (P.cellsOf f.type))
    | _ => True

theorem weights_each {H : Type} {P : Program} : ∀ {ts : List TypeId} {ds : List (DataW H)} {j : Nat} {t : TypeId} {d : DataW H}, ts[j]? = some t → ds[j]? = some d → ∀ n ∈ d.weights P t, n ∈ DataW.weightsEach P ts ds := DataW.weights_mem_each
theorem weights_all {H : Type} {P : Program} {e : TypeId} : ∀ {ds : List (DataW H)} {d : DataW H}, d ∈ ds → ∀ n ∈ d.weights P e, n ∈ DataW.weightsAll P e ds
  | d0 :: ds, d, hd, n, hn => by
    simp only [DataW.weightsAll, List.mem_append]
    rcases List.mem_cons.1 hd with rfl | hd
    · exact .inl hn
    · exact .inr (weights_all hd n hn)
  | [], _, hd, _, _ => by cases hd

theorem good_of {H : Type} {enc : TypeId × Value → H} {P : Program} {W : World} : ∀ (fuel : Nat) (t : TypeId) (cs : List Value) (d : DataW H) (p : List MemPlace),
    DataW.trod enc P W 0 (fun _ => true) true fuel t cs = some (d, p) → (∀ n ∈ d.weights P t, n ≤ reachBytes) → Good P W fuel t cs
  | 0, _, _, _, _, h, _ => by simp [DataW.trod] at h
  | fuel + 1, t, cs, d, p, h, hw => by
    unfold Good
    split
    · rename_i hu
      obtain ⟨b, h1, _⟩ := DataW.trod_bool hu h
      exact ⟨b, h1⟩
    · rename_i k hu
      obtain ⟨n, h1, _, h2⟩ := DataW.trod_int hu h
      exact ⟨n, h1, h2⟩
    · rename_i hu
      obtain ⟨s, h1, h2, _⟩ := DataW.trod_string hu h
      cases h2
      exact ⟨s, h1, by simpa using hw s.data.toList.length (by simp [DataW.weights])⟩
    · rename_i e hu
      rcases DataW.trod_slice hu h with ⟨h1, _⟩ | ⟨a, len, cap, elems, rest, n, hn, h1, hx, _, hl, _, hel, hi, hsp, _⟩
      · exact .inl h1
      · cases hn
        cases hx
        obtain ⟨hrl, _⟩ := hsp rfl
        refine .inr ⟨a, len, cap, h1, hl, ?_, fun i hil => ?_⟩
        · have := hw (((elems.map (·.1)).length + (rest.map (·.1)).length) * P.bytesOf e) (by simp [DataW.weights, hu])
          simp only [List.length_map] at this
          rwa [hel, hrl, Nat.add_sub_cancel' hl] at this
        · have h2 := hi i hil
          have h3 : elems[i]? = some (elems[i]'(by omega)) := List.getElem?_eq_getElem (by omega)
          rw [h3, Option.bind_eq_some_iff] at h2
          obtain ⟨cs', k1, k2⟩ := h2
          refine ⟨cs', k1, good_of fuel e cs' _ _ k2 fun w hwm => hw w ?_⟩
          simp only [DataW.weights, hu, List.mem_cons, List.mem_append]
          exact .inr (.inl (weights_all (List.mem_map.2 ⟨_, List.getElem_mem (by omega), rfl⟩) w hwm))
    · rename_i fs hu
      obtain ⟨xs, n, hn, hx, hl, hlen, hf⟩ := DataW.trod_struct hu h
      cases hn
      refine ⟨hl, fun j f hj => ?_⟩
      have h1 := hf j f hj
      have hj' : j < fs.size := (Array.getElem?_eq_some_iff.1 hj).1
      have h2 : xs[j]? = some (xs[j]'(by omega)) := List.getElem?_eq_getElem (by omega)
      rw [h2] at h1
      cases hx
      refine good_of fuel f.type _ (xs[j]'(by omega)).1 (xs[j]'(by omega)).2 h1 fun w hwm => hw w ?_
      simp only [DataW.weights, hu]
      refine weights_each (j := j) (t := f.type) (d := (xs[j]'(by omega)).1) ?_ ?_ w hwm
      · simp [hj]
      · simp [h2]
    · trivial

/-- all parameters -/
theorem good_all {H : Type} {enc : TypeId × Value → H} {P : Program} {W : World} : ∀ {ts : List TypeId} {vs : List Value} {ds : List (DataW H)} {ps : List MemPlace},
    DataW.TrodAll enc P W 0 (fun _ => true) true ts vs ds ps → (∀ n ∈ DataW.weightsEach P ts ds, n ≤ reachBytes) → ∀ (j : Nat) (t : TypeId), ts[j]? = some t → ∃ v n, vs[j]? = some v ∧ Good P W n t v.cells.toList
  | t :: ts, v :: vs, d :: ds, _, ⟨p, q, ⟨fuel, h1⟩, h2, _⟩, hw, 0, t', ht => by
    cases ht
    exact ⟨v, fuel, rfl, good_of fuel t _ d p h1 fun n hn => hw n (by simp only [DataW.weightsEach, List.mem_append]; exact .inl hn)⟩
  | t :: ts, v :: vs, d :: ds, _, ⟨p, q, h1, h2, _⟩, hw, j + 1, t', ht => by
    obtain ⟨v', n, k1, k2⟩ := good_all h2 (fun n hn => hw n (by simp only [DataW.weightsEach, List.mem_append]; exact .inr hn)) j t' (by simpa using ht)
    exact ⟨v', n, by simpa using k1, k2⟩
  | [], _, _, _, _, _, _, _, ht => by simp at ht

theorem flat_of {α : Type} {E : Cod α} : ∀ (xs : List α) (off : Nat) (arr : List Value), (∀ i x, xs[i]? = some x → ∀ r, r < E.sz → arr[off + i * E.sz + r]? = (E.enc x)[r]?) → (arr.drop off).take (xs.length * E.sz) = xs.flatMap E.enc
  | [], _, _, _ => by simp
  | x :: xs, off, arr, h => by
    have h1 : (arr.drop off).take E.sz = E.enc x := by
      apply List.ext_getElem?
      intro r
      by_cases hr : r < E.sz
      · rw [List.getElem?_take_of_lt hr, List.getElem?_drop]
        have := h 0 x rfl r hr
        simpa using this
      · rw [List.getElem?_eq_none (by rw [List.length_take]; omega), List.getElem?_eq_none (by rw [E.len]; omega)]
    have h2 := flat_of xs (off + E.sz) arr fun i y hy r hr => by
      have := h (i + 1) y (by simpa using hy) r hr
      rw [show off + E.sz + i * E.sz + r = off + (i + 1) * E.sz + r by rw [Nat.add_mul]; omega]
      exact this
    rw [List.length_cons, Nat.add_mul, Nat.one_mul, Nat.add_comm (xs.length * E.sz), List.take_add, List.drop_drop, h1, h2, List.flatMap_cons]

/-- a slice that was handed in -/
theorem rrow_of {α : Type} {E : Cod α} {W : World} {a : Addr} {len : Nat} {φ : α → Prop} (hsz : 0 < E.sz) (h : ∀ i, i < len → ∃ x, W.cells? 0 (a.add (i * E.sz)) E.sz = some (E.enc x) ∧ φ x) :
    ∃ xs : List α, xs.length = len ∧ rrow (some a) E xs (allRO W) ∧ ∀ x ∈ xs, φ x := by
  have key : ∀ n, n ≤ len → ∃ xs : List α, xs.length = n ∧ (∀ i x, xs[i]? = some x → W.cells? 0 (a.add (i * E.sz)) E.sz = some (E.enc x)) ∧ ∀ x ∈ xs, φ x := by
    intro n
    induction n with
    | zero => exact fun _ => ⟨[], rfl, fun i x hx => by simp at hx, fun x hx => by cases hx⟩
    | succ n ih =>
      intro hn
      obtain ⟨xs, h1, h2, h3⟩ := ih (by omega)
      obtain ⟨x, h4, h5⟩ := h n (by omega)
      refine ⟨xs ++ [x], by simp [h1], fun i y hy => ?_, fun y hy => ?_⟩
      · by_cases hi : i < n
        · rw [List.getElem?_append_left (by omega)] at hy; exact h2 i y hy
        · rw [List.getElem?_append_right (by omega)] at hy
          have : i = n := by
            rcases Nat.lt_or_ge (i - xs.length) 1 with h | h
            · omega
            · rw [List.getElem?_eq_none (by simpa using h)] at hy; cases hy
          subst this
          rw [h1, Nat.sub_self] at hy
          cases hy
          exact h4
      · rcases List.mem_append.1 hy with hy | hy
        · exact h3 y hy
        · cases List.mem_singleton.1 hy; exact h5
  obtain ⟨xs, h1, h2, h3⟩ := key len (Nat.le_refl _)
  refine ⟨xs, h1, ?_, h3⟩
  cases xs with
  | nil => exact .inl rfl
  | cons x xs =>
    have h0 := h2 0 x rfl
    obtain ⟨_, hl, hc⟩ := World.cells?_some h0
    have hc0 := hc 0 hsz
    have ha : a.add (0 * E.sz) = a := by rw [Nat.zero_mul]; rfl
    rw [ha] at hc0
    have ha0 : a.add 0 = a := rfl
    rw [ha0] at hc0
    have hlen := E.len x
    have hx0 : (E.enc x)[0]? = some ((E.enc x)[0]'(by omega)) := List.getElem?_eq_getElem (by omega)
    rw [hx0] at hc0
    obtain ⟨B, off, sp⟩ := a
    unfold World.cell? at hc0
    simp only at hc0
    split at hc0
    · rename_i arr e fz hB
      split at hc0
      · cases hc0
      · rename_i hsp
        have hsp : sp = none := by cases sp <;> simp_all
        subst hsp
        have hlt : off < arr.size := (Array.getElem?_eq_some_iff.1 hc0).1
        have hfl : ((arr.toList).drop off).take ((x :: xs).length * E.sz) = (x :: xs).flatMap E.enc := flat_of (x :: xs) off arr.toList fun i y hy r hr => by
          obtain ⟨_, _, hcc⟩ := World.cells?_some (h2 i y hy)
          have := hcc r hr
          rw [add_off, add_off] at this
          unfold World.cell? at this
          simp only [hB] at this
          rw [← this]
          simp
        refine .inr ⟨B, arr.toList.take off, (arr.toList.drop off).drop ((x :: xs).length * E.sz), e, false, ?_, ?_⟩
        · rw [List.length_take, Nat.min_eq_left (by simp; omega)]
        · unfold allRO
          rw [hB]
          simp only
          rw [← hfl, List.append_assoc, List.take_append_drop, List.take_append_drop]
    · cases hc0
end Go.Sl
