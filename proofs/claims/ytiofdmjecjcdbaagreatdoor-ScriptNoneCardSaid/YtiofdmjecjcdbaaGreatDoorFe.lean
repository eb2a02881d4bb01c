/- What is handed in: read out of the world as rows that nobody writes. The arguments of a law. More steps: shifts, single bytes. Read-only facts of all elements of a list: lemmas; each with the conditions that it states. -/
import Derived.Test.YtiofdmjecjcdbaaGreatDoorFb
import Derived.SizedLaws
import Derived.Deep.Slices
set_option linter.unusedVariables false
set_option linter.unusedSimpArgs false
namespace Go.Sl
open Go.ChangeShapes Go.WideShapes Go.ChangeAt Go.RowKit Go.Deep

/-- all of a world's cells, as they stand -/
def allRO (W : World) : Hp := fun B => match W.heap[B]? with
  | some (.cells arr e _) => some (.cells arr.toList e false)
  | _ => none
theorem sat_allRO (W : World) : Sat (fun i => W.heap.size ≤ i) (allRO W) W := by
  refine ⟨fun B b hb => ?_, fun B b hb ho => ?_, fun i hi => hi⟩
  · unfold allRO at hb
    split at hb
    · rename_i arr e fz h; cases hb; exact ⟨arr, fz, h, rfl, fun h => by cases h⟩
    · cases hb
  · unfold allRO at hb
    split at hb
    · cases hb; cases ho
    · cases hb
theorem CallT.below {P : Program} {f : FuncId} {args : Array Value} {C : List HP} {r : Value} {W : World} (h : CallT P f args C fun v _ => v = r) (hC : Sats C (allRO W)) :
    Calls P f args W fun e W' => e = .returned r ∧ Below W.heap.size W W' := by
  refine ((h _ hC).run (fun i => W.heap.size ≤ i) W (sat_allRO W)).mono ?_
  rintro e W' ⟨v, H', rfl, ⟨C', _, rfl⟩, ht⟩
  exact ⟨rfl, ht.chg.os, ht.chg.tape, ht.chg.output, ht.chg.size, fun k hk => ht.chg.kept k hk (by omega)⟩
theorem sats_ro_nil {W : World} : Sats [] (allRO W) := trivial
/-- values that can be read as data -/
def Good (P : Program) (W : World) : Nat → TypeId → List Value → Prop
  | 0, _, _ => False
  | n + 1, t, cs => match P.underlying t with
    | some .bool => ∃ b, cs = [.bool b]
    | some (.int k) => ∃ i, cs = [.int k i] ∧ (Lit.int k i).wf = true
    | some .string => ∃ s : ByteArray, cs = [.string s] ∧ s.size ≤ reachBytes
    | some (.slice e) => cs = [.slice none 0 0] ∨ ∃ a len cap, cs = [.slice (some a) len cap] ∧ len ≤ cap ∧ cap * P.bytesOf e ≤ reachBytes ∧
        ∀ i, i < len → ∃ cs', W.cells? 0 (a.add (i * P.cellsOf e)) (P.cellsOf e) = some cs' ∧ Good P W n e cs'
    | some (.struct fs) => cs.length = P.cellsOf t ∧ ∀ (j : Nat) (f : Field), fs[j]? = some f → Good P W n f.type ((cs.drop f.offset).take (P.cellsOf f.type))
    | _ => True

theorem weights_each {H : Type} {P : Program} : ∀ {ts : List TypeId} {ds : List (DataW H)} {j : Nat} {t : TypeId} {d : DataW H}, ts[j]? = some t → ds[j]? = some d → ∀ n ∈ d.weights P t, n ∈ DataW.weightsEach P ts ds := DataW.weights_mem_each
theorem weights_all {H : Type} {P : Program} {e : TypeId} : ∀ {ds : List (DataW H)} {d : DataW H}, d ∈ ds → ∀ n ∈ d.weights P e, n ∈ DataW.weightsAll P e ds
  | d0 :: ds, d, hd, n, hn => by
    simp only [DataW.weightsAll, List.mem_append]
    rcases List.mem_cons.1 hd with rfl | hd
    · exact .inl hn
    · exact .inr (weights_all hd n hn)
  | [], _, hd, _, _ => by cases hd

theorem good_of {H : Type} {enc : TypeId × Value → H} {P : Program} {W : World} : ∀ (fuel : Nat) (t : TypeId) (cs : List Value) (d : DataW H) (p : List MemPlace),
    DataW.trod enc P W 0 (fun _ => true) true fuel t cs = some (d, p) → (∀ n ∈ d.weights P t, n ≤ reachBytes) → Good P W fuel t cs
  | 0, _, _, _, _, h, _ => by simp [DataW.trod] at h
  | fuel + 1, t, cs, d, p, h, hw => by
    unfold Good
    split
    · rename_i hu
      obtain ⟨b, h1, _⟩ := DataW.trod_bool hu h
      exact ⟨b, h1⟩
    · rename_i k hu
      obtain ⟨n, h1, _, h2⟩ := DataW.trod_int hu h
      exact ⟨n, h1, h2⟩
    · rename_i hu
      obtain ⟨s, h1, h2, _⟩ := DataW.trod_string hu h
      cases h2
      exact ⟨s, h1, by simpa using hw s.data.toList.length (by simp [DataW.weights])⟩
    · rename_i e hu
      rcases DataW.trod_slice hu h with ⟨h1, _⟩ | ⟨a, len, cap, elems, rest, n, hn, h1, hx, _, hl, _, hel, hi, hsp, _⟩
      · exact .inl h1
      · cases hn
        cases hx
        obtain ⟨hrl, _⟩ := hsp rfl
        refine .inr ⟨a, len, cap, h1, hl, ?_, fun i hil => ?_⟩
        · have := hw (((elems.map (·.1)).length + (rest.map (·.1)).length) * P.bytesOf e) (by simp [DataW.weights, hu])
          simp only [List.length_map] at this
          rwa [hel, hrl, Nat.add_sub_cancel' hl] at this
        · have h2 := hi i hil
          have h3 : elems[i]? = some (elems[i]'(by omega)) := List.getElem?_eq_getElem (by omega)
          rw [h3, Option.bind_eq_some_iff] at h2
          obtain ⟨cs', k1, k2⟩ := h2
          refine ⟨cs', k1, good_of fuel e cs' _ _ k2 fun w hwm => hw w ?_⟩
          simp only [DataW.weights, hu, List.mem_cons, List.mem_append]
          exact .inr (.inl (weights_all (List.mem_map.2 ⟨_, List.getElem_mem (by omega), rfl⟩) w hwm))
    · rename_i fs hu
      obtain ⟨xs, n, hn, hx, hl, hlen, hf⟩ := DataW.trod_struct hu h
      cases hn
      refine ⟨hl, fun j f hj => ?_⟩
      have h1 := hf j f hj
      have hj' : j < fs.size := (Array.getElem?_eq_some_iff.1 hj).1
      have h2 : xs[j]? = some (xs[j]'(by omega)) := List.getElem?_eq_getElem (by omega)
      rw [h2] at h1
      cases hx
      refine good_of fuel f.type _ (xs[j]'(by omega)).1 (xs[j]'(by omega)).2 h1 fun w hwm => hw w ?_
      simp only [DataW.weights, hu]
      refine weights_each (j := j) (t := f.type) (d := (xs[j]'(by omega)).1) ?_ ?_ w hwm
      · simp [hj]
      · simp [h2]
    · trivial

/-- all parameters -/
theorem good_all {H : Type} {enc : TypeId × Value → H} {P : Program} {W : World} : ∀ {ts : List TypeId} {vs : List Value} {ds : List (DataW H)} {ps : List MemPlace},
    DataW.TrodAll enc P W 0 (fun _ => true) true ts vs ds ps → (∀ n ∈ DataW.weightsEach P ts ds, n ≤ reachBytes) → ∀ (j : Nat) (t : TypeId), ts[j]? = some t → ∃ v n, vs[j]? = some v ∧ Good P W n t v.cells.toList
  | t :: ts, v :: vs, d :: ds, _, ⟨p, q, ⟨fuel, h1⟩, h2, _⟩, hw, 0, t', ht => by
    cases ht
    exact ⟨v, fuel, rfl, good_of fuel t _ d p h1 fun n hn => hw n (by simp only [DataW.weightsEach, List.mem_append]; exact .inl hn)⟩
  | t :: ts, v :: vs, d :: ds, _, ⟨p, q, h1, h2, _⟩, hw, j + 1, t', ht => by
    obtain ⟨v', n, k1, k2⟩ := good_all h2 (fun n hn => hw n (by simp only [DataW.weightsEach, List.mem_append]; exact .inr hn)) j t' (by simpa using ht)
    exact ⟨v', n, by simpa using k1, k2⟩
  | [], _, _, _, _, _, _, _, ht => by simp at ht

end Go.Sl

namespace Go.Sl
open Go.ChangeShapes Go.WideShapes Go.ChangeAt Go.RowKit Go.Deep
section
variable {H : Type} {enc : TypeId × Value → H} {P : Program} {W : World} {base : Nat} {ds : List (DataW H)} {ps : List MemPlace}
theorem trodAll_len : ∀ {ts : List TypeId} {vs : List Value} {ds : List (DataW H)} {ps : List MemPlace}, DataW.TrodAll enc P W 0 (fun _ => true) true ts vs ds ps → vs.length = ts.length ∧ ds.length = ts.length
  | [], [], [], _, _ => ⟨rfl, rfl⟩
  | _ :: _, _ :: _, _ :: _, _, ⟨_, _, _, h, _⟩ => by obtain ⟨h1, h2⟩ := trodAll_len h; simp [h1, h2]
  | [], _ :: _, _, _, h => h.elim
  | [], [], _ :: _, _, h => h.elim
  | _ :: _, [], _, _, h => h.elim
  | _ :: _, _ :: _, [], _, h => h.elim
variable {args : Array Value} {t0 t1 t2 t3 : TypeId}
theorem args2 (hA : DataW.TrodAll enc P W 0 (fun _ => true) true [t0, t1] args.toList ds ps) : ∃ v0 v1 d0 d1, args = #[v0, v1] ∧ ds = [d0, d1] := by
  obtain ⟨l⟩ := args
  obtain ⟨h1, h2⟩ := trodAll_len hA
  match l, ds, h1, h2 with
  | [v0, v1], [d0, d1], _, _ => exact ⟨v0, v1, d0, d1, rfl, rfl⟩
variable {r : Reach} {b0 n : Nat} {t : TypeId} {v : Value}
theorem arg_string (ht : P.underlying t = some .string) (hv : Value.okWide P W r b0 t v) (hg : Good P W n t v.cells.toList) : ∃ s : ByteArray, v = .string s ∧ s.size ≤ reachBytes := by
  obtain ⟨s, rfl⟩ := okWide_string ht hv
  cases n with
  | zero => exact hg.elim
  | succ n =>
    simp only [Good, ht] at hg
    obtain ⟨j, h1, h2⟩ := hg
    simp [Value.cells] at h1
    exact ⟨s, rfl, by rw [h1]; exact h2⟩
theorem arg_struct {fs : Array Field} (ht : P.underlying t = some (.struct fs)) (hv : Value.okWide P W r b0 t v) (hg : Good P W n t v.cells.toList) : ∃ cs : List Value, v = .agg cs.toArray ∧ Good P W n t cs := by
  obtain ⟨cs, rfl, _⟩ := okWide_struct ht hv
  exact ⟨cs.toList, rfl, hg⟩
end
/-! a value's cells, part by part -/
section
variable {P : Program} {W : World} {n : Nat} {t : TypeId} {cs : List Value}
theorem good_int {k : IntKind} (ht : P.underlying t = some (.int k)) (hg : Good P W n t cs) : ∃ i, cs = [.int k i] ∧ (Lit.int k i).wf = true := by
  cases n with
  | zero => exact hg.elim
  | succ n => simpa only [Good, ht] using hg
theorem good_struct {fs : Array Field} (ht : P.underlying t = some (.struct fs)) (hg : Good P W n t cs) : ∃ m, cs.length = P.cellsOf t ∧ ∀ (j : Nat) (f : Field), fs[j]? = some f → Good P W m f.type ((cs.drop f.offset).take (P.cellsOf f.type)) := by
  cases n with
  | zero => exact hg.elim
  | succ n =>
    simp only [Good, ht] at hg
    exact ⟨n, hg⟩
end
theorem wf64 {i : Int} (h : (Lit.int .i64 i).wf = true) : -9223372036854775808 ≤ i ∧ i ≤ 9223372036854775807 := by
  simp [Lit.wf, IntKind.min, IntKind.max, IntKind.signed, IntKind.bits] at h
  omega
end Go.Sl

namespace Go.Sl
section
variable {P : Program} {C : List HP} {a : Fr} {d : Option Tmp} {ty : TypeId} {pos : String} {after : Array Edge} {g : Option (Nat × Bool)} {t yt : TypeId} {x y z : Operand}
end
section
variable {P : Program} {ops : Array Oper} {Q : Fr → List HP → Prop} {a : Fr} {C : List HP} {c : Nat} {gd : Bool} {es : ET} {hist : List (List HP)} {d' : Tmp} {v : Value}
variable {ty : TypeId} {pos : String} {after : Array Edge} {g : Option (Nat × Bool)} {t yt : TypeId} {x y : Operand}
end
theorem nb_f {b : Bool} (h : b = false) : (!b) = true := by rw [h]; rfl
theorem nb_t {b : Bool} (h : b = true) : (!b) = false := by rw [h]; rfl
theorem not_beq_self {α : Type} [BEq α] [LawfulBEq α] (x : α) : (!(x == x)) = false := by rw [beq_self_eq_true]; rfl
/-- bytes, laid out one by one -/
def decI : List Value → Option (List Int)
  | [] => some []
  | .int .u8 z :: cs => match decI cs with
    | some zs => some (z :: zs)
    | none => none
  | _ => none
def rngB : List Int → Prop
  | [] => True
  | z :: l => (0 ≤ z ∧ z < 256) ∧ rngB l
theorem byteI_id {z : Int} (h : 0 ≤ z ∧ z < 256) : byteV (byteI z) = .int .u8 z := by rw [byteV_of, Int.emod_eq_of_lt h.1 h.2]
theorem decI_flat : ∀ (cs : List Value) (zs : List Int), decI cs = some zs → rngB zs → (zs.map byteI).flatMap byteC.enc = cs
  | [], zs, h, _ => by cases h; rfl
  | v :: cs, zs, h, hr => by
    unfold decI at h
    split at h
    · rename_i h1; cases h1
    · rename_i z cs' h1
      split at h
      · rename_i ys hy
        cases h1; cases h
        rw [List.map_cons, List.flatMap_cons, decI_flat _ _ hy hr.2]
        show [byteV (byteI z)] ++ _ = _
        rw [byteI_id hr.1]; rfl
      · cases h
    · cases h
theorem view_bytes {C : List HP} {e : TypeId} {B : Nat} {cs : List Value} {zs : List Int} (hd : decI cs = some zs) (hr : rngB zs) : View (pt B cs e :: C) (some ⟨B, 0, none⟩) byteC (zs.map byteI) := fun H ⟨H1, H2, _, k1, _, h3, _⟩ => by
  obtain ⟨b, hb, l⟩ := k1 B _ h3
  have := Blk.le_own l rfl
  subst this
  exact .inr ⟨B, [], [], e, true, rfl, by rw [decI_flat cs zs hd hr, List.nil_append, List.append_nil]; exact hb⟩
section
variable {P : Program} {ops : Array Oper} {Q : Fr → List HP → Prop} {a : Fr} {C : List HP} {c : Nat} {gd : Bool} {es : ET} {hist : List (List HP)} {d' : Tmp} {d : Option Tmp} {v : Value}
variable {ty : TypeId} {pos : String} {after : Array Edge} {g : Option (Nat × Bool)} {t yt : TypeId} {x y z : Operand} {op : Op}
theorem fieldN_spec {n f : Nat} (h : (match fieldOff P t f with | some m => natF m | none => none) = some n) : fieldOff P t f = some n := by
  split at h
  · rename_i m hm; rw [hm, natF_eq h]
  · cases h
theorem G_field {B off n f : Nat} (h : spl gd (.pointer (some ⟨B, off + n, none⟩)) fun v => evG P ops Q es hist (upd a d' v) C) (hx : opd a x = .pointer (some ⟨B, off, none⟩) := by exact rfl)
    (hf : (match fieldOff P t f with | some m => natF m | none => none) = some n := by exact rfl) (hw : wantB ops ⟨some d', .fieldAddr t x f, ty, pos, after, g⟩ a = true := by exact rfl) : evG P ops Q (ET.cons (c, gd, ⟨some d', .fieldAddr t x f, ty, pos, after, g⟩) es) hist a C :=
  evG_p rfl hw (pv_field hx (fieldN_spec hf)) h
theorem G_bytesP {t' e e' : TypeId} {B n cp : Nat} {cs : List Value} {zs : List Int} {R : List HP} (h : spl gd (.string ⟨(zs.map byteI).toArray⟩) fun v => evG P ops Q es (C :: hist) (upd a d' v) C) (hx : opd a x = .slice (some ⟨B, 0, none⟩) n cp := by exact rfl) (hs : bytesT P t = some e := by exact rfl) (ht : isStrT P t' = true := by exact rfl)
    (hp : Pick (pt B cs e') C R := by ((repeat (first | exact Pick.here | apply Pick.there)) <;> exact Pick.here)) (hd : decI cs = some zs := by exact rfl) (hr : rngB zs := by ((repeat (first | exact trivial | refine ⟨⟨by omega, by omega⟩, ?_⟩)) <;> exact trivial)) (hn : (zs.map byteI).length = n := by exact rfl)
    (hk : kd P (.convert t t' x) = .other := by exact rfl) (hw : wantB ops ⟨some d', .convert t t' x, ty, pos, after, g⟩ a = true := by exact rfl) : evG P ops Q (ET.cons (c, gd, ⟨some d', .convert t t' x, ty, pos, after, g⟩) es) hist a C :=
  G_bytesstr (bs := zs.map byteI) h hx hs ht (view_ent (fun _ hs => hp.sats hs) (view_bytes hd hr)) hn hk hw
theorem G_strrow {t' e : TypeId} {s : ByteArray} (h : ∀ r N, spl gd (.slice (some ⟨r, 0, none⟩) s.size N) fun v => evG P ops Q es (C :: hist) (upd a d' v) (row (some ⟨r, 0, none⟩) N e byteC s.data.toList :: C))
    (hx : opd a x = .string s := by exact rfl) (hs : isStrT P t = true := by exact rfl) (ht : bytesT P t' = some e := by exact rfl)
    (hk : kd P (.convert t t' x) = .other := by exact rfl) (hw : wantB ops ⟨some d', .convert t t' x, ty, pos, after, g⟩ a = true := by exact rfl) : evG P ops Q (ET.cons (c, gd, ⟨some d', .convert t t' x, ty, pos, after, g⟩) es) hist a C :=
  evG_o hk hw fun H hH => eo_strbytes hs ht hx fun r N hr hN => ⟨_, row_sats (B := r) (pre := []) (post := List.replicate (N - s.size) (.int .u8 0)) rfl (by rw [bytes_flat, List.nil_append]; exact sats_new hr hH) (by simpa using hN) (by simp [byteC]), h r N⟩
end
end Go.Sl

namespace Go.Sl
theorem pers_and {A B : HP} (pa : Pers A) (pb : Pers B) (ma : MonoP A) (mb : MonoP B) : Pers (andP A B) := fun H ⟨ha, hb⟩ => by
  obtain ⟨X, x1, x2, x3⟩ := pa H ha
  obtain ⟨Y, y1, y2, y3⟩ := pb H hb
  have hxy : Comp X Y := fun r b c hb hc => ⟨x3 r b hb, y3 r c hc⟩
  refine ⟨hjoin X Y, hjoin_le x1 y1, ⟨ma _ _ x2 (hjoin_left _ _), mb _ _ y2 (hjoin_right hxy x1 y1)⟩, fun r b hb => ?_⟩
  unfold hjoin at hb
  split at hb
  · rename_i a ha; cases hb; exact x3 _ _ ha
  · exact y3 _ _ hb
section
variable {α : Type} {P : α → HP}
def allP (P : α → HP) (l : List α) : HP := fun H => ∀ x ∈ l, P x H
theorem mono_all (m : ∀ x, MonoP (P x)) (l : List α) : MonoP (allP P l) := fun H H' h hl x hx => m x H H' (h x hx) hl
theorem pers_all (p : ∀ x, Pers (P x)) (m : ∀ x, MonoP (P x)) : ∀ l : List α, Pers (allP P l)
  | [] => fun H _ => ⟨fun _ => none, (fun _ _ h => by cases h), (fun _ h => by cases h), (fun _ _ h => by cases h)⟩
  | x :: l => fun H h => by
    obtain ⟨X, x1, x2, x3⟩ := pers_and (p x) (pers_all p m l) (m x) (mono_all m l) H ⟨h x (by simp), fun y hy => h y (by simp [hy])⟩
    exact ⟨X, x1, fun y hy => by
      rcases List.mem_cons.1 hy with rfl | hy
      · exact x2.1
      · exact x2.2 y hy, x3⟩
theorem sats_allnil {C : List HP} {H : Hp} (hs : Sats C H) : Sats (allP P [] :: C) H :=
  ⟨fun _ => none, H, (fun _ _ _ h => by cases h), (fun _ _ h => by cases h), Hle.refl H, (fun _ h => by cases h), hs⟩
theorem Ent.allnil {C C' : List HP} (h : Ent C C') : Ent C (allP P [] :: C') := fun H hs => sats_allnil (h H hs)
/-- one more -/
theorem Ent.allsnoc {C : List HP} {l : List α} {x : α} (p : ∀ x, Pers (P x)) (m : ∀ x, MonoP (P x)) : Ent (P x :: allP P l :: C) (allP P (l ++ [x]) :: C) := fun H hs => by
  have h := sats_and (p x) (pers_all p m l) (m x) (mono_all m l) hs
  refine Ent.imp (fun H ⟨h1, h2⟩ y hy => ?_) (Ent.refl C) H h
  rcases List.mem_append.1 hy with hy | hy
  · exact h2 y hy
  · cases List.mem_singleton.1 hy; exact h1
/-- one of them -/
theorem Ent.allget {C : List HP} {l : List α} {x : α} (p : ∀ x, Pers (P x)) (m : ∀ x, MonoP (P x)) (hx : x ∈ l) : Ent (allP P l :: C) (P x :: allP P l :: C) := fun H hs =>
  Ent.imp (fun H h => h x hx) (Ent.refl _) H (hs.dup (pers_all p m l))
theorem Ent.allsub {C : List HP} {l l' : List α} (h : ∀ x ∈ l', x ∈ l) : Ent (allP P l :: C) (allP P l' :: C) := Ent.imp (fun _ k x hx => k x (h x hx)) (Ent.refl _)
end
end Go.Sl

