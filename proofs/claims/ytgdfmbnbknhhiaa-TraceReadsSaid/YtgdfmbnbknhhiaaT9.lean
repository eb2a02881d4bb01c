/- More steps: shifts, single bytes: lemmas; each with the conditions that it states. -/
import Derived.Test.YtgdfmbnbknhhiaaT8
namespace Go.Sl
section
variable {P : Program} {C : List HP} {a : Fr} {d : Option Tmp} {ty : TypeId} {pos : String} {after : Array Edge} {g : Option (Nat × Bool)} {t yt : TypeId} {x y z : Operand}
theorem pv_shrN {k yk : IntKind} {m n : Int} (hx : opd a x = .int k m) (hy : opd a y = .int yk n) (h0 : 0 ≤ n) (h1 : n ≤ k.bits) : pureV P ⟨d, .binOp .shr t x y yt, ty, pos, after, g⟩ a = some (.int k (m / 2 ^ n.toNat)) := by
  have := pv_shr (P := P) (d := d) (t := t) (yt := yt) (ty := ty) (pos := pos) (after := after) (g := g) hx hy (by omega)
  rw [this, Nat.min_eq_left (by omega)]
  congr 2
  exact Int.fdiv_eq_ediv_of_nonneg m (Int.le_of_lt (Int.pow_pos (by decide)))
end
theorem bv_an0 (m : Int) (h0 : -9223372036854775808 ≤ m) (h1 : m ≤ 9223372036854775807) : IntKind.i64.wrap ((BitVec.ofInt 64 m &&& ~~~(BitVec.ofInt 64 0)).toNat) = m := by
  have e : (BitVec.ofInt 64 m &&& ~~~(BitVec.ofInt 64 0)) = BitVec.ofInt 64 m := by
    have : ~~~(BitVec.ofInt 64 0) = BitVec.allOnes 64 := by decide
    rw [this, BitVec.and_allOnes]
  rw [e]
  simp only [BitVec.toNat_ofInt, IntKind.wrap, IntKind.bits, IntKind.signed]
  simp
  omega
theorem bv_an1 (m : Int) (h0 : -9223372036854775808 ≤ m) (h1 : m ≤ 9223372036854775807) : IntKind.i64.wrap ((BitVec.ofInt 64 m &&& ~~~(BitVec.ofInt 64 1)).toNat) = m - m % 2 := by
  have e : (BitVec.ofInt 64 m &&& ~~~(BitVec.ofInt 64 1)).toNat = ((BitVec.ofInt 64 m).toNat / 2) * 2 := by
    have : (BitVec.ofInt 64 m &&& ~~~(BitVec.ofInt 64 1)) = (BitVec.ofInt 64 m >>> 1) <<< 1 := by
      apply BitVec.eq_of_getLsbD_eq
      intro i hi
      have h1 : BitVec.ofInt 64 1 = 1#64 := by decide
      rw [h1]
      have k : ∀ j : Nat, j < 64 → (~~~(1#64)).getLsbD j = decide (1 ≤ j) := by decide
      rw [BitVec.getLsbD_and, k i hi, BitVec.getLsbD_shiftLeft, BitVec.getLsbD_ushiftRight]
      by_cases h : 1 ≤ i
      · have e : 1 + (i - 1) = i := by omega
        simp [h, hi, e]
        intro; omega
      · have e : i = 0 := by omega
        subst e
        simp
    rw [this]
    have := (BitVec.ofInt 64 m).isLt
    simp [BitVec.toNat_shiftLeft, BitVec.toNat_ushiftRight, Nat.shiftLeft_eq, Nat.shiftRight_eq_div_pow]
    omega
  rw [e]
  simp only [BitVec.toNat_ofInt, IntKind.wrap, IntKind.bits, IntKind.signed]
  simp
  omega
section
variable {P : Program} {ops : Array Oper} {Q : Fr → List HP → Prop} {a : Fr} {C : List HP} {c : Nat} {gd : Bool} {es : ET} {hist : List (List HP)} {d' : Tmp} {v : Value}
variable {ty : TypeId} {pos : String} {after : Array Edge} {g : Option (Nat × Bool)} {t yt : TypeId} {x y : Operand}
theorem pv_andNot0 {d : Option Tmp} {m : Int} (hx : opd a x = .int .i64 m) (hy : opd a y = .int .i64 0) (h0 : -9223372036854775808 ≤ m) (h1 : m ≤ 9223372036854775807) : pureV P ⟨d, .binOp .andNot t x y yt, ty, pos, after, g⟩ a = some (.int .i64 m) :=
  pv_int hx hy rfl (by show some (Value.int .i64 _) = _; rw [show IntKind.i64.bits = 64 from rfl, bv_an0 m h0 h1])
theorem pv_andNot1 {d : Option Tmp} {m : Int} (hx : opd a x = .int .i64 m) (hy : opd a y = .int .i64 1) (h0 : -9223372036854775808 ≤ m) (h1 : m ≤ 9223372036854775807) : pureV P ⟨d, .binOp .andNot t x y yt, ty, pos, after, g⟩ a = some (.int .i64 (m - m % 2)) :=
  pv_int hx hy rfl (by show some (Value.int .i64 _) = _; rw [show IntKind.i64.bits = 64 from rfl, bv_an1 m h0 h1])
theorem G_andNot0 {m : Int} (h : spl gd (.int .i64 m) fun v => evG P ops Q es hist (upd a d' v) C) (hx : opd a x = .int .i64 m := by exact rfl) (hy : opd a y = .int .i64 0 := by exact rfl) (h0 : -9223372036854775808 ≤ m := by first | omega | assumption) (h1 : m ≤ 9223372036854775807 := by first | omega | assumption) (hw : wantB ops ⟨some d', .binOp .andNot t x y yt, ty, pos, after, g⟩ a = true := by exact rfl) : evG P ops Q (ET.cons (c, gd, ⟨some d', .binOp .andNot t x y yt, ty, pos, after, g⟩) es) hist a C :=
  evG_p rfl hw (pv_andNot0 hx hy h0 h1) h
theorem G_andNot1 {m : Int} (h : spl gd (.int .i64 (m - m % 2)) fun v => evG P ops Q es hist (upd a d' v) C) (hx : opd a x = .int .i64 m := by exact rfl) (hy : opd a y = .int .i64 1 := by exact rfl) (h0 : -9223372036854775808 ≤ m := by first | omega | assumption) (h1 : m ≤ 9223372036854775807 := by first | omega | assumption) (hw : wantB ops ⟨some d', .binOp .andNot t x y yt, ty, pos, after, g⟩ a = true := by exact rfl) : evG P ops Q (ET.cons (c, gd, ⟨some d', .binOp .andNot t x y yt, ty, pos, after, g⟩) es) hist a C :=
  evG_p rfl hw (pv_andNot1 hx hy h0 h1) h
end
theorem nb_f {b : Bool} (h : b = false) : (!b) = true := by rw [h]; rfl
theorem nb_t {b : Bool} (h : b = true) : (!b) = false := by rw [h]; rfl
theorem not_beq_self {α : Type} [BEq α] [LawfulBEq α] (x : α) : (!(x == x)) = false := by rw [beq_self_eq_true]; rfl
theorem at_upd {p : Fr → Prop} {a : Fr} {i : Nat} {v : Value} (h : a i = v) (k : p (upd a i v)) : p a := by
  have : upd a i v = a := by
    funext j; unfold upd; split
    · rename_i e; subst e; exact h.symm
    · rfl
  rw [this] at k; exact k
theorem at_updL {p : Fr → Prop} {a : Fr} (l : List (Nat × Value)) (h : Agree a l) (k : p (updL a l)) : p a := by rw [updL_eq h] at k; exact k
/-- bytes, laid out one by one -/
def decI : List Value → Option (List Int)
  | [] => some []
  | .int .u8 z :: cs => match decI cs with
    | some zs => some (z :: zs)
    | none => none
  | _ => none
def rngB : List Int → Prop
  | [] => True
  | z :: l => (0 ≤ z ∧ z < 256) ∧ rngB l
theorem byteI_id {z : Int} (h : 0 ≤ z ∧ z < 256) : byteV (byteI z) = .int .u8 z := by rw [byteV_of, Int.emod_eq_of_lt h.1 h.2]
theorem decI_flat : ∀ (cs : List Value) (zs : List Int), decI cs = some zs → rngB zs → (zs.map byteI).flatMap byteC.enc = cs
  | [], zs, h, _ => by cases h; rfl
  | v :: cs, zs, h, hr => by
    unfold decI at h
    split at h
    · rename_i h1; cases h1
    · rename_i z cs' h1
      split at h
      · rename_i ys hy
        cases h1; cases h
        rw [List.map_cons, List.flatMap_cons, decI_flat _ _ hy hr.2]
        show [byteV (byteI z)] ++ _ = _
        rw [byteI_id hr.1]; rfl
      · cases h
    · cases h
theorem view_bytes {C : List HP} {e : TypeId} {B : Nat} {cs : List Value} {zs : List Int} (hd : decI cs = some zs) (hr : rngB zs) : View (pt B cs e :: C) (some ⟨B, 0, none⟩) byteC (zs.map byteI) := fun H ⟨H1, H2, _, k1, _, h3, _⟩ => by
  obtain ⟨b, hb, l⟩ := k1 B _ h3
  have := Blk.le_own l rfl
  subst this
  exact .inr ⟨B, [], [], e, true, rfl, by rw [decI_flat cs zs hd hr, List.nil_append, List.append_nil]; exact hb⟩
section
variable {P : Program} {ops : Array Oper} {Q : Fr → List HP → Prop} {a : Fr} {C : List HP} {c : Nat} {gd : Bool} {es : ET} {hist : List (List HP)} {d' : Tmp} {d : Option Tmp} {v : Value}
variable {ty : TypeId} {pos : String} {after : Array Edge} {g : Option (Nat × Bool)} {t yt : TypeId} {x y z : Operand} {op : Op}
theorem G_shr {k yk : IntKind} {m n : Int} (h : spl gd (.int k (m / 2 ^ n.toNat)) fun v => evG P ops Q es hist (upd a d' v) C) (hx : opd a x = .int k m := by exact rfl) (hy : opd a y = .int yk n := by exact rfl)
    (h0 : 0 ≤ n := by first | omega | assumption) (h1 : n ≤ k.bits := by first | assumption | (show _ ≤ ((64 : Nat) : Int); omega) | (show _ ≤ ((8 : Nat) : Int); omega)) (hw : wantB ops ⟨some d', .binOp .shr t x y yt, ty, pos, after, g⟩ a = true := by exact rfl) : evG P ops Q (ET.cons (c, gd, ⟨some d', .binOp .shr t x y yt, ty, pos, after, g⟩) es) hist a C :=
  evG_p rfl hw (pv_shrN hx hy h0 h1) h
theorem fieldN_spec {n f : Nat} (h : (match fieldOff P t f with | some m => natF m | none => none) = some n) : fieldOff P t f = some n := by
  split at h
  · rename_i m hm; rw [hm, natF_eq h]
  · cases h
theorem G_field {B off n f : Nat} (h : spl gd (.pointer (some ⟨B, off + n, none⟩)) fun v => evG P ops Q es hist (upd a d' v) C) (hx : opd a x = .pointer (some ⟨B, off, none⟩) := by exact rfl)
    (hf : (match fieldOff P t f with | some m => natF m | none => none) = some n := by exact rfl) (hw : wantB ops ⟨some d', .fieldAddr t x f, ty, pos, after, g⟩ a = true := by exact rfl) : evG P ops Q (ET.cons (c, gd, ⟨some d', .fieldAddr t x f, ty, pos, after, g⟩) es) hist a C :=
  evG_p rfl hw (pv_field hx (fieldN_spec hf)) h
theorem G_bytesP {t' e e' : TypeId} {B n cp : Nat} {cs : List Value} {zs : List Int} {R : List HP} (h : spl gd (.string ⟨(zs.map byteI).toArray⟩) fun v => evG P ops Q es (C :: hist) (upd a d' v) C) (hx : opd a x = .slice (some ⟨B, 0, none⟩) n cp := by exact rfl) (hs : bytesT P t = some e := by exact rfl) (ht : isStrT P t' = true := by exact rfl)
    (hp : Pick (pt B cs e') C R := by ((repeat (first | exact Pick.here | apply Pick.there)) <;> exact Pick.here)) (hd : decI cs = some zs := by exact rfl) (hr : rngB zs := by ((repeat (first | exact trivial | refine ⟨⟨by omega, by omega⟩, ?_⟩)) <;> exact trivial)) (hn : (zs.map byteI).length = n := by exact rfl)
    (hk : kd P (.convert t t' x) = .other := by exact rfl) (hw : wantB ops ⟨some d', .convert t t' x, ty, pos, after, g⟩ a = true := by exact rfl) : evG P ops Q (ET.cons (c, gd, ⟨some d', .convert t t' x, ty, pos, after, g⟩) es) hist a C :=
  G_bytesstr (bs := zs.map byteI) h hx hs ht (view_ent (fun _ hs => hp.sats hs) (view_bytes hd hr)) hn hk hw
theorem G_strrow {t' e : TypeId} {s : ByteArray} (h : ∀ r N, spl gd (.slice (some ⟨r, 0, none⟩) s.size N) fun v => evG P ops Q es (C :: hist) (upd a d' v) (row (some ⟨r, 0, none⟩) N e byteC s.data.toList :: C))
    (hx : opd a x = .string s := by exact rfl) (hs : isStrT P t = true := by exact rfl) (ht : bytesT P t' = some e := by exact rfl)
    (hk : kd P (.convert t t' x) = .other := by exact rfl) (hw : wantB ops ⟨some d', .convert t t' x, ty, pos, after, g⟩ a = true := by exact rfl) : evG P ops Q (ET.cons (c, gd, ⟨some d', .convert t t' x, ty, pos, after, g⟩) es) hist a C :=
  evG_o hk hw fun H hH => eo_strbytes hs ht hx fun r N hr hN => ⟨_, row_sats (B := r) (pre := []) (post := List.replicate (N - s.size) (.int .u8 0)) rfl (by rw [bytes_flat, List.nil_append]; exact sats_new hr hH) (by simpa using hN) (by simp [byteC]), h r N⟩
/-- a fact of the chunks -/
theorem evG_fact {p : Prop} (hp : ∀ H, Sats C H → p) (h : p → evG P ops Q es hist a C) : evG P ops Q es hist a C := fun Hs H h1 h2 => h (hp H h2) Hs H h1 h2
end
end Go.Sl
