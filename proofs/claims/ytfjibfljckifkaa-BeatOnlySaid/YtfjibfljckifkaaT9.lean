/- More steps: shifts, single bytes: lemmas; each with the conditions that it states. -/
import Derived.Test.YtfjibfljckifkaaT8
namespace Go.Sl
section
variable {P : Program} {C : List HP} {a : Fr} {d : Option Tmp} {ty : TypeId} {pos : String} {after : Array Edge} {g : Option (Nat × Bool)} {t yt : TypeId} {x y z : Operand}
theorem pv_shrN {k yk : IntKind} {m n : Int} (hx : opd a x = .int k m) (hy : opd a y = .int yk n) (h0 : 0 ≤ n) (h1 : n ≤ k.bits) : pureV P ⟨d, .binOp .shr t x y yt, ty, pos, after, g⟩ a = some (.int k (m / 2 ^ n.toNat)) := by
  have := pv_shr (P := P) (d := d) (t := t) (yt := yt) (ty := ty) (pos := pos) (after := after) (g := g) hx hy (by omega)
  rw [this, Nat.min_eq_left (by omega)]
  congr 2
  exact Int.fdiv_eq_ediv_of_nonneg m (Int.le_of_lt (Int.pow_pos (by decide)))
end
theorem not_beq_self {α : Type} [BEq α] [LawfulBEq α] (x : α) : (!(x == x)) = false := by rw [beq_self_eq_true]; rfl
theorem at_upd {p : Fr → Prop} {a : Fr} {i : Nat} {v : Value} (h : a i = v) (k : p (upd a i v)) : p a := by
  have : upd a i v = a := by
    funext j; unfold upd; split
    · rename_i e; subst e; exact h.symm
    · rfl
  rw [this] at k; exact k
theorem at_updL {p : Fr → Prop} {a : Fr} (l : List (Nat × Value)) (h : Agree a l) (k : p (updL a l)) : p a := by rw [updL_eq h] at k; exact k
/-- bytes, laid out one by one -/
def decI : List Value → Option (List Int)
  | [] => some []
  | .int .u8 z :: cs => match decI cs with
    | some zs => some (z :: zs)
    | none => none
  | _ => none
def rngB : List Int → Prop
  | [] => True
  | z :: l => (0 ≤ z ∧ z < 256) ∧ rngB l
theorem byteI_id {z : Int} (h : 0 ≤ z ∧ z < 256) : byteV (byteI z) = .int .u8 z := by rw [byteV_of, Int.emod_eq_of_lt h.1 h.2]
theorem decI_flat : ∀ (cs : List Value) (zs : List Int), decI cs = some zs → rngB zs → (zs.map byteI).flatMap byteC.enc = cs
  | [], zs, h, _ => by cases h; rfl
  | v :: cs, zs, h, hr => by
    unfold decI at h
    split at h
    · rename_i h1; cases h1
    · rename_i z cs' h1
      split at h
      · rename_i ys hy
        cases h1; cases h
        rw [List.map_cons, List.flatMap_cons, decI_flat _ _ hy hr.2]
        show [byteV (byteI z)] ++ _ = _
        rw [byteI_id hr.1]; rfl
      · cases h
    · cases h
theorem view_bytes {C : List HP} {e : TypeId} {B : Nat} {cs : List Value} {zs : List Int} (hd : decI cs = some zs) (hr : rngB zs) : View (pt B cs e :: C) (some ⟨B, 0, none⟩) byteC (zs.map byteI) := fun H ⟨H1, H2, _, k1, _, h3, _⟩ => by
  obtain ⟨b, hb, l⟩ := k1 B _ h3
  have := Blk.le_own l rfl
  subst this
  exact .inr ⟨B, [], [], e, true, rfl, by rw [decI_flat cs zs hd hr, List.nil_append, List.append_nil]; exact hb⟩
section
variable {P : Program} {ops : Array Oper} {Q : Fr → List HP → Prop} {a : Fr} {C : List HP} {c : Nat} {gd : Bool} {es : List Entry} {hist : List (List HP)} {d' : Tmp} {d : Option Tmp} {v : Value}
variable {ty : TypeId} {pos : String} {after : Array Edge} {g : Option (Nat × Bool)} {t yt : TypeId} {x y z : Operand} {op : Op}
theorem G_shr {k yk : IntKind} {m n : Int} (h : spl gd (.int k (m / 2 ^ n.toNat)) fun v => evG P ops Q es hist (upd a d' v) C) (hx : opd a x = .int k m := by exact rfl) (hy : opd a y = .int yk n := by exact rfl)
    (h0 : 0 ≤ n := by first | omega | assumption) (h1 : n ≤ k.bits := by first | assumption | (show _ ≤ ((64 : Nat) : Int); omega) | (show _ ≤ ((8 : Nat) : Int); omega)) (hw : wantB ops ⟨some d', .binOp .shr t x y yt, ty, pos, after, g⟩ a = true := by exact rfl) : evG P ops Q ((c, gd, ⟨some d', .binOp .shr t x y yt, ty, pos, after, g⟩) :: es) hist a C :=
  evG_p rfl hw (pv_shrN hx hy h0 h1) h
theorem fieldN_spec {n f : Nat} (h : (match fieldOff P t f with | some m => natF m | none => none) = some n) : fieldOff P t f = some n := by
  split at h
  · rename_i m hm; rw [hm, natF_eq h]
  · cases h
theorem G_field {B off n f : Nat} (h : spl gd (.pointer (some ⟨B, off + n, none⟩)) fun v => evG P ops Q es hist (upd a d' v) C) (hx : opd a x = .pointer (some ⟨B, off, none⟩) := by exact rfl)
    (hf : (match fieldOff P t f with | some m => natF m | none => none) = some n := by exact rfl) (hw : wantB ops ⟨some d', .fieldAddr t x f, ty, pos, after, g⟩ a = true := by exact rfl) : evG P ops Q ((c, gd, ⟨some d', .fieldAddr t x f, ty, pos, after, g⟩) :: es) hist a C :=
  evG_p rfl hw (pv_field hx (fieldN_spec hf)) h
theorem G_bytesP {t' e e' : TypeId} {B n cp : Nat} {cs : List Value} {zs : List Int} {R : List HP} (h : spl gd (.string ⟨(zs.map byteI).toArray⟩) fun v => evG P ops Q es (C :: hist) (upd a d' v) C) (hx : opd a x = .slice (some ⟨B, 0, none⟩) n cp := by exact rfl) (hs : bytesT P t = some e := by exact rfl) (ht : isStrT P t' = true := by exact rfl)
    (hp : Pick (pt B cs e') C R := by ((repeat (first | exact Pick.here | apply Pick.there)) <;> exact Pick.here)) (hd : decI cs = some zs := by exact rfl) (hr : rngB zs := by ((repeat (first | exact trivial | refine ⟨⟨by omega, by omega⟩, ?_⟩)) <;> exact trivial)) (hn : (zs.map byteI).length = n := by exact rfl)
    (hw : wantB ops ⟨some d', .convert t t' x, ty, pos, after, g⟩ a = true := by exact rfl) : evG P ops Q ((c, gd, ⟨some d', .convert t t' x, ty, pos, after, g⟩) :: es) hist a C :=
  G_bytesstr (bs := zs.map byteI) h hx hs ht (view_ent (fun _ hs => hp.sats hs) (view_bytes hd hr)) hn hw
theorem G_strrow {t' e : TypeId} {s : ByteArray} (h : ∀ r N, spl gd (.slice (some ⟨r, 0, none⟩) s.size N) fun v => evG P ops Q es (C :: hist) (upd a d' v) (row (some ⟨r, 0, none⟩) N e byteC s.data.toList :: C))
    (hx : opd a x = .string s := by exact rfl) (hs : isStrT P t = true := by exact rfl) (ht : bytesT P t' = some e := by exact rfl)
    (hw : wantB ops ⟨some d', .convert t t' x, ty, pos, after, g⟩ a = true := by exact rfl) : evG P ops Q ((c, gd, ⟨some d', .convert t t' x, ty, pos, after, g⟩) :: es) hist a C :=
  evG_o rfl hw fun H hH => eo_strbytes hs ht hx fun r N hr hN => ⟨_, row_sats (B := r) (pre := []) (post := List.replicate (N - s.size) (.int .u8 0)) rfl (by rw [bytes_flat, List.nil_append]; exact sats_new hr hH) (by simpa using hN) (by simp [byteC]), h r N⟩
/-- a fact of the chunks -/
theorem evG_fact {p : Prop} (hp : ∀ H, Sats C H → p) (h : p → evG P ops Q es hist a C) : evG P ops Q es hist a C := fun Hs H h1 h2 => h (hp H h2) Hs H h1 h2
end
end Go.Sl
