/- Steps for numbers of any kind; bytes of a literal row as a source: lemmas; each with the conditions that it states. -/
import Derived.Test.YtiofdmjecjcdbaaGreatDoorFh
import Derived.Test.YtiofdmjecjcdbaaGreatDoorFi
set_option linter.unusedVariables false
set_option linter.unusedSimpArgs false
namespace Go.Sl
section
variable {P : Program} {ops : Array Oper} {Q : Fr → List HP → Prop} {a : Fr} {C : List HP} {c : Nat} {gd : Bool} {es : ET} {hist : List (List HP)} {d' : Tmp} {d : Option Tmp} {v : Value} {k : Value → List HP → Prop}
variable {ty : TypeId} {pos : String} {after : Array Edge} {g : Option (Nat × Bool)} {t yt : TypeId} {x y z : Operand} {op : Op}
theorem wrapu {z : Int} (h0 : 0 ≤ z) (h1 : z < 18446744073709551616) : IntKind.wrap .u64 z = z := by
  rw [wrap_u64]; omega
theorem pv_addu {m n : Int} (hx : opd a x = .int .u64 m) (hy : opd a y = .int .u64 n) (h0 : 0 ≤ m + n) (h1 : m + n < 18446744073709551616) : pureV P ⟨d, .binOp .add t x y yt, ty, pos, after, g⟩ a = some (.int .u64 (m + n)) := by
  have := pv_int (P := P) (d := d) (t := t) (yt := yt) (ty := ty) (pos := pos) (after := after) (g := g) (op := .add) hx hy rfl rfl
  rw [wrapu h0 h1] at this; exact this
theorem G_addu {m n : Int} (h : spl gd (.int .u64 (m + n)) fun v => evG P ops Q es hist (upd a d' v) C) (hx : opd a x = .int .u64 m := by exact rfl) (hy : opd a y = .int .u64 n := by exact rfl) (h0 : 0 ≤ m + n := by first | omega | assumption) (h1 : m + n < 18446744073709551616 := by first | omega | assumption) (hw : wantB ops ⟨some d', .binOp .add t x y yt, ty, pos, after, g⟩ a = true := by exact rfl) : evG P ops Q (ET.cons (c, gd, ⟨some d', .binOp .add t x y yt, ty, pos, after, g⟩) es) hist a C :=
  evG_p rfl hw (pv_addu hx hy h0 h1) h
theorem G_quou {m n : Int} (h : spl gd (.int .u64 (m / n)) fun v => evG P ops Q es hist (upd a d' v) C) (hx : opd a x = .int .u64 m := by exact rfl) (hy : opd a y = .int .u64 n := by exact rfl) (h0 : 0 ≤ m := by first | omega | assumption) (h1 : 0 < n := by first | omega | assumption) (h2 : 0 ≤ m / n := by first | omega | assumption) (h3 : m / n < 18446744073709551616 := by first | omega | assumption) (hw : wantB ops ⟨some d', .binOp .quo t x y yt, ty, pos, after, g⟩ a = true := by exact rfl) : evG P ops Q (ET.cons (c, gd, ⟨some d', .binOp .quo t x y yt, ty, pos, after, g⟩) es) hist a C :=
  evG_p rfl hw (pv_quoN hx hy h0 h1 (wrapu h2 h3)) h
/-- a byte's part -/
theorem G_quo8 {m n : Int} (h : spl gd (.int .u8 (m / n)) fun v => evG P ops Q es hist (upd a d' v) C) (hx : opd a x = .int .u8 m := by exact rfl) (hy : opd a y = .int .u8 n := by exact rfl) (h0 : 0 ≤ m := by first | omega | assumption) (h1 : 0 < n := by first | omega | assumption) (h2 : 0 ≤ m / n := by first | omega | assumption) (h3 : m / n < 256 := by first | omega | assumption) (hw : wantB ops ⟨some d', .binOp .quo t x y yt, ty, pos, after, g⟩ a = true := by exact rfl) : evG P ops Q (ET.cons (c, gd, ⟨some d', .binOp .quo t x y yt, ty, pos, after, g⟩) es) hist a C :=
  evG_p rfl hw (pv_quoN hx hy h0 h1 (by rw [wrap_u8]; omega)) h
end
section
variable {P : Program} {C : List HP}
theorem src_bts {B cp n : Nat} {cs : List Value} {ys : List UInt8} (h : cs = ys.map byteV) (hn : ys.length = n) (hb : Has C B cs := by ((repeat (first | exact has_pt | exact has_ro | apply has_there)) <;> exact has_pt)) : Src P C (.slice (some ⟨B, 0, none⟩) n cp) byteC ys := by
  subst hn h
  refine ⟨rfl, fun H hs => ?_⟩
  obtain ⟨e, rw, h⟩ := hb H hs
  rw [rd_firstCells h (by simp [byteC]), bytes_flat]
  congr 1
  show (((ys.map byteV).drop 0).take (ys.length * 1)).toArray = _
  rw [List.drop_zero, List.take_of_length_le (by simp)]
end
end Go.Sl

