/- Quotients and remainders of numbers below zero. Steps for numbers of any kind; bytes of a literal row as a source. Contracts of the kit, brought to chunks: what changes nothing; what lays one new block: lemmas; each with the conditions that it states. -/
import Derived.Test.YtiofdmjecjcdbaaGreatDoorFg
import Derived.Test.YtiofdmjecjcdbaaGreatDoorFh
namespace Go.Sl
theorem tdiv_np {m n : Int} : m.tdiv n = 0 - (0 - m).tdiv n := by
  rw [show (0 : Int) - m = -m by omega, Int.neg_tdiv]
  omega
theorem tmod_np {m n : Int} : m.tmod n = 0 - (0 - m).tmod n := by
  rw [show (0 : Int) - m = -m by omega, Int.neg_tmod]
  omega
section
variable {P : Program} {ops : Array Oper} {Q : Fr → List HP → Prop} {a : Fr} {C : List HP} {c : Nat} {gd : Bool} {es : ET} {hist : List (List HP)} {d' : Tmp}
variable {ty : TypeId} {pos : String} {after : Array Edge} {g : Option (Nat × Bool)} {t yt : TypeId} {x y : Operand}
theorem G_quoM {m n : Int} (h : spl gd (.int .i64 (0 - (0 - m) / n)) fun v => evG P ops Q es hist (upd a d' v) C) (hx : opd a x = .int .i64 m := by exact rfl) (hy : opd a y = .int .i64 n := by exact rfl) (h0 : m ≤ 0 := by first | omega | assumption) (h1 : 0 < n := by first | omega | assumption) (h2 : -9223372036854775808 ≤ 0 - (0 - m) / n := by first | omega | assumption) (h3 : 0 - (0 - m) / n ≤ 9223372036854775807 := by first | omega | assumption) (hw : wantB ops ⟨some d', .binOp .quo t x y yt, ty, pos, after, g⟩ a = true := by exact rfl) : evG P ops Q (ET.cons (c, gd, ⟨some d', .binOp .quo t x y yt, ty, pos, after, g⟩) es) hist a C := by
  refine evG_p rfl hw ?_ h
  rw [pv_quo hx hy (by omega), tdiv_np, Int.tdiv_eq_ediv_of_nonneg (by omega), wrap64 h2 h3]
theorem G_remM {k : IntKind} {m n : Int} (h : spl gd (.int k (0 - (0 - m) % n)) fun v => evG P ops Q es hist (upd a d' v) C) (hx : opd a x = .int k m := by exact rfl) (hy : opd a y = .int k n := by exact rfl) (h0 : m ≤ 0 := by first | omega | assumption) (h1 : 0 < n := by first | omega | assumption) (hw : wantB ops ⟨some d', .binOp .rem t x y yt, ty, pos, after, g⟩ a = true := by exact rfl) : evG P ops Q (ET.cons (c, gd, ⟨some d', .binOp .rem t x y yt, ty, pos, after, g⟩) es) hist a C := by
  refine evG_p rfl hw ?_ h
  rw [pv_rem hx hy (by omega), tmod_np, Int.tmod_eq_emod_of_nonneg (by omega)]
end
end Go.Sl

set_option linter.unusedVariables false
set_option linter.unusedSimpArgs false
namespace Go.Sl
section
variable {P : Program} {ops : Array Oper} {Q : Fr → List HP → Prop} {a : Fr} {C : List HP} {c : Nat} {gd : Bool} {es : ET} {hist : List (List HP)} {d' : Tmp} {d : Option Tmp} {v : Value} {k : Value → List HP → Prop}
variable {ty : TypeId} {pos : String} {after : Array Edge} {g : Option (Nat × Bool)} {t yt : TypeId} {x y z : Operand} {op : Op}
theorem wrapu {z : Int} (h0 : 0 ≤ z) (h1 : z < 18446744073709551616) : IntKind.wrap .u64 z = z := by
  rw [wrap_u64]; omega
theorem pv_addu {m n : Int} (hx : opd a x = .int .u64 m) (hy : opd a y = .int .u64 n) (h0 : 0 ≤ m + n) (h1 : m + n < 18446744073709551616) : pureV P ⟨d, .binOp .add t x y yt, ty, pos, after, g⟩ a = some (.int .u64 (m + n)) := by
  have := pv_int (P := P) (d := d) (t := t) (yt := yt) (ty := ty) (pos := pos) (after := after) (g := g) (op := .add) hx hy rfl rfl
  rw [wrapu h0 h1] at this; exact this
theorem G_addu {m n : Int} (h : spl gd (.int .u64 (m + n)) fun v => evG P ops Q es hist (upd a d' v) C) (hx : opd a x = .int .u64 m := by exact rfl) (hy : opd a y = .int .u64 n := by exact rfl) (h0 : 0 ≤ m + n := by first | omega | assumption) (h1 : m + n < 18446744073709551616 := by first | omega | assumption) (hw : wantB ops ⟨some d', .binOp .add t x y yt, ty, pos, after, g⟩ a = true := by exact rfl) : evG P ops Q (ET.cons (c, gd, ⟨some d', .binOp .add t x y yt, ty, pos, after, g⟩) es) hist a C :=
  evG_p rfl hw (pv_addu hx hy h0 h1) h
theorem G_quou {m n : Int} (h : spl gd (.int .u64 (m / n)) fun v => evG P ops Q es hist (upd a d' v) C) (hx : opd a x = .int .u64 m := by exact rfl) (hy : opd a y = .int .u64 n := by exact rfl) (h0 : 0 ≤ m := by first | omega | assumption) (h1 : 0 < n := by first | omega | assumption) (h2 : 0 ≤ m / n := by first | omega | assumption) (h3 : m / n < 18446744073709551616 := by first | omega | assumption) (hw : wantB ops ⟨some d', .binOp .quo t x y yt, ty, pos, after, g⟩ a = true := by exact rfl) : evG P ops Q (ET.cons (c, gd, ⟨some d', .binOp .quo t x y yt, ty, pos, after, g⟩) es) hist a C :=
  evG_p rfl hw (pv_quoN hx hy h0 h1 (wrapu h2 h3)) h
/-- a byte's part -/
theorem G_quo8 {m n : Int} (h : spl gd (.int .u8 (m / n)) fun v => evG P ops Q es hist (upd a d' v) C) (hx : opd a x = .int .u8 m := by exact rfl) (hy : opd a y = .int .u8 n := by exact rfl) (h0 : 0 ≤ m := by first | omega | assumption) (h1 : 0 < n := by first | omega | assumption) (h2 : 0 ≤ m / n := by first | omega | assumption) (h3 : m / n < 256 := by first | omega | assumption) (hw : wantB ops ⟨some d', .binOp .quo t x y yt, ty, pos, after, g⟩ a = true := by exact rfl) : evG P ops Q (ET.cons (c, gd, ⟨some d', .binOp .quo t x y yt, ty, pos, after, g⟩) es) hist a C :=
  evG_p rfl hw (pv_quoN hx hy h0 h1 (by rw [wrap_u8]; omega)) h
end
section
variable {P : Program} {C : List HP}
theorem src_bts {B cp n : Nat} {cs : List Value} {ys : List UInt8} (h : cs = ys.map byteV) (hn : ys.length = n) (hb : Has C B cs := by ((repeat (first | exact has_pt | exact has_ro | apply has_there)) <;> exact has_pt)) : Src P C (.slice (some ⟨B, 0, none⟩) n cp) byteC ys := by
  subst hn h
  refine ⟨rfl, fun H hs => ?_⟩
  obtain ⟨e, rw, h⟩ := hb H hs
  rw [rd_firstCells h (by simp [byteC]), bytes_flat]
  congr 1
  show (((ys.map byteV).drop 0).take (ys.length * 1)).toArray = _
  rw [List.drop_zero, List.take_of_length_le (by simp)]
end
end Go.Sl

namespace Go.Sl
theorem CallT.ofSame {P : Program} {f : FuncId} {fn : Func} {args : Array Value} {v : Value} {C : List HP} {K : Value → List HP → Prop} (hf : P.funcs[f]? = some fn) (hb : fn.body.isNone = false) (hn : (fn.name == "runtime.NumGoroutine") = false)
    (h : ∀ w, Calls P f args w fun e w' => e = .returned v ∧ w' = w) (hK : K v C) : CallT P f args C K := fun H hs =>
  ⟨⟨fn, hf, hb, hn⟩, fun own w hw => (h w).mono fun e w' ⟨he, hww⟩ => ⟨v, H, he, ⟨C, hs, hK⟩, by rw [hww]; exact To.refl hw⟩⟩
theorem To.alloc {own : Nat → Prop} {H : Hp} {w : World} (h : Sat own H w) (arr : Array Value) (e : TypeId) : To own w H (w.alloc (.cells arr e)) (hupd H w.heap.size (.cells arr.toList e true)) := by
  refine ⟨h.alloc (o := .cells arr e) fun w' hw' => ⟨arr, (0, 0), hw', rfl, fun _ => .inr rfl⟩, Chg.alloc own w _, fun B hB hn => ?_⟩
  rw [hupd_ne _ _ (by omega)]
  exact hn
theorem CallT.ofAlloc {P : Program} {f : FuncId} {fn : Func} {args : Array Value} {g : Nat → Value} {arr : Array Value} {e : TypeId} {C : List HP} {K : Value → List HP → Prop} (hf : P.funcs[f]? = some fn) (hb : fn.body.isNone = false) (hn : (fn.name == "runtime.NumGoroutine") = false)
    (h : ∀ H own w, Sats C H → Sat own H w → Calls P f args w fun x w' => x = .returned (g w.heap.size) ∧ w' = w.alloc (.cells arr e)) (hK : ∀ r, K (g r) (pt r arr.toList e :: C)) : CallT P f args C K := fun H hs =>
  ⟨⟨fn, hf, hb, hn⟩, fun own w hw => (h H own w hs hw).mono fun x w' ⟨he, hww⟩ => ⟨g w.heap.size, _, he, ⟨_, sats_new (hw.fresh (Nat.le_refl _)) hs, hK _⟩, by rw [hww]; exact To.alloc hw arr e⟩⟩
end Go.Sl

