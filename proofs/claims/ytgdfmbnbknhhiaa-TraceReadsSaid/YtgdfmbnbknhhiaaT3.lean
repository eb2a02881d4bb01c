/- Steps of the walk for what only computes, for loads, stores, new memory and calls: lemmas; each with the conditions that it states. -/
import Derived.Test.YtgdfmbnbknhhiaaT2
namespace Go.Sl
theorem ba_size (l : List UInt8) : (ByteArray.mk l.toArray).size = l.length := by simp [ByteArray.size]
theorem bget {s : ByteArray} {j : Nat} {b : UInt8} (h : s.data.toList[j]? = some b) : s[((j : Int)).toNat]? = some b := by
  simp only [Int.toNat_natCast]
  rw [Array.getElem?_toList] at h
  exact h
theorem wrap_u8 (z : Int) : IntKind.wrap .u8 z = z % 256 := by
  simp [IntKind.wrap, IntKind.bits, IntKind.signed]
theorem wrap_u64 (z : Int) : IntKind.wrap .u64 z = z % 18446744073709551616 := by
  simp [IntKind.wrap, IntKind.bits, IntKind.signed]
theorem wrap_quo {k : IntKind} {m n : Int} (h0 : 0 ≤ m) (h1 : 0 < n) (hm : k.wrap (m / n) = m / n) : k.wrap (m / n) = m / n := hm
section
variable {P : Program} {a : Fr} {d : Option Tmp} {ty : TypeId} {pos : String} {after : Array Edge} {g : Option (Nat × Bool)} {t yt : TypeId} {x y z : Operand}
theorem pv_quoN {k : IntKind} {m n : Int} (hx : opd a x = .int k m) (hy : opd a y = .int k n) (h0 : 0 ≤ m) (h1 : 0 < n) (h2 : k.wrap (m / n) = m / n) : pureV P ⟨d, .binOp .quo t x y yt, ty, pos, after, g⟩ a = some (.int k (m / n)) := by
  have := pv_quo (P := P) (d := d) (t := t) (yt := yt) (ty := ty) (pos := pos) (after := after) (g := g) hx hy (by omega)
  rw [this, Int.tdiv_eq_ediv_of_nonneg h0, h2]
theorem pv_remN {k : IntKind} {m n : Int} (hx : opd a x = .int k m) (hy : opd a y = .int k n) (h0 : 0 ≤ m) (h1 : 0 < n) : pureV P ⟨d, .binOp .rem t x y yt, ty, pos, after, g⟩ a = some (.int k (m % n)) := by
  have := pv_rem (P := P) (d := d) (t := t) (yt := yt) (ty := ty) (pos := pos) (after := after) (g := g) hx hy (by omega)
  rw [this, Int.tmod_eq_emod_of_nonneg h0]
theorem pv_neg64 {n : Int} (hx : opd a x = .int .i64 n) (h0 : -9223372036854775808 ≤ 0 - n) (h1 : 0 - n ≤ 9223372036854775807) : pureV P ⟨d, .unOp .neg t x, ty, pos, after, g⟩ a = some (.int .i64 (0 - n)) := by
  have := pv_neg (P := P) (d := d) (t := t) (ty := ty) (pos := pos) (after := after) (g := g) hx
  rw [this, wrap64 h0 h1]
theorem pv_minN {k k' : IntKind} {m n : Int} {as : Array Operand} {ts : Array TypeId} (hargs : as.toList.map (opd a) = [.int k m, .int k' n]) : pureV P ⟨d, .call { callee := .builtin .min, args := as, argTypes := ts }, ty, pos, after, g⟩ a = some (.int k (min m n)) := by
  rw [pv_min hargs]
  congr 2
  split <;> omega
theorem pv_maxN {k k' : IntKind} {m n : Int} {as : Array Operand} {ts : Array TypeId} (hargs : as.toList.map (opd a) = [.int k m, .int k' n]) : pureV P ⟨d, .call { callee := .builtin .max, args := as, argTypes := ts }, ty, pos, after, g⟩ a = some (.int k (max m n)) := by
  rw [pv_max hargs]
  congr 2
  split <;> omega
theorem pv_conv8 {t' : TypeId} {k' : IntKind} {n : Int} (hs : (P.underlying t).isSome = true) (ht : intT P t' = some .u8) (hx : opd a x = .int k' n) : pureV P ⟨d, .convert t t' x, ty, pos, after, g⟩ a = some (.int .u8 (n % 256)) := by
  have := pv_conv (P := P) (d := d) (ty := ty) (pos := pos) (after := after) (g := g) hs ht hx
  rw [wrap_u8] at this; exact this
theorem pv_convu {t' : TypeId} {k' : IntKind} {n : Int} (hs : (P.underlying t).isSome = true) (ht : intT P t' = some .u64) (hx : opd a x = .int k' n) : pureV P ⟨d, .convert t t' x, ty, pos, after, g⟩ a = some (.int .u64 (n % 18446744073709551616)) := by
  have := pv_conv (P := P) (d := d) (ty := ty) (pos := pos) (after := after) (g := g) hs ht hx
  rw [wrap_u64] at this; exact this
end
section
variable {P : Program} {ops : Array Oper} {Q : Fr → List HP → Prop} {a : Fr} {C : List HP} {c : Nat} {g : Bool} {o : Oper} {es : ET} {hist : List (List HP)} {v : Value} {k : Value → List HP → Prop}
theorem evG_po (hk : kd P o.op = .other) (hw : wantB ops o a = true) (hv : pureV P o a = some v) (h : spl g v fun v => evG P ops Q es (C :: hist) (putO a o.dst v) C) : evG P ops Q (ET.cons (c, g, o) es) hist a C :=
  evG_o hk hw fun _ hs => evOp_of_rd (rdV_of_pureV hv) ⟨C, hs, h⟩
end
section
variable {P : Program} {ops : Array Oper} {Q : Fr → List HP → Prop} {a : Fr} {C : List HP} {c : Nat} {gd : Bool} {es : ET} {hist : List (List HP)} {d' : Tmp} {d : Option Tmp} {v : Value} {k : Value → List HP → Prop}
variable {ty : TypeId} {pos : String} {after : Array Edge} {g : Option (Nat × Bool)} {t yt : TypeId} {x y z : Operand} {op : Op}
theorem G_skip (h : evG P ops Q es hist (upd a d' undef) C) (hw : wantB ops ⟨some d', op, ty, pos, after, g⟩ a = false := by exact rfl) : evG P ops Q (ET.cons (c, gd, ⟨some d', op, ty, pos, after, g⟩) es) hist a C := evG_s hw h
theorem G_skip0 (h : evG P ops Q es hist a C) (hw : wantB ops ⟨none, op, ty, pos, after, g⟩ a = false := by exact rfl) : evG P ops Q (ET.cons (c, gd, ⟨none, op, ty, pos, after, g⟩) es) hist a C := evG_s hw h
theorem G_pure0 (h : evG P ops Q es hist (upd a d' v) C) (hv : opV P op a = some v := by exact rfl) (hw : wantB ops ⟨some d', op, ty, pos, after, g⟩ a = true := by exact rfl) : evG P ops Q (ET.cons (c, false, ⟨some d', op, ty, pos, after, g⟩) es) hist a C :=
  evG_p (opV_kd hv) hw (opV_pure hv) (spl_no rfl h)
theorem G_pure (h : spl gd v fun v => evG P ops Q es hist (upd a d' v) C) (hv : opV P op a = some v := by exact rfl) (hw : wantB ops ⟨some d', op, ty, pos, after, g⟩ a = true := by exact rfl) : evG P ops Q (ET.cons (c, gd, ⟨some d', op, ty, pos, after, g⟩) es) hist a C :=
  evG_p (opV_kd hv) hw (opV_pure hv) h
theorem G_add64 {m n : Int} (h : spl gd (.int .i64 (m + n)) fun v => evG P ops Q es hist (upd a d' v) C) (hx : opd a x = .int .i64 m := by exact rfl) (hy : opd a y = .int .i64 n := by exact rfl) (h0 : -9223372036854775808 ≤ m + n := by first | omega | assumption) (h1 : m + n ≤ 9223372036854775807 := by first | omega | assumption) (hw : wantB ops ⟨some d', .binOp .add t x y yt, ty, pos, after, g⟩ a = true := by exact rfl) : evG P ops Q (ET.cons (c, gd, ⟨some d', .binOp .add t x y yt, ty, pos, after, g⟩) es) hist a C :=
  evG_p rfl hw (pv_add64 hx hy h0 h1) h
theorem G_sub64 {m n : Int} (h : spl gd (.int .i64 (m - n)) fun v => evG P ops Q es hist (upd a d' v) C) (hx : opd a x = .int .i64 m := by exact rfl) (hy : opd a y = .int .i64 n := by exact rfl) (h0 : -9223372036854775808 ≤ m - n := by first | omega | assumption) (h1 : m - n ≤ 9223372036854775807 := by first | omega | assumption) (hw : wantB ops ⟨some d', .binOp .sub t x y yt, ty, pos, after, g⟩ a = true := by exact rfl) : evG P ops Q (ET.cons (c, gd, ⟨some d', .binOp .sub t x y yt, ty, pos, after, g⟩) es) hist a C :=
  evG_p rfl hw (pv_sub64 hx hy h0 h1) h
theorem G_mul64 {m n : Int} (h : spl gd (.int .i64 (m * n)) fun v => evG P ops Q es hist (upd a d' v) C) (hx : opd a x = .int .i64 m := by exact rfl) (hy : opd a y = .int .i64 n := by exact rfl) (h0 : -9223372036854775808 ≤ m * n := by first | omega | assumption) (h1 : m * n ≤ 9223372036854775807 := by first | omega | assumption) (hw : wantB ops ⟨some d', .binOp .mul t x y yt, ty, pos, after, g⟩ a = true := by exact rfl) : evG P ops Q (ET.cons (c, gd, ⟨some d', .binOp .mul t x y yt, ty, pos, after, g⟩) es) hist a C :=
  evG_p rfl hw (pv_mul64 hx hy h0 h1) h
theorem G_quo {k : IntKind} {m n : Int} (h : spl gd (.int k (m / n)) fun v => evG P ops Q es hist (upd a d' v) C) (hx : opd a x = .int k m := by exact rfl) (hy : opd a y = .int k n := by exact rfl) (h0 : 0 ≤ m := by first | omega | assumption) (h1 : 0 < n := by first | omega | assumption) (h2 : k.wrap (m / n) = m / n := by first | (refine wrap64 ?_ ?_ <;> omega) | (refine wrap_quo ?_ ?_ (by assumption) <;> omega)) (hw : wantB ops ⟨some d', .binOp .quo t x y yt, ty, pos, after, g⟩ a = true := by exact rfl) : evG P ops Q (ET.cons (c, gd, ⟨some d', .binOp .quo t x y yt, ty, pos, after, g⟩) es) hist a C :=
  evG_p rfl hw (pv_quoN hx hy h0 h1 h2) h
theorem G_rem {k : IntKind} {m n : Int} (h : spl gd (.int k (m % n)) fun v => evG P ops Q es hist (upd a d' v) C) (hx : opd a x = .int k m := by exact rfl) (hy : opd a y = .int k n := by exact rfl) (h0 : 0 ≤ m := by first | omega | assumption) (h1 : 0 < n := by first | omega | assumption) (hw : wantB ops ⟨some d', .binOp .rem t x y yt, ty, pos, after, g⟩ a = true := by exact rfl) : evG P ops Q (ET.cons (c, gd, ⟨some d', .binOp .rem t x y yt, ty, pos, after, g⟩) es) hist a C :=
  evG_p rfl hw (pv_remN hx hy h0 h1) h
theorem G_neg64 {n : Int} (h : spl gd (.int .i64 (0 - n)) fun v => evG P ops Q es hist (upd a d' v) C) (hx : opd a x = .int .i64 n := by exact rfl) (h0 : -9223372036854775808 ≤ 0 - n := by first | omega | assumption) (h1 : 0 - n ≤ 9223372036854775807 := by first | omega | assumption) (hw : wantB ops ⟨some d', .unOp .neg t x, ty, pos, after, g⟩ a = true := by exact rfl) : evG P ops Q (ET.cons (c, gd, ⟨some d', .unOp .neg t x, ty, pos, after, g⟩) es) hist a C :=
  evG_p rfl hw (pv_neg64 hx h0 h1) h
theorem G_not {b : Bool} {v : Value} (h : spl gd (v) fun v => evG P ops Q es hist (upd a d' v) C) (hx : opd a x = .bool b := by exact rfl) (hv : force (.bool !b) = some v := by exact rfl) (hw : wantB ops ⟨some d', .unOp .not t x, ty, pos, after, g⟩ a = true := by exact rfl) : evG P ops Q (ET.cons (c, gd, ⟨some d', .unOp .not t x, ty, pos, after, g⟩) es) hist a C :=
  evG_p rfl hw (pv_not hx hv) h
theorem G_cat {m n : ByteArray} (h : spl gd (.string (m ++ n)) fun v => evG P ops Q es hist (upd a d' v) C) (hx : opd a x = .string m := by exact rfl) (hy : opd a y = .string n := by exact rfl) (hs : m.size + n.size ≤ 9223372036854775807 := by first | omega | (simp [ba_size] <;> omega) | decide) (hw : wantB ops ⟨some d', .binOp .add t x y yt, ty, pos, after, g⟩ a = true := by exact rfl) : evG P ops Q (ET.cons (c, gd, ⟨some d', .binOp .add t x y yt, ty, pos, after, g⟩) es) hist a C :=
  evG_p rfl hw (pv_cat hx hy hs) h
theorem G_index {B off n cp sz : Nat} {k : IntKind} {j : Int} (h : spl gd (.pointer (some ⟨B, off + j.toNat * sz, none⟩)) fun v => evG P ops Q es hist (upd a d' v) C) (hx : opd a x = .slice (some ⟨B, off, none⟩) n cp := by exact rfl) (hy : opd a y = .int k j := by exact rfl) (ht : elemSz P t = some sz := by exact rfl) (h0 : 0 ≤ j := by first | omega | assumption) (h1 : j < n := by first | omega | assumption) (hw : wantB ops ⟨some d', .indexAddr t x y, ty, pos, after, g⟩ a = true := by exact rfl) : evG P ops Q (ET.cons (c, gd, ⟨some d', .indexAddr t x y, ty, pos, after, g⟩) es) hist a C :=
  evG_p rfl hw (pv_index ht hx hy h0 h1) h
theorem G_indexA {B off n sz : Nat} {k : IntKind} {j : Int} (h : spl gd (.pointer (some ⟨B, off + j.toNat * sz, none⟩)) fun v => evG P ops Q es hist (upd a d' v) C) (hx : opd a x = .pointer (some ⟨B, off, none⟩) := by exact rfl) (hy : opd a y = .int k j := by exact rfl) (ht : arrT P t = some (n, sz) := by exact rfl) (h0 : 0 ≤ j := by first | omega | assumption) (h1 : j < n := by first | omega | assumption) (hw : wantB ops ⟨some d', .indexAddr t x y, ty, pos, after, g⟩ a = true := by exact rfl) : evG P ops Q (ET.cons (c, gd, ⟨some d', .indexAddr t x y, ty, pos, after, g⟩) es) hist a C :=
  evG_p rfl hw (pv_indexA ht hx hy h0 h1) h
theorem G_indexS {s : ByteArray} {k : IntKind} {j : Int} {b : UInt8} (h : spl gd (.int .u8 b.toNat) fun v => evG P ops Q es hist (upd a d' v) C) (hx : opd a x = .string s := by exact rfl) (hy : opd a y = .int k j := by exact rfl) (ht : isStrT P t = true := by exact rfl) (h0 : 0 ≤ j := by first | omega | assumption) (hb : s[j.toNat]? = some b := by first | assumption | exact bget (by assumption)) (hw : wantB ops ⟨some d', .index t x y, ty, pos, after, g⟩ a = true := by exact rfl) : evG P ops Q (ET.cons (c, gd, ⟨some d', .index t x y, ty, pos, after, g⟩) es) hist a C :=
  evG_p rfl hw (pv_indexS ht hx hy h0 hb) h
theorem G_slo {s : ByteArray} {k : IntKind} {j : Int} (h : spl gd (.string (s.extract j.toNat s.size)) fun v => evG P ops Q es hist (upd a d' v) C) (hx : opd a x = .string s := by exact rfl) (hy : opd a y = .int k j := by exact rfl) (ht : isStrT P t = true := by exact rfl) (h0 : 0 ≤ j := by first | omega | assumption) (h1 : j ≤ s.size := by first | omega | assumption) (hw : wantB ops ⟨some d', .slice t x (some y) none none, ty, pos, after, g⟩ a = true := by exact rfl) : evG P ops Q (ET.cons (c, gd, ⟨some d', .slice t x (some y) none none, ty, pos, after, g⟩) es) hist a C :=
  evG_p rfl hw (pv_strslice_lo ht hx hy h0 h1) h
theorem G_shi {s : ByteArray} {k : IntKind} {j : Int} (h : spl gd (.string (s.extract 0 j.toNat)) fun v => evG P ops Q es hist (upd a d' v) C) (hx : opd a x = .string s := by exact rfl) (hy : opd a y = .int k j := by exact rfl) (ht : isStrT P t = true := by exact rfl) (h0 : 0 ≤ j := by first | omega | assumption) (h1 : j ≤ s.size := by first | omega | assumption) (hw : wantB ops ⟨some d', .slice t x none (some y) none, ty, pos, after, g⟩ a = true := by exact rfl) : evG P ops Q (ET.cons (c, gd, ⟨some d', .slice t x none (some y) none, ty, pos, after, g⟩) es) hist a C :=
  evG_p rfl hw (pv_strslice_hi ht hx hy h0 h1) h
theorem G_slh {s : ByteArray} {k k' : IntKind} {j m : Int} (h : spl gd (.string (s.extract j.toNat m.toNat)) fun v => evG P ops Q es hist (upd a d' v) C) (hx : opd a x = .string s := by exact rfl) (hy : opd a y = .int k j := by exact rfl) (hz : opd a z = .int k' m := by exact rfl) (ht : isStrT P t = true := by exact rfl) (h0 : 0 ≤ j := by first | omega | assumption) (h1 : j ≤ m := by first | omega | assumption) (h2 : m ≤ s.size := by first | omega | assumption) (hw : wantB ops ⟨some d', .slice t x (some y) (some z) none, ty, pos, after, g⟩ a = true := by exact rfl) : evG P ops Q (ET.cons (c, gd, ⟨some d', .slice t x (some y) (some z) none, ty, pos, after, g⟩) es) hist a C :=
  evG_p rfl hw (pv_strslice ht hx hy hz h0 h1 h2) h
theorem G_build {ps : Array (Nat × Operand)} {vs : List (Nat × Value)} {v : Value} (h : spl gd (v) fun v => evG P ops Q es hist (upd a d' v) C) (hps : partsV a ps.toList = some vs := by exact rfl) (hv : buildV P t vs = some v := by exact rfl) (hw : wantB ops ⟨some d', .build t ps, ty, pos, after, g⟩ a = true := by exact rfl) : evG P ops Q (ET.cons (c, gd, ⟨some d', .build t ps, ty, pos, after, g⟩) es) hist a C :=
  evG_p rfl hw (pv_build hps hv) h
theorem G_min {k k' : IntKind} {m n : Int} {as : Array Operand} {ts : Array TypeId} (h : spl gd (.int k (min m n)) fun v => evG P ops Q es hist (upd a d' v) C) (hargs : as.toList.map (opd a) = [.int k m, .int k' n] := by exact rfl) (hw : wantB ops ⟨some d', .call { callee := .builtin .min, args := as, argTypes := ts }, ty, pos, after, g⟩ a = true := by exact rfl) : evG P ops Q (ET.cons (c, gd, ⟨some d', .call { callee := .builtin .min, args := as, argTypes := ts }, ty, pos, after, g⟩) es) hist a C :=
  evG_p rfl hw (pv_minN hargs) h
theorem G_max {k k' : IntKind} {m n : Int} {as : Array Operand} {ts : Array TypeId} (h : spl gd (.int k (max m n)) fun v => evG P ops Q es hist (upd a d' v) C) (hargs : as.toList.map (opd a) = [.int k m, .int k' n] := by exact rfl) (hw : wantB ops ⟨some d', .call { callee := .builtin .max, args := as, argTypes := ts }, ty, pos, after, g⟩ a = true := by exact rfl) : evG P ops Q (ET.cons (c, gd, ⟨some d', .call { callee := .builtin .max, args := as, argTypes := ts }, ty, pos, after, g⟩) es) hist a C :=
  evG_p rfl hw (pv_maxN hargs) h
theorem G_eql_agg {xs ys : Array Value} {b : Bool} (h : spl gd (.bool b) fun v => evG P ops Q es hist (upd a d' v) C) (hx : opd a x = .agg xs := by exact rfl) (hy : opd a y = .agg ys := by exact rfl) (hg : (!P.eqGuardType P.depth t && eqFree P 20 t) = true := by decide +kernel) (he : eqV P 20 t (.agg xs) (.agg ys) = some b := by exact rfl) (hw : wantB ops ⟨some d', .binOp .eql t x y yt, ty, pos, after, g⟩ a = true := by exact rfl) : evG P ops Q (ET.cons (c, gd, ⟨some d', .binOp .eql t x y yt, ty, pos, after, g⟩) es) hist a C :=
  evG_p rfl hw (pv_eql_agg hx hy hg he) h
theorem G_neq_agg {xs ys : Array Value} {b : Bool} (h : spl gd (.bool (!b)) fun v => evG P ops Q es hist (upd a d' v) C) (hx : opd a x = .agg xs := by exact rfl) (hy : opd a y = .agg ys := by exact rfl) (hg : (!P.eqGuardType P.depth t && eqFree P 20 t) = true := by decide +kernel) (he : eqV P 20 t (.agg xs) (.agg ys) = some b := by exact rfl) (hw : wantB ops ⟨some d', .binOp .neq t x y yt, ty, pos, after, g⟩ a = true := by exact rfl) : evG P ops Q (ET.cons (c, gd, ⟨some d', .binOp .neq t x y yt, ty, pos, after, g⟩) es) hist a C :=
  evG_p rfl hw (pv_neq_agg hx hy hg he) h
theorem G_shl8 {yk : IntKind} {u : Int} (h : spl gd (.int .i64 (u * 256)) fun v => evG P ops Q es hist (upd a d' v) C) (hx : opd a x = .int .i64 u := by exact rfl) (hy : opd a y = .int yk 8 := by exact rfl) (h0 : 0 ≤ u := by first | omega | assumption) (h1 : u < 18014398509481984 := by first | omega | assumption) (hw : wantB ops ⟨some d', .binOp .shl t x y yt, ty, pos, after, g⟩ a = true := by exact rfl) : evG P ops Q (ET.cons (c, gd, ⟨some d', .binOp .shl t x y yt, ty, pos, after, g⟩) es) hist a C :=
  evG_p rfl hw (pv_shl8 hx hy h0 h1) h
theorem G_orb {u b : Int} (h : spl gd (.int .i64 (u * 256 + b)) fun v => evG P ops Q es hist (upd a d' v) C) (hx : opd a x = .int .i64 (u * 256) := by exact rfl) (hy : opd a y = .int .i64 b := by exact rfl) (h0 : 0 ≤ u := by first | omega | assumption) (h1 : u < 18014398509481984 := by first | omega | assumption) (h2 : 0 ≤ b := by first | omega | assumption) (h3 : b < 256 := by first | omega | assumption) (hw : wantB ops ⟨some d', .binOp .or t x y yt, ty, pos, after, g⟩ a = true := by exact rfl) : evG P ops Q (ET.cons (c, gd, ⟨some d', .binOp .or t x y yt, ty, pos, after, g⟩) es) hist a C :=
  evG_p rfl hw (pv_orb hx hy h0 h1 h2 h3) h
theorem G_conv64 {t' : TypeId} {k' : IntKind} {n : Int} (h : spl gd (.int .i64 n) fun v => evG P ops Q es hist (upd a d' v) C) (hx : opd a x = .int k' n := by exact rfl) (ht : intT P t' = some .i64 := by exact rfl) (hs : (P.underlying t).isSome = true := by exact rfl) (h0 : -9223372036854775808 ≤ n := by first | omega | assumption) (h1 : n ≤ 9223372036854775807 := by first | omega | assumption) (hk : kd P (.convert t t' x) = .pure := by exact rfl) (hw : wantB ops ⟨some d', .convert t t' x, ty, pos, after, g⟩ a = true := by exact rfl) : evG P ops Q (ET.cons (c, gd, ⟨some d', .convert t t' x, ty, pos, after, g⟩) es) hist a C :=
  evG_p hk hw (pv_conv64 hs ht hx h0 h1) h
theorem G_conv8 {t' : TypeId} {k' : IntKind} {n : Int} (h : spl gd (.int .u8 (n % 256)) fun v => evG P ops Q es hist (upd a d' v) C) (hx : opd a x = .int k' n := by exact rfl) (ht : intT P t' = some .u8 := by exact rfl) (hs : (P.underlying t).isSome = true := by exact rfl) (hk : kd P (.convert t t' x) = .pure := by exact rfl) (hw : wantB ops ⟨some d', .convert t t' x, ty, pos, after, g⟩ a = true := by exact rfl) : evG P ops Q (ET.cons (c, gd, ⟨some d', .convert t t' x, ty, pos, after, g⟩) es) hist a C :=
  evG_p hk hw (pv_conv8 hs ht hx) h
theorem G_convu {t' : TypeId} {k' : IntKind} {n : Int} (h : spl gd (.int .u64 (n % 18446744073709551616)) fun v => evG P ops Q es hist (upd a d' v) C) (hx : opd a x = .int k' n := by exact rfl) (ht : intT P t' = some .u64 := by exact rfl) (hs : (P.underlying t).isSome = true := by exact rfl) (hk : kd P (.convert t t' x) = .pure := by exact rfl) (hw : wantB ops ⟨some d', .convert t t' x, ty, pos, after, g⟩ a = true := by exact rfl) : evG P ops Q (ET.cons (c, gd, ⟨some d', .convert t t' x, ty, pos, after, g⟩) es) hist a C :=
  evG_p hk hw (pv_convu hs ht hx) h
theorem G_conv {t' : TypeId} {k k' : IntKind} {n : Int} (h : spl gd (.int k (k.wrap n)) fun v => evG P ops Q es hist (upd a d' v) C) (hx : opd a x = .int k' n := by exact rfl) (ht : intT P t' = some k := by exact rfl) (hs : (P.underlying t).isSome = true := by exact rfl) (hk : kd P (.convert t t' x) = .pure := by exact rfl) (hw : wantB ops ⟨some d', .convert t t' x, ty, pos, after, g⟩ a = true := by exact rfl) : evG P ops Q (ET.cons (c, gd, ⟨some d', .convert t t' x, ty, pos, after, g⟩) es) hist a C :=
  evG_p hk hw (pv_conv hs ht hx) h
/-! loads -/
theorem rd_has {B off : Nat} {cs : List Value} (hb : Has C B cs) (hx : opd a x = .pointer (some ⟨B, off, none⟩)) (hv : ldC P t cs off = some v) : RdC P ⟨d, .load t x, ty, pos, after, g⟩ a C v := fun H hs => by
  obtain ⟨e, rw, hB⟩ := hb H hs
  exact rv_load (by rw [hx]; exact ldC_ldV hB hv)
/-- the same load in what was before -/
def HasL (P : Program) (t : TypeId) (B off : Nat) (v : Value) (C : List HP) : Prop := ∃ cs, Has C B cs ∧ ldC P t cs off = some v
theorem hl_mk {B off : Nat} {cs : List Value} (hb : Has C B cs := by ((repeat (first | exact has_pt | exact has_ro | apply has_there)) <;> exact has_pt)) (hv : ldC P t cs off = some v := by exact rfl) : HasL P t B off v C := ⟨cs, hb, hv⟩
theorem ar_nil {p : List HP → Prop} : allRd p [] := trivial
theorem ar_cons {p : List HP → Prop} {l : List (List HP)} (h : p C) (hl : allRd p l) : allRd p (C :: l) := ⟨h, hl⟩
theorem ar_imp {p q : List HP → Prop} (hpq : ∀ C, p C → q C) : ∀ {l : List (List HP)}, allRd p l → allRd q l
  | [], _ => trivial
  | _ :: _, h => ⟨hpq _ h.1, ar_imp hpq h.2⟩
theorem G_load {B off : Nat} {cs : List Value} (h : spl gd v fun v => evG P ops Q es hist (upd a d' v) C) (hx : opd a x = .pointer (some ⟨B, off, none⟩) := by exact rfl)
    (hb : Has C B cs := by ((repeat (first | exact has_pt | exact has_ro | apply has_there)) <;> exact has_pt)) (hv : ldC P t cs off = some v := by exact rfl)
    (hh : allRd (HasL P t B off v) (hist.take c) := by ((repeat (first | exact ar_nil | refine ar_cons hl_mk ?_)) <;> exact ar_nil))
    (hw : wantB ops ⟨some d', .load t x, ty, pos, after, g⟩ a = true := by exact rfl) : evG P ops Q (ET.cons (c, gd, ⟨some d', .load t x, ty, pos, after, g⟩) es) hist a C :=
  evG_r rfl hw (rd_has hb hx hv) (ar_imp (fun _ ⟨_, k1, k2⟩ => rd_has k1 hx k2) hh) h

/-! stores, new memory -/
theorem sats_pt {B : Nat} {cs : List Value} {e : TypeId} {H : Hp} (hs : Sats (pt B cs e :: C) H) : H B = some (.cells cs e true) ∧ ∀ b : Blk, (∃ cs', b = .cells cs' e true) → Sats C (hupd H B b) := by
  obtain ⟨H1, H2, hc, h1, h2, ha, hs⟩ := hs
  obtain ⟨b, hb, l⟩ := h1 B _ ha
  have := Blk.le_own l rfl
  subst this
  refine ⟨hb, fun b _ => hs.mono fun r x hx => ?_⟩
  have hne : r ≠ B := fun e => by subst e; have := (hc r _ x ha hx).1; cases this
  rw [hupd_ne _ _ hne]
  exact h2 r x hx
theorem sats_new {r : Nat} {cs : List Value} {e : TypeId} {H : Hp} (hr : H r = none) (hs : Sats C H) : Sats (pt r cs e :: C) (hupd H r (.cells cs e true)) :=
  ⟨hone r (.cells cs e true), H, (fun B b x hb hx => by rw [(hone_eq hb).1, hr] at hx; cases hx), hone_le (hupd_same _ _ _) (Blk.le_refl _),
    (fun B b hb => ⟨b, by rw [hupd_ne _ _ (fun e => by subst e; rw [hr] at hb; cases hb)]; exact hb, b.le_refl⟩), hone_same _ _, hs⟩
theorem sats_put {B : Nat} {cs cs' : List Value} {e : TypeId} {H : Hp} (hs : Sats (pt B cs e :: C) H) : Sats (pt B cs' e :: C) (hupd H B (.cells cs' e true)) := by
  obtain ⟨H1, H2, hc, h1, h2, ha, hs⟩ := hs
  have hn : H2 B = none := by
    cases hx : H2 B with
    | none => rfl
    | some x => have := (hc B _ x ha hx).1; cases this
  refine ⟨hone B (.cells cs' e true), H2, (fun r b x hb hx => by rw [(hone_eq hb).1, hn] at hx; cases hx), hone_le (hupd_same _ _ _) (Blk.le_refl _), fun r b hb => ?_, hone_same _ _, hs⟩
  rw [hupd_ne _ _ (fun e => by subst e; rw [hn] at hb; cases hb)]
  exact h2 r b hb
theorem G_o (h : EvOp P ⟨some d', op, ty, pos, after, g⟩ a C fun v C' => spl gd v fun v => evG P ops Q es (C :: hist) (upd a d' v) C') (hk : kd P op = .other := by exact rfl) (hw : wantB ops ⟨some d', op, ty, pos, after, g⟩ a = true := by exact rfl) :
    evG P ops Q (ET.cons (c, gd, ⟨some d', op, ty, pos, after, g⟩) es) hist a C := evG_o hk hw h
theorem G_o0 (h : EvOp P ⟨none, op, ty, pos, after, g⟩ a C fun _ C' => evG P ops Q es (C :: hist) a C') (hk : kd P op = .other := by exact rfl) (hw : wantB ops ⟨none, op, ty, pos, after, g⟩ a = true := by exact rfl) :
    evG P ops Q (ET.cons (c, gd, ⟨none, op, ty, pos, after, g⟩) es) hist a C := evG_o hk hw fun H hs => evOp_mono (fun _ _ ⟨C', h1, h2⟩ => ⟨C', h1, (spl_iff _ _ _).2 h2⟩) (h H hs)
theorem G_store {B off n : Nat} {cs cs' vs : List Value} {e : TypeId} {u : Value} {R : List HP} (h : evG P ops Q es (C :: hist) a (pt B cs' e :: R)) (hx : opd a x = .pointer (some ⟨B, off, none⟩) := by exact rfl)
    (hp : Pick (pt B cs e) C R := by ((repeat (first | exact Pick.here | apply Pick.there)) <;> exact Pick.here)) (hy : force (opd a y) = some u := by exact rfl) (hvs : copyL u.cells.toList = some vs := by exact rfl) (ht : infoSz P t = some n := by exact rfl)
    (hn : (vs.length == n) = true := by exact rfl) (hone : (vs.all Value.oneCell') = true := by exact rfl) (hle : Nat.ble (off + n) cs.length = true := by exact rfl) (hs : copyL (setF cs off vs) = some cs' := by exact rfl)
    (hw : wantB ops ⟨none, .store t x y, ty, pos, after, g⟩ a = true := by exact rfl) : evG P ops Q (ET.cons (c, gd, ⟨none, .store t x y, ty, pos, after, g⟩) es) hist a C :=
  G_o0 (hw := hw) fun H hH => by
    have h1 := hp.sats hH
    exact eo_store_c hx hy hvs ht hn hone (sats_pt h1).1 hle hs ⟨_, sats_put h1, h⟩
theorem G_alloc {zs zs' : List Value} (h : ∀ r, spl gd (.pointer (some ⟨r, 0, none⟩)) fun v => evG P ops Q es (C :: hist) (upd a d' v) (pt r zs' t :: C)) (hz : zeroL P t = some zs := by exact rfl) (hc : copyL zs = some zs' := by exact rfl)
    (hw : wantB ops ⟨some d', .alloc t, ty, pos, after, g⟩ a = true := by exact rfl) : evG P ops Q (ET.cons (c, gd, ⟨some d', .alloc t, ty, pos, after, g⟩) es) hist a C :=
  evG_o rfl hw fun H hH => eo_alloc_c hz hc fun r hr => ⟨_, sats_new hr hH, h r⟩
theorem G_box {u : Value} {vs : List Value} (h : ∀ r, spl gd (.pointer (some ⟨r, 0, none⟩)) fun v => evG P ops Q es (C :: hist) (upd a d' v) (pt r vs t :: C)) (hx : force (opd a x) = some u := by exact rfl) (hvs : copyL u.cells.toList = some vs := by exact rfl)
    (hw : wantB ops ⟨some d', .box t x, ty, pos, after, g⟩ a = true := by exact rfl) : evG P ops Q (ET.cons (c, gd, ⟨some d', .box t x, ty, pos, after, g⟩) es) hist a C :=
  evG_o rfl hw fun H hH => eo_box_c hx hvs fun r hr => ⟨_, sats_new hr hH, h r⟩
theorem G_buildSlice {ps : Array (Nat × Operand)} {n : Nat} {vs : List (Nat × Value)} {cs : List Value} {e : TypeId} (h : ∀ r, spl gd (.slice (some ⟨r, 0, none⟩) n n) fun v => evG P ops Q es (C :: hist) (upd a d' v) (pt r cs e :: C))
    (hps : partsV a ps.toList = some vs := by exact rfl) (he : elemOfS P t = some e := by exact rfl) (hc : bsCells P t n vs = some cs := by exact rfl)
    (hw : wantB ops ⟨some d', .buildSlice t n ps, ty, pos, after, g⟩ a = true := by exact rfl) : evG P ops Q (ET.cons (c, gd, ⟨some d', .buildSlice t n ps, ty, pos, after, g⟩) es) hist a C :=
  evG_o rfl hw fun H hH => eo_buildSlice hps he hc fun r hr => ⟨_, sats_new hr hH, h r⟩
theorem G_strbytes {t' e : TypeId} {s : ByteArray} (h : ∀ r N, s.size ≤ N → spl gd (.slice (some ⟨r, 0, none⟩) s.size N) fun v => evG P ops Q es (C :: hist) (upd a d' v) (pt r (bytesV s ++ List.replicate (N - s.size) (.int .u8 0)) e :: C))
    (hx : opd a x = .string s := by exact rfl) (hs : isStrT P t = true := by exact rfl) (ht : bytesT P t' = some e := by exact rfl)
    (hk : kd P (.convert t t' x) = .other := by exact rfl) (hw : wantB ops ⟨some d', .convert t t' x, ty, pos, after, g⟩ a = true := by exact rfl) : evG P ops Q (ET.cons (c, gd, ⟨some d', .convert t t' x, ty, pos, after, g⟩) es) hist a C :=
  evG_o hk hw fun H hH => eo_strbytes hs ht hx fun r N hr hN => ⟨_, sats_new hr hH, h r N hN⟩

/-! calls -/
theorem G_call {f : FuncId} {as : Array Operand} {ts : Array TypeId} {vs : List Value} (h : CallT P f vs.toArray C fun v C' => spl gd v fun v => evG P ops Q es (C :: hist) (upd a d' v) C') (hargs : forceL a as.toList = some vs := by exact rfl)
    (hw : wantB ops ⟨some d', .call { callee := .value (.func f), args := as, argTypes := ts }, ty, pos, after, g⟩ a = true := by exact rfl) :
    evG P ops Q (ET.cons (c, gd, ⟨some d', .call { callee := .value (.func f), args := as, argTypes := ts }, ty, pos, after, g⟩) es) hist a C :=
  evG_o rfl hw fun H hH => eo_call hargs (h H hH)
theorem G_call0 {f : FuncId} {as : Array Operand} {ts : Array TypeId} {vs : List Value} (h : CallT P f vs.toArray C fun _ C' => evG P ops Q es (C :: hist) a C') (hargs : forceL a as.toList = some vs := by exact rfl)
    (hw : wantB ops ⟨none, .call { callee := .value (.func f), args := as, argTypes := ts }, ty, pos, after, g⟩ a = true := by exact rfl) :
    evG P ops Q (ET.cons (c, gd, ⟨none, .call { callee := .value (.func f), args := as, argTypes := ts }, ty, pos, after, g⟩) es) hist a C :=
  G_o0 (hw := hw) fun H hH => eo_call hargs (h H hH)
theorem G_callv {f : FuncId} {fs cs : Array Value} {as : Array Operand} {ts : Array TypeId} {vs ws : List Value} (h : CallT P f ws.toArray C fun v C' => spl gd v fun v => evG P ops Q es (C :: hist) (upd a d' v) C') (hx : opd a x = .func (.func f) fs cs := by exact rfl) (hargs : forceL a as.toList = some vs := by exact rfl)
    (hws : copyL (fs.toList ++ vs ++ cs.toList) = some ws := by exact rfl) (hw : wantB ops ⟨some d', .call { callee := .value x, args := as, argTypes := ts }, ty, pos, after, g⟩ a = true := by exact rfl) :
    evG P ops Q (ET.cons (c, gd, ⟨some d', .call { callee := .value x, args := as, argTypes := ts }, ty, pos, after, g⟩) es) hist a C :=
  evG_o rfl hw fun H hH => eo_callv hx hargs (by have e := copyL_eq hws; have e2 : (fs ++ vs.toArray ++ cs) = ws.toArray := by apply Array.ext'; simp [← e]
                                                 rw [e2]; exact h H hH)
theorem G_callv0 {f : FuncId} {fs cs : Array Value} {as : Array Operand} {ts : Array TypeId} {vs ws : List Value} (h : CallT P f ws.toArray C fun _ C' => evG P ops Q es (C :: hist) a C') (hx : opd a x = .func (.func f) fs cs := by exact rfl) (hargs : forceL a as.toList = some vs := by exact rfl)
    (hws : copyL (fs.toList ++ vs ++ cs.toList) = some ws := by exact rfl) (hw : wantB ops ⟨none, .call { callee := .value x, args := as, argTypes := ts }, ty, pos, after, g⟩ a = true := by exact rfl) :
    evG P ops Q (ET.cons (c, gd, ⟨none, .call { callee := .value x, args := as, argTypes := ts }, ty, pos, after, g⟩) es) hist a C :=
  G_o0 (hw := hw) fun H hH => eo_callv hx hargs (by have e := copyL_eq hws; have e2 : (fs ++ vs.toArray ++ cs) = ws.toArray := by apply Array.ext'; simp [← e]
                                                    rw [e2]; exact h H hH)
end
end Go.Sl
