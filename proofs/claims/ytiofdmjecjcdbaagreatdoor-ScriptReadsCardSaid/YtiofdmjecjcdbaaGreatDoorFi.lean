/- Quotients and remainders of numbers below zero. Contracts of the kit, brought to chunks: what changes nothing; what lays one new block: lemmas; each with the conditions that it states. -/
import Derived.Test.YtiofdmjecjcdbaaGreatDoorFh
set_option linter.unusedVariables false
set_option linter.unusedSimpArgs false
namespace Go.Sl
theorem tdiv_np {m n : Int} : m.tdiv n = 0 - (0 - m).tdiv n := by
  rw [show (0 : Int) - m = -m by omega, Int.neg_tdiv]
  omega
theorem tmod_np {m n : Int} : m.tmod n = 0 - (0 - m).tmod n := by
  rw [show (0 : Int) - m = -m by omega, Int.neg_tmod]
  omega
section
variable {P : Program} {ops : Array Oper} {Q : Fr → List HP → Prop} {a : Fr} {C : List HP} {c : Nat} {gd : Bool} {es : ET} {hist : List (List HP)} {d' : Tmp}
variable {ty : TypeId} {pos : String} {after : Array Edge} {g : Option (Nat × Bool)} {t yt : TypeId} {x y : Operand}
theorem G_quoM {m n : Int} (h : spl gd (.int .i64 (0 - (0 - m) / n)) fun v => evG P ops Q es hist (upd a d' v) C) (hx : opd a x = .int .i64 m := by exact rfl) (hy : opd a y = .int .i64 n := by exact rfl) (h0 : m ≤ 0 := by first | omega | assumption) (h1 : 0 < n := by first | omega | assumption) (h2 : -9223372036854775808 ≤ 0 - (0 - m) / n := by first | omega | assumption) (h3 : 0 - (0 - m) / n ≤ 9223372036854775807 := by first | omega | assumption) (hw : wantB ops ⟨some d', .binOp .quo t x y yt, ty, pos, after, g⟩ a = true := by exact rfl) : evG P ops Q (ET.cons (c, gd, ⟨some d', .binOp .quo t x y yt, ty, pos, after, g⟩) es) hist a C := by
  refine evG_p rfl hw ?_ h
  rw [pv_quo hx hy (by omega), tdiv_np, Int.tdiv_eq_ediv_of_nonneg (by omega), wrap64 h2 h3]
theorem G_remM {k : IntKind} {m n : Int} (h : spl gd (.int k (0 - (0 - m) % n)) fun v => evG P ops Q es hist (upd a d' v) C) (hx : opd a x = .int k m := by exact rfl) (hy : opd a y = .int k n := by exact rfl) (h0 : m ≤ 0 := by first | omega | assumption) (h1 : 0 < n := by first | omega | assumption) (hw : wantB ops ⟨some d', .binOp .rem t x y yt, ty, pos, after, g⟩ a = true := by exact rfl) : evG P ops Q (ET.cons (c, gd, ⟨some d', .binOp .rem t x y yt, ty, pos, after, g⟩) es) hist a C := by
  refine evG_p rfl hw ?_ h
  rw [pv_rem hx hy (by omega), tmod_np, Int.tmod_eq_emod_of_nonneg (by omega)]
end
end Go.Sl

namespace Go.Sl
theorem CallT.ofSame {P : Program} {f : FuncId} {fn : Func} {args : Array Value} {v : Value} {C : List HP} {K : Value → List HP → Prop} (hf : P.funcs[f]? = some fn) (hb : fn.body.isNone = false) (hn : (fn.name == "runtime.NumGoroutine") = false)
    (h : ∀ w, Calls P f args w fun e w' => e = .returned v ∧ w' = w) (hK : K v C) : CallT P f args C K := fun H hs =>
  ⟨⟨fn, hf, hb, hn⟩, fun own w hw => (h w).mono fun e w' ⟨he, hww⟩ => ⟨v, H, he, ⟨C, hs, hK⟩, by rw [hww]; exact To.refl hw⟩⟩
theorem To.alloc {own : Nat → Prop} {H : Hp} {w : World} (h : Sat own H w) (arr : Array Value) (e : TypeId) : To own w H (w.alloc (.cells arr e)) (hupd H w.heap.size (.cells arr.toList e true)) := by
  refine ⟨h.alloc (o := .cells arr e) fun w' hw' => ⟨arr, (0, 0), hw', rfl, fun _ => .inr rfl⟩, Chg.alloc own w _, fun B hB hn => ?_⟩
  rw [hupd_ne _ _ (by omega)]
  exact hn
theorem CallT.ofAlloc {P : Program} {f : FuncId} {fn : Func} {args : Array Value} {g : Nat → Value} {arr : Array Value} {e : TypeId} {C : List HP} {K : Value → List HP → Prop} (hf : P.funcs[f]? = some fn) (hb : fn.body.isNone = false) (hn : (fn.name == "runtime.NumGoroutine") = false)
    (h : ∀ H own w, Sats C H → Sat own H w → Calls P f args w fun x w' => x = .returned (g w.heap.size) ∧ w' = w.alloc (.cells arr e)) (hK : ∀ r, K (g r) (pt r arr.toList e :: C)) : CallT P f args C K := fun H hs =>
  ⟨⟨fn, hf, hb, hn⟩, fun own w hw => (h H own w hs hw).mono fun x w' ⟨he, hww⟩ => ⟨g w.heap.size, _, he, ⟨_, sats_new (hw.fresh (Nat.le_refl _)) hs, hK _⟩, by rw [hww]; exact To.alloc hw arr e⟩⟩
end Go.Sl

