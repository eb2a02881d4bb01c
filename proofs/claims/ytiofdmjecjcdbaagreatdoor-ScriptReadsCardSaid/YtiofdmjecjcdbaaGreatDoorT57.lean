/- A contract of the kit that leaves garbage behind, brought to chunks: lemmas; each with the conditions that it states. -/
import Derived.Test.YtiofdmjecjcdbaaGreatDoorFi
import Derived.Below
set_option linter.unusedVariables false
set_option linter.unusedSimpArgs false
namespace Go.Sl
open Go.RowKit
theorem CallT.ofBelow {P : Program} {f : FuncId} {fn : Func} {args : Array Value} {v : Value} {C : List HP} {K : Value → List HP → Prop} (hf : P.funcs[f]? = some fn) (hb : fn.body.isNone = false) (hn : (fn.name == "runtime.NumGoroutine") = false)
    (h : ∀ H own w, Sats C H → Sat own H w → Calls P f args w fun x w' => x = .returned v ∧ Below w.heap.size w w') (hK : K v C) : CallT P f args C K := fun H hs =>
  ⟨⟨fn, hf, hb, hn⟩, fun own w hw => (h H own w hs hw).mono fun x w' ⟨he, hbl⟩ =>
    ⟨v, H, he, ⟨C, hs, hK⟩, ⟨⟨fun B b hB => (hw.is B b hB).of_heap (hbl.block B (hw.lt hB)), hw.mine, fun i hi => hw.tail i (Nat.le_trans hbl.size hi)⟩, ⟨hbl.os, hbl.tape, hbl.output, hbl.size, fun i hi _ => hbl.block i hi⟩, fun _ _ hn => hn⟩⟩⟩
end Go.Sl

