/- A contract of the kit that leaves garbage behind, brought to chunks. A row's cells in the world, for contracts that speak of cells: lemmas; each with the conditions that it states. -/
import Derived.Test.YtiofdmjecjcdbaaGreatDoorGv
import Derived.Below
set_option linter.unusedVariables false
set_option linter.unusedSimpArgs false
namespace Go.Sl
open Go.RowKit
theorem CallT.ofBelow {P : Program} {f : FuncId} {fn : Func} {args : Array Value} {v : Value} {C : List HP} {K : Value → List HP → Prop} (hf : P.funcs[f]? = some fn) (hb : fn.body.isNone = false) (hn : (fn.name == "runtime.NumGoroutine") = false)
    (h : ∀ H own w, Sats C H → Sat own H w → Calls P f args w fun x w' => x = .returned v ∧ Below w.heap.size w w') (hK : K v C) : CallT P f args C K := fun H hs =>
  ⟨⟨fn, hf, hb, hn⟩, fun own w hw => (h H own w hs hw).mono fun x w' ⟨he, hbl⟩ =>
    ⟨v, H, he, ⟨C, hs, hK⟩, ⟨⟨fun B b hB => (hw.is B b hB).of_heap (hbl.block B (hw.lt hB)), hw.mine, fun i hi => hw.tail i (Nat.le_trans hbl.size hi)⟩, ⟨hbl.os, hbl.tape, hbl.output, hbl.size, fun i hi _ => hbl.block i hi⟩, fun _ _ hn => hn⟩⟩⟩
end Go.Sl

set_option linter.unusedVariables false
set_option linter.unusedSimpArgs false
namespace Go.Sl
open Go.RowKit
section
variable {α : Type} {E : Cod α} {v : α → Value} {A : Option Addr} {c : Nat} {e : TypeId} {xs : List α} {C R : List HP} {H : Hp} {own : Nat → Prop} {w : World}
theorem flat_map_one (hE : ∀ x, E.enc x = [v x]) : ∀ l : List α, l.flatMap E.enc = l.map v
  | [] => rfl
  | a :: l => by rw [List.flatMap_cons, hE, flat_map_one hE l]; rfl
theorem row_cells (hE : ∀ x, E.enc x = [v x]) (hs : Sats (row A c e E xs :: R) H) (hw : Sat own H w) (hx : xs ≠ []) : ∃ B off, A = some ⟨B, off, none⟩ ∧ B < w.heap.size ∧ xs.length ≤ c ∧ ∀ (j : Nat) x, xs[j]? = some x → w.cell? ⟨B, off + j, none⟩ = some (v x) := by
  rcases sats_row hs with ⟨_, g2, _⟩ | ⟨B, pre, post, rfl, g2, g3, g4⟩
  · exact absurd g2 hx
  have hB := (sats_pt g2).1
  obtain ⟨arr, fz, k1, k2, k3⟩ := hw.is B _ hB
  refine ⟨B, pre.length, rfl, hw.lt hB, g3, fun j x hj => ?_⟩
  have hlt := (List.getElem?_eq_some_iff.1 hj).1
  have hat : arr[pre.length + j]? = some (v x) := by
    rw [← Array.getElem?_toList, k2, flat_map_one hE, List.append_assoc, List.getElem?_append_right (by omega), List.getElem?_append_left (by simp; omega)]
    simp [hj]
  simp only [World.cell?, k1]
  simp [hat]
/-- a whole block is a row -/
theorem Ent.ptRow1 {r n : Nat} (hE : ∀ x, E.enc x = [v x]) (hn : xs.length = n) : Ent (pt r (xs.map v) e :: C) (row (some ⟨r, 0, none⟩) n e E xs :: C) := fun H hs => by
  subst hn
  refine row_sats (pre := []) (post := []) rfl ?_ (Nat.le_refl _) (by simp)
  rw [flat_map_one hE, List.nil_append, List.append_nil]
  exact hs
end
end Go.Sl

