/- The world of the witness: its listed variables hold what the row says; no function of the program starts another goroutine. The statement ScriptNone: for every text and settings the law answers true; no conditions: closed facts. -/
import Derived.Test.YtiofdmjecjcdbaaGreatDoorB0
import Derived.Test.YtiofdmjecjcdbaaGreatDoorRows
import Derived.Test.YtiofdmjecjcdbaaGreatDoorTie
import Derived.ProofKit
import Derived.LaidMore
import Derived.OpenShut
import Derived.LaidHandle
import Derived.Test.YtiofdmjecjcdbaaGreatDoorFs
import Derived.SevenTiedAt
import Derived.Test.YtiofdmjecjcdbaaGreatDoorCards
import Derived.Lib.SmallJoins

namespace Go.Proofs.YtiofdmjecjcdbaaGreatDoor
open Go Go.Proofs Go.ChangeShapes Go.WideShapes Go.ChangeAt Go.RowKit
set_option maxRecDepth 100000
def firstCells : Array Value := (Go.Pinned.utf8FirstZ.map fun n : Nat => Value.int .u8 (n : Int)).toArray
noncomputable def witW (os : Os) : World := { World.doorLaid Tryz.prog 400 os with heap := (World.doorLaid Tryz.prog 400 os).heap.modify 1 fun o => match o with | .cells _ t z => .cells firstCells t z | o => o }
def laid31 : List (String × DataW Unit) := [("unicode/utf8.acceptRanges", Rows.laid_unicode_utf8_acceptRanges), ("unicode/utf8.first", Rows.laid_unicode_utf8_first)]
theorem wit_met (os : Os) (args : Array Value) : laidMetH Tryz.prog laid31 ((witW os).forCall (fun _ _ => 0) ⟨#[], args, []⟩).memory :=
  laidMetH_of_parts (laidMet_of_run' 8 (by kernel_rfl) (by kernel_rfl)) (by kernel_rfl)
theorem wit_ref (os : Os) (args : Array Value) : ((witW os).forCall (fun _ _ => 0) ⟨#[], args, []⟩).Shaped Tryz.prog := World.shaped_of_RefB (by kernel_rfl) (by kernel_rfl)
theorem goes_any : Tryz.prog.funcs.any Func.goes = false := by kernel_rfl
theorem goes_no {P : Program} (h : P.funcs.any Func.goes = false) {c : OpenClaim} (hs : c.start = .entering) : false = c.goesBy P := by
  have hat : ∀ g : Nat, ((P.funcs[g]?).any Func.goes) = false := fun g => by
    cases hg : P.funcs[g]? with
    | none => rfl
    | some fn =>
      show Func.goes fn = false
      have := Array.any_eq_false.1 h
      obtain ⟨h1, h2⟩ := Array.getElem?_eq_some_iff.1 hg
      have h3 := this g h1
      rw [h2] at h3
      simpa using h3
  have hf : ∀ f, P.goes f = false := fun f => by
    unfold Program.goes
    rw [h, Bool.and_false, Bool.or_false]
    exact List.any_eq_false.2 fun g _ => by rw [hat g]; decide
  unfold OpenClaim.goesBy Program.goesAt Program.goesFrom
  rw [hs]
  simp only [Bool.or_false]
  cases P.funcNamed c.func with
  | none => rfl
  | some f => exact (hf f).symm
theorem goes_none {c : OpenClaim} (hs : c.start = .entering) : false = c.goesBy Tryz.prog := goes_no goes_any hs
end Go.Proofs.YtiofdmjecjcdbaaGreatDoor


namespace Go.Proofs.YtiofdmjecjcdbaaGreatDoor
open Go Go.Proofs Go.ChangeShapes Go.WideShapes Go.ChangeAt Go.RowKit Go.Sl Go.Joins
set_option maxRecDepth 100000
theorem scriptNone_f1 : Tryz.prog.inits.idxOf? 4 = none := by kernel_rfl
theorem scriptNone_f2 (os : Os) : Input.okWideB Tryz.prog ((witW os).forCall (fun _ _ => 0) ⟨#[], #[.string ⟨#[]⟩, .agg #[.int .i64 0, .int .i64 0, .int .i64 0, .int .i64 0, .int .i64 0, .int .i64 0, .int .i64 0, .int .i64 0, .int .i64 0]], []⟩) 4 ⟨#[], #[.string ⟨#[]⟩, .agg #[.int .i64 0, .int .i64 0, .int .i64 0, .int .i64 0, .int .i64 0, .int .i64 0, .int .i64 0, .int .i64 0, .int .i64 0]], []⟩ = true := by kernel_rfl
theorem scriptNone_f3 (os : Os) (H : Type) (enc : TypeId × Value → H) : Rows.scriptNoneSpec.preB enc Tryz.prog Tryz.f4 Rows.scriptNoneRow.domain false ((witW os).forCall (fun _ _ => 0) ⟨#[], #[.string ⟨#[]⟩, .agg #[.int .i64 0, .int .i64 0, .int .i64 0, .int .i64 0, .int .i64 0, .int .i64 0, .int .i64 0, .int .i64 0, .int .i64 0]], []⟩).memory #[.string ⟨#[]⟩, .agg #[.int .i64 0, .int .i64 0, .int .i64 0, .int .i64 0, .int .i64 0, .int .i64 0, .int .i64 0, .int .i64 0, .int .i64 0]] 8 = true := by kernel_rfl
theorem scriptNone_f4 (os : Os) (H : Type) (enc : TypeId × Value → H) : Rows.scriptNoneSpec.sizedB enc Tryz.prog Tryz.f4 false ((witW os).forCall (fun _ _ => 0) ⟨#[], #[.string ⟨#[]⟩, .agg #[.int .i64 0, .int .i64 0, .int .i64 0, .int .i64 0, .int .i64 0, .int .i64 0, .int .i64 0, .int .i64 0, .int .i64 0]], []⟩).memory #[.string ⟨#[]⟩, .agg #[.int .i64 0, .int .i64 0, .int .i64 0, .int .i64 0, .int .i64 0, .int .i64 0, .int .i64 0, .int .i64 0, .int .i64 0]] 8 = true := by kernel_rfl
theorem scriptNone_f5 : ownKnob Tryz.prog.godebug = none := by kernel_rfl
theorem scriptNone_f6 : laidOutB Tryz.prog = true := by kernel_rfl
theorem scriptNone_f7 : Tryz.prog.funcNamed Rows.scriptNoneRow.func = some 4 := by kernel_rfl
end Go.Proofs.YtiofdmjecjcdbaaGreatDoor

