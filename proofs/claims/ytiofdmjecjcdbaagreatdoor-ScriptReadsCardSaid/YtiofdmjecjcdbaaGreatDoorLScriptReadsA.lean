/- The statement ScriptReads: for every text the law answers true; no conditions: closed facts. -/
import Derived.Test.YtiofdmjecjcdbaaGreatDoorLcardHead
import Derived.Test.YtiofdmjecjcdbaaGreatDoorFs
import Derived.SevenTiedAt
import Derived.LaidMore
import Derived.OpenShut
import Derived.Test.YtiofdmjecjcdbaaGreatDoorRows
import Derived.Test.YtiofdmjecjcdbaaGreatDoorCards
import Derived.Test.YtiofdmjecjcdbaaGreatDoorTie
import Derived.ProofKit
import Derived.Lib.SmallJoins

namespace Go.Proofs.YtiofdmjecjcdbaaGreatDoor
open Go Go.Proofs Go.ChangeShapes Go.WideShapes Go.ChangeAt Go.RowKit Go.Sl Go.Joins
set_option maxRecDepth 100000
theorem scriptReads_f1 : Tryz.prog.inits.idxOf? 8 = none := by kernel_rfl
theorem scriptReads_f2 (os : Os) : Input.okWideB Tryz.prog ((witW os).forCall (fun _ _ => 0) ⟨#[], #[.string ⟨#[]⟩], []⟩) 8 ⟨#[], #[.string ⟨#[]⟩], []⟩ = true := by kernel_rfl
theorem scriptReads_f3 (os : Os) (H : Type) (enc : TypeId × Value → H) : Rows.scriptReadsSpec.preB enc Tryz.prog Tryz.f8 Rows.scriptReadsRow.domain false ((witW os).forCall (fun _ _ => 0) ⟨#[], #[.string ⟨#[]⟩], []⟩).memory #[.string ⟨#[]⟩] 8 = true := by kernel_rfl
theorem scriptReads_f4 (os : Os) (H : Type) (enc : TypeId × Value → H) : Rows.scriptReadsSpec.sizedB enc Tryz.prog Tryz.f8 false ((witW os).forCall (fun _ _ => 0) ⟨#[], #[.string ⟨#[]⟩], []⟩).memory #[.string ⟨#[]⟩] 8 = true := by kernel_rfl
theorem scriptReads_f5 : ownKnob Tryz.prog.godebug = none := by kernel_rfl
theorem scriptReads_f6 : laidOutB Tryz.prog = true := by kernel_rfl
theorem scriptReads_f7 : Tryz.prog.funcNamed Rows.scriptReadsRow.func = some 8 := by kernel_rfl
end Go.Proofs.YtiofdmjecjcdbaaGreatDoor

