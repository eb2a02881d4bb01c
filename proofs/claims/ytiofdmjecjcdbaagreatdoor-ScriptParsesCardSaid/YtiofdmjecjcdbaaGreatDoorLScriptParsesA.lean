/- The statement ScriptParses: for every text the law answers true; no conditions: closed facts. -/
import Derived.Test.YtiofdmjecjcdbaaGreatDoorLcardHead
import Derived.Test.YtiofdmjecjcdbaaGreatDoorFs
import Derived.SevenTiedAt
import Derived.LaidMore
import Derived.OpenShut
import Derived.Test.YtiofdmjecjcdbaaGreatDoorRows
import Derived.Test.YtiofdmjecjcdbaaGreatDoorCards
import Derived.Test.YtiofdmjecjcdbaaGreatDoorTie
import Derived.ProofKit
import Derived.Lib.SmallJoins

namespace Go.Proofs.YtiofdmjecjcdbaaGreatDoor
open Go Go.Proofs Go.ChangeShapes Go.WideShapes Go.ChangeAt Go.RowKit Go.Sl Go.Joins
set_option maxRecDepth 100000
theorem scriptParses_f1 : Tryz.prog.inits.idxOf? 3 = none := by kernel_rfl
theorem scriptParses_f2 (os : Os) : Input.okWideB Tryz.prog ((witW os).forCall (fun _ _ => 0) ⟨#[], #[.string ⟨#[]⟩], []⟩) 3 ⟨#[], #[.string ⟨#[]⟩], []⟩ = true := by kernel_rfl
theorem scriptParses_f3 (os : Os) (H : Type) (enc : TypeId × Value → H) : Rows.scriptParsesSpec.preB enc Tryz.prog Tryz.f3 Rows.scriptParsesRow.domain false ((witW os).forCall (fun _ _ => 0) ⟨#[], #[.string ⟨#[]⟩], []⟩).memory #[.string ⟨#[]⟩] 8 = true := by kernel_rfl
theorem scriptParses_f4 (os : Os) (H : Type) (enc : TypeId × Value → H) : Rows.scriptParsesSpec.sizedB enc Tryz.prog Tryz.f3 false ((witW os).forCall (fun _ _ => 0) ⟨#[], #[.string ⟨#[]⟩], []⟩).memory #[.string ⟨#[]⟩] 8 = true := by kernel_rfl
theorem scriptParses_f5 : ownKnob Tryz.prog.godebug = none := by kernel_rfl
theorem scriptParses_f6 : laidOutB Tryz.prog = true := by kernel_rfl
theorem scriptParses_f7 : Tryz.prog.funcNamed Rows.scriptParsesRow.func = some 3 := by kernel_rfl
end Go.Proofs.YtiofdmjecjcdbaaGreatDoor

