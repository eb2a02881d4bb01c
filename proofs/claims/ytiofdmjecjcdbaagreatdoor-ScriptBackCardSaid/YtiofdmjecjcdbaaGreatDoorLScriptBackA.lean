/- The statement ScriptBack: for every act and text the law answers true; no conditions: closed facts. -/
import Derived.Test.YtiofdmjecjcdbaaGreatDoorLcardHead
import Derived.Test.YtiofdmjecjcdbaaGreatDoorFs
import Derived.SevenTiedAt
import Derived.LaidMore
import Derived.OpenShut
import Derived.Test.YtiofdmjecjcdbaaGreatDoorRows
import Derived.Test.YtiofdmjecjcdbaaGreatDoorCards
import Derived.Test.YtiofdmjecjcdbaaGreatDoorTie
import Derived.ProofKit
import Derived.Lib.SmallJoins

namespace Go.Proofs.YtiofdmjecjcdbaaGreatDoor
open Go Go.Proofs Go.ChangeShapes Go.WideShapes Go.ChangeAt Go.RowKit Go.Sl Go.Joins
set_option maxRecDepth 100000
theorem scriptBack_f1 : Tryz.prog.inits.idxOf? 6 = none := by kernel_rfl
theorem scriptBack_f2 (os : Os) : Input.okWideB Tryz.prog ((witW os).forCall (fun _ _ => 0) ⟨#[], #[.agg #[.int .i64 0, .int .i64 0, .int .i64 0, .int .i64 0, .int .i64 0, .string ⟨#[]⟩, .int .i64 0, .int .i64 0, .bool false, .int .i64 0, .int .i64 0, .int .i64 0], .string ⟨#[]⟩], []⟩) 6 ⟨#[], #[.agg #[.int .i64 0, .int .i64 0, .int .i64 0, .int .i64 0, .int .i64 0, .string ⟨#[]⟩, .int .i64 0, .int .i64 0, .bool false, .int .i64 0, .int .i64 0, .int .i64 0], .string ⟨#[]⟩], []⟩ = true := by kernel_rfl
theorem scriptBack_f3 (os : Os) (H : Type) (enc : TypeId × Value → H) : Rows.scriptBackSpec.preB enc Tryz.prog Tryz.f6 Rows.scriptBackRow.domain false ((witW os).forCall (fun _ _ => 0) ⟨#[], #[.agg #[.int .i64 0, .int .i64 0, .int .i64 0, .int .i64 0, .int .i64 0, .string ⟨#[]⟩, .int .i64 0, .int .i64 0, .bool false, .int .i64 0, .int .i64 0, .int .i64 0], .string ⟨#[]⟩], []⟩).memory #[.agg #[.int .i64 0, .int .i64 0, .int .i64 0, .int .i64 0, .int .i64 0, .string ⟨#[]⟩, .int .i64 0, .int .i64 0, .bool false, .int .i64 0, .int .i64 0, .int .i64 0], .string ⟨#[]⟩] 8 = true := by kernel_rfl
theorem scriptBack_f4 (os : Os) (H : Type) (enc : TypeId × Value → H) : Rows.scriptBackSpec.sizedB enc Tryz.prog Tryz.f6 false ((witW os).forCall (fun _ _ => 0) ⟨#[], #[.agg #[.int .i64 0, .int .i64 0, .int .i64 0, .int .i64 0, .int .i64 0, .string ⟨#[]⟩, .int .i64 0, .int .i64 0, .bool false, .int .i64 0, .int .i64 0, .int .i64 0], .string ⟨#[]⟩], []⟩).memory #[.agg #[.int .i64 0, .int .i64 0, .int .i64 0, .int .i64 0, .int .i64 0, .string ⟨#[]⟩, .int .i64 0, .int .i64 0, .bool false, .int .i64 0, .int .i64 0, .int .i64 0], .string ⟨#[]⟩] 8 = true := by kernel_rfl
theorem scriptBack_f5 : ownKnob Tryz.prog.godebug = none := by kernel_rfl
theorem scriptBack_f6 : laidOutB Tryz.prog = true := by kernel_rfl
theorem scriptBack_f7 : Tryz.prog.funcNamed Rows.scriptBackRow.func = some 6 := by kernel_rfl
end Go.Proofs.YtiofdmjecjcdbaaGreatDoor

