/- The statement ScriptNone: for every text and settings the law answers true; no conditions. -/
import Derived.Test.YtiofdmjecjcdbaaGreatDoorLScriptNoneD
import Derived.Test.YtiofdmjecjcdbaaGreatDoorFs
import Derived.SevenTiedAt
import Derived.LaidMore
import Derived.OpenShut
import Derived.Test.YtiofdmjecjcdbaaGreatDoorRows
import Derived.Test.YtiofdmjecjcdbaaGreatDoorCards
import Derived.Test.YtiofdmjecjcdbaaGreatDoorTie
import Derived.ProofKit
import Derived.Lib.SmallJoins

namespace Go.Proofs.YtiofdmjecjcdbaaGreatDoor
open Go Go.Proofs Go.ChangeShapes Go.WideShapes Go.ChangeAt Go.RowKit Go.Sl Go.Joins
set_option maxRecDepth 100000
theorem scriptNone_card : Rows.ScriptNoneCardSaid :=
  Claim7.holds_tied_plain_at .later [] [.data, .pinned] true (true, "76b73df7300c8b1ca0b2b562425ef0a703773f03aaef5cdecf2a3be7cac0d96e") false
    scriptNone_holds (fun _ h => by cases h) (by kernel_rfl) (fun _ h => by cases h) scriptNone_row_tie rfl ⟨rfl, rfl⟩ (by kernel_rfl) rfl
    (fun f fn hf hfn => by
      obtain rfl : f = 4 := Option.some.inj (scriptNone_f7.symm.trans hf) |>.symm
      obtain rfl : fn = Tryz.f4 := (Option.some.inj (Tryz.func4.symm.trans hfn)).symm
      exact ⟨by kernel_rfl, fun j t ht => by
        rw [Tryz.params4] at ht
        have hm : t ∈ [9, 36] := by simpa using Array.mem_of_getElem? ht
        have hall : ([9, 36].all fun u => !Tryz.prog.wantsStandIn u) = true := by kernel_rfl
        exact (show Tryz.prog.wantsStandIn t = false by simpa using List.all_eq_true.1 hall t hm)⟩)
    (goes_none rfl)
#print axioms scriptNone_card
end Go.Proofs.YtiofdmjecjcdbaaGreatDoor

