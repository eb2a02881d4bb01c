/-
  No cell of these rows narrows 'for every input' (looked for: loops, veiled, ifaces, maps, wideKeys, modest, calm, conditions, laid).
  DERIVED. THE GIVEN ROWS OF THIS SEAT. 9 by the template 'for every input the law returns true; each argument reads behind the call as it read before'; 0 by the template 'total and deterministic' (their statements: YtfjibfljckifkaaTotals.lean).
  GIVEN WITH THE SEED: the statements are not yours to turn. If you find one false, say at which input.
  Laid BY PROGRAM, IN A SANDBOX (cutbox-rows.mjs): the forced cells as the released guide's own fill.sh prints them over the translation 44c65dcdb8feaed3… (all of the seat's roots in one cut). By AI agents, Wed Nov 11 2026. No macro, syntax, notation, axiom, sorry.
-/
import Derived.Test.YtfjibfljckifkaaChecked
import GoSem.Claim
import GoSem.ClaimJoined
import GoSem.ClaimMapViews
import Derived.JoinedTies
import Derived.KernelRfl
namespace Go.Proofs.Ytfjibfljckifkaa
/- THE CELL 'sum', in the pinned program and in every row, IS THE sha256 OF THE DUMP (.gsa) THAT YtfjibfljckifkaaProg.lean LOADS. Nothing in Lean hashes anything: it is a label: what it is worth is what the hold of that sum in a sandbox is worth. -/
noncomputable def Try.pinned : Pinned := { name := "ytfjibfljckifkaa", sum := "44c65dcdb8feaed3a0df703179fcf381c7db49e2650b0a3134685159796e9ed7", checked := Try.checked }
namespace Rows
def none {H : Type} : Left H := { results := [], args := [] }

/-- 'paternosterlaw21.FaultCodes': WHATEVER THE INPUT: true; the input reads as it did. -/
def faultCodesSpec : ChangeSpec := { name := "faultCodes", fn := fun _ => fun
  | [d] => { results := [.lit (.bool true)], args := [d] }
  | _ => none }
def faultCodesRow : OpenClaim := { program := "ytfjibfljckifkaa", sum := "44c65dcdb8feaed3a0df703179fcf381c7db49e2650b0a3134685159796e9ed7", func := "paternoster/paternosterlaw21.FaultCodes", spec := "faultCodes", unfollowed := true, recurses := true, apart := false }
def FaultCodesSaid : Prop := faultCodesRow.holds Try.pinned (OpenSpec.ofChange faultCodesSpec)

/-- ITS FALSE NEIGHBOUR: 'it returns false'. Refute it at one input. -/
def faultCodesWrong : ChangeSpec := { name := "faultCodes", fn := fun _ => fun
  | [d] => { results := [.lit (.bool false)], args := [d] }
  | _ => none }
def FaultCodesWrongFalsely : Prop := faultCodesRow.holds Try.pinned (OpenSpec.ofChange faultCodesWrong)

/-- 'paternosterlaw21.FaultAll': WHATEVER THE INPUT: true; the input reads as it did. -/
def faultAllSpec : ChangeSpec := { name := "faultAll", fn := fun _ => fun
  | [d] => { results := [.lit (.bool true)], args := [d] }
  | _ => none }
def faultAllRow : OpenClaim := { program := "ytfjibfljckifkaa", sum := "44c65dcdb8feaed3a0df703179fcf381c7db49e2650b0a3134685159796e9ed7", func := "paternoster/paternosterlaw21.FaultAll", spec := "faultAll", unfollowed := true, recurses := true, apart := false }
def FaultAllSaid : Prop := faultAllRow.holds Try.pinned (OpenSpec.ofChange faultAllSpec)

/-- ITS FALSE NEIGHBOUR: 'it returns false'. Refute it at one input. -/
def faultAllWrong : ChangeSpec := { name := "faultAll", fn := fun _ => fun
  | [d] => { results := [.lit (.bool false)], args := [d] }
  | _ => none }
def FaultAllWrongFalsely : Prop := faultAllRow.holds Try.pinned (OpenSpec.ofChange faultAllWrong)

/-- 'paternosterlaw21.FaultAnswers': WHATEVER THE INPUT: true; the input reads as it did. -/
def faultAnswersSpec : ChangeSpec := { name := "faultAnswers", fn := fun _ => fun
  | [d1, d2] => { results := [.lit (.bool true)], args := [d1, d2] }
  | _ => none }
def faultAnswersRow : OpenClaim := { program := "ytfjibfljckifkaa", sum := "44c65dcdb8feaed3a0df703179fcf381c7db49e2650b0a3134685159796e9ed7", func := "paternoster/paternosterlaw21.FaultAnswers", spec := "faultAnswers", unfollowed := true, recurses := true, apart := false }
def FaultAnswersSaid : Prop := faultAnswersRow.holds Try.pinned (OpenSpec.ofChange faultAnswersSpec)

/-- ITS FALSE NEIGHBOUR: 'it returns false'. Refute it at one input. -/
def faultAnswersWrong : ChangeSpec := { name := "faultAnswers", fn := fun _ => fun
  | [d1, d2] => { results := [.lit (.bool false)], args := [d1, d2] }
  | _ => none }
def FaultAnswersWrongFalsely : Prop := faultAnswersRow.holds Try.pinned (OpenSpec.ofChange faultAnswersWrong)

/-- 'paternosterlaw01.OctetScans': WHATEVER THE INPUT: true; the input reads as it did. -/
def octetScansSpec : ChangeSpec := { name := "octetScans", fn := fun _ => fun
  | [d1, d2] => { results := [.lit (.bool true)], args := [d1, d2] }
  | _ => none }
def octetScansRow : OpenClaim := { program := "ytfjibfljckifkaa", sum := "44c65dcdb8feaed3a0df703179fcf381c7db49e2650b0a3134685159796e9ed7", func := "paternoster/paternosterlaw01.OctetScans", spec := "octetScans", unfollowed := true, recurses := true, apart := false }
def OctetScansSaid : Prop := octetScansRow.holds Try.pinned (OpenSpec.ofChange octetScansSpec)

/-- ITS FALSE NEIGHBOUR: 'it returns false'. Refute it at one input. -/
def octetScansWrong : ChangeSpec := { name := "octetScans", fn := fun _ => fun
  | [d1, d2] => { results := [.lit (.bool false)], args := [d1, d2] }
  | _ => none }
def OctetScansWrongFalsely : Prop := octetScansRow.holds Try.pinned (OpenSpec.ofChange octetScansWrong)

/-- 'paternosterlaw01.OctetBack': WHATEVER THE INPUT: true; the input reads as it did. -/
def octetBackSpec : ChangeSpec := { name := "octetBack", fn := fun _ => fun
  | [d1, d2] => { results := [.lit (.bool true)], args := [d1, d2] }
  | _ => none }
def octetBackRow : OpenClaim := { program := "ytfjibfljckifkaa", sum := "44c65dcdb8feaed3a0df703179fcf381c7db49e2650b0a3134685159796e9ed7", func := "paternoster/paternosterlaw01.OctetBack", spec := "octetBack", unfollowed := true, recurses := true, apart := false }
def OctetBackSaid : Prop := octetBackRow.holds Try.pinned (OpenSpec.ofChange octetBackSpec)

/-- ITS FALSE NEIGHBOUR: 'it returns false'. Refute it at one input. -/
def octetBackWrong : ChangeSpec := { name := "octetBack", fn := fun _ => fun
  | [d1, d2] => { results := [.lit (.bool false)], args := [d1, d2] }
  | _ => none }
def OctetBackWrongFalsely : Prop := octetBackRow.holds Try.pinned (OpenSpec.ofChange octetBackWrong)

/-- 'paternosterlaw01.OctetOrders': WHATEVER THE INPUT: true; the input reads as it did. -/
def octetOrdersSpec : ChangeSpec := { name := "octetOrders", fn := fun _ => fun
  | [d1, d2, d3] => { results := [.lit (.bool true)], args := [d1, d2, d3] }
  | _ => none }
def octetOrdersRow : OpenClaim := { program := "ytfjibfljckifkaa", sum := "44c65dcdb8feaed3a0df703179fcf381c7db49e2650b0a3134685159796e9ed7", func := "paternoster/paternosterlaw01.OctetOrders", spec := "octetOrders", unfollowed := true, recurses := true, apart := false }
def OctetOrdersSaid : Prop := octetOrdersRow.holds Try.pinned (OpenSpec.ofChange octetOrdersSpec)

/-- ITS FALSE NEIGHBOUR: 'it returns false'. Refute it at one input. -/
def octetOrdersWrong : ChangeSpec := { name := "octetOrders", fn := fun _ => fun
  | [d1, d2, d3] => { results := [.lit (.bool false)], args := [d1, d2, d3] }
  | _ => none }
def OctetOrdersWrongFalsely : Prop := octetOrdersRow.holds Try.pinned (OpenSpec.ofChange octetOrdersWrong)

/-- 'paternosterlaw01.OctetNone': WHATEVER THE INPUT: true; the input reads as it did. -/
def octetNoneSpec : ChangeSpec := { name := "octetNone", fn := fun _ => fun
  | [d] => { results := [.lit (.bool true)], args := [d] }
  | _ => none }
def octetNoneRow : OpenClaim := { program := "ytfjibfljckifkaa", sum := "44c65dcdb8feaed3a0df703179fcf381c7db49e2650b0a3134685159796e9ed7", func := "paternoster/paternosterlaw01.OctetNone", spec := "octetNone", unfollowed := true, recurses := true, apart := false }
def OctetNoneSaid : Prop := octetNoneRow.holds Try.pinned (OpenSpec.ofChange octetNoneSpec)

/-- ITS FALSE NEIGHBOUR: 'it returns false'. Refute it at one input. -/
def octetNoneWrong : ChangeSpec := { name := "octetNone", fn := fun _ => fun
  | [d] => { results := [.lit (.bool false)], args := [d] }
  | _ => none }
def OctetNoneWrongFalsely : Prop := octetNoneRow.holds Try.pinned (OpenSpec.ofChange octetNoneWrong)

/-- 'paternosterlaw18.BeatOnly': WHATEVER THE INPUT: true; the input reads as it did. -/
def beatOnlySpec : ChangeSpec := { name := "beatOnly", fn := fun _ => fun
  | [d] => { results := [.lit (.bool true)], args := [d] }
  | _ => none }
def beatOnlyRow : OpenClaim := { program := "ytfjibfljckifkaa", sum := "44c65dcdb8feaed3a0df703179fcf381c7db49e2650b0a3134685159796e9ed7", func := "paternoster/paternosterlaw18.BeatOnly", spec := "beatOnly", unfollowed := true, recurses := true, apart := false }
def BeatOnlySaid : Prop := beatOnlyRow.holds Try.pinned (OpenSpec.ofChange beatOnlySpec)

/-- ITS FALSE NEIGHBOUR: 'it returns false'. Refute it at one input. -/
def beatOnlyWrong : ChangeSpec := { name := "beatOnly", fn := fun _ => fun
  | [d] => { results := [.lit (.bool false)], args := [d] }
  | _ => none }
def BeatOnlyWrongFalsely : Prop := beatOnlyRow.holds Try.pinned (OpenSpec.ofChange beatOnlyWrong)

/-- 'paternosterlaw18.BeatNone': WHATEVER THE INPUT: true; the input reads as it did. -/
def beatNoneSpec : ChangeSpec := { name := "beatNone", fn := fun _ => fun
  | [d1, d2, d3] => { results := [.lit (.bool true)], args := [d1, d2, d3] }
  | _ => none }
def beatNoneRow : OpenClaim := { program := "ytfjibfljckifkaa", sum := "44c65dcdb8feaed3a0df703179fcf381c7db49e2650b0a3134685159796e9ed7", func := "paternoster/paternosterlaw18.BeatNone", spec := "beatNone", unfollowed := true, recurses := true, apart := false }
def BeatNoneSaid : Prop := beatNoneRow.holds Try.pinned (OpenSpec.ofChange beatNoneSpec)

/-- ITS FALSE NEIGHBOUR: 'it returns false'. Refute it at one input. -/
def beatNoneWrong : ChangeSpec := { name := "beatNone", fn := fun _ => fun
  | [d1, d2, d3] => { results := [.lit (.bool false)], args := [d1, d2, d3] }
  | _ => none }
def BeatNoneWrongFalsely : Prop := beatNoneRow.holds Try.pinned (OpenSpec.ofChange beatNoneWrong)

/- THE SECOND FORM. 'bulk': how many values and letters a reading holds, each counted each time it is reached (what is shared counts as often as it is met; a slice's spare places count too). A statement '..UptoSaid' is the law's where the arguments, and the package variables that the reading takes, are together of bulk at most 1048576: NARROWER than '..Said'. Prove '..Said' where nothing that the law and all that it calls make is longer than what came in: it says more and counts as full. Else prove '..UptoSaid'. A law counts once. -/
mutual
def uptoBulk {H : Type} : DataW H → Nat
  | .lit (.string bytes) => bytes.length + 1
  | .lit _ => 1
  | .nil => 1
  | .ptr d => uptoBulk d + 1
  | .slice elems spare => uptoBulkAll elems + uptoBulkAll spare + 1
  | .agg parts => uptoBulkAll parts + 1
  | .iface _ d => uptoBulk d + 1
  | .map entries => uptoBulkEntries entries + 1
  | .held _ => 1
def uptoBulkAll {H : Type} : List (DataW H) → Nat
  | [] => 0
  | d :: r => uptoBulk d + uptoBulkAll r
def uptoBulkEntries {H : Type} : List (Lit × DataW H) → Nat
  | [] => 0
  | x :: r => uptoBulkEntry x + uptoBulkEntries r
def uptoBulkEntry {H : Type} : Lit × DataW H → Nat
  | (.string bytes, d) => bytes.length + uptoBulk d + 1
  | (_, d) => uptoBulk d + 1
 end
def uptoSmall : (H : Type) → List (DataW H) → Bool := fun _ ds => decide (uptoBulkAll ds ≤ 1048576)
def OpenSpec.upto (s : _root_.Go.ChangeSpec) : _root_.Go.OpenSpec := { _root_.Go.OpenSpec.ofChange s with cond := some uptoSmall }

/-- 'paternosterlaw21.FaultCodes', WHERE WHAT IT READS IS OF BULK AT MOST 1048576: true; the input reads as it did. -/
def faultCodesUptoRow : OpenClaim := { program := "ytfjibfljckifkaa", sum := "44c65dcdb8feaed3a0df703179fcf381c7db49e2650b0a3134685159796e9ed7", func := "paternoster/paternosterlaw21.FaultCodes", spec := "faultCodes", unfollowed := true, recurses := true, apart := false, narrowed := true }
def FaultCodesUptoSaid : Prop := faultCodesUptoRow.holds Try.pinned (OpenSpec.upto faultCodesSpec)

/-- 'paternosterlaw21.FaultAll', WHERE WHAT IT READS IS OF BULK AT MOST 1048576: true; the input reads as it did. -/
def faultAllUptoRow : OpenClaim := { program := "ytfjibfljckifkaa", sum := "44c65dcdb8feaed3a0df703179fcf381c7db49e2650b0a3134685159796e9ed7", func := "paternoster/paternosterlaw21.FaultAll", spec := "faultAll", unfollowed := true, recurses := true, apart := false, narrowed := true }
def FaultAllUptoSaid : Prop := faultAllUptoRow.holds Try.pinned (OpenSpec.upto faultAllSpec)

/-- 'paternosterlaw21.FaultAnswers', WHERE WHAT IT READS IS OF BULK AT MOST 1048576: true; the input reads as it did. -/
def faultAnswersUptoRow : OpenClaim := { program := "ytfjibfljckifkaa", sum := "44c65dcdb8feaed3a0df703179fcf381c7db49e2650b0a3134685159796e9ed7", func := "paternoster/paternosterlaw21.FaultAnswers", spec := "faultAnswers", unfollowed := true, recurses := true, apart := false, narrowed := true }
def FaultAnswersUptoSaid : Prop := faultAnswersUptoRow.holds Try.pinned (OpenSpec.upto faultAnswersSpec)

/-- 'paternosterlaw01.OctetScans', WHERE WHAT IT READS IS OF BULK AT MOST 1048576: true; the input reads as it did. -/
def octetScansUptoRow : OpenClaim := { program := "ytfjibfljckifkaa", sum := "44c65dcdb8feaed3a0df703179fcf381c7db49e2650b0a3134685159796e9ed7", func := "paternoster/paternosterlaw01.OctetScans", spec := "octetScans", unfollowed := true, recurses := true, apart := false, narrowed := true }
def OctetScansUptoSaid : Prop := octetScansUptoRow.holds Try.pinned (OpenSpec.upto octetScansSpec)

/-- 'paternosterlaw01.OctetBack', WHERE WHAT IT READS IS OF BULK AT MOST 1048576: true; the input reads as it did. -/
def octetBackUptoRow : OpenClaim := { program := "ytfjibfljckifkaa", sum := "44c65dcdb8feaed3a0df703179fcf381c7db49e2650b0a3134685159796e9ed7", func := "paternoster/paternosterlaw01.OctetBack", spec := "octetBack", unfollowed := true, recurses := true, apart := false, narrowed := true }
def OctetBackUptoSaid : Prop := octetBackUptoRow.holds Try.pinned (OpenSpec.upto octetBackSpec)

/-- 'paternosterlaw01.OctetOrders', WHERE WHAT IT READS IS OF BULK AT MOST 1048576: true; the input reads as it did. -/
def octetOrdersUptoRow : OpenClaim := { program := "ytfjibfljckifkaa", sum := "44c65dcdb8feaed3a0df703179fcf381c7db49e2650b0a3134685159796e9ed7", func := "paternoster/paternosterlaw01.OctetOrders", spec := "octetOrders", unfollowed := true, recurses := true, apart := false, narrowed := true }
def OctetOrdersUptoSaid : Prop := octetOrdersUptoRow.holds Try.pinned (OpenSpec.upto octetOrdersSpec)

/-- 'paternosterlaw01.OctetNone', WHERE WHAT IT READS IS OF BULK AT MOST 1048576: true; the input reads as it did. -/
def octetNoneUptoRow : OpenClaim := { program := "ytfjibfljckifkaa", sum := "44c65dcdb8feaed3a0df703179fcf381c7db49e2650b0a3134685159796e9ed7", func := "paternoster/paternosterlaw01.OctetNone", spec := "octetNone", unfollowed := true, recurses := true, apart := false, narrowed := true }
def OctetNoneUptoSaid : Prop := octetNoneUptoRow.holds Try.pinned (OpenSpec.upto octetNoneSpec)

/-- 'paternosterlaw18.BeatOnly', WHERE WHAT IT READS IS OF BULK AT MOST 1048576: true; the input reads as it did. -/
def beatOnlyUptoRow : OpenClaim := { program := "ytfjibfljckifkaa", sum := "44c65dcdb8feaed3a0df703179fcf381c7db49e2650b0a3134685159796e9ed7", func := "paternoster/paternosterlaw18.BeatOnly", spec := "beatOnly", unfollowed := true, recurses := true, apart := false, narrowed := true }
def BeatOnlyUptoSaid : Prop := beatOnlyUptoRow.holds Try.pinned (OpenSpec.upto beatOnlySpec)

/-- 'paternosterlaw18.BeatNone', WHERE WHAT IT READS IS OF BULK AT MOST 1048576: true; the input reads as it did. -/
def beatNoneUptoRow : OpenClaim := { program := "ytfjibfljckifkaa", sum := "44c65dcdb8feaed3a0df703179fcf381c7db49e2650b0a3134685159796e9ed7", func := "paternoster/paternosterlaw18.BeatNone", spec := "beatNone", unfollowed := true, recurses := true, apart := false, narrowed := true }
def BeatNoneUptoSaid : Prop := beatNoneUptoRow.holds Try.pinned (OpenSpec.upto beatNoneSpec)

end Rows
end Go.Proofs.Ytfjibfljckifkaa
