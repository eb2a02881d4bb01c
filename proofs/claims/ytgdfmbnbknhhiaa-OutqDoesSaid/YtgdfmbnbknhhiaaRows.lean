/-
  No cell of these rows narrows 'for every input' (looked for: loops, veiled, ifaces, maps, wideKeys, modest, calm, conditions, laid).
  DERIVED. THE GIVEN ROWS OF THIS SEAT. 12 by the template 'for every input the law returns true; each argument reads behind the call as it read before'; 0 by the template 'total and deterministic' (their statements: YtgdfmbnbknhhiaaTotals.lean).
  GIVEN WITH THE SEED: the statements are not yours to turn. If you find one false, say at which input.
  Laid BY PROGRAM, IN A SANDBOX (cutbox-rows.mjs): the forced cells as the released guide's own fill.sh prints them over the translation 62f4fbd42b3c6f99… (all of the seat's roots in one cut). By AI agents, Wed Nov 11 2026. No macro, syntax, notation, axiom, sorry.
-/
import Derived.Test.YtgdfmbnbknhhiaaChecked
import GoSem.Claim
import GoSem.ClaimJoined
import GoSem.ClaimMapViews
import Derived.JoinedTies
import Derived.KernelRfl
namespace Go.Proofs.Ytgdfmbnbknhhiaa
/- THE CELL 'sum', in the pinned program and in every row, IS THE sha256 OF THE DUMP (.gsa) THAT YtgdfmbnbknhhiaaProg.lean LOADS. Nothing in Lean hashes anything: it is a label: what it is worth is what the hold of that sum in a sandbox is worth. -/
noncomputable def Try.pinned : Pinned := { name := "ytgdfmbnbknhhiaa", sum := "62f4fbd42b3c6f99ca2d1f40ba8fb8cb8f813f0980172ffcf9b99ae3c0f61070", checked := Try.checked }
namespace Rows
def none {H : Type} : Left H := { results := [], args := [] }

/-- 'paternosterlaw02.HeaderPuts': WHATEVER THE INPUT: true; the input reads as it did. -/
def headerPutsSpec : ChangeSpec := { name := "headerPuts", fn := fun _ => fun
  | [d1, d2] => { results := [.lit (.bool true)], args := [d1, d2] }
  | _ => none }
def headerPutsRow : OpenClaim := { program := "ytgdfmbnbknhhiaa", sum := "62f4fbd42b3c6f99ca2d1f40ba8fb8cb8f813f0980172ffcf9b99ae3c0f61070", func := "paternoster/paternosterlaw02.HeaderPuts", spec := "headerPuts", unfollowed := true, recurses := true, apart := false }
def HeaderPutsSaid : Prop := headerPutsRow.holds Try.pinned (OpenSpec.ofChange headerPutsSpec)

/-- ITS FALSE NEIGHBOUR: 'it returns false'. Refute it at one input. -/
def headerPutsWrong : ChangeSpec := { name := "headerPuts", fn := fun _ => fun
  | [d1, d2] => { results := [.lit (.bool false)], args := [d1, d2] }
  | _ => none }
def HeaderPutsWrongFalsely : Prop := headerPutsRow.holds Try.pinned (OpenSpec.ofChange headerPutsWrong)

/-- 'paternosterlaw02.HeaderBack': WHATEVER THE INPUT: true; the input reads as it did. -/
def headerBackSpec : ChangeSpec := { name := "headerBack", fn := fun _ => fun
  | [d1, d2, d3] => { results := [.lit (.bool true)], args := [d1, d2, d3] }
  | _ => none }
def headerBackRow : OpenClaim := { program := "ytgdfmbnbknhhiaa", sum := "62f4fbd42b3c6f99ca2d1f40ba8fb8cb8f813f0980172ffcf9b99ae3c0f61070", func := "paternoster/paternosterlaw02.HeaderBack", spec := "headerBack", unfollowed := true, recurses := true, apart := false }
def HeaderBackSaid : Prop := headerBackRow.holds Try.pinned (OpenSpec.ofChange headerBackSpec)

/-- ITS FALSE NEIGHBOUR: 'it returns false'. Refute it at one input. -/
def headerBackWrong : ChangeSpec := { name := "headerBack", fn := fun _ => fun
  | [d1, d2, d3] => { results := [.lit (.bool false)], args := [d1, d2, d3] }
  | _ => none }
def HeaderBackWrongFalsely : Prop := headerBackRow.holds Try.pinned (OpenSpec.ofChange headerBackWrong)

/-- 'paternosterlaw02.HeaderNeeds': WHATEVER THE INPUT: true; the input reads as it did. -/
def headerNeedsSpec : ChangeSpec := { name := "headerNeeds", fn := fun _ => fun
  | [d] => { results := [.lit (.bool true)], args := [d] }
  | _ => none }
def headerNeedsRow : OpenClaim := { program := "ytgdfmbnbknhhiaa", sum := "62f4fbd42b3c6f99ca2d1f40ba8fb8cb8f813f0980172ffcf9b99ae3c0f61070", func := "paternoster/paternosterlaw02.HeaderNeeds", spec := "headerNeeds", unfollowed := true, recurses := true, apart := false }
def HeaderNeedsSaid : Prop := headerNeedsRow.holds Try.pinned (OpenSpec.ofChange headerNeedsSpec)

/-- ITS FALSE NEIGHBOUR: 'it returns false'. Refute it at one input. -/
def headerNeedsWrong : ChangeSpec := { name := "headerNeeds", fn := fun _ => fun
  | [d] => { results := [.lit (.bool false)], args := [d] }
  | _ => none }
def HeaderNeedsWrongFalsely : Prop := headerNeedsRow.holds Try.pinned (OpenSpec.ofChange headerNeedsWrong)

/-- 'paternosterlaw34.TraceLays': WHATEVER THE INPUT: true; the input reads as it did. -/
def traceLaysSpec : ChangeSpec := { name := "traceLays", fn := fun _ => fun
  | [d] => { results := [.lit (.bool true)], args := [d] }
  | _ => none }
def traceLaysRow : OpenClaim := { program := "ytgdfmbnbknhhiaa", sum := "62f4fbd42b3c6f99ca2d1f40ba8fb8cb8f813f0980172ffcf9b99ae3c0f61070", func := "paternoster/paternosterlaw34.TraceLays", spec := "traceLays", unfollowed := true, recurses := true, apart := false }
def TraceLaysSaid : Prop := traceLaysRow.holds Try.pinned (OpenSpec.ofChange traceLaysSpec)

/-- ITS FALSE NEIGHBOUR: 'it returns false'. Refute it at one input. -/
def traceLaysWrong : ChangeSpec := { name := "traceLays", fn := fun _ => fun
  | [d] => { results := [.lit (.bool false)], args := [d] }
  | _ => none }
def TraceLaysWrongFalsely : Prop := traceLaysRow.holds Try.pinned (OpenSpec.ofChange traceLaysWrong)

/-- 'paternosterlaw34.TraceReads': WHATEVER THE INPUT: true; the input reads as it did. -/
def traceReadsSpec : ChangeSpec := { name := "traceReads", fn := fun _ => fun
  | [d] => { results := [.lit (.bool true)], args := [d] }
  | _ => none }
def traceReadsRow : OpenClaim := { program := "ytgdfmbnbknhhiaa", sum := "62f4fbd42b3c6f99ca2d1f40ba8fb8cb8f813f0980172ffcf9b99ae3c0f61070", func := "paternoster/paternosterlaw34.TraceReads", spec := "traceReads", unfollowed := true, recurses := true, apart := false }
def TraceReadsSaid : Prop := traceReadsRow.holds Try.pinned (OpenSpec.ofChange traceReadsSpec)

/-- ITS FALSE NEIGHBOUR: 'it returns false'. Refute it at one input. -/
def traceReadsWrong : ChangeSpec := { name := "traceReads", fn := fun _ => fun
  | [d] => { results := [.lit (.bool false)], args := [d] }
  | _ => none }
def TraceReadsWrongFalsely : Prop := traceReadsRow.holds Try.pinned (OpenSpec.ofChange traceReadsWrong)

/-- 'paternosterlaw34.TraceBack': WHATEVER THE INPUT: true; the input reads as it did. -/
def traceBackSpec : ChangeSpec := { name := "traceBack", fn := fun _ => fun
  | [d1, d2] => { results := [.lit (.bool true)], args := [d1, d2] }
  | _ => none }
def traceBackRow : OpenClaim := { program := "ytgdfmbnbknhhiaa", sum := "62f4fbd42b3c6f99ca2d1f40ba8fb8cb8f813f0980172ffcf9b99ae3c0f61070", func := "paternoster/paternosterlaw34.TraceBack", spec := "traceBack", unfollowed := true, recurses := true, apart := false }
def TraceBackSaid : Prop := traceBackRow.holds Try.pinned (OpenSpec.ofChange traceBackSpec)

/-- ITS FALSE NEIGHBOUR: 'it returns false'. Refute it at one input. -/
def traceBackWrong : ChangeSpec := { name := "traceBack", fn := fun _ => fun
  | [d1, d2] => { results := [.lit (.bool false)], args := [d1, d2] }
  | _ => none }
def TraceBackWrongFalsely : Prop := traceBackRow.holds Try.pinned (OpenSpec.ofChange traceBackWrong)

/-- 'paternosterlaw34.TraceParts': WHATEVER THE INPUT: true; the input reads as it did. -/
def tracePartsSpec : ChangeSpec := { name := "traceParts", fn := fun _ => fun
  | [d] => { results := [.lit (.bool true)], args := [d] }
  | _ => none }
def tracePartsRow : OpenClaim := { program := "ytgdfmbnbknhhiaa", sum := "62f4fbd42b3c6f99ca2d1f40ba8fb8cb8f813f0980172ffcf9b99ae3c0f61070", func := "paternoster/paternosterlaw34.TraceParts", spec := "traceParts", unfollowed := true, recurses := true, apart := false }
def TracePartsSaid : Prop := tracePartsRow.holds Try.pinned (OpenSpec.ofChange tracePartsSpec)

/-- ITS FALSE NEIGHBOUR: 'it returns false'. Refute it at one input. -/
def tracePartsWrong : ChangeSpec := { name := "traceParts", fn := fun _ => fun
  | [d] => { results := [.lit (.bool false)], args := [d] }
  | _ => none }
def TracePartsWrongFalsely : Prop := tracePartsRow.holds Try.pinned (OpenSpec.ofChange tracePartsWrong)

/-- 'paternosterlaw25.OutqSums': WHATEVER THE INPUT: true; the input reads as it did. -/
def outqSumsSpec : ChangeSpec := { name := "outqSums", fn := fun _ => fun
  | [d] => { results := [.lit (.bool true)], args := [d] }
  | _ => none }
def outqSumsRow : OpenClaim := { program := "ytgdfmbnbknhhiaa", sum := "62f4fbd42b3c6f99ca2d1f40ba8fb8cb8f813f0980172ffcf9b99ae3c0f61070", func := "paternoster/paternosterlaw25.OutqSums", spec := "outqSums", unfollowed := true, recurses := true, apart := false }
def OutqSumsSaid : Prop := outqSumsRow.holds Try.pinned (OpenSpec.ofChange outqSumsSpec)

/-- ITS FALSE NEIGHBOUR: 'it returns false'. Refute it at one input. -/
def outqSumsWrong : ChangeSpec := { name := "outqSums", fn := fun _ => fun
  | [d] => { results := [.lit (.bool false)], args := [d] }
  | _ => none }
def OutqSumsWrongFalsely : Prop := outqSumsRow.holds Try.pinned (OpenSpec.ofChange outqSumsWrong)

/-- 'paternosterlaw25.OutqDoes': WHATEVER THE INPUT: true; the input reads as it did. -/
def outqDoesSpec : ChangeSpec := { name := "outqDoes", fn := fun _ => fun
  | [d] => { results := [.lit (.bool true)], args := [d] }
  | _ => none }
def outqDoesRow : OpenClaim := { program := "ytgdfmbnbknhhiaa", sum := "62f4fbd42b3c6f99ca2d1f40ba8fb8cb8f813f0980172ffcf9b99ae3c0f61070", func := "paternoster/paternosterlaw25.OutqDoes", spec := "outqDoes", unfollowed := true, recurses := true, apart := false }
def OutqDoesSaid : Prop := outqDoesRow.holds Try.pinned (OpenSpec.ofChange outqDoesSpec)

/-- ITS FALSE NEIGHBOUR: 'it returns false'. Refute it at one input. -/
def outqDoesWrong : ChangeSpec := { name := "outqDoes", fn := fun _ => fun
  | [d] => { results := [.lit (.bool false)], args := [d] }
  | _ => none }
def OutqDoesWrongFalsely : Prop := outqDoesRow.holds Try.pinned (OpenSpec.ofChange outqDoesWrong)

/-- 'paternosterlaw25.OutqNone': WHATEVER THE INPUT: true; the input reads as it did. -/
def outqNoneSpec : ChangeSpec := { name := "outqNone", fn := fun _ => fun
  | [d] => { results := [.lit (.bool true)], args := [d] }
  | _ => none }
def outqNoneRow : OpenClaim := { program := "ytgdfmbnbknhhiaa", sum := "62f4fbd42b3c6f99ca2d1f40ba8fb8cb8f813f0980172ffcf9b99ae3c0f61070", func := "paternoster/paternosterlaw25.OutqNone", spec := "outqNone", unfollowed := true, recurses := true, apart := false }
def OutqNoneSaid : Prop := outqNoneRow.holds Try.pinned (OpenSpec.ofChange outqNoneSpec)

/-- ITS FALSE NEIGHBOUR: 'it returns false'. Refute it at one input. -/
def outqNoneWrong : ChangeSpec := { name := "outqNone", fn := fun _ => fun
  | [d] => { results := [.lit (.bool false)], args := [d] }
  | _ => none }
def OutqNoneWrongFalsely : Prop := outqNoneRow.holds Try.pinned (OpenSpec.ofChange outqNoneWrong)

/-- 'paternosterlaw03.FrameGets': WHATEVER THE INPUT: true; the input reads as it did. -/
def frameGetsSpec : ChangeSpec := { name := "frameGets", fn := fun _ => fun
  | [d1, d2] => { results := [.lit (.bool true)], args := [d1, d2] }
  | _ => none }
def frameGetsRow : OpenClaim := { program := "ytgdfmbnbknhhiaa", sum := "62f4fbd42b3c6f99ca2d1f40ba8fb8cb8f813f0980172ffcf9b99ae3c0f61070", func := "paternoster/paternosterlaw03.FrameGets", spec := "frameGets", unfollowed := true, recurses := true, apart := false }
def FrameGetsSaid : Prop := frameGetsRow.holds Try.pinned (OpenSpec.ofChange frameGetsSpec)

/-- ITS FALSE NEIGHBOUR: 'it returns false'. Refute it at one input. -/
def frameGetsWrong : ChangeSpec := { name := "frameGets", fn := fun _ => fun
  | [d1, d2] => { results := [.lit (.bool false)], args := [d1, d2] }
  | _ => none }
def FrameGetsWrongFalsely : Prop := frameGetsRow.holds Try.pinned (OpenSpec.ofChange frameGetsWrong)

/-- 'paternosterlaw03.FrameAll': WHATEVER THE INPUT: true; the input reads as it did. -/
def frameAllSpec : ChangeSpec := { name := "frameAll", fn := fun _ => fun
  | [d] => { results := [.lit (.bool true)], args := [d] }
  | _ => none }
def frameAllRow : OpenClaim := { program := "ytgdfmbnbknhhiaa", sum := "62f4fbd42b3c6f99ca2d1f40ba8fb8cb8f813f0980172ffcf9b99ae3c0f61070", func := "paternoster/paternosterlaw03.FrameAll", spec := "frameAll", unfollowed := true, recurses := true, apart := false }
def FrameAllSaid : Prop := frameAllRow.holds Try.pinned (OpenSpec.ofChange frameAllSpec)

/-- ITS FALSE NEIGHBOUR: 'it returns false'. Refute it at one input. -/
def frameAllWrong : ChangeSpec := { name := "frameAll", fn := fun _ => fun
  | [d] => { results := [.lit (.bool false)], args := [d] }
  | _ => none }
def FrameAllWrongFalsely : Prop := frameAllRow.holds Try.pinned (OpenSpec.ofChange frameAllWrong)

/- THE SECOND FORM. 'bulk': how many values and letters a reading holds, each counted each time it is reached (what is shared counts as often as it is met; a slice's spare places count too). A statement '..UptoSaid' is the law's where the arguments, and the package variables that the reading takes, are together of bulk at most 1048576: NARROWER than '..Said'. Prove '..Said' where nothing that the law and all that it calls make is longer than what came in: it says more and counts as full. Else prove '..UptoSaid'. A law counts once. -/
mutual
def uptoBulk {H : Type} : DataW H → Nat
  | .lit (.string bytes) => bytes.length + 1
  | .lit _ => 1
  | .nil => 1
  | .ptr d => uptoBulk d + 1
  | .slice elems spare => uptoBulkAll elems + uptoBulkAll spare + 1
  | .agg parts => uptoBulkAll parts + 1
  | .iface _ d => uptoBulk d + 1
  | .map entries => uptoBulkEntries entries + 1
  | .held _ => 1
def uptoBulkAll {H : Type} : List (DataW H) → Nat
  | [] => 0
  | d :: r => uptoBulk d + uptoBulkAll r
def uptoBulkEntries {H : Type} : List (Lit × DataW H) → Nat
  | [] => 0
  | x :: r => uptoBulkEntry x + uptoBulkEntries r
def uptoBulkEntry {H : Type} : Lit × DataW H → Nat
  | (.string bytes, d) => bytes.length + uptoBulk d + 1
  | (_, d) => uptoBulk d + 1
 end
def uptoSmall : (H : Type) → List (DataW H) → Bool := fun _ ds => decide (uptoBulkAll ds ≤ 1048576)
def OpenSpec.upto (s : _root_.Go.ChangeSpec) : _root_.Go.OpenSpec := { _root_.Go.OpenSpec.ofChange s with cond := some uptoSmall }

/-- 'paternosterlaw02.HeaderPuts', WHERE WHAT IT READS IS OF BULK AT MOST 1048576: true; the input reads as it did. -/
def headerPutsUptoRow : OpenClaim := { program := "ytgdfmbnbknhhiaa", sum := "62f4fbd42b3c6f99ca2d1f40ba8fb8cb8f813f0980172ffcf9b99ae3c0f61070", func := "paternoster/paternosterlaw02.HeaderPuts", spec := "headerPuts", unfollowed := true, recurses := true, apart := false, narrowed := true }
def HeaderPutsUptoSaid : Prop := headerPutsUptoRow.holds Try.pinned (OpenSpec.upto headerPutsSpec)

/-- 'paternosterlaw02.HeaderBack', WHERE WHAT IT READS IS OF BULK AT MOST 1048576: true; the input reads as it did. -/
def headerBackUptoRow : OpenClaim := { program := "ytgdfmbnbknhhiaa", sum := "62f4fbd42b3c6f99ca2d1f40ba8fb8cb8f813f0980172ffcf9b99ae3c0f61070", func := "paternoster/paternosterlaw02.HeaderBack", spec := "headerBack", unfollowed := true, recurses := true, apart := false, narrowed := true }
def HeaderBackUptoSaid : Prop := headerBackUptoRow.holds Try.pinned (OpenSpec.upto headerBackSpec)

/-- 'paternosterlaw02.HeaderNeeds', WHERE WHAT IT READS IS OF BULK AT MOST 1048576: true; the input reads as it did. -/
def headerNeedsUptoRow : OpenClaim := { program := "ytgdfmbnbknhhiaa", sum := "62f4fbd42b3c6f99ca2d1f40ba8fb8cb8f813f0980172ffcf9b99ae3c0f61070", func := "paternoster/paternosterlaw02.HeaderNeeds", spec := "headerNeeds", unfollowed := true, recurses := true, apart := false, narrowed := true }
def HeaderNeedsUptoSaid : Prop := headerNeedsUptoRow.holds Try.pinned (OpenSpec.upto headerNeedsSpec)

/-- 'paternosterlaw34.TraceLays', WHERE WHAT IT READS IS OF BULK AT MOST 1048576: true; the input reads as it did. -/
def traceLaysUptoRow : OpenClaim := { program := "ytgdfmbnbknhhiaa", sum := "62f4fbd42b3c6f99ca2d1f40ba8fb8cb8f813f0980172ffcf9b99ae3c0f61070", func := "paternoster/paternosterlaw34.TraceLays", spec := "traceLays", unfollowed := true, recurses := true, apart := false, narrowed := true }
def TraceLaysUptoSaid : Prop := traceLaysUptoRow.holds Try.pinned (OpenSpec.upto traceLaysSpec)

/-- 'paternosterlaw34.TraceReads', WHERE WHAT IT READS IS OF BULK AT MOST 1048576: true; the input reads as it did. -/
def traceReadsUptoRow : OpenClaim := { program := "ytgdfmbnbknhhiaa", sum := "62f4fbd42b3c6f99ca2d1f40ba8fb8cb8f813f0980172ffcf9b99ae3c0f61070", func := "paternoster/paternosterlaw34.TraceReads", spec := "traceReads", unfollowed := true, recurses := true, apart := false, narrowed := true }
def TraceReadsUptoSaid : Prop := traceReadsUptoRow.holds Try.pinned (OpenSpec.upto traceReadsSpec)

/-- 'paternosterlaw34.TraceBack', WHERE WHAT IT READS IS OF BULK AT MOST 1048576: true; the input reads as it did. -/
def traceBackUptoRow : OpenClaim := { program := "ytgdfmbnbknhhiaa", sum := "62f4fbd42b3c6f99ca2d1f40ba8fb8cb8f813f0980172ffcf9b99ae3c0f61070", func := "paternoster/paternosterlaw34.TraceBack", spec := "traceBack", unfollowed := true, recurses := true, apart := false, narrowed := true }
def TraceBackUptoSaid : Prop := traceBackUptoRow.holds Try.pinned (OpenSpec.upto traceBackSpec)

/-- 'paternosterlaw34.TraceParts', WHERE WHAT IT READS IS OF BULK AT MOST 1048576: true; the input reads as it did. -/
def tracePartsUptoRow : OpenClaim := { program := "ytgdfmbnbknhhiaa", sum := "62f4fbd42b3c6f99ca2d1f40ba8fb8cb8f813f0980172ffcf9b99ae3c0f61070", func := "paternoster/paternosterlaw34.TraceParts", spec := "traceParts", unfollowed := true, recurses := true, apart := false, narrowed := true }
def TracePartsUptoSaid : Prop := tracePartsUptoRow.holds Try.pinned (OpenSpec.upto tracePartsSpec)

/-- 'paternosterlaw25.OutqSums', WHERE WHAT IT READS IS OF BULK AT MOST 1048576: true; the input reads as it did. -/
def outqSumsUptoRow : OpenClaim := { program := "ytgdfmbnbknhhiaa", sum := "62f4fbd42b3c6f99ca2d1f40ba8fb8cb8f813f0980172ffcf9b99ae3c0f61070", func := "paternoster/paternosterlaw25.OutqSums", spec := "outqSums", unfollowed := true, recurses := true, apart := false, narrowed := true }
def OutqSumsUptoSaid : Prop := outqSumsUptoRow.holds Try.pinned (OpenSpec.upto outqSumsSpec)

/-- 'paternosterlaw25.OutqDoes', WHERE WHAT IT READS IS OF BULK AT MOST 1048576: true; the input reads as it did. -/
def outqDoesUptoRow : OpenClaim := { program := "ytgdfmbnbknhhiaa", sum := "62f4fbd42b3c6f99ca2d1f40ba8fb8cb8f813f0980172ffcf9b99ae3c0f61070", func := "paternoster/paternosterlaw25.OutqDoes", spec := "outqDoes", unfollowed := true, recurses := true, apart := false, narrowed := true }
def OutqDoesUptoSaid : Prop := outqDoesUptoRow.holds Try.pinned (OpenSpec.upto outqDoesSpec)

/-- 'paternosterlaw25.OutqNone', WHERE WHAT IT READS IS OF BULK AT MOST 1048576: true; the input reads as it did. -/
def outqNoneUptoRow : OpenClaim := { program := "ytgdfmbnbknhhiaa", sum := "62f4fbd42b3c6f99ca2d1f40ba8fb8cb8f813f0980172ffcf9b99ae3c0f61070", func := "paternoster/paternosterlaw25.OutqNone", spec := "outqNone", unfollowed := true, recurses := true, apart := false, narrowed := true }
def OutqNoneUptoSaid : Prop := outqNoneUptoRow.holds Try.pinned (OpenSpec.upto outqNoneSpec)

/-- 'paternosterlaw03.FrameGets', WHERE WHAT IT READS IS OF BULK AT MOST 1048576: true; the input reads as it did. -/
def frameGetsUptoRow : OpenClaim := { program := "ytgdfmbnbknhhiaa", sum := "62f4fbd42b3c6f99ca2d1f40ba8fb8cb8f813f0980172ffcf9b99ae3c0f61070", func := "paternoster/paternosterlaw03.FrameGets", spec := "frameGets", unfollowed := true, recurses := true, apart := false, narrowed := true }
def FrameGetsUptoSaid : Prop := frameGetsUptoRow.holds Try.pinned (OpenSpec.upto frameGetsSpec)

/-- 'paternosterlaw03.FrameAll', WHERE WHAT IT READS IS OF BULK AT MOST 1048576: true; the input reads as it did. -/
def frameAllUptoRow : OpenClaim := { program := "ytgdfmbnbknhhiaa", sum := "62f4fbd42b3c6f99ca2d1f40ba8fb8cb8f813f0980172ffcf9b99ae3c0f61070", func := "paternoster/paternosterlaw03.FrameAll", spec := "frameAll", unfollowed := true, recurses := true, apart := false, narrowed := true }
def FrameAllUptoSaid : Prop := frameAllUptoRow.holds Try.pinned (OpenSpec.upto frameAllSpec)

end Rows
end Go.Proofs.Ytgdfmbnbknhhiaa
