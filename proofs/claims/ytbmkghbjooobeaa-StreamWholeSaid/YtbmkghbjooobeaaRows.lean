/-
  No cell of these rows narrows 'for every input' (looked for: loops, veiled, ifaces, maps, wideKeys, modest, calm, conditions, laid).
  DERIVED. THE GIVEN ROWS OF THIS SEAT. 13 by the template 'for every input the law returns true; each argument reads behind the call as it read before'; 0 by the template 'total and deterministic' (their statements: YtbmkghbjooobeaaTotals.lean).
  GIVEN WITH THE SEED: the statements are not yours to turn. If you find one false, say at which input.
  Laid BY PROGRAM, IN A SANDBOX (cutbox-rows.mjs): the forced cells as the released guide's own fill.sh prints them over the translation eb3105d6c1a110ce… (all of the seat's roots in one cut). By AI agents, Wed Nov 11 2026. No macro, syntax, notation, axiom, sorry.
-/
import Derived.Test.YtbmkghbjooobeaaChecked
import GoSem.Claim
import GoSem.ClaimJoined
import GoSem.ClaimMapViews
import Derived.JoinedTies
import Derived.KernelRfl
namespace Go.Proofs.Ytbmkghbjooobeaa
/- THE CELL 'sum', in the pinned program and in every row, IS THE sha256 OF THE DUMP (.gsa) THAT YtbmkghbjooobeaaProg.lean LOADS. Nothing in Lean hashes anything: it is a label: what it is worth is what the hold of that sum in a sandbox is worth. -/
noncomputable def Try.pinned : Pinned := { name := "ytbmkghbjooobeaa", sum := "eb3105d6c1a110cee8e9dd0c7171462f2b77389b7a091b1b1bce1a94b0ff5015", checked := Try.checked }
namespace Rows
def none {H : Type} : Left H := { results := [], args := [] }

/-- 'paternosterlaw22.TxOrder': WHATEVER THE INPUT: true; the input reads as it did. -/
def txOrderSpec : ChangeSpec := { name := "txOrder", fn := fun _ => fun
  | [d1, d2] => { results := [.lit (.bool true)], args := [d1, d2] }
  | _ => none }
def txOrderRow : OpenClaim := { program := "ytbmkghbjooobeaa", sum := "eb3105d6c1a110cee8e9dd0c7171462f2b77389b7a091b1b1bce1a94b0ff5015", func := "paternoster/paternosterlaw22.TxOrder", spec := "txOrder", unfollowed := true, recurses := true, apart := false }
def TxOrderSaid : Prop := txOrderRow.holds Try.pinned (OpenSpec.ofChange txOrderSpec)

/-- ITS FALSE NEIGHBOUR: 'it returns false'. Refute it at one input. -/
def txOrderWrong : ChangeSpec := { name := "txOrder", fn := fun _ => fun
  | [d1, d2] => { results := [.lit (.bool false)], args := [d1, d2] }
  | _ => none }
def TxOrderWrongFalsely : Prop := txOrderRow.holds Try.pinned (OpenSpec.ofChange txOrderWrong)

/-- 'paternosterlaw22.TxNever': WHATEVER THE INPUT: true; the input reads as it did. -/
def txNeverSpec : ChangeSpec := { name := "txNever", fn := fun _ => fun
  | [d1, d2] => { results := [.lit (.bool true)], args := [d1, d2] }
  | _ => none }
def txNeverRow : OpenClaim := { program := "ytbmkghbjooobeaa", sum := "eb3105d6c1a110cee8e9dd0c7171462f2b77389b7a091b1b1bce1a94b0ff5015", func := "paternoster/paternosterlaw22.TxNever", spec := "txNever", unfollowed := true, recurses := true, apart := false }
def TxNeverSaid : Prop := txNeverRow.holds Try.pinned (OpenSpec.ofChange txNeverSpec)

/-- ITS FALSE NEIGHBOUR: 'it returns false'. Refute it at one input. -/
def txNeverWrong : ChangeSpec := { name := "txNever", fn := fun _ => fun
  | [d1, d2] => { results := [.lit (.bool false)], args := [d1, d2] }
  | _ => none }
def TxNeverWrongFalsely : Prop := txNeverRow.holds Try.pinned (OpenSpec.ofChange txNeverWrong)

/-- 'paternosterlaw22.TxDoes': WHATEVER THE INPUT: true; the input reads as it did. -/
def txDoesSpec : ChangeSpec := { name := "txDoes", fn := fun _ => fun
  | [d1, d2] => { results := [.lit (.bool true)], args := [d1, d2] }
  | _ => none }
def txDoesRow : OpenClaim := { program := "ytbmkghbjooobeaa", sum := "eb3105d6c1a110cee8e9dd0c7171462f2b77389b7a091b1b1bce1a94b0ff5015", func := "paternoster/paternosterlaw22.TxDoes", spec := "txDoes", unfollowed := true, recurses := true, apart := false }
def TxDoesSaid : Prop := txDoesRow.holds Try.pinned (OpenSpec.ofChange txDoesSpec)

/-- ITS FALSE NEIGHBOUR: 'it returns false'. Refute it at one input. -/
def txDoesWrong : ChangeSpec := { name := "txDoes", fn := fun _ => fun
  | [d1, d2] => { results := [.lit (.bool false)], args := [d1, d2] }
  | _ => none }
def TxDoesWrongFalsely : Prop := txDoesRow.holds Try.pinned (OpenSpec.ofChange txDoesWrong)

/-- 'paternosterlaw22.TxNone': WHATEVER THE INPUT: true; the input reads as it did. -/
def txNoneSpec : ChangeSpec := { name := "txNone", fn := fun _ => fun
  | [d] => { results := [.lit (.bool true)], args := [d] }
  | _ => none }
def txNoneRow : OpenClaim := { program := "ytbmkghbjooobeaa", sum := "eb3105d6c1a110cee8e9dd0c7171462f2b77389b7a091b1b1bce1a94b0ff5015", func := "paternoster/paternosterlaw22.TxNone", spec := "txNone", unfollowed := true, recurses := true, apart := false }
def TxNoneSaid : Prop := txNoneRow.holds Try.pinned (OpenSpec.ofChange txNoneSpec)

/-- ITS FALSE NEIGHBOUR: 'it returns false'. Refute it at one input. -/
def txNoneWrong : ChangeSpec := { name := "txNone", fn := fun _ => fun
  | [d] => { results := [.lit (.bool false)], args := [d] }
  | _ => none }
def TxNoneWrongFalsely : Prop := txNoneRow.holds Try.pinned (OpenSpec.ofChange txNoneWrong)

/-- 'paternosterlaw23.RxOrder': WHATEVER THE INPUT: true; the input reads as it did. -/
def rxOrderSpec : ChangeSpec := { name := "rxOrder", fn := fun _ => fun
  | [d1, d2, d3] => { results := [.lit (.bool true)], args := [d1, d2, d3] }
  | _ => none }
def rxOrderRow : OpenClaim := { program := "ytbmkghbjooobeaa", sum := "eb3105d6c1a110cee8e9dd0c7171462f2b77389b7a091b1b1bce1a94b0ff5015", func := "paternoster/paternosterlaw23.RxOrder", spec := "rxOrder", unfollowed := true, recurses := true, apart := false }
def RxOrderSaid : Prop := rxOrderRow.holds Try.pinned (OpenSpec.ofChange rxOrderSpec)

/-- ITS FALSE NEIGHBOUR: 'it returns false'. Refute it at one input. -/
def rxOrderWrong : ChangeSpec := { name := "rxOrder", fn := fun _ => fun
  | [d1, d2, d3] => { results := [.lit (.bool false)], args := [d1, d2, d3] }
  | _ => none }
def RxOrderWrongFalsely : Prop := rxOrderRow.holds Try.pinned (OpenSpec.ofChange rxOrderWrong)

/-- 'paternosterlaw23.RxBounds': WHATEVER THE INPUT: true; the input reads as it did. -/
def rxBoundsSpec : ChangeSpec := { name := "rxBounds", fn := fun _ => fun
  | [d1, d2, d3] => { results := [.lit (.bool true)], args := [d1, d2, d3] }
  | _ => none }
def rxBoundsRow : OpenClaim := { program := "ytbmkghbjooobeaa", sum := "eb3105d6c1a110cee8e9dd0c7171462f2b77389b7a091b1b1bce1a94b0ff5015", func := "paternoster/paternosterlaw23.RxBounds", spec := "rxBounds", unfollowed := true, recurses := true, apart := false }
def RxBoundsSaid : Prop := rxBoundsRow.holds Try.pinned (OpenSpec.ofChange rxBoundsSpec)

/-- ITS FALSE NEIGHBOUR: 'it returns false'. Refute it at one input. -/
def rxBoundsWrong : ChangeSpec := { name := "rxBounds", fn := fun _ => fun
  | [d1, d2, d3] => { results := [.lit (.bool false)], args := [d1, d2, d3] }
  | _ => none }
def RxBoundsWrongFalsely : Prop := rxBoundsRow.holds Try.pinned (OpenSpec.ofChange rxBoundsWrong)

/-- 'paternosterlaw23.RxDoes': WHATEVER THE INPUT: true; the input reads as it did. -/
def rxDoesSpec : ChangeSpec := { name := "rxDoes", fn := fun _ => fun
  | [d1, d2, d3] => { results := [.lit (.bool true)], args := [d1, d2, d3] }
  | _ => none }
def rxDoesRow : OpenClaim := { program := "ytbmkghbjooobeaa", sum := "eb3105d6c1a110cee8e9dd0c7171462f2b77389b7a091b1b1bce1a94b0ff5015", func := "paternoster/paternosterlaw23.RxDoes", spec := "rxDoes", unfollowed := true, recurses := true, apart := false }
def RxDoesSaid : Prop := rxDoesRow.holds Try.pinned (OpenSpec.ofChange rxDoesSpec)

/-- ITS FALSE NEIGHBOUR: 'it returns false'. Refute it at one input. -/
def rxDoesWrong : ChangeSpec := { name := "rxDoes", fn := fun _ => fun
  | [d1, d2, d3] => { results := [.lit (.bool false)], args := [d1, d2, d3] }
  | _ => none }
def RxDoesWrongFalsely : Prop := rxDoesRow.holds Try.pinned (OpenSpec.ofChange rxDoesWrong)

/-- 'paternosterlaw23.RxNone': WHATEVER THE INPUT: true; the input reads as it did. -/
def rxNoneSpec : ChangeSpec := { name := "rxNone", fn := fun _ => fun
  | [d] => { results := [.lit (.bool true)], args := [d] }
  | _ => none }
def rxNoneRow : OpenClaim := { program := "ytbmkghbjooobeaa", sum := "eb3105d6c1a110cee8e9dd0c7171462f2b77389b7a091b1b1bce1a94b0ff5015", func := "paternoster/paternosterlaw23.RxNone", spec := "rxNone", unfollowed := true, recurses := true, apart := false }
def RxNoneSaid : Prop := rxNoneRow.holds Try.pinned (OpenSpec.ofChange rxNoneSpec)

/-- ITS FALSE NEIGHBOUR: 'it returns false'. Refute it at one input. -/
def rxNoneWrong : ChangeSpec := { name := "rxNone", fn := fun _ => fun
  | [d] => { results := [.lit (.bool false)], args := [d] }
  | _ => none }
def RxNoneWrongFalsely : Prop := rxNoneRow.holds Try.pinned (OpenSpec.ofChange rxNoneWrong)

/-- 'paternosterlaw24.StreamMakes': WHATEVER THE INPUT: true; the input reads as it did. -/
def streamMakesSpec : ChangeSpec := { name := "streamMakes", fn := fun _ => fun
  | [d] => { results := [.lit (.bool true)], args := [d] }
  | _ => none }
def streamMakesRow : OpenClaim := { program := "ytbmkghbjooobeaa", sum := "eb3105d6c1a110cee8e9dd0c7171462f2b77389b7a091b1b1bce1a94b0ff5015", func := "paternoster/paternosterlaw24.StreamMakes", spec := "streamMakes", unfollowed := true, recurses := true, apart := false }
def StreamMakesSaid : Prop := streamMakesRow.holds Try.pinned (OpenSpec.ofChange streamMakesSpec)

/-- ITS FALSE NEIGHBOUR: 'it returns false'. Refute it at one input. -/
def streamMakesWrong : ChangeSpec := { name := "streamMakes", fn := fun _ => fun
  | [d] => { results := [.lit (.bool false)], args := [d] }
  | _ => none }
def StreamMakesWrongFalsely : Prop := streamMakesRow.holds Try.pinned (OpenSpec.ofChange streamMakesWrong)

/-- 'paternosterlaw24.StreamComes': WHATEVER THE INPUT: true; the input reads as it did. -/
def streamComesSpec : ChangeSpec := { name := "streamComes", fn := fun _ => fun
  | [d1, d2, d3] => { results := [.lit (.bool true)], args := [d1, d2, d3] }
  | _ => none }
def streamComesRow : OpenClaim := { program := "ytbmkghbjooobeaa", sum := "eb3105d6c1a110cee8e9dd0c7171462f2b77389b7a091b1b1bce1a94b0ff5015", func := "paternoster/paternosterlaw24.StreamComes", spec := "streamComes", unfollowed := true, recurses := true, apart := false }
def StreamComesSaid : Prop := streamComesRow.holds Try.pinned (OpenSpec.ofChange streamComesSpec)

/-- ITS FALSE NEIGHBOUR: 'it returns false'. Refute it at one input. -/
def streamComesWrong : ChangeSpec := { name := "streamComes", fn := fun _ => fun
  | [d1, d2, d3] => { results := [.lit (.bool false)], args := [d1, d2, d3] }
  | _ => none }
def StreamComesWrongFalsely : Prop := streamComesRow.holds Try.pinned (OpenSpec.ofChange streamComesWrong)

/-- 'paternosterlaw24.StreamNone': WHATEVER THE INPUT: true; the input reads as it did. -/
def streamNoneSpec : ChangeSpec := { name := "streamNone", fn := fun _ => fun
  | [d1, d2] => { results := [.lit (.bool true)], args := [d1, d2] }
  | _ => none }
def streamNoneRow : OpenClaim := { program := "ytbmkghbjooobeaa", sum := "eb3105d6c1a110cee8e9dd0c7171462f2b77389b7a091b1b1bce1a94b0ff5015", func := "paternoster/paternosterlaw24.StreamNone", spec := "streamNone", unfollowed := true, recurses := true, apart := false }
def StreamNoneSaid : Prop := streamNoneRow.holds Try.pinned (OpenSpec.ofChange streamNoneSpec)

/-- ITS FALSE NEIGHBOUR: 'it returns false'. Refute it at one input. -/
def streamNoneWrong : ChangeSpec := { name := "streamNone", fn := fun _ => fun
  | [d1, d2] => { results := [.lit (.bool false)], args := [d1, d2] }
  | _ => none }
def StreamNoneWrongFalsely : Prop := streamNoneRow.holds Try.pinned (OpenSpec.ofChange streamNoneWrong)

/-- 'paternosterlaw24.StreamWhole': WHATEVER THE INPUT: true; the input reads as it did. -/
def streamWholeSpec : ChangeSpec := { name := "streamWhole", fn := fun _ => fun
  | [d1, d2, d3] => { results := [.lit (.bool true)], args := [d1, d2, d3] }
  | _ => none }
def streamWholeRow : OpenClaim := { program := "ytbmkghbjooobeaa", sum := "eb3105d6c1a110cee8e9dd0c7171462f2b77389b7a091b1b1bce1a94b0ff5015", func := "paternoster/paternosterlaw24.StreamWhole", spec := "streamWhole", unfollowed := true, recurses := true, apart := false }
def StreamWholeSaid : Prop := streamWholeRow.holds Try.pinned (OpenSpec.ofChange streamWholeSpec)

/-- ITS FALSE NEIGHBOUR: 'it returns false'. Refute it at one input. -/
def streamWholeWrong : ChangeSpec := { name := "streamWhole", fn := fun _ => fun
  | [d1, d2, d3] => { results := [.lit (.bool false)], args := [d1, d2, d3] }
  | _ => none }
def StreamWholeWrongFalsely : Prop := streamWholeRow.holds Try.pinned (OpenSpec.ofChange streamWholeWrong)

/-- 'paternosterlaw24.StreamEnds': WHATEVER THE INPUT: true; the input reads as it did. -/
def streamEndsSpec : ChangeSpec := { name := "streamEnds", fn := fun _ => fun
  | [d] => { results := [.lit (.bool true)], args := [d] }
  | _ => none }
def streamEndsRow : OpenClaim := { program := "ytbmkghbjooobeaa", sum := "eb3105d6c1a110cee8e9dd0c7171462f2b77389b7a091b1b1bce1a94b0ff5015", func := "paternoster/paternosterlaw24.StreamEnds", spec := "streamEnds", unfollowed := true, recurses := true, apart := false }
def StreamEndsSaid : Prop := streamEndsRow.holds Try.pinned (OpenSpec.ofChange streamEndsSpec)

/-- ITS FALSE NEIGHBOUR: 'it returns false'. Refute it at one input. -/
def streamEndsWrong : ChangeSpec := { name := "streamEnds", fn := fun _ => fun
  | [d] => { results := [.lit (.bool false)], args := [d] }
  | _ => none }
def StreamEndsWrongFalsely : Prop := streamEndsRow.holds Try.pinned (OpenSpec.ofChange streamEndsWrong)

/- THE SECOND FORM. 'bulk': how many values and letters a reading holds, each counted each time it is reached (what is shared counts as often as it is met; a slice's spare places count too). A statement '..UptoSaid' is the law's where the arguments, and the package variables that the reading takes, are together of bulk at most 1048576: NARROWER than '..Said'. Prove '..Said' where nothing that the law and all that it calls make is longer than what came in: it says more and counts as full. Else prove '..UptoSaid'. A law counts once. -/
mutual
def uptoBulk {H : Type} : DataW H → Nat
  | .lit (.string bytes) => bytes.length + 1
  | .lit _ => 1
  | .nil => 1
  | .ptr d => uptoBulk d + 1
  | .slice elems spare => uptoBulkAll elems + uptoBulkAll spare + 1
  | .agg parts => uptoBulkAll parts + 1
  | .iface _ d => uptoBulk d + 1
  | .map entries => uptoBulkEntries entries + 1
  | .held _ => 1
def uptoBulkAll {H : Type} : List (DataW H) → Nat
  | [] => 0
  | d :: r => uptoBulk d + uptoBulkAll r
def uptoBulkEntries {H : Type} : List (Lit × DataW H) → Nat
  | [] => 0
  | x :: r => uptoBulkEntry x + uptoBulkEntries r
def uptoBulkEntry {H : Type} : Lit × DataW H → Nat
  | (.string bytes, d) => bytes.length + uptoBulk d + 1
  | (_, d) => uptoBulk d + 1
 end
def uptoSmall : (H : Type) → List (DataW H) → Bool := fun _ ds => decide (uptoBulkAll ds ≤ 1048576)
def OpenSpec.upto (s : _root_.Go.ChangeSpec) : _root_.Go.OpenSpec := { _root_.Go.OpenSpec.ofChange s with cond := some uptoSmall }

/-- 'paternosterlaw22.TxOrder', WHERE WHAT IT READS IS OF BULK AT MOST 1048576: true; the input reads as it did. -/
def txOrderUptoRow : OpenClaim := { program := "ytbmkghbjooobeaa", sum := "eb3105d6c1a110cee8e9dd0c7171462f2b77389b7a091b1b1bce1a94b0ff5015", func := "paternoster/paternosterlaw22.TxOrder", spec := "txOrder", unfollowed := true, recurses := true, apart := false, narrowed := true }
def TxOrderUptoSaid : Prop := txOrderUptoRow.holds Try.pinned (OpenSpec.upto txOrderSpec)

/-- 'paternosterlaw22.TxNever', WHERE WHAT IT READS IS OF BULK AT MOST 1048576: true; the input reads as it did. -/
def txNeverUptoRow : OpenClaim := { program := "ytbmkghbjooobeaa", sum := "eb3105d6c1a110cee8e9dd0c7171462f2b77389b7a091b1b1bce1a94b0ff5015", func := "paternoster/paternosterlaw22.TxNever", spec := "txNever", unfollowed := true, recurses := true, apart := false, narrowed := true }
def TxNeverUptoSaid : Prop := txNeverUptoRow.holds Try.pinned (OpenSpec.upto txNeverSpec)

/-- 'paternosterlaw22.TxDoes', WHERE WHAT IT READS IS OF BULK AT MOST 1048576: true; the input reads as it did. -/
def txDoesUptoRow : OpenClaim := { program := "ytbmkghbjooobeaa", sum := "eb3105d6c1a110cee8e9dd0c7171462f2b77389b7a091b1b1bce1a94b0ff5015", func := "paternoster/paternosterlaw22.TxDoes", spec := "txDoes", unfollowed := true, recurses := true, apart := false, narrowed := true }
def TxDoesUptoSaid : Prop := txDoesUptoRow.holds Try.pinned (OpenSpec.upto txDoesSpec)

/-- 'paternosterlaw22.TxNone', WHERE WHAT IT READS IS OF BULK AT MOST 1048576: true; the input reads as it did. -/
def txNoneUptoRow : OpenClaim := { program := "ytbmkghbjooobeaa", sum := "eb3105d6c1a110cee8e9dd0c7171462f2b77389b7a091b1b1bce1a94b0ff5015", func := "paternoster/paternosterlaw22.TxNone", spec := "txNone", unfollowed := true, recurses := true, apart := false, narrowed := true }
def TxNoneUptoSaid : Prop := txNoneUptoRow.holds Try.pinned (OpenSpec.upto txNoneSpec)

/-- 'paternosterlaw23.RxOrder', WHERE WHAT IT READS IS OF BULK AT MOST 1048576: true; the input reads as it did. -/
def rxOrderUptoRow : OpenClaim := { program := "ytbmkghbjooobeaa", sum := "eb3105d6c1a110cee8e9dd0c7171462f2b77389b7a091b1b1bce1a94b0ff5015", func := "paternoster/paternosterlaw23.RxOrder", spec := "rxOrder", unfollowed := true, recurses := true, apart := false, narrowed := true }
def RxOrderUptoSaid : Prop := rxOrderUptoRow.holds Try.pinned (OpenSpec.upto rxOrderSpec)

/-- 'paternosterlaw23.RxBounds', WHERE WHAT IT READS IS OF BULK AT MOST 1048576: true; the input reads as it did. -/
def rxBoundsUptoRow : OpenClaim := { program := "ytbmkghbjooobeaa", sum := "eb3105d6c1a110cee8e9dd0c7171462f2b77389b7a091b1b1bce1a94b0ff5015", func := "paternoster/paternosterlaw23.RxBounds", spec := "rxBounds", unfollowed := true, recurses := true, apart := false, narrowed := true }
def RxBoundsUptoSaid : Prop := rxBoundsUptoRow.holds Try.pinned (OpenSpec.upto rxBoundsSpec)

/-- 'paternosterlaw23.RxDoes', WHERE WHAT IT READS IS OF BULK AT MOST 1048576: true; the input reads as it did. -/
def rxDoesUptoRow : OpenClaim := { program := "ytbmkghbjooobeaa", sum := "eb3105d6c1a110cee8e9dd0c7171462f2b77389b7a091b1b1bce1a94b0ff5015", func := "paternoster/paternosterlaw23.RxDoes", spec := "rxDoes", unfollowed := true, recurses := true, apart := false, narrowed := true }
def RxDoesUptoSaid : Prop := rxDoesUptoRow.holds Try.pinned (OpenSpec.upto rxDoesSpec)

/-- 'paternosterlaw23.RxNone', WHERE WHAT IT READS IS OF BULK AT MOST 1048576: true; the input reads as it did. -/
def rxNoneUptoRow : OpenClaim := { program := "ytbmkghbjooobeaa", sum := "eb3105d6c1a110cee8e9dd0c7171462f2b77389b7a091b1b1bce1a94b0ff5015", func := "paternoster/paternosterlaw23.RxNone", spec := "rxNone", unfollowed := true, recurses := true, apart := false, narrowed := true }
def RxNoneUptoSaid : Prop := rxNoneUptoRow.holds Try.pinned (OpenSpec.upto rxNoneSpec)

/-- 'paternosterlaw24.StreamMakes', WHERE WHAT IT READS IS OF BULK AT MOST 1048576: true; the input reads as it did. -/
def streamMakesUptoRow : OpenClaim := { program := "ytbmkghbjooobeaa", sum := "eb3105d6c1a110cee8e9dd0c7171462f2b77389b7a091b1b1bce1a94b0ff5015", func := "paternoster/paternosterlaw24.StreamMakes", spec := "streamMakes", unfollowed := true, recurses := true, apart := false, narrowed := true }
def StreamMakesUptoSaid : Prop := streamMakesUptoRow.holds Try.pinned (OpenSpec.upto streamMakesSpec)

/-- 'paternosterlaw24.StreamComes', WHERE WHAT IT READS IS OF BULK AT MOST 1048576: true; the input reads as it did. -/
def streamComesUptoRow : OpenClaim := { program := "ytbmkghbjooobeaa", sum := "eb3105d6c1a110cee8e9dd0c7171462f2b77389b7a091b1b1bce1a94b0ff5015", func := "paternoster/paternosterlaw24.StreamComes", spec := "streamComes", unfollowed := true, recurses := true, apart := false, narrowed := true }
def StreamComesUptoSaid : Prop := streamComesUptoRow.holds Try.pinned (OpenSpec.upto streamComesSpec)

/-- 'paternosterlaw24.StreamNone', WHERE WHAT IT READS IS OF BULK AT MOST 1048576: true; the input reads as it did. -/
def streamNoneUptoRow : OpenClaim := { program := "ytbmkghbjooobeaa", sum := "eb3105d6c1a110cee8e9dd0c7171462f2b77389b7a091b1b1bce1a94b0ff5015", func := "paternoster/paternosterlaw24.StreamNone", spec := "streamNone", unfollowed := true, recurses := true, apart := false, narrowed := true }
def StreamNoneUptoSaid : Prop := streamNoneUptoRow.holds Try.pinned (OpenSpec.upto streamNoneSpec)

/-- 'paternosterlaw24.StreamWhole', WHERE WHAT IT READS IS OF BULK AT MOST 1048576: true; the input reads as it did. -/
def streamWholeUptoRow : OpenClaim := { program := "ytbmkghbjooobeaa", sum := "eb3105d6c1a110cee8e9dd0c7171462f2b77389b7a091b1b1bce1a94b0ff5015", func := "paternoster/paternosterlaw24.StreamWhole", spec := "streamWhole", unfollowed := true, recurses := true, apart := false, narrowed := true }
def StreamWholeUptoSaid : Prop := streamWholeUptoRow.holds Try.pinned (OpenSpec.upto streamWholeSpec)

/-- 'paternosterlaw24.StreamEnds', WHERE WHAT IT READS IS OF BULK AT MOST 1048576: true; the input reads as it did. -/
def streamEndsUptoRow : OpenClaim := { program := "ytbmkghbjooobeaa", sum := "eb3105d6c1a110cee8e9dd0c7171462f2b77389b7a091b1b1bce1a94b0ff5015", func := "paternoster/paternosterlaw24.StreamEnds", spec := "streamEnds", unfollowed := true, recurses := true, apart := false, narrowed := true }
def StreamEndsUptoSaid : Prop := streamEndsUptoRow.holds Try.pinned (OpenSpec.upto streamEndsSpec)

end Rows
end Go.Proofs.Ytbmkghbjooobeaa
