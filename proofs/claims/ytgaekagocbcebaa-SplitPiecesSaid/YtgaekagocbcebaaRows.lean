/-
  No cell of these rows narrows 'for every input' (looked for: loops, veiled, ifaces, maps, wideKeys, modest, calm, conditions, laid).
  DERIVED. THE GIVEN ROWS OF THIS SEAT. 4 by the template 'for every input the law returns true; each argument reads behind the call as it read before'; 0 by the template 'total and deterministic' (their statements: YtgaekagocbcebaaTotals.lean).
  GIVEN WITH THE SEED: the statements are not yours to turn. If you find one false, say at which input.
  Laid BY PROGRAM, IN A SANDBOX (cutbox-rows.mjs): the forced cells as the released guide's own fill.sh prints them over the translation 7fb1dead984c62dd… (all of the seat's roots in one cut). By AI agents, Wed Nov 11 2026. No macro, syntax, notation, axiom, sorry.
-/
import Derived.Test.YtgaekagocbcebaaChecked
import GoSem.Claim
import GoSem.ClaimJoined
import GoSem.ClaimMapViews
import Derived.JoinedTies
import Derived.KernelRfl
namespace Go.Proofs.Ytgaekagocbcebaa
/- THE CELL 'sum', in the pinned program and in every row, IS THE sha256 OF THE DUMP (.gsa) THAT YtgaekagocbcebaaProg.lean LOADS. Nothing in Lean hashes anything: it is a label: what it is worth is what the hold of that sum in a sandbox is worth. -/
noncomputable def Try.pinned : Pinned := { name := "ytgaekagocbcebaa", sum := "7fb1dead984c62ddc57ebcfc8897a45c58fe3fc71412dbc5c1f8c54062d37471", checked := Try.checked }
namespace Rows
def none {H : Type} : Left H := { results := [], args := [] }

/-- 'paternosterlaw21.FaultAnswers': WHATEVER THE INPUT: true; the input reads as it did. -/
def faultAnswersSpec : ChangeSpec := { name := "faultAnswers", fn := fun _ => fun
  | [d1, d2] => { results := [.lit (.bool true)], args := [d1, d2] }
  | _ => none }
def faultAnswersRow : OpenClaim := { program := "ytgaekagocbcebaa", sum := "7fb1dead984c62ddc57ebcfc8897a45c58fe3fc71412dbc5c1f8c54062d37471", func := "paternoster/paternosterlaw21.FaultAnswers", spec := "faultAnswers", unfollowed := true, recurses := true, apart := false }
def FaultAnswersSaid : Prop := faultAnswersRow.holds Try.pinned (OpenSpec.ofChange faultAnswersSpec)

/-- ITS FALSE NEIGHBOUR: 'it returns false'. Refute it at one input. -/
def faultAnswersWrong : ChangeSpec := { name := "faultAnswers", fn := fun _ => fun
  | [d1, d2] => { results := [.lit (.bool false)], args := [d1, d2] }
  | _ => none }
def FaultAnswersWrongFalsely : Prop := faultAnswersRow.holds Try.pinned (OpenSpec.ofChange faultAnswersWrong)

/-- 'paternosterlaw04.SplitFeeds': WHATEVER THE INPUT: true; the input reads as it did. -/
def splitFeedsSpec : ChangeSpec := { name := "splitFeeds", fn := fun _ => fun
  | [d] => { results := [.lit (.bool true)], args := [d] }
  | _ => none }
def splitFeedsRow : OpenClaim := { program := "ytgaekagocbcebaa", sum := "7fb1dead984c62ddc57ebcfc8897a45c58fe3fc71412dbc5c1f8c54062d37471", func := "paternoster/paternosterlaw04.SplitFeeds", spec := "splitFeeds", unfollowed := true, recurses := true, apart := false }
def SplitFeedsSaid : Prop := splitFeedsRow.holds Try.pinned (OpenSpec.ofChange splitFeedsSpec)

/-- ITS FALSE NEIGHBOUR: 'it returns false'. Refute it at one input. -/
def splitFeedsWrong : ChangeSpec := { name := "splitFeeds", fn := fun _ => fun
  | [d] => { results := [.lit (.bool false)], args := [d] }
  | _ => none }
def SplitFeedsWrongFalsely : Prop := splitFeedsRow.holds Try.pinned (OpenSpec.ofChange splitFeedsWrong)

/-- 'paternosterlaw04.SplitPieces': WHATEVER THE INPUT: true; the input reads as it did. -/
def splitPiecesSpec : ChangeSpec := { name := "splitPieces", fn := fun _ => fun
  | [d1, d2] => { results := [.lit (.bool true)], args := [d1, d2] }
  | _ => none }
def splitPiecesRow : OpenClaim := { program := "ytgaekagocbcebaa", sum := "7fb1dead984c62ddc57ebcfc8897a45c58fe3fc71412dbc5c1f8c54062d37471", func := "paternoster/paternosterlaw04.SplitPieces", spec := "splitPieces", unfollowed := true, recurses := true, apart := false }
def SplitPiecesSaid : Prop := splitPiecesRow.holds Try.pinned (OpenSpec.ofChange splitPiecesSpec)

/-- ITS FALSE NEIGHBOUR: 'it returns false'. Refute it at one input. -/
def splitPiecesWrong : ChangeSpec := { name := "splitPieces", fn := fun _ => fun
  | [d1, d2] => { results := [.lit (.bool false)], args := [d1, d2] }
  | _ => none }
def SplitPiecesWrongFalsely : Prop := splitPiecesRow.holds Try.pinned (OpenSpec.ofChange splitPiecesWrong)

/-- 'paternosterlaw04.SplitNone': WHATEVER THE INPUT: true; the input reads as it did. -/
def splitNoneSpec : ChangeSpec := { name := "splitNone", fn := fun _ => fun
  | [d] => { results := [.lit (.bool true)], args := [d] }
  | _ => none }
def splitNoneRow : OpenClaim := { program := "ytgaekagocbcebaa", sum := "7fb1dead984c62ddc57ebcfc8897a45c58fe3fc71412dbc5c1f8c54062d37471", func := "paternoster/paternosterlaw04.SplitNone", spec := "splitNone", unfollowed := true, recurses := true, apart := false }
def SplitNoneSaid : Prop := splitNoneRow.holds Try.pinned (OpenSpec.ofChange splitNoneSpec)

/-- ITS FALSE NEIGHBOUR: 'it returns false'. Refute it at one input. -/
def splitNoneWrong : ChangeSpec := { name := "splitNone", fn := fun _ => fun
  | [d] => { results := [.lit (.bool false)], args := [d] }
  | _ => none }
def SplitNoneWrongFalsely : Prop := splitNoneRow.holds Try.pinned (OpenSpec.ofChange splitNoneWrong)

/- THE SECOND FORM. 'bulk': how many values and letters a reading holds, each counted each time it is reached (what is shared counts as often as it is met; a slice's spare places count too). A statement '..UptoSaid' is the law's where the arguments, and the package variables that the reading takes, are together of bulk at most 1048576: NARROWER than '..Said'. Prove '..Said' where nothing that the law and all that it calls make is longer than what came in: it says more and counts as full. Else prove '..UptoSaid'. A law counts once. -/
mutual
def uptoBulk {H : Type} : DataW H → Nat
  | .lit (.string bytes) => bytes.length + 1
  | .lit _ => 1
  | .nil => 1
  | .ptr d => uptoBulk d + 1
  | .slice elems spare => uptoBulkAll elems + uptoBulkAll spare + 1
  | .agg parts => uptoBulkAll parts + 1
  | .iface _ d => uptoBulk d + 1
  | .map entries => uptoBulkEntries entries + 1
  | .held _ => 1
def uptoBulkAll {H : Type} : List (DataW H) → Nat
  | [] => 0
  | d :: r => uptoBulk d + uptoBulkAll r
def uptoBulkEntries {H : Type} : List (Lit × DataW H) → Nat
  | [] => 0
  | x :: r => uptoBulkEntry x + uptoBulkEntries r
def uptoBulkEntry {H : Type} : Lit × DataW H → Nat
  | (.string bytes, d) => bytes.length + uptoBulk d + 1
  | (_, d) => uptoBulk d + 1
 end
def uptoSmall : (H : Type) → List (DataW H) → Bool := fun _ ds => decide (uptoBulkAll ds ≤ 1048576)
def OpenSpec.upto (s : _root_.Go.ChangeSpec) : _root_.Go.OpenSpec := { _root_.Go.OpenSpec.ofChange s with cond := some uptoSmall }

/-- 'paternosterlaw21.FaultAnswers', WHERE WHAT IT READS IS OF BULK AT MOST 1048576: true; the input reads as it did. -/
def faultAnswersUptoRow : OpenClaim := { program := "ytgaekagocbcebaa", sum := "7fb1dead984c62ddc57ebcfc8897a45c58fe3fc71412dbc5c1f8c54062d37471", func := "paternoster/paternosterlaw21.FaultAnswers", spec := "faultAnswers", unfollowed := true, recurses := true, apart := false, narrowed := true }
def FaultAnswersUptoSaid : Prop := faultAnswersUptoRow.holds Try.pinned (OpenSpec.upto faultAnswersSpec)

/-- 'paternosterlaw04.SplitFeeds', WHERE WHAT IT READS IS OF BULK AT MOST 1048576: true; the input reads as it did. -/
def splitFeedsUptoRow : OpenClaim := { program := "ytgaekagocbcebaa", sum := "7fb1dead984c62ddc57ebcfc8897a45c58fe3fc71412dbc5c1f8c54062d37471", func := "paternoster/paternosterlaw04.SplitFeeds", spec := "splitFeeds", unfollowed := true, recurses := true, apart := false, narrowed := true }
def SplitFeedsUptoSaid : Prop := splitFeedsUptoRow.holds Try.pinned (OpenSpec.upto splitFeedsSpec)

/-- 'paternosterlaw04.SplitPieces', WHERE WHAT IT READS IS OF BULK AT MOST 1048576: true; the input reads as it did. -/
def splitPiecesUptoRow : OpenClaim := { program := "ytgaekagocbcebaa", sum := "7fb1dead984c62ddc57ebcfc8897a45c58fe3fc71412dbc5c1f8c54062d37471", func := "paternoster/paternosterlaw04.SplitPieces", spec := "splitPieces", unfollowed := true, recurses := true, apart := false, narrowed := true }
def SplitPiecesUptoSaid : Prop := splitPiecesUptoRow.holds Try.pinned (OpenSpec.upto splitPiecesSpec)

/-- 'paternosterlaw04.SplitNone', WHERE WHAT IT READS IS OF BULK AT MOST 1048576: true; the input reads as it did. -/
def splitNoneUptoRow : OpenClaim := { program := "ytgaekagocbcebaa", sum := "7fb1dead984c62ddc57ebcfc8897a45c58fe3fc71412dbc5c1f8c54062d37471", func := "paternoster/paternosterlaw04.SplitNone", spec := "splitNone", unfollowed := true, recurses := true, apart := false, narrowed := true }
def SplitNoneUptoSaid : Prop := splitNoneUptoRow.holds Try.pinned (OpenSpec.upto splitNoneSpec)

end Rows
end Go.Proofs.Ytgaekagocbcebaa
