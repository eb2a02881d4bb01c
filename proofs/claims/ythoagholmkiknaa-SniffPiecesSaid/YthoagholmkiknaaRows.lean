/-
  No cell of these rows narrows 'for every input' (looked for: loops, veiled, ifaces, maps, wideKeys, modest, calm, conditions, laid).
  DERIVED. THE GIVEN ROWS OF THIS SEAT. 3 by the template 'for every input the law returns true; each argument reads behind the call as it read before'; 0 by the template 'total and deterministic' (their statements: YthoagholmkiknaaTotals.lean).
  GIVEN WITH THE SEED: the statements are not yours to turn. If you find one false, say at which input.
  Laid BY PROGRAM, IN A SANDBOX (cutbox-rows.mjs): the forced cells as the released guide's own fill.sh prints them over the translation 677d837874fe9a0c… (all of the seat's roots in one cut). By AI agents, Wed Nov 11 2026. No macro, syntax, notation, axiom, sorry.
-/
import Derived.Test.YthoagholmkiknaaChecked
import GoSem.Claim
import GoSem.ClaimJoined
import GoSem.ClaimMapViews
import Derived.JoinedTies
import Derived.KernelRfl
namespace Go.Proofs.Ythoagholmkiknaa
/- THE CELL 'sum', in the pinned program and in every row, IS THE sha256 OF THE DUMP (.gsa) THAT YthoagholmkiknaaProg.lean LOADS. Nothing in Lean hashes anything: it is a label: what it is worth is what the hold of that sum in a sandbox is worth. -/
noncomputable def Try.pinned : Pinned := { name := "ythoagholmkiknaa", sum := "677d837874fe9a0cad726fbe2b3af1fd71da4d3693549fb125447306a95618b2", checked := Try.checked }
namespace Rows
def none {H : Type} : Left H := { results := [], args := [] }

/-- 'paternosterlaw33.SniffPieces': WHATEVER THE INPUT: true; the input reads as it did. -/
def sniffPiecesSpec : ChangeSpec := { name := "sniffPieces", fn := fun _ => fun
  | [d1, d2] => { results := [.lit (.bool true)], args := [d1, d2] }
  | _ => none }
def sniffPiecesRow : OpenClaim := { program := "ythoagholmkiknaa", sum := "677d837874fe9a0cad726fbe2b3af1fd71da4d3693549fb125447306a95618b2", func := "paternoster/paternosterlaw33.SniffPieces", spec := "sniffPieces", unfollowed := true, recurses := true, apart := false }
def SniffPiecesSaid : Prop := sniffPiecesRow.holds Try.pinned (OpenSpec.ofChange sniffPiecesSpec)

/-- ITS FALSE NEIGHBOUR: 'it returns false'. Refute it at one input. -/
def sniffPiecesWrong : ChangeSpec := { name := "sniffPieces", fn := fun _ => fun
  | [d1, d2] => { results := [.lit (.bool false)], args := [d1, d2] }
  | _ => none }
def SniffPiecesWrongFalsely : Prop := sniffPiecesRow.holds Try.pinned (OpenSpec.ofChange sniffPiecesWrong)

/-- 'paternosterlaw33.SniffSees': WHATEVER THE INPUT: true; the input reads as it did. -/
def sniffSeesSpec : ChangeSpec := { name := "sniffSees", fn := fun _ => fun
  | [d] => { results := [.lit (.bool true)], args := [d] }
  | _ => none }
def sniffSeesRow : OpenClaim := { program := "ythoagholmkiknaa", sum := "677d837874fe9a0cad726fbe2b3af1fd71da4d3693549fb125447306a95618b2", func := "paternoster/paternosterlaw33.SniffSees", spec := "sniffSees", unfollowed := true, recurses := true, apart := false }
def SniffSeesSaid : Prop := sniffSeesRow.holds Try.pinned (OpenSpec.ofChange sniffSeesSpec)

/-- ITS FALSE NEIGHBOUR: 'it returns false'. Refute it at one input. -/
def sniffSeesWrong : ChangeSpec := { name := "sniffSees", fn := fun _ => fun
  | [d] => { results := [.lit (.bool false)], args := [d] }
  | _ => none }
def SniffSeesWrongFalsely : Prop := sniffSeesRow.holds Try.pinned (OpenSpec.ofChange sniffSeesWrong)

/-- 'paternosterlaw33.SniffNone': WHATEVER THE INPUT: true; the input reads as it did. -/
def sniffNoneSpec : ChangeSpec := { name := "sniffNone", fn := fun _ => fun
  | [d1, d2, d3] => { results := [.lit (.bool true)], args := [d1, d2, d3] }
  | _ => none }
def sniffNoneRow : OpenClaim := { program := "ythoagholmkiknaa", sum := "677d837874fe9a0cad726fbe2b3af1fd71da4d3693549fb125447306a95618b2", func := "paternoster/paternosterlaw33.SniffNone", spec := "sniffNone", unfollowed := true, recurses := true, apart := false }
def SniffNoneSaid : Prop := sniffNoneRow.holds Try.pinned (OpenSpec.ofChange sniffNoneSpec)

/-- ITS FALSE NEIGHBOUR: 'it returns false'. Refute it at one input. -/
def sniffNoneWrong : ChangeSpec := { name := "sniffNone", fn := fun _ => fun
  | [d1, d2, d3] => { results := [.lit (.bool false)], args := [d1, d2, d3] }
  | _ => none }
def SniffNoneWrongFalsely : Prop := sniffNoneRow.holds Try.pinned (OpenSpec.ofChange sniffNoneWrong)

/- THE SECOND FORM. 'bulk': how many values and letters a reading holds, each counted each time it is reached (what is shared counts as often as it is met; a slice's spare places count too). A statement '..UptoSaid' is the law's where the arguments, and the package variables that the reading takes, are together of bulk at most 1048576: NARROWER than '..Said'. Prove '..Said' where nothing that the law and all that it calls make is longer than what came in: it says more and counts as full. Else prove '..UptoSaid'. A law counts once. -/
mutual
def uptoBulk {H : Type} : DataW H → Nat
  | .lit (.string bytes) => bytes.length + 1
  | .lit _ => 1
  | .nil => 1
  | .ptr d => uptoBulk d + 1
  | .slice elems spare => uptoBulkAll elems + uptoBulkAll spare + 1
  | .agg parts => uptoBulkAll parts + 1
  | .iface _ d => uptoBulk d + 1
  | .map entries => uptoBulkEntries entries + 1
  | .held _ => 1
def uptoBulkAll {H : Type} : List (DataW H) → Nat
  | [] => 0
  | d :: r => uptoBulk d + uptoBulkAll r
def uptoBulkEntries {H : Type} : List (Lit × DataW H) → Nat
  | [] => 0
  | x :: r => uptoBulkEntry x + uptoBulkEntries r
def uptoBulkEntry {H : Type} : Lit × DataW H → Nat
  | (.string bytes, d) => bytes.length + uptoBulk d + 1
  | (_, d) => uptoBulk d + 1
 end
def uptoSmall : (H : Type) → List (DataW H) → Bool := fun _ ds => decide (uptoBulkAll ds ≤ 1048576)
def OpenSpec.upto (s : _root_.Go.ChangeSpec) : _root_.Go.OpenSpec := { _root_.Go.OpenSpec.ofChange s with cond := some uptoSmall }

/-- 'paternosterlaw33.SniffPieces', WHERE WHAT IT READS IS OF BULK AT MOST 1048576: true; the input reads as it did. -/
def sniffPiecesUptoRow : OpenClaim := { program := "ythoagholmkiknaa", sum := "677d837874fe9a0cad726fbe2b3af1fd71da4d3693549fb125447306a95618b2", func := "paternoster/paternosterlaw33.SniffPieces", spec := "sniffPieces", unfollowed := true, recurses := true, apart := false, narrowed := true }
def SniffPiecesUptoSaid : Prop := sniffPiecesUptoRow.holds Try.pinned (OpenSpec.upto sniffPiecesSpec)

/-- 'paternosterlaw33.SniffSees', WHERE WHAT IT READS IS OF BULK AT MOST 1048576: true; the input reads as it did. -/
def sniffSeesUptoRow : OpenClaim := { program := "ythoagholmkiknaa", sum := "677d837874fe9a0cad726fbe2b3af1fd71da4d3693549fb125447306a95618b2", func := "paternoster/paternosterlaw33.SniffSees", spec := "sniffSees", unfollowed := true, recurses := true, apart := false, narrowed := true }
def SniffSeesUptoSaid : Prop := sniffSeesUptoRow.holds Try.pinned (OpenSpec.upto sniffSeesSpec)

/-- 'paternosterlaw33.SniffNone', WHERE WHAT IT READS IS OF BULK AT MOST 1048576: true; the input reads as it did. -/
def sniffNoneUptoRow : OpenClaim := { program := "ythoagholmkiknaa", sum := "677d837874fe9a0cad726fbe2b3af1fd71da4d3693549fb125447306a95618b2", func := "paternoster/paternosterlaw33.SniffNone", spec := "sniffNone", unfollowed := true, recurses := true, apart := false, narrowed := true }
def SniffNoneUptoSaid : Prop := sniffNoneUptoRow.holds Try.pinned (OpenSpec.upto sniffNoneSpec)

end Rows
end Go.Proofs.Ythoagholmkiknaa
