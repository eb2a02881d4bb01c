/-
  No cell of these rows narrows 'for every input' (looked for: loops, veiled, ifaces, maps, wideKeys, modest, calm, conditions, laid).
  DERIVED. THE GIVEN ROWS OF THIS SEAT. 4 by the template 'for every input the law returns true; each argument reads behind the call as it read before'; 0 by the template 'total and deterministic' (their statements: YtifgibijcmppmaaGreatTotals.lean).
  GIVEN WITH THE SEED: the statements are not yours to turn. If you find one false, say at which input.
  Laid BY PROGRAM, IN A SANDBOX (cutbox-rows.mjs): the forced cells as the released guide's own fill.sh prints them over the translation 0d82074ac71852a1… (all of the seat's roots in one cut). By AI agents, Wed Nov 11 2026. No macro, syntax, notation, axiom, sorry.
-/
import Derived.Test.YtifgibijcmppmaaGreatChecked
import GoSem.Claim
import GoSem.ClaimJoined
import GoSem.ClaimMapViews
import Derived.JoinedTies
import Derived.KernelRfl
namespace Go.Proofs.YtifgibijcmppmaaGreat
/- THE CELL 'sum', in the pinned program and in every row, IS THE sha256 OF THE DUMP (.gsa) THAT YtifgibijcmppmaaGreatProg.lean LOADS. Nothing in Lean hashes anything: it is a label: what it is worth is what the hold of that sum in a sandbox is worth. -/
noncomputable def Tryz.pinned : Pinned := { name := "ytifgibijcmppmaagreat", sum := "0d82074ac71852a1cca5f59cfc035e7d3487a5421a738102692d3f737e790d9d", checked := Tryz.checked }
namespace Rows
def none {H : Type} : Left H := { results := [], args := [] }

/-- 'paternosterlaw26.ConnCodes': WHATEVER THE INPUT: true; the input reads as it did. -/
def connCodesSpec : ChangeSpec := { name := "connCodes", fn := fun _ => fun
  | [d1, d2] => { results := [.lit (.bool true)], args := [d1, d2] }
  | _ => none }
def connCodesRow : OpenClaim := { program := "ytifgibijcmppmaagreat", sum := "0d82074ac71852a1cca5f59cfc035e7d3487a5421a738102692d3f737e790d9d", func := "paternoster/paternosterlaw26.ConnCodes", spec := "connCodes", inPlace := ["slices.overlaps[paternoster/table.entry[*paternoster/stream.Stream]]", "slices.overlaps[paternoster/credit.line]"], unfollowed := true, recurses := true, apart := false }
def ConnCodesSaid : Prop := connCodesRow.holds Tryz.pinned (OpenSpec.ofChange connCodesSpec)

/-- ITS FALSE NEIGHBOUR: 'it returns false'. Refute it at one input. -/
def connCodesWrong : ChangeSpec := { name := "connCodes", fn := fun _ => fun
  | [d1, d2] => { results := [.lit (.bool false)], args := [d1, d2] }
  | _ => none }
def ConnCodesWrongFalsely : Prop := connCodesRow.holds Tryz.pinned (OpenSpec.ofChange connCodesWrong)

/-- 'paternosterlaw26.ConnHarm': WHATEVER THE INPUT: true; the input reads as it did. -/
def connHarmSpec : ChangeSpec := { name := "connHarm", fn := fun _ => fun
  | [d1, d2] => { results := [.lit (.bool true)], args := [d1, d2] }
  | _ => none }
def connHarmRow : OpenClaim := { program := "ytifgibijcmppmaagreat", sum := "0d82074ac71852a1cca5f59cfc035e7d3487a5421a738102692d3f737e790d9d", func := "paternoster/paternosterlaw26.ConnHarm", spec := "connHarm", inPlace := ["slices.overlaps[paternoster/table.entry[*paternoster/stream.Stream]]", "slices.overlaps[paternoster/credit.line]"], unfollowed := true, recurses := true, apart := false }
def ConnHarmSaid : Prop := connHarmRow.holds Tryz.pinned (OpenSpec.ofChange connHarmSpec)

/-- ITS FALSE NEIGHBOUR: 'it returns false'. Refute it at one input. -/
def connHarmWrong : ChangeSpec := { name := "connHarm", fn := fun _ => fun
  | [d1, d2] => { results := [.lit (.bool false)], args := [d1, d2] }
  | _ => none }
def ConnHarmWrongFalsely : Prop := connHarmRow.holds Tryz.pinned (OpenSpec.ofChange connHarmWrong)

/-- 'paternosterlaw28.DuplexAgain': WHATEVER THE INPUT: true; the input reads as it did. -/
def duplexAgainSpec : ChangeSpec := { name := "duplexAgain", fn := fun _ => fun
  | [d] => { results := [.lit (.bool true)], args := [d] }
  | _ => none }
def duplexAgainRow : OpenClaim := { program := "ytifgibijcmppmaagreat", sum := "0d82074ac71852a1cca5f59cfc035e7d3487a5421a738102692d3f737e790d9d", func := "paternoster/paternosterlaw28.DuplexAgain", spec := "duplexAgain", inPlace := ["slices.overlaps[paternoster/table.entry[*paternoster/stream.Stream]]", "slices.overlaps[paternoster/credit.line]"], unfollowed := true, recurses := true, apart := false }
def DuplexAgainSaid : Prop := duplexAgainRow.holds Tryz.pinned (OpenSpec.ofChange duplexAgainSpec)

/-- ITS FALSE NEIGHBOUR: 'it returns false'. Refute it at one input. -/
def duplexAgainWrong : ChangeSpec := { name := "duplexAgain", fn := fun _ => fun
  | [d] => { results := [.lit (.bool false)], args := [d] }
  | _ => none }
def DuplexAgainWrongFalsely : Prop := duplexAgainRow.holds Tryz.pinned (OpenSpec.ofChange duplexAgainWrong)

/-- 'paternosterlaw32.BoundHolds': WHATEVER THE INPUT: true; the input reads as it did. -/
def boundHoldsSpec : ChangeSpec := { name := "boundHolds", fn := fun _ => fun
  | [d1, d2, d3] => { results := [.lit (.bool true)], args := [d1, d2, d3] }
  | _ => none }
def boundHoldsRow : OpenClaim := { program := "ytifgibijcmppmaagreat", sum := "0d82074ac71852a1cca5f59cfc035e7d3487a5421a738102692d3f737e790d9d", func := "paternoster/paternosterlaw32.BoundHolds", spec := "boundHolds", inPlace := ["slices.overlaps[paternoster/table.entry[*paternoster/stream.Stream]]", "slices.overlaps[paternoster/credit.line]"], unfollowed := true, recurses := true, apart := false }
def BoundHoldsSaid : Prop := boundHoldsRow.holds Tryz.pinned (OpenSpec.ofChange boundHoldsSpec)

/-- ITS FALSE NEIGHBOUR: 'it returns false'. Refute it at one input. -/
def boundHoldsWrong : ChangeSpec := { name := "boundHolds", fn := fun _ => fun
  | [d1, d2, d3] => { results := [.lit (.bool false)], args := [d1, d2, d3] }
  | _ => none }
def BoundHoldsWrongFalsely : Prop := boundHoldsRow.holds Tryz.pinned (OpenSpec.ofChange boundHoldsWrong)

/- THE SECOND FORM. 'bulk': how many values and letters a reading holds, each counted each time it is reached (what is shared counts as often as it is met; a slice's spare places count too). A statement '..UptoSaid' is the law's where the arguments, and the package variables that the reading takes, are together of bulk at most 1048576: NARROWER than '..Said'. Prove '..Said' where nothing that the law and all that it calls make is longer than what came in: it says more and counts as full. Else prove '..UptoSaid'. A law counts once. -/
mutual
def uptoBulk {H : Type} : DataW H → Nat
  | .lit (.string bytes) => bytes.length + 1
  | .lit _ => 1
  | .nil => 1
  | .ptr d => uptoBulk d + 1
  | .slice elems spare => uptoBulkAll elems + uptoBulkAll spare + 1
  | .agg parts => uptoBulkAll parts + 1
  | .iface _ d => uptoBulk d + 1
  | .map entries => uptoBulkEntries entries + 1
  | .held _ => 1
def uptoBulkAll {H : Type} : List (DataW H) → Nat
  | [] => 0
  | d :: r => uptoBulk d + uptoBulkAll r
def uptoBulkEntries {H : Type} : List (Lit × DataW H) → Nat
  | [] => 0
  | x :: r => uptoBulkEntry x + uptoBulkEntries r
def uptoBulkEntry {H : Type} : Lit × DataW H → Nat
  | (.string bytes, d) => bytes.length + uptoBulk d + 1
  | (_, d) => uptoBulk d + 1
 end
def uptoSmall : (H : Type) → List (DataW H) → Bool := fun _ ds => decide (uptoBulkAll ds ≤ 1048576)
def OpenSpec.upto (s : _root_.Go.ChangeSpec) : _root_.Go.OpenSpec := { _root_.Go.OpenSpec.ofChange s with cond := some uptoSmall }

/-- 'paternosterlaw26.ConnCodes', WHERE WHAT IT READS IS OF BULK AT MOST 1048576: true; the input reads as it did. -/
def connCodesUptoRow : OpenClaim := { program := "ytifgibijcmppmaagreat", sum := "0d82074ac71852a1cca5f59cfc035e7d3487a5421a738102692d3f737e790d9d", func := "paternoster/paternosterlaw26.ConnCodes", spec := "connCodes", inPlace := ["slices.overlaps[paternoster/table.entry[*paternoster/stream.Stream]]", "slices.overlaps[paternoster/credit.line]"], unfollowed := true, recurses := true, apart := false, narrowed := true }
def ConnCodesUptoSaid : Prop := connCodesUptoRow.holds Tryz.pinned (OpenSpec.upto connCodesSpec)

/-- 'paternosterlaw26.ConnHarm', WHERE WHAT IT READS IS OF BULK AT MOST 1048576: true; the input reads as it did. -/
def connHarmUptoRow : OpenClaim := { program := "ytifgibijcmppmaagreat", sum := "0d82074ac71852a1cca5f59cfc035e7d3487a5421a738102692d3f737e790d9d", func := "paternoster/paternosterlaw26.ConnHarm", spec := "connHarm", inPlace := ["slices.overlaps[paternoster/table.entry[*paternoster/stream.Stream]]", "slices.overlaps[paternoster/credit.line]"], unfollowed := true, recurses := true, apart := false, narrowed := true }
def ConnHarmUptoSaid : Prop := connHarmUptoRow.holds Tryz.pinned (OpenSpec.upto connHarmSpec)

/-- 'paternosterlaw28.DuplexAgain', WHERE WHAT IT READS IS OF BULK AT MOST 1048576: true; the input reads as it did. -/
def duplexAgainUptoRow : OpenClaim := { program := "ytifgibijcmppmaagreat", sum := "0d82074ac71852a1cca5f59cfc035e7d3487a5421a738102692d3f737e790d9d", func := "paternoster/paternosterlaw28.DuplexAgain", spec := "duplexAgain", inPlace := ["slices.overlaps[paternoster/table.entry[*paternoster/stream.Stream]]", "slices.overlaps[paternoster/credit.line]"], unfollowed := true, recurses := true, apart := false, narrowed := true }
def DuplexAgainUptoSaid : Prop := duplexAgainUptoRow.holds Tryz.pinned (OpenSpec.upto duplexAgainSpec)

/-- 'paternosterlaw32.BoundHolds', WHERE WHAT IT READS IS OF BULK AT MOST 1048576: true; the input reads as it did. -/
def boundHoldsUptoRow : OpenClaim := { program := "ytifgibijcmppmaagreat", sum := "0d82074ac71852a1cca5f59cfc035e7d3487a5421a738102692d3f737e790d9d", func := "paternoster/paternosterlaw32.BoundHolds", spec := "boundHolds", inPlace := ["slices.overlaps[paternoster/table.entry[*paternoster/stream.Stream]]", "slices.overlaps[paternoster/credit.line]"], unfollowed := true, recurses := true, apart := false, narrowed := true }
def BoundHoldsUptoSaid : Prop := boundHoldsUptoRow.holds Tryz.pinned (OpenSpec.upto boundHoldsSpec)

end Rows
end Go.Proofs.YtifgibijcmppmaaGreat
