/-
  No cell of these rows narrows 'for every input' (looked for: loops, veiled, ifaces, maps, wideKeys, modest, calm, conditions, laid).
  DERIVED. THE GIVEN ROWS OF THIS SEAT. 6 by the template 'for every input the law returns true; each argument reads behind the call as it read before'; 0 by the template 'total and deterministic' (their statements: YtepnmcipkangkaaGreatTotals.lean).
  GIVEN WITH THE SEED: the statements are not yours to turn. If you find one false, say at which input.
  Laid BY PROGRAM, IN A SANDBOX (cutbox-rows.mjs): the forced cells as the released guide's own fill.sh prints them over the translation dc6136e6af38e02a… (all of the seat's roots in one cut). By AI agents, Wed Nov 11 2026. No macro, syntax, notation, axiom, sorry.
-/
import Derived.Test.YtepnmcipkangkaaGreatChecked
import GoSem.Claim
import GoSem.ClaimJoined
import GoSem.ClaimMapViews
import Derived.JoinedTies
import Derived.KernelRfl
namespace Go.Proofs.YtepnmcipkangkaaGreat
/- THE CELL 'sum', in the pinned program and in every row, IS THE sha256 OF THE DUMP (.gsa) THAT YtepnmcipkangkaaGreatProg.lean LOADS. Nothing in Lean hashes anything: it is a label: what it is worth is what the hold of that sum in a sandbox is worth. -/
noncomputable def Tryz.pinned : Pinned := { name := "ytepnmcipkangkaagreat", sum := "dc6136e6af38e02a284462c22d9e694c300896ef6231192d444509f7c88b6c30", checked := Tryz.checked }
namespace Rows
def none {H : Type} : Left H := { results := [], args := [] }

/-- 'paternosterlaw26.ConnPeace': WHATEVER THE INPUT: true; the input reads as it did. -/
def connPeaceSpec : ChangeSpec := { name := "connPeace", fn := fun _ => fun
  | [d1, d2, d3] => { results := [.lit (.bool true)], args := [d1, d2, d3] }
  | _ => none }
def connPeaceRow : OpenClaim := { program := "ytepnmcipkangkaagreat", sum := "dc6136e6af38e02a284462c22d9e694c300896ef6231192d444509f7c88b6c30", func := "paternoster/paternosterlaw26.ConnPeace", spec := "connPeace", inPlace := ["slices.overlaps[paternoster/table.entry[*paternoster/stream.Stream]]", "slices.overlaps[paternoster/credit.line]"], unfollowed := true, recurses := true, apart := false }
def ConnPeaceSaid : Prop := connPeaceRow.holds Tryz.pinned (OpenSpec.ofChange connPeaceSpec)

/-- ITS FALSE NEIGHBOUR: 'it returns false'. Refute it at one input. -/
def connPeaceWrong : ChangeSpec := { name := "connPeace", fn := fun _ => fun
  | [d1, d2, d3] => { results := [.lit (.bool false)], args := [d1, d2, d3] }
  | _ => none }
def ConnPeaceWrongFalsely : Prop := connPeaceRow.holds Tryz.pinned (OpenSpec.ofChange connPeaceWrong)

/-- 'paternosterlaw28.DuplexPeace': WHATEVER THE INPUT: true; the input reads as it did. -/
def duplexPeaceSpec : ChangeSpec := { name := "duplexPeace", fn := fun _ => fun
  | [d1, d2, d3] => { results := [.lit (.bool true)], args := [d1, d2, d3] }
  | _ => none }
def duplexPeaceRow : OpenClaim := { program := "ytepnmcipkangkaagreat", sum := "dc6136e6af38e02a284462c22d9e694c300896ef6231192d444509f7c88b6c30", func := "paternoster/paternosterlaw28.DuplexPeace", spec := "duplexPeace", inPlace := ["slices.overlaps[paternoster/table.entry[*paternoster/stream.Stream]]", "slices.overlaps[paternoster/credit.line]"], unfollowed := true, recurses := true, apart := false }
def DuplexPeaceSaid : Prop := duplexPeaceRow.holds Tryz.pinned (OpenSpec.ofChange duplexPeaceSpec)

/-- ITS FALSE NEIGHBOUR: 'it returns false'. Refute it at one input. -/
def duplexPeaceWrong : ChangeSpec := { name := "duplexPeace", fn := fun _ => fun
  | [d1, d2, d3] => { results := [.lit (.bool false)], args := [d1, d2, d3] }
  | _ => none }
def DuplexPeaceWrongFalsely : Prop := duplexPeaceRow.holds Tryz.pinned (OpenSpec.ofChange duplexPeaceWrong)

/-- 'paternosterlaw33.SniffPeace': WHATEVER THE INPUT: true; the input reads as it did. -/
def sniffPeaceSpec : ChangeSpec := { name := "sniffPeace", fn := fun _ => fun
  | [d1, d2, d3] => { results := [.lit (.bool true)], args := [d1, d2, d3] }
  | _ => none }
def sniffPeaceRow : OpenClaim := { program := "ytepnmcipkangkaagreat", sum := "dc6136e6af38e02a284462c22d9e694c300896ef6231192d444509f7c88b6c30", func := "paternoster/paternosterlaw33.SniffPeace", spec := "sniffPeace", inPlace := ["slices.overlaps[paternoster/table.entry[*paternoster/stream.Stream]]", "slices.overlaps[paternoster/credit.line]"], unfollowed := true, recurses := true, apart := false }
def SniffPeaceSaid : Prop := sniffPeaceRow.holds Tryz.pinned (OpenSpec.ofChange sniffPeaceSpec)

/-- ITS FALSE NEIGHBOUR: 'it returns false'. Refute it at one input. -/
def sniffPeaceWrong : ChangeSpec := { name := "sniffPeace", fn := fun _ => fun
  | [d1, d2, d3] => { results := [.lit (.bool false)], args := [d1, d2, d3] }
  | _ => none }
def SniffPeaceWrongFalsely : Prop := sniffPeaceRow.holds Tryz.pinned (OpenSpec.ofChange sniffPeaceWrong)

/-- 'paternosterlaw30.JudgeNever': WHATEVER THE INPUT: true; the input reads as it did. -/
def judgeNeverSpec : ChangeSpec := { name := "judgeNever", fn := fun _ => fun
  | [d1, d2, d3] => { results := [.lit (.bool true)], args := [d1, d2, d3] }
  | _ => none }
def judgeNeverRow : OpenClaim := { program := "ytepnmcipkangkaagreat", sum := "dc6136e6af38e02a284462c22d9e694c300896ef6231192d444509f7c88b6c30", func := "paternoster/paternosterlaw30.JudgeNever", spec := "judgeNever", inPlace := ["slices.overlaps[paternoster/table.entry[*paternoster/stream.Stream]]", "slices.overlaps[paternoster/credit.line]"], unfollowed := true, recurses := true, apart := false }
def JudgeNeverSaid : Prop := judgeNeverRow.holds Tryz.pinned (OpenSpec.ofChange judgeNeverSpec)

/-- ITS FALSE NEIGHBOUR: 'it returns false'. Refute it at one input. -/
def judgeNeverWrong : ChangeSpec := { name := "judgeNever", fn := fun _ => fun
  | [d1, d2, d3] => { results := [.lit (.bool false)], args := [d1, d2, d3] }
  | _ => none }
def JudgeNeverWrongFalsely : Prop := judgeNeverRow.holds Tryz.pinned (OpenSpec.ofChange judgeNeverWrong)

/-- 'paternosterlaw30.JudgeCounts': WHATEVER THE INPUT: true; the input reads as it did. -/
def judgeCountsSpec : ChangeSpec := { name := "judgeCounts", fn := fun _ => fun
  | [d1, d2, d3] => { results := [.lit (.bool true)], args := [d1, d2, d3] }
  | _ => none }
def judgeCountsRow : OpenClaim := { program := "ytepnmcipkangkaagreat", sum := "dc6136e6af38e02a284462c22d9e694c300896ef6231192d444509f7c88b6c30", func := "paternoster/paternosterlaw30.JudgeCounts", spec := "judgeCounts", inPlace := ["slices.overlaps[paternoster/table.entry[*paternoster/stream.Stream]]", "slices.overlaps[paternoster/credit.line]"], unfollowed := true, recurses := true, apart := false }
def JudgeCountsSaid : Prop := judgeCountsRow.holds Tryz.pinned (OpenSpec.ofChange judgeCountsSpec)

/-- ITS FALSE NEIGHBOUR: 'it returns false'. Refute it at one input. -/
def judgeCountsWrong : ChangeSpec := { name := "judgeCounts", fn := fun _ => fun
  | [d1, d2, d3] => { results := [.lit (.bool false)], args := [d1, d2, d3] }
  | _ => none }
def JudgeCountsWrongFalsely : Prop := judgeCountsRow.holds Tryz.pinned (OpenSpec.ofChange judgeCountsWrong)

/-- 'paternosterlaw32.BoundDelivers': WHATEVER THE INPUT: true; the input reads as it did. -/
def boundDeliversSpec : ChangeSpec := { name := "boundDelivers", fn := fun _ => fun
  | [d1, d2, d3] => { results := [.lit (.bool true)], args := [d1, d2, d3] }
  | _ => none }
def boundDeliversRow : OpenClaim := { program := "ytepnmcipkangkaagreat", sum := "dc6136e6af38e02a284462c22d9e694c300896ef6231192d444509f7c88b6c30", func := "paternoster/paternosterlaw32.BoundDelivers", spec := "boundDelivers", inPlace := ["slices.overlaps[paternoster/table.entry[*paternoster/stream.Stream]]", "slices.overlaps[paternoster/credit.line]"], unfollowed := true, recurses := true, apart := false }
def BoundDeliversSaid : Prop := boundDeliversRow.holds Tryz.pinned (OpenSpec.ofChange boundDeliversSpec)

/-- ITS FALSE NEIGHBOUR: 'it returns false'. Refute it at one input. -/
def boundDeliversWrong : ChangeSpec := { name := "boundDelivers", fn := fun _ => fun
  | [d1, d2, d3] => { results := [.lit (.bool false)], args := [d1, d2, d3] }
  | _ => none }
def BoundDeliversWrongFalsely : Prop := boundDeliversRow.holds Tryz.pinned (OpenSpec.ofChange boundDeliversWrong)

/- THE SECOND FORM. 'bulk': how many values and letters a reading holds, each counted each time it is reached (what is shared counts as often as it is met; a slice's spare places count too). A statement '..UptoSaid' is the law's where the arguments, and the package variables that the reading takes, are together of bulk at most 1048576: NARROWER than '..Said'. Prove '..Said' where nothing that the law and all that it calls make is longer than what came in: it says more and counts as full. Else prove '..UptoSaid'. A law counts once. -/
mutual
def uptoBulk {H : Type} : DataW H → Nat
  | .lit (.string bytes) => bytes.length + 1
  | .lit _ => 1
  | .nil => 1
  | .ptr d => uptoBulk d + 1
  | .slice elems spare => uptoBulkAll elems + uptoBulkAll spare + 1
  | .agg parts => uptoBulkAll parts + 1
  | .iface _ d => uptoBulk d + 1
  | .map entries => uptoBulkEntries entries + 1
  | .held _ => 1
def uptoBulkAll {H : Type} : List (DataW H) → Nat
  | [] => 0
  | d :: r => uptoBulk d + uptoBulkAll r
def uptoBulkEntries {H : Type} : List (Lit × DataW H) → Nat
  | [] => 0
  | x :: r => uptoBulkEntry x + uptoBulkEntries r
def uptoBulkEntry {H : Type} : Lit × DataW H → Nat
  | (.string bytes, d) => bytes.length + uptoBulk d + 1
  | (_, d) => uptoBulk d + 1
 end
def uptoSmall : (H : Type) → List (DataW H) → Bool := fun _ ds => decide (uptoBulkAll ds ≤ 1048576)
def OpenSpec.upto (s : _root_.Go.ChangeSpec) : _root_.Go.OpenSpec := { _root_.Go.OpenSpec.ofChange s with cond := some uptoSmall }

/-- 'paternosterlaw26.ConnPeace', WHERE WHAT IT READS IS OF BULK AT MOST 1048576: true; the input reads as it did. -/
def connPeaceUptoRow : OpenClaim := { program := "ytepnmcipkangkaagreat", sum := "dc6136e6af38e02a284462c22d9e694c300896ef6231192d444509f7c88b6c30", func := "paternoster/paternosterlaw26.ConnPeace", spec := "connPeace", inPlace := ["slices.overlaps[paternoster/table.entry[*paternoster/stream.Stream]]", "slices.overlaps[paternoster/credit.line]"], unfollowed := true, recurses := true, apart := false, narrowed := true }
def ConnPeaceUptoSaid : Prop := connPeaceUptoRow.holds Tryz.pinned (OpenSpec.upto connPeaceSpec)

/-- 'paternosterlaw28.DuplexPeace', WHERE WHAT IT READS IS OF BULK AT MOST 1048576: true; the input reads as it did. -/
def duplexPeaceUptoRow : OpenClaim := { program := "ytepnmcipkangkaagreat", sum := "dc6136e6af38e02a284462c22d9e694c300896ef6231192d444509f7c88b6c30", func := "paternoster/paternosterlaw28.DuplexPeace", spec := "duplexPeace", inPlace := ["slices.overlaps[paternoster/table.entry[*paternoster/stream.Stream]]", "slices.overlaps[paternoster/credit.line]"], unfollowed := true, recurses := true, apart := false, narrowed := true }
def DuplexPeaceUptoSaid : Prop := duplexPeaceUptoRow.holds Tryz.pinned (OpenSpec.upto duplexPeaceSpec)

/-- 'paternosterlaw33.SniffPeace', WHERE WHAT IT READS IS OF BULK AT MOST 1048576: true; the input reads as it did. -/
def sniffPeaceUptoRow : OpenClaim := { program := "ytepnmcipkangkaagreat", sum := "dc6136e6af38e02a284462c22d9e694c300896ef6231192d444509f7c88b6c30", func := "paternoster/paternosterlaw33.SniffPeace", spec := "sniffPeace", inPlace := ["slices.overlaps[paternoster/table.entry[*paternoster/stream.Stream]]", "slices.overlaps[paternoster/credit.line]"], unfollowed := true, recurses := true, apart := false, narrowed := true }
def SniffPeaceUptoSaid : Prop := sniffPeaceUptoRow.holds Tryz.pinned (OpenSpec.upto sniffPeaceSpec)

/-- 'paternosterlaw30.JudgeNever', WHERE WHAT IT READS IS OF BULK AT MOST 1048576: true; the input reads as it did. -/
def judgeNeverUptoRow : OpenClaim := { program := "ytepnmcipkangkaagreat", sum := "dc6136e6af38e02a284462c22d9e694c300896ef6231192d444509f7c88b6c30", func := "paternoster/paternosterlaw30.JudgeNever", spec := "judgeNever", inPlace := ["slices.overlaps[paternoster/table.entry[*paternoster/stream.Stream]]", "slices.overlaps[paternoster/credit.line]"], unfollowed := true, recurses := true, apart := false, narrowed := true }
def JudgeNeverUptoSaid : Prop := judgeNeverUptoRow.holds Tryz.pinned (OpenSpec.upto judgeNeverSpec)

/-- 'paternosterlaw30.JudgeCounts', WHERE WHAT IT READS IS OF BULK AT MOST 1048576: true; the input reads as it did. -/
def judgeCountsUptoRow : OpenClaim := { program := "ytepnmcipkangkaagreat", sum := "dc6136e6af38e02a284462c22d9e694c300896ef6231192d444509f7c88b6c30", func := "paternoster/paternosterlaw30.JudgeCounts", spec := "judgeCounts", inPlace := ["slices.overlaps[paternoster/table.entry[*paternoster/stream.Stream]]", "slices.overlaps[paternoster/credit.line]"], unfollowed := true, recurses := true, apart := false, narrowed := true }
def JudgeCountsUptoSaid : Prop := judgeCountsUptoRow.holds Tryz.pinned (OpenSpec.upto judgeCountsSpec)

/-- 'paternosterlaw32.BoundDelivers', WHERE WHAT IT READS IS OF BULK AT MOST 1048576: true; the input reads as it did. -/
def boundDeliversUptoRow : OpenClaim := { program := "ytepnmcipkangkaagreat", sum := "dc6136e6af38e02a284462c22d9e694c300896ef6231192d444509f7c88b6c30", func := "paternoster/paternosterlaw32.BoundDelivers", spec := "boundDelivers", inPlace := ["slices.overlaps[paternoster/table.entry[*paternoster/stream.Stream]]", "slices.overlaps[paternoster/credit.line]"], unfollowed := true, recurses := true, apart := false, narrowed := true }
def BoundDeliversUptoSaid : Prop := boundDeliversUptoRow.holds Tryz.pinned (OpenSpec.upto boundDeliversSpec)

end Rows
end Go.Proofs.YtepnmcipkangkaaGreat
