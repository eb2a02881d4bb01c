/-
  No cell of these rows narrows 'for every input' (looked for: loops, veiled, ifaces, maps, wideKeys, modest, calm, conditions, laid).
  DERIVED. THE GIVEN ROWS OF THIS SEAT. 4 by the template 'for every input the law returns true; each argument reads behind the call as it read before'; 0 by the template 'total and deterministic' (their statements: YtndpgmigdgohiaaGreatTotals.lean).
  GIVEN WITH THE SEED: the statements are not yours to turn. If you find one false, say at which input.
  Laid BY PROGRAM, IN A SANDBOX (cutbox-rows.mjs): the forced cells as the released guide's own fill.sh prints them over the translation 6471f30f03e180d0… (all of the seat's roots in one cut). By AI agents, Wed Nov 11 2026. No macro, syntax, notation, axiom, sorry.
-/
import Derived.Test.YtndpgmigdgohiaaGreatChecked
import GoSem.Claim
import GoSem.ClaimJoined
import GoSem.ClaimMapViews
import Derived.JoinedTies
import Derived.KernelRfl
namespace Go.Proofs.YtndpgmigdgohiaaGreat
/- THE CELL 'sum', in the pinned program and in every row, IS THE sha256 OF THE DUMP (.gsa) THAT YtndpgmigdgohiaaGreatProg.lean LOADS. Nothing in Lean hashes anything: it is a label: what it is worth is what the hold of that sum in a sandbox is worth. -/
noncomputable def Tryz.pinned : Pinned := { name := "ytndpgmigdgohiaagreat", sum := "6471f30f03e180d0beb1160dca914b415792fca3167cf23ecdb09e377ff7d203", checked := Tryz.checked }
namespace Rows
def none {H : Type} : Left H := { results := [], args := [] }

/-- 'paternosterlaw26.ConnMakes': WHATEVER THE INPUT: true; the input reads as it did. -/
def connMakesSpec : ChangeSpec := { name := "connMakes", fn := fun _ => fun
  | [d1, d2, d3] => { results := [.lit (.bool true)], args := [d1, d2, d3] }
  | _ => none }
def connMakesRow : OpenClaim := { program := "ytndpgmigdgohiaagreat", sum := "6471f30f03e180d0beb1160dca914b415792fca3167cf23ecdb09e377ff7d203", func := "paternoster/paternosterlaw26.ConnMakes", spec := "connMakes", inPlace := ["slices.overlaps[paternoster/table.entry[*paternoster/stream.Stream]]", "slices.overlaps[paternoster/credit.line]"], unfollowed := true, recurses := true, apart := false }
def ConnMakesSaid : Prop := connMakesRow.holds Tryz.pinned (OpenSpec.ofChange connMakesSpec)

/-- ITS FALSE NEIGHBOUR: 'it returns false'. Refute it at one input. -/
def connMakesWrong : ChangeSpec := { name := "connMakes", fn := fun _ => fun
  | [d1, d2, d3] => { results := [.lit (.bool false)], args := [d1, d2, d3] }
  | _ => none }
def ConnMakesWrongFalsely : Prop := connMakesRow.holds Tryz.pinned (OpenSpec.ofChange connMakesWrong)

/-- 'paternosterlaw28.DuplexNone': WHATEVER THE INPUT: true; the input reads as it did. -/
def duplexNoneSpec : ChangeSpec := { name := "duplexNone", fn := fun _ => fun
  | [d1, d2] => { results := [.lit (.bool true)], args := [d1, d2] }
  | _ => none }
def duplexNoneRow : OpenClaim := { program := "ytndpgmigdgohiaagreat", sum := "6471f30f03e180d0beb1160dca914b415792fca3167cf23ecdb09e377ff7d203", func := "paternoster/paternosterlaw28.DuplexNone", spec := "duplexNone", inPlace := ["slices.overlaps[paternoster/table.entry[*paternoster/stream.Stream]]", "slices.overlaps[paternoster/credit.line]"], unfollowed := true, recurses := true, apart := false }
def DuplexNoneSaid : Prop := duplexNoneRow.holds Tryz.pinned (OpenSpec.ofChange duplexNoneSpec)

/-- ITS FALSE NEIGHBOUR: 'it returns false'. Refute it at one input. -/
def duplexNoneWrong : ChangeSpec := { name := "duplexNone", fn := fun _ => fun
  | [d1, d2] => { results := [.lit (.bool false)], args := [d1, d2] }
  | _ => none }
def DuplexNoneWrongFalsely : Prop := duplexNoneRow.holds Tryz.pinned (OpenSpec.ofChange duplexNoneWrong)

/-- 'paternosterlaw32.BoundMemory': WHATEVER THE INPUT: true; the input reads as it did. -/
def boundMemorySpec : ChangeSpec := { name := "boundMemory", fn := fun _ => fun
  | [d1, d2] => { results := [.lit (.bool true)], args := [d1, d2] }
  | _ => none }
def boundMemoryRow : OpenClaim := { program := "ytndpgmigdgohiaagreat", sum := "6471f30f03e180d0beb1160dca914b415792fca3167cf23ecdb09e377ff7d203", func := "paternoster/paternosterlaw32.BoundMemory", spec := "boundMemory", inPlace := ["slices.overlaps[paternoster/table.entry[*paternoster/stream.Stream]]", "slices.overlaps[paternoster/credit.line]"], unfollowed := true, recurses := true, apart := false }
def BoundMemorySaid : Prop := boundMemoryRow.holds Tryz.pinned (OpenSpec.ofChange boundMemorySpec)

/-- ITS FALSE NEIGHBOUR: 'it returns false'. Refute it at one input. -/
def boundMemoryWrong : ChangeSpec := { name := "boundMemory", fn := fun _ => fun
  | [d1, d2] => { results := [.lit (.bool false)], args := [d1, d2] }
  | _ => none }
def BoundMemoryWrongFalsely : Prop := boundMemoryRow.holds Tryz.pinned (OpenSpec.ofChange boundMemoryWrong)

/-- 'paternosterlaw30.JudgeNone': WHATEVER THE INPUT: true; the input reads as it did. -/
def judgeNoneSpec : ChangeSpec := { name := "judgeNone", fn := fun _ => fun
  | [d1, d2] => { results := [.lit (.bool true)], args := [d1, d2] }
  | _ => none }
def judgeNoneRow : OpenClaim := { program := "ytndpgmigdgohiaagreat", sum := "6471f30f03e180d0beb1160dca914b415792fca3167cf23ecdb09e377ff7d203", func := "paternoster/paternosterlaw30.JudgeNone", spec := "judgeNone", inPlace := ["slices.overlaps[paternoster/table.entry[*paternoster/stream.Stream]]", "slices.overlaps[paternoster/credit.line]"], unfollowed := true, recurses := true, apart := false }
def JudgeNoneSaid : Prop := judgeNoneRow.holds Tryz.pinned (OpenSpec.ofChange judgeNoneSpec)

/-- ITS FALSE NEIGHBOUR: 'it returns false'. Refute it at one input. -/
def judgeNoneWrong : ChangeSpec := { name := "judgeNone", fn := fun _ => fun
  | [d1, d2] => { results := [.lit (.bool false)], args := [d1, d2] }
  | _ => none }
def JudgeNoneWrongFalsely : Prop := judgeNoneRow.holds Tryz.pinned (OpenSpec.ofChange judgeNoneWrong)

/- THE SECOND FORM. 'bulk': how many values and letters a reading holds, each counted each time it is reached (what is shared counts as often as it is met; a slice's spare places count too). A statement '..UptoSaid' is the law's where the arguments, and the package variables that the reading takes, are together of bulk at most 1048576: NARROWER than '..Said'. Prove '..Said' where nothing that the law and all that it calls make is longer than what came in: it says more and counts as full. Else prove '..UptoSaid'. A law counts once. -/
mutual
def uptoBulk {H : Type} : DataW H → Nat
  | .lit (.string bytes) => bytes.length + 1
  | .lit _ => 1
  | .nil => 1
  | .ptr d => uptoBulk d + 1
  | .slice elems spare => uptoBulkAll elems + uptoBulkAll spare + 1
  | .agg parts => uptoBulkAll parts + 1
  | .iface _ d => uptoBulk d + 1
  | .map entries => uptoBulkEntries entries + 1
  | .held _ => 1
def uptoBulkAll {H : Type} : List (DataW H) → Nat
  | [] => 0
  | d :: r => uptoBulk d + uptoBulkAll r
def uptoBulkEntries {H : Type} : List (Lit × DataW H) → Nat
  | [] => 0
  | x :: r => uptoBulkEntry x + uptoBulkEntries r
def uptoBulkEntry {H : Type} : Lit × DataW H → Nat
  | (.string bytes, d) => bytes.length + uptoBulk d + 1
  | (_, d) => uptoBulk d + 1
 end
def uptoSmall : (H : Type) → List (DataW H) → Bool := fun _ ds => decide (uptoBulkAll ds ≤ 1048576)
def OpenSpec.upto (s : _root_.Go.ChangeSpec) : _root_.Go.OpenSpec := { _root_.Go.OpenSpec.ofChange s with cond := some uptoSmall }

/-- 'paternosterlaw26.ConnMakes', WHERE WHAT IT READS IS OF BULK AT MOST 1048576: true; the input reads as it did. -/
def connMakesUptoRow : OpenClaim := { program := "ytndpgmigdgohiaagreat", sum := "6471f30f03e180d0beb1160dca914b415792fca3167cf23ecdb09e377ff7d203", func := "paternoster/paternosterlaw26.ConnMakes", spec := "connMakes", inPlace := ["slices.overlaps[paternoster/table.entry[*paternoster/stream.Stream]]", "slices.overlaps[paternoster/credit.line]"], unfollowed := true, recurses := true, apart := false, narrowed := true }
def ConnMakesUptoSaid : Prop := connMakesUptoRow.holds Tryz.pinned (OpenSpec.upto connMakesSpec)

/-- 'paternosterlaw28.DuplexNone', WHERE WHAT IT READS IS OF BULK AT MOST 1048576: true; the input reads as it did. -/
def duplexNoneUptoRow : OpenClaim := { program := "ytndpgmigdgohiaagreat", sum := "6471f30f03e180d0beb1160dca914b415792fca3167cf23ecdb09e377ff7d203", func := "paternoster/paternosterlaw28.DuplexNone", spec := "duplexNone", inPlace := ["slices.overlaps[paternoster/table.entry[*paternoster/stream.Stream]]", "slices.overlaps[paternoster/credit.line]"], unfollowed := true, recurses := true, apart := false, narrowed := true }
def DuplexNoneUptoSaid : Prop := duplexNoneUptoRow.holds Tryz.pinned (OpenSpec.upto duplexNoneSpec)

/-- 'paternosterlaw32.BoundMemory', WHERE WHAT IT READS IS OF BULK AT MOST 1048576: true; the input reads as it did. -/
def boundMemoryUptoRow : OpenClaim := { program := "ytndpgmigdgohiaagreat", sum := "6471f30f03e180d0beb1160dca914b415792fca3167cf23ecdb09e377ff7d203", func := "paternoster/paternosterlaw32.BoundMemory", spec := "boundMemory", inPlace := ["slices.overlaps[paternoster/table.entry[*paternoster/stream.Stream]]", "slices.overlaps[paternoster/credit.line]"], unfollowed := true, recurses := true, apart := false, narrowed := true }
def BoundMemoryUptoSaid : Prop := boundMemoryUptoRow.holds Tryz.pinned (OpenSpec.upto boundMemorySpec)

/-- 'paternosterlaw30.JudgeNone', WHERE WHAT IT READS IS OF BULK AT MOST 1048576: true; the input reads as it did. -/
def judgeNoneUptoRow : OpenClaim := { program := "ytndpgmigdgohiaagreat", sum := "6471f30f03e180d0beb1160dca914b415792fca3167cf23ecdb09e377ff7d203", func := "paternoster/paternosterlaw30.JudgeNone", spec := "judgeNone", inPlace := ["slices.overlaps[paternoster/table.entry[*paternoster/stream.Stream]]", "slices.overlaps[paternoster/credit.line]"], unfollowed := true, recurses := true, apart := false, narrowed := true }
def JudgeNoneUptoSaid : Prop := judgeNoneUptoRow.holds Tryz.pinned (OpenSpec.upto judgeNoneSpec)

end Rows
end Go.Proofs.YtndpgmigdgohiaaGreat
