/- Tx: a call of both: lemmas; each with the conditions that it states. -/
import Derived.Test.YtbmkghbjooobeaaU2
import Derived.Test.YtbmkghbjooobeaaU0

namespace Go.Proofs.Ytbmkghbjooobeaa
open Go Go.Proofs Go.Sl
set_option maxRecDepth 100000
set_option maxHeartbeats 4000000
set_option linter.unusedSimpArgs false
set_option linter.unusedVariables false
attribute [local irreducible] evG evC spl thenC inBlockC noGotoC CallT retC RetG TurnG CutG pt ro exP star sep pureP
variable {R C : List HP} {K : Value → List HP → Prop}
section
variable {t x cap : Nat} {st : Int} {bs : List UInt8} {en ou : Bool} {ac se dr w : Int} {k n : Int} {s : ByteArray} {l : List ByteArray}
theorem txI_fact {f : FuncId} {args : Array Value} (h : TI cap st l w en ou ac se dr → CallT Try.prog f args (txI t cap st l w en ou ac se dr :: R) K) : CallT Try.prog f args (txI t cap st l w en ou ac se dr :: R) K :=
  txI_open fun q d hT => CallT.ent (txI_fold hT) (h hT)
end
end Go.Proofs.Ytbmkghbjooobeaa

