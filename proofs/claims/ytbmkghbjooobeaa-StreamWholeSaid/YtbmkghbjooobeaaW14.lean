/- Stream: what comes is told, of bytes: lemmas; each with the conditions that it states. -/
import Derived.Test.YtbmkghbjooobeaaW13
import Derived.Test.YtbmkghbjooobeaaW7

namespace Go.Proofs.Ytbmkghbjooobeaa
open Go Go.Proofs Go.Sl
set_option maxRecDepth 100000
set_option maxHeartbeats 4000000
set_option linter.unusedSimpArgs false
set_option linter.unusedVariables false
attribute [local irreducible] evG evC spl thenC inBlockC noGotoC CallT retC RetG TurnG CutG pt ro exP star sep pureP
variable {R C : List HP} {K : Value → List HP → Prop}
variable {A : Option Addr} {n c : Nat} {ls : List Fm} {kd w st it sb si sg ev wa stl : Int}
theorem chkS_conf {w it : Int} (h1 : 0 ≤ w ∧ w < 100) (h2 : 0 ≤ it ∧ it < 20) : chkS w 8 it = true := by
  unfold chkS; rw [decide_eq_true_eq]; omega
end Go.Proofs.Ytbmkghbjooobeaa

