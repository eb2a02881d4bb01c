/- Frame: Same and Check: lemmas; each with the conditions that it states. -/
import Derived.Test.YtndpgmigdgohiaaGreatFh
import Derived.Test.YtndpgmigdgohiaaGreatK2

namespace Go.Proofs.YtndpgmigdgohiaaGreat
open Go Go.Proofs Go.Sl
set_option maxRecDepth 100000
set_option maxHeartbeats 4000000
set_option linter.unusedSimpArgs false
set_option linter.unusedVariables false
attribute [local irreducible] evG evC spl thenC inBlockC noGotoC CallT retC RetG TurnG CutG pt ro exP star sep pureP
variable {R C : List HP} {K : Value → List HP → Prop}
def SameP (t st : Int) (e : Bool) (d : ByteArray) (k on w : Int) (x : Bool) (c la n t1 st1 : Int) (e1 : Bool) (d1 : ByteArray) (k1 on1 w1 : Int) (x1 : Bool) (c1 la1 n1 : Int) : Prop := t = t1 ∧ st = st1 ∧ e = e1 ∧ d = d1 ∧ k = k1 ∧ on = on1 ∧ w = w1 ∧ x = x1 ∧ c = c1 ∧ la = la1 ∧ n = n1
instance (t st : Int) (e : Bool) (d : ByteArray) (k on w : Int) (x : Bool) (c la n t1 st1 : Int) (e1 : Bool) (d1 : ByteArray) (k1 on1 w1 : Int) (x1 : Bool) (c1 la1 n1 : Int) : Decidable (SameP t st e d k on w x c la n t1 st1 e1 d1 k1 on1 w1 x1 c1 la1 n1) := by unfold SameP; infer_instance
def streamB (t st : Int) : Bool := n31 st && ((decide (st = 0) && (decide (5 ≤ t) && decide (t ≤ 10))) || (decide (0 < st) && (decide (t ≤ 4) || decide (10 ≤ t))))
def chkB (t st : Int) (e : Bool) (d : ByteArray) (k on w : Int) (x : Bool) (c la n : Int) (ps : List Pr) : Bool := decide (0 ≤ t) && decide (t ≤ 11) && streamB t st && (decide (SameP t st e d k on w x c la n t st (oE t e) (oD t d) (oK t k) (oO t on) (oO t w) (oX t x) (oC t c) (oL t la) (oN t n)) && peq ps (oPs t ps)) && fieldsB t d k on w c la n ps
end Go.Proofs.YtndpgmigdgohiaaGreat

