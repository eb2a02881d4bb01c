/- Header: Put, Get, and the document's: lemmas; each with the conditions that it states. -/
import Derived.Test.YtndpgmigdgohiaaGreatFh
import Derived.Test.YtndpgmigdgohiaaGreatH1
import Derived.Test.YtndpgmigdgohiaaGreatA7

namespace Go.Proofs.YtndpgmigdgohiaaGreat
open Go Go.Proofs Go.Sl
set_option maxRecDepth 100000
set_option maxHeartbeats 4000000
set_option linter.unusedSimpArgs false
set_option linter.unusedVariables false
attribute [local irreducible] evG evC spl thenC inBlockC noGotoC CallT retC RetG TurnG CutG pt ro exP star sep pureP
variable {R C : List HP} {K : Value → List HP → Prop}
def longR (k : Int) : Int := if k = 2 ∨ k = 3 ∨ k = 7 ∨ k = 8 ∨ k = 9 then 8 else if k = 4 ∨ k = 10 ∨ k = 11 then 4 else if k = 6 then 0 else -1
theorem rules_facts (k : Int) (h0 : 0 ≤ k) (h1 : k ≤ 11) : (ruleOf k).1 = (decide (5 ≤ k) && decide (k ≤ 10)) ∧ (ruleOf k).2.1 = (decide (k ≤ 4) || decide (10 ≤ k)) ∧ (ruleOf k).2.2.1 = longR k ∧ ruleE k = 0 ∧ (ruleOf k).2.2.2 = (if k ≤ 1 then 1 else 0) := by
  rcases (by omega : k = 0 ∨ k = 1 ∨ k = 2 ∨ k = 3 ∨ k = 4 ∨ k = 5 ∨ k = 6 ∨ k = 7 ∨ k = 8 ∨ k = 9 ∨ k = 10 ∨ k = 11) with h | h | h | h | h | h | h | h | h | h | h | h <;> subst h <;> decide
end Go.Proofs.YtndpgmigdgohiaaGreat

