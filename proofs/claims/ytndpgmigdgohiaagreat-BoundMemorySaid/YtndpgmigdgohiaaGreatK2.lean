/- Frame: what a type has, and whether it may be: lemmas; each with the conditions that it states. -/
import Derived.Test.YtndpgmigdgohiaaGreatFh
import Derived.Test.YtndpgmigdgohiaaGreatK1

namespace Go.Proofs.YtndpgmigdgohiaaGreat
open Go Go.Proofs Go.Sl
set_option maxRecDepth 100000
set_option maxHeartbeats 4000000
set_option linter.unusedSimpArgs false
set_option linter.unusedVariables false
attribute [local irreducible] evG evC spl thenC inBlockC noGotoC CallT retC RetG TurnG CutG pt ro exP star sep pureP
variable {R C : List HP} {K : Value → List HP → Prop}
def oE (t : Int) (e : Bool) : Bool := if t = 0 ∨ t = 1 then e else false
def oD (t : Int) (d : ByteArray) : ByteArray := if t = 0 ∨ t = 1 ∨ t = 7 ∨ t = 8 then d else ⟨#[]⟩
def oK (t k : Int) : Int := if t = 2 then k else 0
def oO (t on : Int) : Int := if t = 2 ∨ t = 3 then on else 0
def oX (t : Int) (x : Bool) : Bool := if t = 2 ∨ t = 3 then x else false
def oC (t c : Int) : Int := if t = 4 ∨ t = 9 then c else 0
def oL (t l : Int) : Int := if t = 9 then l else 0
def oN (t n : Int) : Int := if t = 10 ∨ t = 11 then n else 0
def oPs (t : Int) (l : List Pr) : List Pr := if t = 5 then l else []
def psB (l : List Pr) : Bool := l.all fun p => decide (0 ≤ p.i) && decide (p.i ≤ 65535) && n31 p.v
def fieldsB (t : Int) (d : ByteArray) (k on w c la n : Int) (ps : List Pr) : Bool := if t = 0 ∨ t = 1 then decide (d.size ≤ 256) else if t = 2 then (decide (k = 1) || decide (k = 2)) && depB on w else if t = 3 then depB on w else if t = 7 ∨ t = 8 then decide (d.size = 8) else if t = 5 then psB ps && decide (ps.length ≤ 8) else n31 c && n31 la && n31 n
end Go.Proofs.YtndpgmigdgohiaaGreat

