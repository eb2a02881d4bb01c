/- Octet: the scan. Octet: reading numbers: lemmas; each with the conditions that it states. -/
import Derived.Test.YtndpgmigdgohiaaGreatFh
import Derived.Test.YtndpgmigdgohiaaGreatB0
import Derived.Test.YtndpgmigdgohiaaGreatFe

namespace Go.Proofs.YtndpgmigdgohiaaGreat
open Go Go.Proofs Go.Sl
set_option maxRecDepth 100000
set_option maxHeartbeats 4000000
set_option linter.unusedSimpArgs false
set_option linter.unusedVariables false
attribute [local irreducible] evG evC spl thenC inBlockC noGotoC CallT retC RetG TurnG CutG pt ro exP star sep pureP
variable {R : List HP} {K : Value → List HP → Prop}
def scanP (p : Nat) (s : ByteArray) (bad : Bool) : HP := pt p [.string s, .bool bad] 440
end Go.Proofs.YtndpgmigdgohiaaGreat


namespace Go.Proofs.YtndpgmigdgohiaaGreat
open Go Go.Proofs Go.Sl
set_option maxRecDepth 100000
set_option maxHeartbeats 4000000
set_option linter.unusedSimpArgs false
set_option linter.unusedVariables false
attribute [local irreducible] evG evC spl thenC inBlockC noGotoC CallT retC RetG TurnG CutG pt ro exP star sep pureP
variable {R : List HP} {K : Value → List HP → Prop}
/-- the number of bytes -/
def numB (l : List UInt8) : Int := l.foldl (fun u b => u * 256 + b.toNat) 0
end Go.Proofs.YtndpgmigdgohiaaGreat

