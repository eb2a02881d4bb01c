/- Rx: every call of a receiver is answered as the document says: lemmas; each with the conditions that it states. -/
import Derived.Test.YtndpgmigdgohiaaGreatFh
import Derived.Test.YtndpgmigdgohiaaGreatV1
import Derived.Test.YtndpgmigdgohiaaGreatFg
import Derived.Test.YtndpgmigdgohiaaGreatB0

namespace Go.Proofs.YtndpgmigdgohiaaGreat
open Go Go.Proofs Go.Sl
set_option maxRecDepth 100000
set_option maxHeartbeats 4000000
set_option linter.unusedSimpArgs false
set_option linter.unusedVariables false
attribute [local irreducible] evG evC spl thenC inBlockC noGotoC CallT retC RetG TurnG CutG pt ro exP star sep pureP
variable {R C : List HP} {K : Value → List HP → Prop}
structure RA where
  k : Int
  m : Int
  s : ByteArray
  w : Int
  st : Int
  it : Int
section
variable {r x p n c : Nat} {A : Option Addr} {cap most gr got us mr room ask open_ a1 t1 d1 k m w st it v : Int} {bs : List UInt8} {l : List ByteArray} {en : Bool} {s : ByteArray}
end
section
variable {A : Option Addr} {n c : Nat} {ls : List RA} {kd w st it : Int}
end
end Go.Proofs.YtndpgmigdgohiaaGreat

