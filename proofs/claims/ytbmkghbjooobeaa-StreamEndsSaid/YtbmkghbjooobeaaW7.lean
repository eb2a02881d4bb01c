/- Frames read out of the world (for a seat without the frames' functions): lemmas; each with the conditions that it states. -/
import Derived.Test.YtbmkghbjooobeaaW6

namespace Go.Proofs.Ytbmkghbjooobeaa
open Go Go.Proofs Go.Sl
set_option maxRecDepth 100000
set_option maxHeartbeats 4000000
set_option linter.unusedSimpArgs false
set_option linter.unusedVariables false
attribute [local irreducible] evG evC spl thenC inBlockC noGotoC CallT retC RetG TurnG CutG pt ro exP star sep pureP
variable {R C : List HP} {K : Value → List HP → Prop}
structure Pr where
  i : Int
  v : Int
/-- a frame: its settings are what its row holds -/
structure Fm where
  t : Int
  st : Int
  e : Bool
  d : ByteArray
  k : Int
  on : Int
  w : Int
  x : Bool
  c : Int
  la : Int
  n : Int
  pa : Option Addr
  pn : Nat
  pc : Nat
  ps : List Pr
variable {W : World}
end Go.Proofs.Ytbmkghbjooobeaa

