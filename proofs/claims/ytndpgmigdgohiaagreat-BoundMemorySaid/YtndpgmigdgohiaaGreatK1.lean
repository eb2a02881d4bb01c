/- Frame: its small functions: lemmas; each with the conditions that it states. -/
import Derived.Test.YtndpgmigdgohiaaGreatFh
import Derived.Test.YtndpgmigdgohiaaGreatH3
import Derived.Test.YtndpgmigdgohiaaGreatAa
import Derived.Test.YtndpgmigdgohiaaGreatFe

namespace Go.Proofs.YtndpgmigdgohiaaGreat
open Go Go.Proofs Go.Sl
set_option maxRecDepth 100000
set_option maxHeartbeats 4000000
set_option linter.unusedSimpArgs false
set_option linter.unusedVariables false
attribute [local irreducible] evG evC spl thenC inBlockC noGotoC CallT retC RetG TurnG CutG pt ro exP star sep pureP
variable {R C : List HP} {K : Value → List HP → Prop}
structure Pr where
  i : Int
  v : Int
def prD : List Value → Option Pr
  | [.int .i64 i, .int .i64 v] => some ⟨i, v⟩
  | _ => none
theorem prD_ok (cs : List Value) (y : Pr) (h : prD cs = some y) : [.int .i64 y.i, .int .i64 y.v] = cs := by
  unfold prD at h
  split at h
  · cases h; rfl
  · cases h
def prC : Cod Pr := { enc := fun p => [.int .i64 p.i, .int .i64 p.v], sz := 2, dec := prD, len := fun _ => rfl, one := fun _ => rfl, ok := prD_ok }
/-- a frame: its settings are what its row holds -/
structure Fm where
  t : Int
  st : Int
  e : Bool
  d : ByteArray
  k : Int
  on : Int
  w : Int
  x : Bool
  c : Int
  la : Int
  n : Int
  pa : Option Addr
  pn : Nat
  pc : Nat
  ps : List Pr
def n31 (n : Int) : Bool := decide (0 ≤ n) && decide (n ≤ 2147483647)
def depB (on w : Int) : Bool := n31 on && (decide (1 ≤ w) && decide (w ≤ 256))
/-- the same settings -/
def peq : List Pr → List Pr → Bool
  | [], [] => true
  | a :: l, b :: m => (a.i == b.i && a.v == b.v) && peq l m
  | _, _ => false
end Go.Proofs.YtndpgmigdgohiaaGreat

