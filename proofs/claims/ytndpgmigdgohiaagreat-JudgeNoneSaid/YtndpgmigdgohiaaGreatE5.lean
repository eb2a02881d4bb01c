/- What must come at any rate (layer 30): lemmas; each with the conditions that it states. -/
import Derived.Test.YtndpgmigdgohiaaGreatE2

namespace Go.Proofs.YtndpgmigdgohiaaGreat
open Go Go.Proofs Go.Sl
set_option maxRecDepth 1000000
theorem awake30_yes : Ex.yes Tryz.prog od 40 44 = true := by decide +kernel
theorem awake30_ok {R : List HP} {K : Value → List HP → Prop} (hK : K (.bool true) R) : CallT Tryz.prog 44 #[] R K := Ex.yes_ok mixed od_ok fn_ok awake30_yes hK
end Go.Proofs.YtndpgmigdgohiaaGreat

