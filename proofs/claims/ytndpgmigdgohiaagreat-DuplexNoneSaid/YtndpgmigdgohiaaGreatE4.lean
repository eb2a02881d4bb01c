/- What must come at any rate (layer 28): lemmas; each with the conditions that it states. -/
import Derived.Test.YtndpgmigdgohiaaGreatE2

namespace Go.Proofs.YtndpgmigdgohiaaGreat
open Go Go.Proofs Go.Sl
set_option maxRecDepth 1000000
theorem awake28_yes : Ex.yes Tryz.prog od 40 33 = true := by decide +kernel
theorem awake28_ok {R : List HP} {K : Value → List HP → Prop} (hK : K (.bool true) R) : CallT Tryz.prog 33 #[] R K := Ex.yes_ok mixed od_ok fn_ok awake28_yes hK
end Go.Proofs.YtndpgmigdgohiaaGreat

