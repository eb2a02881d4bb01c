/- A truth as a number: lemmas; each with the conditions that it states. -/
import Derived.Test.YthoagholmkiknaaHa

namespace Go.Proofs.Ythoagholmkiknaa
open Go Go.Proofs Go.Sl
def bitI (e : Bool) : Int := match e with
  | true => 1
  | false => 0
theorem bitI_rng (e : Bool) : 0 ≤ bitI e ∧ bitI e ≤ 1 := by cases e <;> decide
theorem pow256_2 : (256 : Int) ^ (2 : Nat) = 65536 := by decide
end Go.Proofs.Ythoagholmkiknaa

