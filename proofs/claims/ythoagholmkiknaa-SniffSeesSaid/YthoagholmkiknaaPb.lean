/- Split: bytes in pieces: the law of what is kept: lemmas; each with the conditions that it states. -/
import Derived.Test.YthoagholmkiknaaFh
import Derived.Test.YthoagholmkiknaaP4

namespace Go.Proofs.Ythoagholmkiknaa
open Go Go.Proofs Go.Sl
set_option maxHeartbeats 1000000
attribute [local irreducible] pF parse
theorem st_go {p : ByteArray} (h1 : 9 ≤ p.size) (h2 : hgE (p.extract 0 9) = 0) (h3 : fitsR (sL p) (sT p) (sF p) (sS p) = 0) (h4 : 9 + sL p ≤ p.size) (h5 : gE (sL p) (sT p) (sF p) (sS p) (sQ p) = 0) : stS p = none := by
  unfold stS; rw [if_neg (by omega), if_pos h2, if_pos h3, if_neg (by omega), if_pos h5]
end Go.Proofs.Ythoagholmkiknaa

