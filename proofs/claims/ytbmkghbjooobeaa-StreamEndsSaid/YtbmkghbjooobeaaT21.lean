/- Facts out of a list of assertions: lemmas; each with the conditions that it states. -/
import Derived.Test.YtbmkghbjooobeaaT20
namespace Go.Sl
theorem evC_fact {P : Program} {x : Code} {Q : Exit → Fr → List HP → Prop} {a : Fr} {C : List HP} {p : Prop} (hp : ∀ H, Sats C H → p) (h : p → evC P x Q a C) : evC P x Q a C := fun H hs => h (hp H hs) H hs
theorem evC_swap {P : Program} {x : Code} {Q : Exit → Fr → List HP → Prop} {a : Fr} {A B : HP} {C : List HP} (h : evC P x Q a (B :: A :: C)) : evC P x Q a (A :: B :: C) := fun H hs => h H hs.swap
end Go.Sl
