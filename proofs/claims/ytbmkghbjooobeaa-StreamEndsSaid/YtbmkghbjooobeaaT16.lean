/- What an owned row says of its length; facts out of a list of assertions: lemmas; each with the conditions that it states. -/
import Derived.Test.YtbmkghbjooobeaaT15
namespace Go.Sl
section
variable {α : Type} {E : Cod α} {A : Option Addr} {c : Nat} {e : TypeId} {l : List α} {C R : List HP}
theorem row_fact {H : Hp} (hs : Sats (row A c e E l :: R) H) : l.length ≤ c := by
  rcases sats_row hs with ⟨_, g2, _⟩ | ⟨_, _, _, _, _, g, _⟩
  · subst g2; simp
  · exact g
theorem freeze_fact : Ent (row A c e E l :: R) (rrow A E l :: pureP (l.length ≤ c) :: R) := fun H hs =>
  row_freeze Pick.here (Ent.cons (Ent.pure (row_fact hs) (Ent.refl _))) H hs
theorem evC_pureP {P : Program} {x : Code} {Q : Exit → Fr → List HP → Prop} {a : Fr} {p : Prop} (h : p → evC P x Q a C) : evC P x Q a (pureP p :: C) := fun H hs => h hs.pure.1 H hs.pure.2
theorem call_rowfact {P : Program} {f : FuncId} {args : Array Value} {K : Value → List HP → Prop} (hp : Pick (row A c e E l) C R) (h : l.length ≤ c → CallT P f args C K) : CallT P f args C K := fun H hs => h (row_fact (hp.sats hs)) H hs
theorem evC_rowfact {P : Program} {x : Code} {Q : Exit → Fr → List HP → Prop} {a : Fr} (hp : Pick (row A c e E l) C R) (h : l.length ≤ c → evC P x Q a C) : evC P x Q a C := fun H hs => h (row_fact (hp.sats hs)) H hs
theorem evC_unsep {P : Program} {x : Code} {Q : Exit → Fr → List HP → Prop} {a : Fr} {B D : HP} (h : evC P x Q a (B :: D :: C)) : evC P x Q a (sep B D :: C) := fun H hs => h H (Ent.unsep H hs)
end
end Go.Sl
