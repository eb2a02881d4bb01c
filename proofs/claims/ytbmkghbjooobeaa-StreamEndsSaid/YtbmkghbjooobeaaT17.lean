/- What a call leaves may be weakened: lemmas; each with the conditions that it states. -/
import Derived.Test.YtbmkghbjooobeaaT16
namespace Go.Sl
theorem CallT.entK {P : Program} {f : FuncId} {args : Array Value} {C : List HP} {K : Value → List HP → Prop} (h : CallT P f args C fun v C => ∃ C', Ent C C' ∧ K v C') : CallT P f args C K := fun H hs =>
  (h H hs).mono fun _ H' ⟨_, h1, C', h2, h3⟩ => ⟨C', h2 H' h1, h3⟩
theorem pers_allP {α : Type} {P : α → HP} {l l' : List α} {C : List HP} (p : ∀ x, Pers (P x)) (m : ∀ x, MonoP (P x)) : Ent (allP P l :: allP P l' :: C) (allP P (l ++ l') :: C) := fun H hs => by
  have h := sats_and (pers_all p m l) (pers_all p m l') (mono_all m l) (mono_all m l') hs
  refine Ent.imp (fun H ⟨h1, h2⟩ y hy => ?_) (Ent.refl C) H h
  rcases List.mem_append.1 hy with hy | hy
  · exact h1 y hy
  · exact h2 y hy
end Go.Sl
