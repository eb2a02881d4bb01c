/- Tx: what was taken of items is what was accepted, in order, but for what was dropped: lemmas; each with the conditions that it states. -/
import Derived.Test.YtbmkghbjooobeaaU10

namespace Go.Proofs.Ytbmkghbjooobeaa
open Go Go.Proofs Go.Sl
set_option maxRecDepth 100000
set_option maxHeartbeats 4000000
set_option linter.unusedSimpArgs false
set_option linter.unusedVariables false
attribute [local irreducible] evG evC spl thenC inBlockC noGotoC CallT retC RetG TurnG CutG pt ro exP star sep pureP
variable {R C : List HP} {K : Value → List HP → Prop}
section
variable {cap : Nat} {st : Int} {en ou : Bool} {ac se dr w : Int} {s : ByteArray} {l l' ot its : List ByteArray} {e : Int}
theorem offR_sub (h : OffR st l en s e l') (h0 : e = 0) (hs : (ot ++ l).Sublist its) : (ot ++ l').Sublist (its ++ [s]) := by
  rcases h with ⟨_, _, _, rfl | ⟨_, rfl⟩ | ⟨_, s0, l0, rfl, rfl⟩⟩ | ⟨hne, _⟩
  · rw [← List.append_assoc]; exact hs.append (List.Sublist.refl _)
  · exact hs.trans (List.sublist_append_left _ _)
  · rw [← List.append_assoc]
    refine (List.Sublist.trans ?_ hs).append (List.Sublist.refl _)
    exact (List.Sublist.refl ot).append (List.sublist_cons_self _ _)
  · exact absurd h0 hne
theorem sub_ne {x y : ByteArray} {xs ys : List ByteArray} (h : (y :: ys).Sublist (x :: xs)) (hn : x ≠ y) : (y :: ys).Sublist xs := by
  cases h with
  | cons _ h => exact h
  | cons_cons _ h => exact absurd rfl hn
end
section
variable {A : Option Addr} {n c : Nat} {ls : List TA} {kd st : Int}
end
end Go.Proofs.Ytbmkghbjooobeaa

