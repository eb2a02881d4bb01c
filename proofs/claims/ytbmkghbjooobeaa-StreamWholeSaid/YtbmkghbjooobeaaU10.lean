/- Tx: an offer of an item; no more than is wanted: lemmas; each with the conditions that it states. -/
import Derived.Test.YtbmkghbjooobeaaU7
import Derived.Test.YtbmkghbjooobeaaU8a
import Derived.Test.YtbmkghbjooobeaaFg

namespace Go.Proofs.Ytbmkghbjooobeaa
open Go Go.Proofs Go.Sl
set_option maxRecDepth 100000
set_option maxHeartbeats 4000000
set_option linter.unusedSimpArgs false
set_option linter.unusedVariables false
attribute [local irreducible] evG evC spl thenC inBlockC noGotoC CallT retC RetG TurnG CutG pt ro exP star sep pureP
variable {R C : List HP} {K : Value → List HP → Prop}
/-- what an offer of an item may answer, and what waits then -/
def OffR (st : Int) (l : List ByteArray) (en : Bool) (s : ByteArray) (e : Int) (l' : List ByteArray) : Prop :=
  (e = 0 ∧ en = false ∧ s.size ≤ 256 ∧ (l' = l ++ [s] ∨ (st ≠ 0 ∧ l' = l) ∨ (st ≠ 0 ∧ ∃ s0 l0, l = s0 :: l0 ∧ l' = l0 ++ [s]))) ∨ (e ≠ 0 ∧ l' = l)
section
variable {t x cap : Nat} {st : Int} {en ou : Bool} {ac se dr w : Int} {k n : Int} {s : ByteArray} {l : List ByteArray}
theorem txIoff_ok (hb : ac ≤ 800000000) (hK : ∀ v e l' ac' dr', OffR st l en s e l' → ac' ≤ ac + 1 → TI cap st l' w en ou ac' se dr' → K (.tuple #[.int .i64 v, .int .i64 e]) (txI t cap st l' w en ou ac' se dr' :: R)) : CallT Try.prog 22 #[.pointer (some ⟨t, 0, none⟩), .string s] (txI t cap st l w en ou ac se dr :: R) K := by
  refine txI_fact fun hT => ?_
  have hT' := hT
  obtain ⟨h1, h2, h3, h4, h5, h6, h7, h8, h9⟩ := hT'
  cases en with
  | true => exact txIoffE_ok rfl (hK _ _ _ _ _ (.inr ⟨by decide, rfl⟩) (by omega) hT)
  | false =>
    by_cases hz : 256 < s.size
    · exact txIoffG_ok rfl hz (hK _ _ _ _ _ (.inr ⟨by decide, rfl⟩) (by omega) hT)
    by_cases c1 : l.length < cap
    · exact txIoffK_ok rfl (by omega) c1 hb (hK _ _ _ _ _ (.inl ⟨rfl, rfl, by omega, .inl rfl⟩) (by omega) ⟨by simp; omega, h2, h3, by omega, by simp; omega, h6, h7, h8, fun h => by simpa using (h9 h).1⟩)
    by_cases c2 : st = 0
    · exact txIoffR_ok rfl (by omega) (by omega) c2 (hK _ _ _ _ _ (.inr ⟨by decide, rfl⟩) (by omega) hT)
    by_cases c3 : st = 1 ∨ cap = 0
    · exact txIoffD_ok rfl (by omega) (by omega) c2 c3 hb (hK _ _ _ _ _ (.inl ⟨rfl, rfl, by omega, .inr (.inl ⟨c2, rfl⟩)⟩) (by omega) ⟨by omega, h2, by omega, by omega, h5, h6, h7, h8, h9⟩)
    cases l with
    | nil => exfalso; simp at c1 c3; omega
    | cons s0 l =>
      have hl1 : (s0 :: l).length = l.length + 1 := rfl
      exact txIoffP_ok rfl (by omega) (by omega) c2 (by omega) (by omega) hb (hK _ _ _ _ _ (.inl ⟨rfl, rfl, by omega, .inr (.inr ⟨c2, s0, l, rfl, rfl⟩)⟩) (by omega) ⟨by simp; omega, h2, by omega, by omega, by simp; omega, h6, h7, h8, fun h => by simpa using (h9 h).1⟩)
theorem offR_mem {e : Int} {l' : List ByteArray} (h : OffR st l en s e l') (hl : ∀ z ∈ l, z.size ≤ 256) : ∀ z ∈ l', z.size ≤ 256 := by
  rcases h with ⟨_, _, hs, rfl | ⟨_, rfl⟩ | ⟨_, s0, l0, rfl, rfl⟩⟩ | ⟨_, rfl⟩
  · intro z hz
    rcases List.mem_append.1 hz with h | h
    · exact hl z h
    · simp at h; subst h; exact hs
  · exact hl
  · intro z hz
    rcases List.mem_append.1 hz with h | h
    · exact hl z (by simp [h])
    · simp at h; subst h; exact hs
  · exact hl
end
section
variable {A : Option Addr} {n c : Nat} {ls : List TA} {kd st : Int}
end
end Go.Proofs.Ytbmkghbjooobeaa

