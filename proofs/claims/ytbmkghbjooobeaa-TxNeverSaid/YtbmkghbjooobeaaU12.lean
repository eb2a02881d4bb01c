/- Tx: the statements Order and Never, for all senders: lemmas; each with the conditions that it states. -/
import Derived.Test.YtbmkghbjooobeaaU9a
import Derived.Test.YtbmkghbjooobeaaU11

namespace Go.Proofs.Ytbmkghbjooobeaa
open Go Go.Proofs Go.Sl
set_option maxRecDepth 100000
set_option maxHeartbeats 4000000
set_option linter.unusedSimpArgs false
set_option linter.unusedVariables false
attribute [local irreducible] evG evC spl thenC inBlockC noGotoC CallT retC RetG TurnG CutG pt ro exP star sep pureP
variable {R C : List HP} {K : Value → List HP → Prop} {A : Option Addr} {n c : Nat} {ls : List TA} {kd st : Int}
theorem rightE_zero {cap : Int} (hr : rightE kd cap st = 0) : ∃ m : Nat, cap = m ∧ ((kd = 1 ∧ m ≤ 4096) ∨ (kd = 2 ∧ m ≤ 64 ∧ 0 ≤ st ∧ st ≤ 2)) := by
  unfold rightE at hr
  split at hr
  · exact absurd hr (by decide)
  · split at hr
    · exact absurd hr (by decide)
    · split at hr
      · exact absurd hr (by decide)
      · exact ⟨cap.toNat, by omega, by omega⟩
theorem txOrder_ok {cap : Int} (hv : View C A taC ls) (hps : ∀ y ∈ ls, -9223372036854775808 ≤ y.n ∧ y.n ≤ 9223372036854775807) (hn : ls.length = n) (hn2 : n < 1000000000000000) (hK : ∀ R, K (.bool true) R) : CallT Try.prog 3 #[.agg #[.int .i64 kd, .int .i64 cap, .int .i64 st], .slice A n c] C K := by
  by_cases hr : rightE kd cap st = 0
  · obtain ⟨m, rfl, ⟨rfl, h1⟩ | ⟨rfl, h1, h2⟩⟩ := rightE_zero hr
    · exact txOrderB_ok h1 hv hn hn2 hK
    · exact txOrderI_ok h1 h2 hv hn hn2 hK
  · exact txOrderE_ok hr hK
theorem txNever_ok {cap : Int} (hv : View C A taC ls) (hps : ∀ y ∈ ls, -9223372036854775808 ≤ y.n ∧ y.n ≤ 9223372036854775807) (hn : ls.length = n) (hn2 : n < 1000000000000000) (hK : ∀ R, K (.bool true) R) : CallT Try.prog 4 #[.agg #[.int .i64 kd, .int .i64 cap, .int .i64 st], .slice A n c] C K := by
  by_cases hr : rightE kd cap st = 0
  · obtain ⟨m, rfl, ⟨rfl, h1⟩ | ⟨rfl, h1, h2⟩⟩ := rightE_zero hr
    · exact txNeverB_ok h1 hv hn hn2 hK
    · exact txNeverI_ok h1 h2 hv hps hn hn2 hK
  · exact txNeverE_ok hr hK
end Go.Proofs.Ytbmkghbjooobeaa
