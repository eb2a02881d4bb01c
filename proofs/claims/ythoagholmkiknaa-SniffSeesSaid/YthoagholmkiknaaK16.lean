/- Frame: what any bytes are as a frame: lemmas; each with the conditions that it states. -/
import Derived.Test.YthoagholmkiknaaK15

namespace Go.Proofs.Ythoagholmkiknaa
open Go Go.Proofs Go.Sl
set_option maxRecDepth 100000
set_option maxHeartbeats 4000000
set_option linter.unusedSimpArgs false
set_option linter.unusedVariables false
attribute [local irreducible] evG evC spl thenC inBlockC noGotoC CallT retC RetG TurnG CutG pt ro exP star sep pureP
attribute [local irreducible] ByteArray.extract nAt scanP
variable {R C : List HP} {K : Value → List HP → Prop}
theorem fgetA_ok {l t f s : Int} {p : ByteArray} (hf : -9223372036854775808 ≤ f ∧ f ≤ 9223372036854775807) (h : gE l t f s p = 0) (hK : ∀ A c, K (.tuple #[.agg #[.int .i64 t, .int .i64 s, .bool (f == 1), .string (gD t p), .int .i64 (gK t p), .int .i64 (gO t p), .int .i64 (gW t p), .bool (gX t p), .int .i64 (gC t p), .int .i64 (gL t p), .int .i64 (gN t p), .slice A (gP t p).length c], .int .i64 0]) (row A c 76 prC (gP t p) :: R)) : CallT Try.prog 45 #[.agg #[.int .i64 l, .int .i64 t, .int .i64 f, .int .i64 s], .string p] R K := fget_ok hf (fun _ => hK) (fun h' => absurd h h')
theorem fgetB_ok {l t f s : Int} {p : ByteArray} (hf : -9223372036854775808 ≤ f ∧ f ≤ 9223372036854775807) (h : gE l t f s p ≠ 0) (hK : K (.tuple #[.agg #[.int .i64 0, .int .i64 0, .bool false, .string ⟨#[]⟩, .int .i64 0, .int .i64 0, .int .i64 0, .bool false, .int .i64 0, .int .i64 0, .int .i64 0, .slice none 0 0], .int .i64 (gE l t f s p)]) R) : CallT Try.prog 45 #[.agg #[.int .i64 l, .int .i64 t, .int .i64 f, .int .i64 s], .string p] R K := fget_ok hf (fun h' => absurd h' h) (fun _ => hK)
end Go.Proofs.Ythoagholmkiknaa

