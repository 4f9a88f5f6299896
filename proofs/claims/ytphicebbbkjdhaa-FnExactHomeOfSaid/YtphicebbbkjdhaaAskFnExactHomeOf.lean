/- The plain statement of the law, over numbers, texts and lists. -/
import Derived.Test.YtphicebbbkjdhaaGFnExactHomeOfx3
namespace Go.Proofs.Ytphicebbbkjdhaa.GFnExactHomeOf
open Go.RowKit
def laws_FnExactHomeOf.Ask : Prop := ∀ (l0_0 : List S56) (a1 : ByteArray), (l0_0.length ≤ maxLen ∧ ∀ z ∈ l0_0, ((Lit.int .i64 z.f0).wf = true) ∧ ((Lit.int .i64 z.f1).wf = true)) → (a1.size ≤ maxLen) → ∃ k, laws_FnExactHomeOf.f k l0_0 a1 = some true
end Go.Proofs.Ytphicebbbkjdhaa.GFnExactHomeOf
