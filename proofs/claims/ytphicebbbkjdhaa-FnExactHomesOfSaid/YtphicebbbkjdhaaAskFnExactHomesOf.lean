/- The plain statement of the law, over numbers, texts and lists. -/
import Derived.Test.YtphicebbbkjdhaaGFnExactHomesOfx4
namespace Go.Proofs.Ytphicebbbkjdhaa.GFnExactHomesOf
open Go.RowKit
def laws_FnExactHomesOf.Ask : Prop := ∀ (l0_0 : List S56) (a1 : ByteArray) (a2 : Int), (l0_0.length ≤ maxLen ∧ ∀ z ∈ l0_0, ((Lit.int .i64 z.f0).wf = true) ∧ ((Lit.int .i64 z.f1).wf = true)) → (a1.size ≤ maxLen) → ((Lit.int .i64 a2).wf = true) → ∃ k, laws_FnExactHomesOf.f k l0_0 a1 a2 = some true
end Go.Proofs.Ytphicebbbkjdhaa.GFnExactHomesOf
