/- The plain statement of the law, over numbers, texts and lists. -/
import Derived.Test.YtphicebbbkjdhaaGFnExactMovedKeysx6
namespace Go.Proofs.Ytphicebbbkjdhaa.GFnExactMovedKeys
open Go.RowKit
def laws_FnExactMovedKeys.Ask : Prop := ∀ (l0_0 : List S56) (l1_0 : List S56) (l2 : List (ByteArray)), (l0_0.length ≤ maxLen ∧ ∀ z ∈ l0_0, ((Lit.int .i64 z.f0).wf = true) ∧ ((Lit.int .i64 z.f1).wf = true)) → (l1_0.length ≤ maxLen ∧ ∀ z ∈ l1_0, ((Lit.int .i64 z.f0).wf = true) ∧ ((Lit.int .i64 z.f1).wf = true)) → (l2.length ≤ maxLen ∧ ∀ z ∈ l2, z.size ≤ maxLen) → ∃ k, laws_FnExactMovedKeys.f k l0_0 l1_0 l2 = some true
end Go.Proofs.Ytphicebbbkjdhaa.GFnExactMovedKeys
