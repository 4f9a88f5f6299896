/- The plain statement of the law, over numbers, texts and lists. -/
import Derived.Test.YtjiekmbonmbhlaaGFnExactCountKeyx5
namespace Go.Proofs.Ytjiekmbonmbhlaa.GFnExactCountKey
open Go.RowKit
def laws_FnExactCountKey.Ask : Prop := ∀ (l0_0 : List (Int)) (a0_1 : Int) (a1 : ByteArray), (l0_0.length ≤ maxLen ∧ ∀ z ∈ l0_0, (Lit.int .i64 z).wf = true) → ((Lit.int .i64 a0_1).wf = true) → (a1.size ≤ maxLen) → ∃ k, laws_FnExactCountKey.f k l0_0 a0_1 a1 = some true
end Go.Proofs.Ytjiekmbonmbhlaa.GFnExactCountKey
