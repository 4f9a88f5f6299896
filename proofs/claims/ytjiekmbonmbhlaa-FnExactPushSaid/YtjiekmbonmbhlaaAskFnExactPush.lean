/- The plain statement of the law, over numbers, texts and lists. -/
import Derived.Test.YtjiekmbonmbhlaaGFnExactPushx6
namespace Go.Proofs.Ytjiekmbonmbhlaa.GFnExactPush
open Go.RowKit
def laws_FnExactPush.Ask : Prop := ∀ (a0_0 : Int) (l0_1 : List (ByteArray)) (a1 : ByteArray), ((Lit.int .i64 a0_0).wf = true) → (l0_1.length ≤ maxLen ∧ ∀ z ∈ l0_1, z.size ≤ maxLen) → (a1.size ≤ maxLen) → ∃ k, laws_FnExactPush.f k a0_0 l0_1 a1 = some true
end Go.Proofs.Ytjiekmbonmbhlaa.GFnExactPush
