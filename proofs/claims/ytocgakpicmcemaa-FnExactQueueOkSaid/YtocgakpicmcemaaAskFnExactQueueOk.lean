/- The plain statement of the law, over numbers, texts and lists. -/
import Derived.Test.YtocgakpicmcemaaPFnExactQueueOkx3
namespace Go.Proofs.Ytocgakpicmcemaa.PFnExactQueueOk
open Go.RowKit
def laws_FnExactQueueOk.Ask : Prop := ∀ (a0_0 : Int) (l0_1 : List (ByteArray)), ((Lit.int .i64 a0_0).wf = true) → (l0_1.length ≤ maxLen ∧ ∀ z ∈ l0_1, z.size ≤ maxLen) → ∃ k, laws_FnExactQueueOk.f k a0_0 l0_1 = some true
end Go.Proofs.Ytocgakpicmcemaa.PFnExactQueueOk
