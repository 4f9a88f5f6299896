/- The plain statement of the law, over numbers, texts and lists. -/
import Derived.Test.YtocgakpicmcemaaPFnExactSeenKeyx3
namespace Go.Proofs.Ytocgakpicmcemaa.PFnExactSeenKey
open Go.RowKit
def laws_FnExactSeenKey.Ask : Prop := ∀ (a0_0 : Int) (a1 : ByteArray), ((Lit.int .i64 a0_0).wf = true) → (a1.size ≤ maxLen) → ∃ k, laws_FnExactSeenKey.f k a0_0 a1 = some true
end Go.Proofs.Ytocgakpicmcemaa.PFnExactSeenKey
