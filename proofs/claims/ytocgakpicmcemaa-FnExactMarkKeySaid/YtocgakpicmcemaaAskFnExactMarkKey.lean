/- The plain statement of the law, over numbers, texts and lists. -/
import Derived.Test.YtocgakpicmcemaaQFnExactMarkKeyx2
namespace Go.Proofs.Ytocgakpicmcemaa.PFnExactMarkKey
open Go.RowKit
def laws_FnExactMarkKey.Ask : Prop := ∀ (a0_0 : Int) (a1 : ByteArray), ((Lit.int .i64 a0_0).wf = true) → (a1.size ≤ maxLen) → ∃ k, laws_FnExactMarkKey.f k a0_0 a1 = some true
end Go.Proofs.Ytocgakpicmcemaa.PFnExactMarkKey
