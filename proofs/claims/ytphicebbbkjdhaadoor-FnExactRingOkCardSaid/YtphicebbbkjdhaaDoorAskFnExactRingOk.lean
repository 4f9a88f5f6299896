/- The plain statement of the law, over numbers, texts and lists. -/
import Derived.Test.YtphicebbbkjdhaaDoorGFnExactRingOkx8
namespace Go.Proofs.YtphicebbbkjdhaaDoor.GFnExactRingOk
open Go.RowKit
def laws_FnExactRingOk.Ask : Prop := ∀ (l0_0 : List S89), (l0_0.length ≤ maxLen ∧ ∀ z ∈ l0_0, ((Lit.int .i64 z.f0).wf = true) ∧ ((Lit.int .i64 z.f1).wf = true)) → ∃ k, laws_FnExactRingOk.f k l0_0 = some true
end Go.Proofs.YtphicebbbkjdhaaDoor.GFnExactRingOk
