/- The plain statement of the law, over numbers, texts and lists. -/
import Derived.Test.YtjiekmbonmbhlaaGFnExactLayx9
namespace Go.Proofs.Ytjiekmbonmbhlaa.GFnExactLay
open Go.RowKit
def laws_FnExactLay.Ask : Prop := ∀ (l0_0 : List S126) (a0_1 : Int) (a1 : ByteArray) (a2 : ByteArray), (l0_0.length ≤ maxLen ∧ ∀ z ∈ l0_0, ((Lit.int .i64 z.f0).wf = true) ∧ (True) ∧ (z.f2.size ≤ maxLen) ∧ (z.f3.size ≤ maxLen) ∧ ((Lit.int .i64 z.f4).wf = true)) → ((Lit.int .i64 a0_1).wf = true) → (a1.size ≤ maxLen) → (a2.size ≤ maxLen) → ∃ k, laws_FnExactLay.f k l0_0 a0_1 a1 a2 = some true
end Go.Proofs.Ytjiekmbonmbhlaa.GFnExactLay
