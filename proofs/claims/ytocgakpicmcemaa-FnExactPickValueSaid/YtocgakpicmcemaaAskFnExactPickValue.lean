/- The plain statement of the law, over numbers, texts and lists. -/
import Derived.Test.YtocgakpicmcemaaPFnExactPickValuex2
namespace Go.Proofs.Ytocgakpicmcemaa.PFnExactPickValue
open Go.RowKit
def laws_FnExactPickValue.Ask : Prop := ∀ (l0 : List S64) (a1 : ByteArray), (l0.length ≤ maxLen ∧ ∀ z ∈ l0, ((Lit.int .i64 z.f0).wf = true) ∧ ((Lit.int .i64 z.f1).wf = true) ∧ ((Lit.int .i64 z.f2).wf = true) ∧ ((Lit.int .i64 z.f3).wf = true) ∧ ((Lit.int .i64 z.f4).wf = true) ∧ (z.f5.size ≤ maxLen)) → (a1.size ≤ maxLen) → ∃ k, laws_FnExactPickValue.f k l0 a1 = some true
end Go.Proofs.Ytocgakpicmcemaa.PFnExactPickValue
