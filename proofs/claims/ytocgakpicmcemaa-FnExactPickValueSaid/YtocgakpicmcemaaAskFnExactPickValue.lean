/- The plain statement of the law, over numbers, texts and lists. -/
import Derived.Test.YtocgakpicmcemaaPFnExactPickValuex2
namespace Go.Proofs.Ytocgakpicmcemaa.PFnExactPickValue
open Go.RowKit
def laws_FnExactPickValue.Ask : Prop := ∀ (l0 : List S64) (a1 : ByteArray), (l0.length ≤ maxLen ∧ ∀ x ∈ l0, ((Lit.int .i64 x.f0).wf = true) ∧ ((Lit.int .i64 x.f1).wf = true) ∧ ((Lit.int .i64 x.f2).wf = true) ∧ ((Lit.int .i64 x.f3).wf = true) ∧ ((Lit.int .i64 x.f4).wf = true) ∧ (x.f5.size ≤ maxLen)) → (a1.size ≤ maxLen) → ∃ k, laws_FnExactPickValue.f k l0 a1 = some true
end Go.Proofs.Ytocgakpicmcemaa.PFnExactPickValue
