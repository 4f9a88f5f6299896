/- The plain statement of the law, over numbers, texts and lists. -/
import Derived.Test.YtocgakpicmcemaaQFnExactHearNotex7
namespace Go.Proofs.Ytocgakpicmcemaa.PFnExactHearNote
open Go.RowKit
def laws_FnExactHearNote.Ask : Prop := ∀ (a0_0 : Int) (a0_1 : Int) (a0_2 : ByteArray) (a1_0 : Int) (a1_1 : Int) (a1_2 : Int) (a1_3 : Int) (a1_4 : Int) (a1_5 : ByteArray), ((Lit.int .i64 a0_0).wf = true) → ((Lit.int .i64 a0_1).wf = true) → (a0_2.size ≤ maxLen) → ((Lit.int .i64 a1_0).wf = true) → ((Lit.int .i64 a1_1).wf = true) → ((Lit.int .i64 a1_2).wf = true) → ((Lit.int .i64 a1_3).wf = true) → ((Lit.int .i64 a1_4).wf = true) → (a1_5.size ≤ maxLen) → ∃ k, laws_FnExactHearNote.f k a0_0 a0_1 a0_2 a1_0 a1_1 a1_2 a1_3 a1_4 a1_5 = some true
end Go.Proofs.Ytocgakpicmcemaa.PFnExactHearNote
