/- The plain statement of the law, over numbers, texts and lists. -/
import Derived.Test.YtimldjdehifboaaPFnExactVoiceOkx1
namespace Go.Proofs.Ytimldjdehifboaa.PFnExactVoiceOk
open Go.RowKit
def laws_FnExactVoiceOk.Ask : Prop := ∀ (a0_0 : Int) (a0_1 : Int) (a0_2 : ByteArray), ((Lit.int .i64 a0_0).wf = true) → ((Lit.int .i64 a0_1).wf = true) → (a0_2.size ≤ maxLen) → laws_FnExactVoiceOk.f a0_0 a0_1 a0_2 = some true
end Go.Proofs.Ytimldjdehifboaa.PFnExactVoiceOk
