/- Walks of the law's callees: over a tool's print, with fewer blanks. -/
import Derived.Test.YtocgakpicmcemaaProg
import Derived.Below
import Derived.Deep.Draws
import Derived.Deep.AppendLies
import Derived.Maps.AppendAt
import Derived.OwnWalk
import Derived.Laws.BytesArg
import Derived.Laws.MakeOwn
import Derived.Laws.OwnMore
import Derived.Deep.OwnRows
import Derived.Tactics
import Derived.Lib.ConvBytes
import Derived.Laws.Slices
import Derived.WalkKit
import Derived.KernelRfl
import Derived.RowKit3
import Derived.Deep.LoopGhost
import Derived.Deep.QuietTactic
import Derived.BigQuiet
import Derived.WideLaws
import Derived.Deep.DeepCutAuto
import Derived.Deep.CutBlock
import Derived.Deep.RegionHeld3
import Derived.Laws.Rows
import Derived.Lib.AppendStr
import Derived.ArgAppend
import Derived.Laws.IdiomCopy
import Derived.OrdersHeld
import Derived.Laws.BitsLemmas
import Derived.RowKit
import Derived.Test.YtocgakpicmcemaaWWords
import Derived.Test.YtocgakpicmcemaaWLast
import Derived.Test.YtocgakpicmcemaaWTab
import Derived.Test.YtocgakpicmcemaaWFour
import Derived.Test.YtocgakpicmcemaaWQPut
import Derived.Test.YtocgakpicmcemaaWApart
import Derived.Test.YtocgakpicmcemaaWArr
import Derived.Test.YtocgakpicmcemaaWZeros
import Derived.Test.YtocgakpicmcemaaWFoot
import Derived.Test.YtocgakpicmcemaaWKept
import Derived.Test.YtocgakpicmcemaaWShare
import Derived.Test.YtocgakpicmcemaaWN
import Derived.Test.YtocgakpicmcemaaWFootNe
import Derived.Test.YtocgakpicmcemaaWAt
import Derived.Test.YtocgakpicmcemaaWEqStruct
import Derived.Test.YtocgakpicmcemaaWRepsOne
import Derived.Test.YtocgakpicmcemaaWInv
import Derived.Test.YtocgakpicmcemaaWInvWords
import Derived.Test.YtocgakpicmcemaaWGuard
import Derived.Test.YtocgakpicmcemaaWNEv
import Derived.Test.YtocgakpicmcemaaWMore
namespace Go.Proofs.Ytocgakpicmcemaa.PFnExactHearNote
open Go.RowKit Go.Proofs.YtocgakpicmcemaaW.PrintWords Go.Proofs.YtocgakpicmcemaaW.PrintLast Go.Proofs.YtocgakpicmcemaaW.PrintMore
attribute [local go_sem] max2_int min2_int max_two min_two max_three min_three max_four min_four   -- for this text's walks alone
set_option linter.unusedVariables false
set_option linter.unusedSimpArgs false



def errW : Option Int → Value
 | none => .nilIface
 | some c => .iface 0 (.int .i64 c)
theorem errW_none : errW none = .nilIface := rfl
theorem errW_some (c : Int) : errW (some c) = .iface 0 (.int .i64 c) := rfl

-- the values' own types

end Go.Proofs.Ytocgakpicmcemaa.PFnExactHearNote
