/- Facts of the program: what a law reaches. -/
import Derived.Test.YtediiolcoilepaaGreatRows
import Derived.WalkKit
import Derived.ProofKit
namespace Go.Proofs.YtediiolcoilepaaGreat.fnExactKeepKey
open Go.ChangeShapes Go.WideShapes Go.ChangeAt Go.RowKit
theorem B96 : (Rows.fnExactKeepKeyRow.inPlace == Tryz.pinned.checked.prog.inPlace 10) = true := by kernel_rfl
theorem B86 : (Rows.fnExactKeepKeyRow.unfollowed == Tryz.pinned.checked.prog.unfollowed 10) = true := by kernel_rfl
end Go.Proofs.YtediiolcoilepaaGreat.fnExactKeepKey
