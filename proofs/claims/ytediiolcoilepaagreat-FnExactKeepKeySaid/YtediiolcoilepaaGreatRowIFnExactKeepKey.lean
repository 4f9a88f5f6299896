/- Facts of the program: what a law reaches. -/
import Derived.Test.YtediiolcoilepaaGreatRows
import Derived.WalkKit
import Derived.ProofKit
namespace Go.Proofs.YtediiolcoilepaaGreat.fnExactKeepKey
open Go.ChangeShapes Go.WideShapes Go.ChangeAt Go.RowKit
theorem jRec : (Rows.fnExactKeepKeyRow.recurses == Tryz.pinned.checked.prog.recurses 10) = true := by kernel_rfl
theorem B9e : (Rows.fnExactKeepKeyRow.named == Tryz.pinned.checked.prog.varsNamed 10) = true := by kernel_rfl
end Go.Proofs.YtediiolcoilepaaGreat.fnExactKeepKey
