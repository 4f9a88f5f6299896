/- Walks of callees. -/
import Derived.Test.YtediiolcoilepaaGreatGNear0
namespace Go.Proofs.YtediiolcoilepaaGreat.GNear
set_option maxHeartbeats 8000000
set_option maxRecDepth 100000
open Go.RowKit Go.Proofs.YtediiolcoilepaaGreatW.PrintWords Go.Proofs.YtediiolcoilepaaGreatW.PrintLast Go.Proofs.YtediiolcoilepaaGreatW.PrintMore
attribute [local go_sem] max2_int min2_int max_two min_two max_three min_three max_four min_four
set_option linter.unusedVariables false
set_option linter.unusedSimpArgs false
theorem eqA151 (d:Nat) (w:World) (x0 y0:ByteArray) (x1 y1:Int) :
  (Op.equalIn (d+2) 151 (.agg #[.string x0,.int .i64 x1]) (.agg #[.string y0,.int .i64 y1])).run Tryz.prog w=.ok (x0.toList == y0.toList && (x1 == y1)) w:=by
 refine eqA_of Tryz.underlying151 (by kernel_rfl) ?_;refine eqf_cons (by rfl) (by go_simp;rfl) (by go_simp;rfl) (by go_simp) ?_;exact eqf_last (by rfl) (by go_simp;rfl) (by go_simp;rfl) (by go_simp)
end Go.Proofs.YtediiolcoilepaaGreat.GNear
