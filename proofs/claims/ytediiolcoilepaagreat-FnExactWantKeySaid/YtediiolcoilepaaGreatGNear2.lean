/- Walks of callees. -/
import Derived.Test.YtediiolcoilepaaGreatGNear0
import Derived.Test.YtediiolcoilepaaGreatGNear1
namespace Go.Proofs.YtediiolcoilepaaGreat.GNear
set_option maxHeartbeats 8000000
set_option maxRecDepth 100000
open Go.RowKit Go.Proofs.YtediiolcoilepaaGreatW.PrintWords Go.Proofs.YtediiolcoilepaaGreatW.PrintLast Go.Proofs.YtediiolcoilepaaGreatW.PrintMore
attribute [local go_sem] max2_int min2_int max_two min_two max_three min_three max_four min_four
set_option linter.unusedVariables false
set_option linter.unusedSimpArgs false
end Go.Proofs.YtediiolcoilepaaGreat.GNear
