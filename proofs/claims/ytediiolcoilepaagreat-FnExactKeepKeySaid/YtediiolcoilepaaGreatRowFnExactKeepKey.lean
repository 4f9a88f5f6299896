/- The law's row, out of its walk and its plain statement: for every input the law answers true, and its arguments read as they did. -/
import Derived.Test.YtediiolcoilepaaGreatRows
import Derived.Test.YtediiolcoilepaaGreatRowLFnExactKeepKey
import Derived.Test.YtediiolcoilepaaGreatRowJFnExactKeepKey
import Derived.Test.YtediiolcoilepaaGreatRowIFnExactKeepKey
import Derived.Test.YtediiolcoilepaaGreatNbKw
import Derived.Test.YtediiolcoilepaaGreatAskFnExactKeepKey
import Derived.Test.YtediiolcoilepaaGreatPureFnExactKeepKey
import Derived.Test.YtediiolcoilepaaGreatOpens
import Derived.WalkKit
import Derived.ProofKit
import Derived.OpenShut
import Derived.ShutString
import Derived.ChangeOld
import Derived.Below
import Derived.SizedLaws
import Derived.Lib.SmallJoins
namespace Go.Proofs.YtediiolcoilepaaGreat.fnExactKeepKey
open Go.ChangeShapes Go.WideShapes Go.ChangeAt Go.RowKit Go.Proofs.YtediiolcoilepaaGreat.GNear Go.Proofs.YtediiolcoilepaaGreat.Nb Go.Proofs.YtediiolcoilepaaGreatW Go.Proofs.YtediiolcoilepaaGreatW.PrintWords
open Go.ChangeMaps (open_string shut_string)
theorem over : Rows.fnExactKeepKeyRow.holds Tryz.pinned (OpenSpec.ofChange Rows.fnExactKeepKeySpec) :=
  OpenClaim.holds_of_wide 10 Tryz.f10 rfl rfl rfl rfl rfl rfl rfl ⟨rfl, rfl, rfl, rfl, rfl⟩ rfl rfl rfl rfl rfl (by kernel_rfl) Tryz.func10 (by unfold joinedFacts; rw [B96, B86, jRec, B9e]; kernel_rfl)
    (of_decide_eq_true (by kernel_rfl)) (by unfold Func.isWrapper; first | (rw [if_pos (by decide +kernel)]; kernel_rfl) | (rw [if_neg (by decide +kernel)]; exact ⟨rfl, rfl⟩))
    (fun os started H enc _ => lifted os started H enc)
theorem proved : Rows.FnExactKeepKeySaid := over
#print axioms proved
end Go.Proofs.YtediiolcoilepaaGreat.fnExactKeepKey
namespace Go.Proofs.YtediiolcoilepaaGreat
/-- The row, under a short name, for the claim. -/
theorem fnExactKeepKey_holds : Rows.FnExactKeepKeySaid := fnExactKeepKey.proved
end Go.Proofs.YtediiolcoilepaaGreat
