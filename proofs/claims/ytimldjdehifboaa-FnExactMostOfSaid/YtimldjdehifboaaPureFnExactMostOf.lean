/- The program's MostOf and the reference's MostOf are the same function, so the law over them answers true for every int. -/
import Derived.Test.YtimldjdehifboaaPFnExactMostOfx1
namespace Go.Proofs.Ytimldjdehifboaa.Pure
open Go.RowKit Go.Proofs.Ytimldjdehifboaa.PFnExactMostOf Go.Proofs.YtimldjdehifboaaW.PrintWords Go.Proofs.YtimldjdehifboaaW.PrintLast

theorem FnExactMostOf : laws_FnExactMostOf.Pure := by
  intro a0 _
  unfold laws_FnExactMostOf.f spec_MostOf.f impl_MostOf.f
  by_cases h : a0 < 0
  · simp [h]
  · simp [h]

end Go.Proofs.Ytimldjdehifboaa.Pure
