/- The program's NearNew returns what the reference's returns, for every size. -/
import Derived.Test.YtediiolcoilepaaGFnExactNearNewx9
namespace Go.Proofs.Ytediiolcoilepaa.Pure
open Go.RowKit Go.Proofs.Ytediiolcoilepaa.GFnExactNearNew Go.Proofs.YtediiolcoilepaaW.PrintWords Go.Proofs.YtediiolcoilepaaW.PrintLast Go.Proofs.YtediiolcoilepaaW.PrintMore
set_option linter.unusedVariables false
set_option linter.unusedSimpArgs false

theorem inI (a b c : Int) : impl_inRange.f a b c = some (decide (b ≤ a ∧ a ≤ c)) := by
  unfold impl_inRange.f
  by_cases h : a ≥ b
  · rw [if_pos h]; congr 1; rw [Bool.eq_iff_iff]; simp; omega
  · rw [if_neg h]; congr 1; rw [Bool.eq_iff_iff]; simp; omega
theorem inS (a b c : Int) : spec_l01In.f a b c = some (decide (b ≤ a ∧ a ≤ c)) := by
  unfold spec_l01In.f
  by_cases h : a ≥ b
  · rw [if_pos h]; congr 1; rw [Bool.eq_iff_iff]; simp; omega
  · rw [if_neg h]; congr 1; rw [Bool.eq_iff_iff]; simp; omega
theorem law_small : ∀ n : Fin 23, laws_FnExactNearNew.f 300 ((n.1 + 2 : Nat) : Int) = some true := by decide +kernel
theorem law_zero : laws_FnExactNearNew.f 300 0 = some true := by decide +kernel
theorem j0_out (a : Int) (h : ∀ k, impl_NearNew.f k a = impl_NearNew.f k 0) : ∀ (k : Nat) y0 y1 y2 y3 y4 y5 y6 y7 y8 y9 y10 y11 y12 y13 y14 y15 y16 y17 y18 y19 y20 y21 y22 y23 y24 y25 y26 y27 y28 y29,
    laws_FnExactNearNew.j0 k a y0 y1 y2 y3 y4 y5 y6 y7 y8 y9 y10 y11 y12 y13 y14 y15 y16 y17 y18 y19 y20 y21 y22 y23 y24 y25 y26 y27 y28 y29 = laws_FnExactNearNew.j0 k 0 y0 y1 y2 y3 y4 y5 y6 y7 y8 y9 y10 y11 y12 y13 y14 y15 y16 y17 y18 y19 y20 y21 y22 y23 y24 y25 y26 y27 y28 y29 := by
  intro k
  cases k with
  | zero => intros; simp only [laws_FnExactNearNew.j0]
  | succ k => intros; simp only [laws_FnExactNearNew.j0, h]
theorem FnExactNearNew : laws_FnExactNearNew.Pure := by
  intro a _
  refine ⟨300, ?_⟩
  by_cases h : 2 ≤ a ∧ a ≤ 24
  · have := law_small ⟨(a - 2).toNat, by omega⟩
    rwa [show ((((⟨(a - 2).toNat, by omega⟩ : Fin 23).1 + 2 : Nat) : Int)) = a by simp; omega] at this
  · have hI : ∀ k, impl_NearNew.f k a = impl_NearNew.f k 0 := fun k => by
      unfold impl_NearNew.f; rw [inI, inI, decide_eq_false h]; rfl
    have hS : ∀ k, spec_NearNew.f k a = spec_NearNew.f k 0 := fun k => by
      unfold spec_NearNew.f; rw [inS, inS, decide_eq_false h]; rfl
    rw [← law_zero]
    unfold laws_FnExactNearNew.f
    simp only [hI, hS, j0_out a hI]

end Go.Proofs.Ytediiolcoilepaa.Pure
