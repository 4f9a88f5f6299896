/- Jump of the program and of the reference go through the same numbers and end at the same place, for every number and every n. -/
import Derived.Test.YtimldjdehifboaaPFnExactJumpx1
namespace Go.Proofs.Ytimldjdehifboaa.Pure
open Go.RowKit Go.Proofs.Ytimldjdehifboaa.PFnExactJump Go.Proofs.YtimldjdehifboaaW.PrintWords Go.Proofs.YtimldjdehifboaaW.PrintLast Go.Proofs.YtimldjdehifboaaW.PrintMore

theorem u64_wrap (n : Int) : IntKind.u64.wrap n = n % 18446744073709551616 := by simp [IntKind.wrap, IntKind.bits, IntKind.signed]

/-- The next number. -/
def nx (x : Int) : Int := IntKind.u64.wrap ((IntKind.u64.wrap (x * 2862933555777941757)) + 1)
theorem nx_lo (x : Int) : 0 ≤ nx x := by unfold nx; rw [u64_wrap]; omega
theorem nx_hi (x : Int) : nx x < 18446744073709551616 := by unfold nx; rw [u64_wrap]; omega
/-- What is divided by. -/
def dv (x : Int) : Int := nx x / 8589934592 + 1
theorem dv_lo (x : Int) : 1 ≤ dv x := by unfold dv; have := nx_lo x; omega
theorem dv_hi (x : Int) : dv x ≤ 2147483648 := by unfold dv; have := nx_hi x; omega
/-- The next place. -/
def nj (x j : Int) : Int := (j + 1) * 2147483648 / dv x
theorem nj_lo (x j : Int) (hj : 0 ≤ j) : j + 1 ≤ nj x j := by
  unfold nj
  have h1 := dv_lo x
  have h2 := dv_hi x
  rw [Int.le_ediv_iff_mul_le (by omega)]
  exact Int.mul_le_mul_of_nonneg_left h2 (by omega)
theorem nj_hi (x j : Int) (hj : 0 ≤ j) : nj x j ≤ (j + 1) * 2147483648 := by
  unfold nj
  have h1 := dv_lo x
  exact Int.ediv_le_self _ (by omega)

theorem spec_div (x : Int) : wrap64 ((wrap64 (IntKind.u64.wrap (Int.tdiv (nx x) 8589934592))) + 1) = dv x := by
  have h0 := nx_lo x
  have h1 := nx_hi x
  rw [Int.tdiv_eq_ediv_of_nonneg h0, u64_wrap]
  unfold dv wrap64
  omega
theorem impl_div (x : Int) : IntKind.u64.wrap ((nx x / 8589934592) + 1) = dv x := by
  have h0 := nx_lo x
  have h1 := nx_hi x
  rw [u64_wrap]
  unfold dv
  omega
theorem spec_j (x j : Int) (hj : 0 ≤ j) (hj2 : j ≤ 1000) : wrap64 (Int.tdiv (wrap64 ((wrap64 (j + 1)) * 2147483648)) (dv x)) = nj x j := by
  have e1 : wrap64 (j + 1) = j + 1 := by unfold wrap64; omega
  have e2 : wrap64 ((j + 1) * 2147483648) = (j + 1) * 2147483648 := by unfold wrap64; omega
  rw [e1, e2, Int.tdiv_eq_ediv_of_nonneg (by omega)]
  have a := nj_lo x j hj
  have b := nj_hi x j hj
  show wrap64 (nj x j) = nj x j
  unfold wrap64
  omega
theorem impl_j (x j : Int) (hj : 0 ≤ j) (hj2 : j ≤ 1000) :
    wrap64 (IntKind.u64.wrap (Int.tdiv (IntKind.u64.wrap ((IntKind.u64.wrap (wrap64 (j + 1))) * 2147483648)) (dv x))) = nj x j := by
  have e1 : wrap64 (j + 1) = j + 1 := by unfold wrap64; omega
  have e2 : IntKind.u64.wrap (j + 1) = j + 1 := by rw [u64_wrap]; omega
  have e3 : IntKind.u64.wrap ((j + 1) * 2147483648) = (j + 1) * 2147483648 := by rw [u64_wrap]; omega
  rw [e1, e2, e3, Int.tdiv_eq_ediv_of_nonneg (by omega)]
  have a := nj_lo x j hj
  have b := nj_hi x j hj
  show wrap64 (IntKind.u64.wrap (nj x j)) = nj x j
  rw [u64_wrap]
  unfold wrap64
  omega

/-- Both loops come to one place. -/
theorem loops (n : Int) (hn : n ≤ 1000) (d : Nat) : ∀ (x b j : Int), 0 ≤ j → n - j ≤ d →
    ∃ r, ∀ k, d < k → spec_Jump.l0 k n x b j = some r ∧ impl_Jump.l0 k n x b j = some r := by
  induction d with
  | zero =>
    intro x b j h0 hd
    refine ⟨b, fun k hk => ?_⟩
    obtain ⟨k, rfl⟩ : ∃ m, k = m + 1 := ⟨k - 1, by omega⟩
    constructor
    · simp only [spec_Jump.l0]; rw [if_neg (by omega)]
    · simp only [impl_Jump.l0]; rw [if_neg (by omega)]
  | succ d ih =>
    intro x b j h0 hd
    by_cases hlt : j < n
    · have a := nj_lo x j h0
      obtain ⟨r, h⟩ := ih (nx x) j (nj x j) (by omega) (by omega)
      have hd1 := dv_lo x
      refine ⟨r, fun k hk => ?_⟩
      obtain ⟨k, rfl⟩ : ∃ m, k = m + 1 := ⟨k - 1, by omega⟩
      obtain ⟨h1, h2⟩ := h k (by omega)
      constructor
      · simp only [spec_Jump.l0]
        rw [if_pos hlt]
        change (if wrap64 ((wrap64 (IntKind.u64.wrap (Int.tdiv (nx x) 8589934592))) + 1) = 0 then none else spec_Jump.l0 k n (nx x) j (wrap64 (Int.tdiv (wrap64 ((wrap64 (j + 1)) * 2147483648)) (wrap64 ((wrap64 (IntKind.u64.wrap (Int.tdiv (nx x) 8589934592))) + 1))))) = some r
        rw [spec_div, if_neg (by omega), spec_j x j h0 (by omega)]
        exact h1
      · simp only [impl_Jump.l0]
        rw [if_pos hlt]
        change (if IntKind.u64.wrap ((nx x / 8589934592) + 1) = 0 then none else impl_Jump.l0 k n (nx x) j (wrap64 (IntKind.u64.wrap (Int.tdiv (IntKind.u64.wrap ((IntKind.u64.wrap (wrap64 (j + 1))) * 2147483648)) (IntKind.u64.wrap ((nx x / 8589934592) + 1)))))) = some r
        rw [impl_div, if_neg (by omega), impl_j x j h0 (by omega)]
        exact h2
    · refine ⟨b, fun k hk => ?_⟩
      obtain ⟨k, rfl⟩ : ∃ m, k = m + 1 := ⟨k - 1, by omega⟩
      constructor
      · simp only [spec_Jump.l0]; rw [if_neg hlt]
      · simp only [impl_Jump.l0]; rw [if_neg hlt]

theorem spec_enter (k : Nat) (a0 a1 : Int) : spec_Jump.f (k + 2) a0 a1 = spec_Jump.l0 k (mx 1 (mn a1 1000)) (IntKind.u64.wrap a0) (-1) 0 := by
  unfold spec_Jump.f
  by_cases c1 : a1 < 1
  · have e : mx 1 (mn a1 1000) = 1 := by unfold mx mn; split <;> split <;> omega
    rw [if_pos c1, e]
    simp only [spec_Jump.j0, spec_Jump.j1]
    rw [if_neg (by omega)]
  · rw [if_neg c1]
    simp only [spec_Jump.j0, spec_Jump.j1]
    by_cases c2 : a1 > 1000
    · have e : mx 1 (mn a1 1000) = 1000 := by unfold mx mn; split <;> split <;> omega
      rw [if_pos c2, e]
    · have e : mx 1 (mn a1 1000) = a1 := by unfold mx mn; split <;> split <;> omega
      rw [if_neg c2, e]

theorem FnExactJump : laws_FnExactJump.Pure := by
  intro a0 a1 _ _
  have hn : mx 1 (mn a1 1000) ≤ 1000 := by unfold mx mn; split <;> split <;> omega
  obtain ⟨r, h⟩ := loops (mx 1 (mn a1 1000)) hn 1000 (IntKind.u64.wrap a0) (-1) 0 (by omega) (by omega)
  refine ⟨1003, ?_⟩
  have h1 : spec_Jump.f 1003 a0 a1 = some r := by rw [spec_enter]; exact (h 1001 (by omega)).1
  have h2 : impl_Jump.f 1003 a0 a1 = some r := (h 1003 (by omega)).2
  unfold laws_FnExactJump.f
  rw [h1, h2]
  simp

end Go.Proofs.Ytimldjdehifboaa.Pure
