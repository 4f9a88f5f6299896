/- Of one to five voices more than half are a most, no more than all; MostOf of the program and of the reference agree at a drawn number; of a number below 0 it is 0: for every draw. -/
import Derived.Test.YtimldjdehifboaaQFnMostx1
namespace Go.Proofs.Ytimldjdehifboaa.Pure
open Go.RowKit Go.Proofs.Ytimldjdehifboaa.PFnMost Go.Proofs.YtimldjdehifboaaW.PrintWords Go.Proofs.YtimldjdehifboaaW.PrintLast
set_option linter.unusedVariables false
set_option linter.unusedSimpArgs false

/-! ### The drawn cursor: what its words come to -/
theorem and255 (n : Int) : 0 ≤ Go.bits .and .i64 n 255 ∧ Go.bits .and .i64 n 255 ≤ 255 := by
  have h255 : (BitVec.ofInt 64 255).toNat = 255 := by decide
  have key : (BitVec.ofInt 64 n &&& BitVec.ofInt 64 255).toNat ≤ 255 := by
    rw [BitVec.toNat_and, h255]
    exact Nat.and_le_right
  show 0 ≤ IntKind.i64.wrap ((BitVec.ofInt 64 n &&& BitVec.ofInt 64 255).toNat : Nat) ∧ IntKind.i64.wrap ((BitVec.ofInt 64 n &&& BitVec.ofInt 64 255).toNat : Nat) ≤ 255
  rw [IntKind.wrap_i64]
  omega

theorem byte_some (b : List Int) (i h : Int) (hb : b.length ≤ 140737488351232) (hi : 0 ≤ i) :
    ∃ r i' h', spec_l01Byte.f b i h = some (r, i', h') ∧ 0 ≤ r ∧ r ≤ 255 ∧ 0 ≤ i' := by
  unfold spec_l01Byte.f
  by_cases c : i < (b.length : Int)
  · rw [if_pos c, if_pos hi]
    exact ⟨_, _, _, rfl, (and255 _).1, (and255 _).2, by unfold wrap64; omega⟩
  · rw [if_neg c]
    exact ⟨_, _, _, rfl, (and255 _).1, (and255 _).2, hi⟩

theorem below_some (b : List Int) (i h n : Int) (hb : b.length ≤ 140737488351232) (hi : 0 ≤ i) :
    ∃ r i' h', spec_l01Below.f b i h n = some (r, i', h') ∧ 0 ≤ r ∧ (0 < n → r < n) ∧ 0 ≤ i' := by
  unfold spec_l01Below.f
  by_cases c : n ≤ 0
  · rw [if_pos c]
    exact ⟨0, i, h, rfl, by omega, by omega, hi⟩
  · rw [if_neg c]
    by_cases c2 : n ≤ 256
    · rw [if_pos c2]
      obtain ⟨r, i1, h1, e1, r0, r1, hi1⟩ := byte_some b i h hb hi
      rw [e1]
      simp only [Option.bind_some]
      rw [if_neg (by omega)]
      refine ⟨_, _, _, rfl, ?_, ?_, hi1⟩
      · rw [Int.tmod_eq_emod_of_nonneg r0]; exact Int.emod_nonneg _ (by omega)
      · intro _; rw [Int.tmod_eq_emod_of_nonneg r0]; exact Int.emod_lt_of_pos _ (by omega)
    · rw [if_neg c2]
      obtain ⟨x, i1, h1, e1, x0, x1, hi1⟩ := byte_some b i h hb hi
      obtain ⟨y, i2, h2, e2, y0, y1, hi2⟩ := byte_some b i1 h1 hb hi1
      obtain ⟨z, i3, h3, e3, z0, z1, hi3⟩ := byte_some b i2 h2 hb hi2
      obtain ⟨w, i4, h4, e4, w0, w1, hi4⟩ := byte_some b i3 h3 hb hi3
      rw [e1]; simp only [Option.bind_some]
      rw [e2]; simp only [Option.bind_some]
      rw [e3]; simp only [Option.bind_some]
      rw [e4]; simp only [Option.bind_some]
      rw [if_neg (by omega)]
      have e : wrap64 ((wrap64 ((wrap64 ((wrap64 (x * 16777216)) + (wrap64 (y * 65536)))) + (wrap64 (z * 256)))) + w) = x * 16777216 + y * 65536 + z * 256 + w := by
        unfold wrap64; omega
      rw [e]
      refine ⟨_, _, _, rfl, ?_, ?_, hi4⟩
      · rw [Int.tmod_eq_emod_of_nonneg (by omega)]; exact Int.emod_nonneg _ (by omega)
      · intro _; rw [Int.tmod_eq_emod_of_nonneg (by omega)]; exact Int.emod_lt_of_pos _ (by omega)

theorem new_loop (b : List Int) (hb : b.length ≤ 140737488351232) (d : Nat) : ∀ (h i : Int), 0 ≤ i → 4000 - i ≤ d →
    ∃ h', ∀ k, d < k → spec_l01New.l0 k b h i = some (b, 0, h') := by
  induction d with
  | zero =>
    intro h i h0 hd
    refine ⟨h, fun k hk => ?_⟩
    obtain ⟨k, rfl⟩ : ∃ m, k = m + 1 := ⟨k - 1, by omega⟩
    simp only [spec_l01New.l0]
    split
    · rw [if_neg (by omega)]
    · rfl
  | succ d ih =>
    intro h i h0 hd
    by_cases c : i < (b.length : Int)
    · by_cases c2 : i < 4000
      · have e : wrap64 (i + 1) = i + 1 := by unfold wrap64; omega
        obtain ⟨h', H⟩ := ih (Go.bits .and .i64 (wrap64 ((wrap64 ((wrap64 (h * 131)) + (wrap64 (rd b i)))) + 7)) 1073741823) (i + 1) (by omega) (by omega)
        refine ⟨h', fun k hk => ?_⟩
        obtain ⟨k, rfl⟩ : ∃ m, k = m + 1 := ⟨k - 1, by omega⟩
        simp only [spec_l01New.l0]
        rw [if_pos c, if_pos c2, if_pos h0, e]
        exact H k (by omega)
      · refine ⟨h, fun k hk => ?_⟩
        obtain ⟨k, rfl⟩ : ∃ m, k = m + 1 := ⟨k - 1, by omega⟩
        simp only [spec_l01New.l0]
        rw [if_pos c, if_neg c2]
    · refine ⟨h, fun k hk => ?_⟩
      obtain ⟨k, rfl⟩ : ∃ m, k = m + 1 := ⟨k - 1, by omega⟩
      simp only [spec_l01New.l0]
      rw [if_neg c]

theorem new_some (b : List Int) (hb : b.length ≤ 140737488351232) : ∃ h, ∀ k, 4000 < k → spec_l01New.f k b = some (b, 0, h) := by
  obtain ⟨h, H⟩ := new_loop b hb 4000 (wrap64 (14301 + (b.length : Int))) 0 (by omega) (by omega)
  exact ⟨h, fun k hk => by unfold spec_l01New.f; exact H k hk⟩
theorem once_some (b : List Int) (i h n : Int) (hb : b.length ≤ 140737488351232) (hi : 0 ≤ i) :
    ∃ r i' h', spec_l01Once.f b i h n = some (r, i', h') ∧ 0 ≤ i' := by
  obtain ⟨r, i1, h1, e1, r0, r1, hi1⟩ := below_some b i h n hb hi
  unfold spec_l01Once.f
  rw [e1]; simp only [Option.bind_some]
  exact ⟨_, _, _, rfl, hi1⟩
theorem pickInt_some (b : List Int) (i h : Int) (l : List Int) (hl : 0 < l.length) (hb : b.length ≤ 140737488351232) (hi : 0 ≤ i) :
    ∃ r i' h', spec_l01PickInt.f b i h l = some (r, i', h') ∧ r ∈ l ∧ 0 ≤ i' := by
  obtain ⟨r, i1, h1, e1, r0, r1, hi1⟩ := below_some b i h (l.length : Int) hb hi
  unfold spec_l01PickInt.f
  rw [e1]; simp only [Option.bind_some]
  have hr := r1 (by omega)
  rw [if_pos r0, if_pos hr]
  refine ⟨_, _, _, rfl, ?_, hi1⟩
  unfold rd
  have : r.toNat < l.length := by omega
  rw [List.getD_eq_getElem?_getD, List.getElem?_eq_getElem this]
  exact List.getElem_mem this
theorem place_some (b : List Int) (i h n : Int) (hn : 0 < n) (hn2 : n ≤ 1000000) (hb : b.length ≤ 140737488351232) (hi : 0 ≤ i) :
    ∃ r i' h', spec_l01Place.f b i h n = some (r, i', h') ∧ 0 ≤ i' := by
  obtain ⟨r, i1, h1, e1, hi1⟩ := once_some b i h 15 hb hi
  unfold spec_l01Place.f
  rw [e1]; simp only [Option.bind_some]
  cases r with
  | true =>
    rw [if_pos rfl]
    obtain ⟨r2, i2, h2, e2, _, hi2⟩ := pickInt_some b i1 h1 [(-1), n, wrap64 (n + 1), 9223372036854775807, (-9223372036854775808)] (by simp) hb hi1
    rw [e2]; simp only [Option.bind_some]
    exact ⟨_, _, _, rfl, hi2⟩
  | false =>
    rw [if_neg (by simp)]
    obtain ⟨r2, i2, h2, e2, _, _, hi2⟩ := below_some b i1 h1 n hb hi1
    rw [e2]; simp only [Option.bind_some]
    exact ⟨_, _, _, rfl, hi2⟩

theorem step1 (k : Nat) (l : List Int) : laws_FnMost.l0 (k + 1) l 1 = laws_FnMost.l0 k l 2 := by
  rw [laws_FnMost.l0]; simp [impl_MostOf.f, spec_MostOf.f, wrap64]
theorem step2 (k : Nat) (l : List Int) : laws_FnMost.l0 (k + 1) l 2 = laws_FnMost.l0 k l 3 := by
  rw [laws_FnMost.l0]; simp [impl_MostOf.f, spec_MostOf.f, wrap64]
theorem step3 (k : Nat) (l : List Int) : laws_FnMost.l0 (k + 1) l 3 = laws_FnMost.l0 k l 4 := by
  rw [laws_FnMost.l0]; simp [impl_MostOf.f, spec_MostOf.f, wrap64]
theorem step4 (k : Nat) (l : List Int) : laws_FnMost.l0 (k + 1) l 4 = laws_FnMost.l0 k l 5 := by
  rw [laws_FnMost.l0]; simp [impl_MostOf.f, spec_MostOf.f, wrap64]
theorem step5 (k : Nat) (l : List Int) : laws_FnMost.l0 (k + 1) l 5 = laws_FnMost.l0 k l 6 := by
  rw [laws_FnMost.l0]; simp [impl_MostOf.f, spec_MostOf.f, wrap64]

theorem FnMost : laws_FnMost.Pure := by
  intro l _ hl _
  have hb : l.length ≤ 140737488351232 := by omega
  obtain ⟨h, hnew⟩ := new_some l hb
  obtain ⟨r, i1, h1, e1, _⟩ := place_some l 0 h 9 (by omega) (by omega) hb (by omega)
  refine ⟨4007, ?_⟩
  unfold laws_FnMost.f laws_big.f
  simp only [Option.bind_some]
  by_cases hbig : (l.length : Int) > 1048576
  · rw [if_pos (by simp only [decide_eq_true_eq]; exact hbig)]
  · rw [if_neg (by simp only [decide_eq_true_eq]; exact hbig), step1, step2, step3, step4, step5]
    show laws_FnMost.l0 (4001 + 1) l 6 = some true
    rw [laws_FnMost.l0, if_neg (by omega)]
    unfold spec_DrawMostOf.f
    rw [hnew 4001 (by omega)]
    simp only [Option.bind_some]
    rw [e1]
    simp only [Option.bind_some]
    have he : ∃ m, impl_MostOf.f r = some m ∧ spec_MostOf.f r = some m := by
      unfold impl_MostOf.f spec_MostOf.f
      by_cases c : r < 0
      · exact ⟨0, by rw [if_pos c], by rw [if_pos c]⟩
      · exact ⟨_, by rw [if_neg c], by rw [if_neg c]⟩
    obtain ⟨m, hm1, hm2⟩ := he
    rw [hm1, hm2]
    simp only [Option.bind_some, if_true]
    rfl

end Go.Proofs.Ytimldjdehifboaa.Pure
