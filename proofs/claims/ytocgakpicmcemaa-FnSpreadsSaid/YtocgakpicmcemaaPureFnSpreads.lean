/- How many numbers are laid to each place is told for each, all of them are laid, and four hundred numbers are laid to all of four places: for every draw. -/
import Derived.Test.YtocgakpicmcemaaQFnSpreadsx2
namespace Go.Proofs.Ytocgakpicmcemaa.Pure
open Go.RowKit Go.Proofs.Ytocgakpicmcemaa.PFnSpreads Go.Proofs.YtocgakpicmcemaaW.PrintWords Go.Proofs.YtocgakpicmcemaaW.PrintLast Go.Proofs.YtocgakpicmcemaaW.PrintMore
set_option linter.unusedVariables false
set_option linter.unusedSimpArgs false

/-! ### The drawn cursor: what its words come to -/
theorem and255 (n : Int) : 0 ≤ Go.bits .and .i64 n 255 ∧ Go.bits .and .i64 n 255 ≤ 255 := by
  have h255 : (BitVec.ofInt 64 255).toNat = 255 := by decide
  have key : (BitVec.ofInt 64 n &&& BitVec.ofInt 64 255).toNat ≤ 255 := by
    rw [BitVec.toNat_and, h255]
    exact Nat.and_le_right
  show 0 ≤ IntKind.i64.wrap ((BitVec.ofInt 64 n &&& BitVec.ofInt 64 255).toNat : Nat) ∧ IntKind.i64.wrap ((BitVec.ofInt 64 n &&& BitVec.ofInt 64 255).toNat : Nat) ≤ 255
  rw [IntKind.wrap_i64]
  omega

theorem byte_some (b : List Int) (i h : Int) (hb : b.length ≤ 140737488351232) (hi : 0 ≤ i) :
    ∃ r i' h', spec_l01Byte.f b i h = some (r, i', h') ∧ 0 ≤ r ∧ r ≤ 255 ∧ 0 ≤ i' := by
  unfold spec_l01Byte.f
  by_cases c : i < (b.length : Int)
  · rw [if_pos c, if_pos hi]
    exact ⟨_, _, _, rfl, (and255 _).1, (and255 _).2, by unfold wrap64; omega⟩
  · rw [if_neg c]
    exact ⟨_, _, _, rfl, (and255 _).1, (and255 _).2, hi⟩

theorem below_some (b : List Int) (i h n : Int) (hb : b.length ≤ 140737488351232) (hi : 0 ≤ i) :
    ∃ r i' h', spec_l01Below.f b i h n = some (r, i', h') ∧ 0 ≤ r ∧ (0 < n → r < n) ∧ 0 ≤ i' := by
  unfold spec_l01Below.f
  by_cases c : n ≤ 0
  · rw [if_pos c]
    exact ⟨0, i, h, rfl, by omega, by omega, hi⟩
  · rw [if_neg c]
    by_cases c2 : n ≤ 256
    · rw [if_pos c2]
      obtain ⟨r, i1, h1, e1, r0, r1, hi1⟩ := byte_some b i h hb hi
      rw [e1]
      simp only [Option.bind_some]
      rw [if_neg (by omega)]
      refine ⟨_, _, _, rfl, ?_, ?_, hi1⟩
      · rw [Int.tmod_eq_emod_of_nonneg r0]; exact Int.emod_nonneg _ (by omega)
      · intro _; rw [Int.tmod_eq_emod_of_nonneg r0]; exact Int.emod_lt_of_pos _ (by omega)
    · rw [if_neg c2]
      obtain ⟨x, i1, h1, e1, x0, x1, hi1⟩ := byte_some b i h hb hi
      obtain ⟨y, i2, h2, e2, y0, y1, hi2⟩ := byte_some b i1 h1 hb hi1
      obtain ⟨z, i3, h3, e3, z0, z1, hi3⟩ := byte_some b i2 h2 hb hi2
      obtain ⟨w, i4, h4, e4, w0, w1, hi4⟩ := byte_some b i3 h3 hb hi3
      rw [e1]; simp only [Option.bind_some]
      rw [e2]; simp only [Option.bind_some]
      rw [e3]; simp only [Option.bind_some]
      rw [e4]; simp only [Option.bind_some]
      rw [if_neg (by omega)]
      have e : wrap64 ((wrap64 ((wrap64 ((wrap64 (x * 16777216)) + (wrap64 (y * 65536)))) + (wrap64 (z * 256)))) + w) = x * 16777216 + y * 65536 + z * 256 + w := by
        unfold wrap64; omega
      rw [e]
      refine ⟨_, _, _, rfl, ?_, ?_, hi4⟩
      · rw [Int.tmod_eq_emod_of_nonneg (by omega)]; exact Int.emod_nonneg _ (by omega)
      · intro _; rw [Int.tmod_eq_emod_of_nonneg (by omega)]; exact Int.emod_lt_of_pos _ (by omega)

theorem new_loop (b : List Int) (hb : b.length ≤ 140737488351232) (d : Nat) : ∀ (h i : Int), 0 ≤ i → 4000 - i ≤ d →
    ∃ h', ∀ k, d < k → spec_l01New.l0 k b h i = some (b, 0, h') := by
  induction d with
  | zero =>
    intro h i h0 hd
    refine ⟨h, fun k hk => ?_⟩
    obtain ⟨k, rfl⟩ : ∃ m, k = m + 1 := ⟨k - 1, by omega⟩
    simp only [spec_l01New.l0]
    split
    · rw [if_neg (by omega)]
    · rfl
  | succ d ih =>
    intro h i h0 hd
    by_cases c : i < (b.length : Int)
    · by_cases c2 : i < 4000
      · have e : wrap64 (i + 1) = i + 1 := by unfold wrap64; omega
        obtain ⟨h', H⟩ := ih (Go.bits .and .i64 (wrap64 ((wrap64 ((wrap64 (h * 131)) + (wrap64 (rd b i)))) + 7)) 1073741823) (i + 1) (by omega) (by omega)
        refine ⟨h', fun k hk => ?_⟩
        obtain ⟨k, rfl⟩ : ∃ m, k = m + 1 := ⟨k - 1, by omega⟩
        simp only [spec_l01New.l0]
        rw [if_pos c, if_pos c2, if_pos h0, e]
        exact H k (by omega)
      · refine ⟨h, fun k hk => ?_⟩
        obtain ⟨k, rfl⟩ : ∃ m, k = m + 1 := ⟨k - 1, by omega⟩
        simp only [spec_l01New.l0]
        rw [if_pos c, if_neg c2]
    · refine ⟨h, fun k hk => ?_⟩
      obtain ⟨k, rfl⟩ : ∃ m, k = m + 1 := ⟨k - 1, by omega⟩
      simp only [spec_l01New.l0]
      rw [if_neg c]

theorem new_some (b : List Int) (hb : b.length ≤ 140737488351232) : ∃ h, ∀ k, 4000 < k → spec_l01New.f k b = some (b, 0, h) := by
  obtain ⟨h, H⟩ := new_loop b hb 4000 (wrap64 (14301 + (b.length : Int))) 0 (by omega) (by omega)
  exact ⟨h, fun k hk => by unfold spec_l01New.f; exact H k hk⟩
/-! ### Lists that are copied, compared, marked -/
theorem w64 (i : Nat) (h : (i : Int) < 9223372036854775807) : wrap64 ((i : Int) + 1) = ((i + 1 : Nat) : Int) := by unfold wrap64; omega
theorem set_take {α : Type} (x : List α) (i : Nat) (v : α) (h : i < x.length) : (x.set i v).take (i + 1) = x.take i ++ [v] := by
  rw [List.take_add_one, List.take_set_of_le (Nat.le_refl i), List.getElem?_set_self h]
  rfl
theorem take_next {α : Type} (x : List α) (i : Nat) (h : i < x.length) : x.take (i + 1) = x.take i ++ [x[i]] := by
  rw [List.take_add_one, List.getElem?_eq_getElem h]
  rfl
theorem rd_at (x : List Int) (i : Nat) (h : i < x.length) : rd x (i : Int) = x[i] := by
  unfold rd
  rw [List.getD_eq_getElem?_getD, Int.toNat_natCast, List.getElem?_eq_getElem h]
  rfl
theorem once_some (b : List Int) (i h n : Int) (hb : b.length ≤ 140737488351232) (hi : 0 ≤ i) :
    ∃ r i' h', spec_l01Once.f b i h n = some (r, i', h') ∧ 0 ≤ i' := by
  obtain ⟨r, i1, h1, e1, r0, r1, hi1⟩ := below_some b i h n hb hi
  unfold spec_l01Once.f
  rw [e1]; simp only [Option.bind_some]
  exact ⟨_, _, _, rfl, hi1⟩
theorem pickInt_some (b : List Int) (i h : Int) (l : List Int) (hl : 0 < l.length) (hb : b.length ≤ 140737488351232) (hi : 0 ≤ i) :
    ∃ r i' h', spec_l01PickInt.f b i h l = some (r, i', h') ∧ r ∈ l ∧ 0 ≤ i' := by
  obtain ⟨r, i1, h1, e1, r0, r1, hi1⟩ := below_some b i h (l.length : Int) hb hi
  unfold spec_l01PickInt.f
  rw [e1]; simp only [Option.bind_some]
  have hr := r1 (by omega)
  rw [if_pos r0, if_pos hr]
  refine ⟨_, _, _, rfl, ?_, hi1⟩
  unfold rd
  have : r.toNat < l.length := by omega
  rw [List.getD_eq_getElem?_getD, List.getElem?_eq_getElem this]
  exact List.getElem_mem this
theorem new_ev (b : List Int) (hb : b.length ≤ 140737488351232) : ∃ h, Ev (fun k => spec_l01New.f k b) (b, 0, h) := by
  obtain ⟨h, H⟩ := new_some b hb
  exact ⟨h, 4001, fun k hk => H k (by omega)⟩
theorem number_some (b : List Int) (i h : Int) (hb : b.length ≤ 140737488351232) (hi : 0 ≤ i) :
    ∃ r i' h', spec_l09Number.f b i h = some (r, i', h') ∧ 0 ≤ i' := by
  obtain ⟨r, i1, h1, e1, hi1⟩ := once_some b i h 6 hb hi
  unfold spec_l09Number.f
  rw [e1]; simp only [Option.bind_some]
  cases r with
  | true =>
    rw [if_pos rfl]
    obtain ⟨r2, i2, h2, e2, _, hi2⟩ := pickInt_some b i1 h1 [0, (-1), 1, 9223372036854775807, (-9223372036854775808)] (by simp) hb hi1
    rw [e2]; simp only [Option.bind_some]
    exact ⟨_, _, _, rfl, hi2⟩
  | false =>
    rw [if_neg (by simp)]
    obtain ⟨r2, i2, h2, e2, _, _, hi2⟩ := below_some b i1 h1 1000000000 hb hi1
    rw [e2]; simp only [Option.bind_some]
    exact ⟨_, _, _, rfl, hi2⟩
theorem drawNumbers_loop (b : List Int) (hb : b.length ≤ 140737488351232) (d : Nat) : ∀ (x : List Int) (i : Nat) (c h : Int), x.length = i → i + d = 20 → 0 ≤ c →
    ∃ l : List Int, Ev (fun k => spec_DrawNumbers.l0 k x (i : Int) b c h) l ∧ l.length ≤ 20 := by
  induction d with
  | zero =>
    intro x i c h hx hd hc
    obtain ⟨r, i1, h1, e1, r0, r1, hi1⟩ := below_some b c h 20 hb hc
    refine ⟨x, Ev.step (f := fun _ => some x) (fun k => ?_) (Ev.now _), by omega⟩
    simp only [spec_DrawNumbers.l0]
    rw [e1]; simp only [Option.bind_some]
    rw [if_neg (by have := r1 (by omega); omega)]
  | succ d ih =>
    intro x i c h hx hd hc
    obtain ⟨r, i1, h1, e1, r0, r1, hi1⟩ := below_some b c h 20 hb hc
    by_cases hlt : (i : Int) < r
    · obtain ⟨v, i2, h2, e2, hi2⟩ := number_some b i1 h1 hb hi1
      obtain ⟨l, hl, hn⟩ := ih (x ++ [v]) (i + 1) i2 h2 (by simp [hx]) (by omega) hi2
      refine ⟨l, Ev.step (fun k => ?_) hl, hn⟩
      simp only [spec_DrawNumbers.l0]
      rw [e1]; simp only [Option.bind_some]
      rw [if_pos hlt, e2]; simp only [Option.bind_some]
      rw [if_pos (by omega), w64 i (by omega)]
    · refine ⟨x, Ev.step (f := fun _ => some x) (fun k => ?_) (Ev.now _), by omega⟩
      simp only [spec_DrawNumbers.l0]
      rw [e1]; simp only [Option.bind_some]
      rw [if_neg hlt]
theorem drawNumbers_ev (b : List Int) (hb : b.length ≤ 140737488351232) : ∃ l : List Int, Ev (fun k => spec_DrawNumbers.f k b) l ∧ l.length ≤ 20 := by
  obtain ⟨h, hn⟩ := new_ev b hb
  obtain ⟨l, hl, hlen⟩ := drawNumbers_loop b hb 20 [] 0 0 h rfl rfl (by omega)
  refine ⟨l, ?_, hlen⟩
  unfold spec_DrawNumbers.f
  exact Ev.bind hn hl
theorem drawPlaces_loop (b : List Int) (hb : b.length ≤ 140737488351232) (d : Nat) : ∀ (x : List Int) (i : Nat) (c h : Int), x.length = i → i + d = 12 → 0 ≤ c → (∀ y ∈ x, 0 ≤ y ∧ y < 10000) →
    ∃ l : List Int, Ev (fun k => spec_DrawPlaces.l0 k x (i : Int) b c h) l ∧ l.length = 12 ∧ ∀ y ∈ l, 0 ≤ y ∧ y < 10000 := by
  induction d with
  | zero =>
    intro x i c h hx hd hc hy
    refine ⟨x, Ev.step (f := fun _ => some x) (fun k => ?_) (Ev.now _), by omega, hy⟩
    simp only [spec_DrawPlaces.l0]
    rw [if_neg (by omega)]
  | succ d ih =>
    intro x i c h hx hd hc hy
    obtain ⟨r, i1, h1, e1, r0, r1, hi1⟩ := below_some b c h 10000 hb hc
    obtain ⟨l, hl, hn, hm⟩ := ih (x ++ [r]) (i + 1) i1 h1 (by simp [hx]) (by omega) hi1 (by
      intro y hy'
      rcases List.mem_append.1 hy' with h' | h'
      · exact hy y h'
      · rw [List.mem_singleton.1 h']; exact ⟨r0, r1 (by omega)⟩)
    refine ⟨l, Ev.step (fun k => ?_) hl, hn, hm⟩
    simp only [spec_DrawPlaces.l0]
    rw [if_pos (by omega), e1]; simp only [Option.bind_some]
    rw [if_pos (by omega), w64 i (by omega)]
theorem drawPlaces_ev (b : List Int) (hb : b.length ≤ 140737488351232) : ∃ l : List Int, Ev (fun k => spec_DrawPlaces.f k b) l ∧ l.length = 12 ∧ ∀ y ∈ l, 0 ≤ y ∧ y < 10000 := by
  obtain ⟨h, hn⟩ := new_ev b hb
  obtain ⟨r, i1, h1, e1, _, _, hi1⟩ := byte_some b 0 h hb (by omega)
  obtain ⟨l, hl, hlen, hm⟩ := drawPlaces_loop b hb 12 [] 0 i1 h1 rfl rfl hi1 (fun y hy => by cases hy)
  refine ⟨l, ?_, hlen, hm⟩
  unfold spec_DrawPlaces.f
  refine Ev.bind hn ?_
  simp only [e1, Option.bind_some]
  exact hl
/-! ### Jump -/
theorem u64_wrap (n : Int) : IntKind.u64.wrap n = n % 18446744073709551616 := by simp [IntKind.wrap, IntKind.bits, IntKind.signed]

/-- The next number. -/
def nx (x : Int) : Int := IntKind.u64.wrap ((IntKind.u64.wrap (x * 2862933555777941757)) + 1)
theorem nx_lo (x : Int) : 0 ≤ nx x := by unfold nx; rw [u64_wrap]; omega
theorem nx_hi (x : Int) : nx x < 18446744073709551616 := by unfold nx; rw [u64_wrap]; omega
/-- What is divided by. -/
def dv (x : Int) : Int := nx x / 8589934592 + 1
theorem dv_lo (x : Int) : 1 ≤ dv x := by unfold dv; have := nx_lo x; omega
theorem dv_hi (x : Int) : dv x ≤ 2147483648 := by unfold dv; have := nx_hi x; omega
/-- The next place. -/
def nj (x j : Int) : Int := (j + 1) * 2147483648 / dv x
theorem nj_lo (x j : Int) (hj : 0 ≤ j) : j + 1 ≤ nj x j := by
  unfold nj
  have h1 := dv_lo x
  have h2 := dv_hi x
  rw [Int.le_ediv_iff_mul_le (by omega)]
  exact Int.mul_le_mul_of_nonneg_left h2 (by omega)
theorem nj_hi (x j : Int) (hj : 0 ≤ j) : nj x j ≤ (j + 1) * 2147483648 := by
  unfold nj
  have h1 := dv_lo x
  exact Int.ediv_le_self _ (by omega)

theorem impl_div (x : Int) : IntKind.u64.wrap ((nx x / 8589934592) + 1) = dv x := by
  have h0 := nx_lo x
  have h1 := nx_hi x
  rw [u64_wrap]
  unfold dv
  omega
theorem impl_j (x j : Int) (hj : 0 ≤ j) (hj2 : j ≤ 1000) :
    wrap64 (IntKind.u64.wrap (Int.tdiv (IntKind.u64.wrap ((IntKind.u64.wrap (wrap64 (j + 1))) * 2147483648)) (dv x))) = nj x j := by
  have e1 : wrap64 (j + 1) = j + 1 := by unfold wrap64; omega
  have e2 : IntKind.u64.wrap (j + 1) = j + 1 := by rw [u64_wrap]; omega
  have e3 : IntKind.u64.wrap ((j + 1) * 2147483648) = (j + 1) * 2147483648 := by rw [u64_wrap]; omega
  rw [e1, e2, e3, Int.tdiv_eq_ediv_of_nonneg (by omega)]
  have a := nj_lo x j hj
  have b := nj_hi x j hj
  show wrap64 (IntKind.u64.wrap (nj x j)) = nj x j
  rw [u64_wrap]
  unfold wrap64
  omega

theorem Ev_uniq {α : Type} {g : Nat → Option α} {a b : α} (h : Ev g a) (h' : Ev g b) : a = b := by
  obtain ⟨K, h⟩ := h
  obtain ⟨K', h'⟩ := h'
  have h1 := h (max K K') (by omega)
  rw [h' (max K K') (by omega)] at h1
  exact (Option.some.inj h1).symm
theorem impl_step (k : Nat) (n x b j : Int) (h0 : 0 ≤ j) (hn : n ≤ 1000) (hlt : j < n) : impl_Jump.l0 (k + 1) n x b j = impl_Jump.l0 k n (nx x) j (nj x j) := by
  have hd1 := dv_lo x
  simp only [impl_Jump.l0]
  rw [if_pos hlt]
  change (if IntKind.u64.wrap ((nx x / 8589934592) + 1) = 0 then none else impl_Jump.l0 k n (nx x) j (wrap64 (IntKind.u64.wrap (Int.tdiv (IntKind.u64.wrap ((IntKind.u64.wrap (wrap64 (j + 1))) * 2147483648)) (IntKind.u64.wrap ((nx x / 8589934592) + 1)))))) = _
  rw [impl_div, if_neg (by omega), impl_j x j h0 (by omega)]
theorem impl_stop (k : Nat) (n x b j : Int) (hlt : ¬ j < n) : impl_Jump.l0 (k + 1) n x b j = some b := by simp only [impl_Jump.l0]; rw [if_neg hlt]
/-- The loop ends, within. -/
theorem loops (n : Int) (hn : n ≤ 1000) (d : Nat) : ∀ (x b j : Int), 0 ≤ j → n - j ≤ d →
    ∃ r, Ev (fun k => impl_Jump.l0 k n x b j) r ∧ (j < n → 0 ≤ r ∧ r < n) ∧ (¬ j < n → r = b) := by
  induction d with
  | zero =>
    intro x b j h0 hd
    exact ⟨b, Ev.step (fun k => impl_stop k n x b j (by omega)) (Ev.now _), fun h => by omega, fun _ => rfl⟩
  | succ d ih =>
    intro x b j h0 hd
    by_cases hlt : j < n
    · have a := nj_lo x j h0
      obtain ⟨r, h2, h3, h4⟩ := ih (nx x) j (nj x j) (by omega) (by omega)
      refine ⟨r, Ev.step (fun k => impl_step k n x b j h0 hn hlt) h2, fun _ => ?_, fun h => absurd hlt h⟩
      by_cases c : nj x j < n
      · exact h3 c
      · rw [h4 c]; exact ⟨h0, hlt⟩
    · exact ⟨b, Ev.step (fun k => impl_stop k n x b j hlt) (Ev.now _), fun h => absurd h hlt, fun _ => rfl⟩
theorem jump_ev (a0 a1 : Int) : ∃ r, True ∧ Ev (fun k => impl_Jump.f k a0 a1) r ∧ 0 ≤ r ∧ (1 ≤ a1 → r < a1) ∧ (a1 ≤ 1 → r = 0) := by
  have hn : mx 1 (mn a1 1000) ≤ 1000 := by unfold mx mn; split <;> split <;> omega
  have hn1 : 1 ≤ mx 1 (mn a1 1000) := by unfold mx mn; split <;> split <;> omega
  have hn2 : 1 ≤ a1 → mx 1 (mn a1 1000) ≤ a1 := by intro h; unfold mx mn; split <;> split <;> omega
  have hn3 : a1 ≤ 1 → mx 1 (mn a1 1000) = 1 := by intro h; unfold mx mn; split <;> split <;> omega
  obtain ⟨r, h2, h3, _⟩ := loops (mx 1 (mn a1 1000)) hn 1000 (IntKind.u64.wrap a0) (-1) 0 (by omega) (by omega)
  obtain ⟨h3, h4⟩ := h3 (by omega)
  exact ⟨r, trivial, h2, h3, fun h => by have := hn2 h; omega, fun h => by have := hn3 h; omega⟩

theorem sum_set (x : List Int) : ∀ (t : Nat) (v : Int) (h : t < x.length), (x.set t v).sum = x.sum - x[t] + v := by
  induction x with
  | nil => intro t v h; simp at h
  | cons a x ih =>
    intro t v h
    cases t with
    | zero => simp; omega
    | succ t =>
      have ht : t < x.length := by simpa using h
      have := ih t v ht
      simp only [List.set_cons_succ, List.sum_cons, List.getElem_cons_succ, this]
      omega
theorem sum_ge (x : List Int) (h : ∀ y ∈ x, 0 ≤ y) : 0 ≤ x.sum := by
  induction x with
  | nil => simp
  | cons a x ih =>
    have := ih (fun y hy => h y (List.mem_cons_of_mem _ hy))
    have := h a List.mem_cons_self
    simp only [List.sum_cons]; omega
theorem sum_mem (x : List Int) (h : ∀ y ∈ x, 0 ≤ y) : ∀ y ∈ x, y ≤ x.sum := by
  induction x with
  | nil => intro y hy; cases hy
  | cons a x ih =>
    intro y hy
    have h1 := sum_ge x (fun y hy => h y (List.mem_cons_of_mem _ hy))
    have h2 := h a List.mem_cons_self
    simp only [List.sum_cons]
    rcases List.mem_cons.1 hy with rfl | hy
    · omega
    · have := ih (fun y hy => h y (List.mem_cons_of_mem _ hy)) y hy; omega
theorem sum_take (x : List Int) (h : ∀ y ∈ x, 0 ≤ y) (i : Nat) : 0 ≤ (x.take i).sum ∧ (x.take i).sum ≤ x.sum := by
  have e : x.sum = (x.take i).sum + (x.drop i).sum := by
    rw [← List.sum_append, List.take_append_drop]
  have h1 := sum_ge (x.take i) (fun y hy => h y (List.mem_of_mem_take hy))
  have h2 := sum_ge (x.drop i) (fun y hy => h y (List.mem_of_mem_drop hy))
  omega
theorem spreadSum_loop (l : List Int) (n : Int) (hn1 : 1 ≤ n) (hl : l.length ≤ 20) (d : Nat) : ∀ (out : List Int) (i : Nat), (out.length : Int) = n → (∀ y ∈ out, 0 ≤ y) → out.sum = (i : Int) → l.length = i + d →
    ∃ r : List Int, Ev (fun k => impl_Spread.l0 k n out l (l.length : Int) (i : Int)) r ∧ r.length = out.length ∧ (∀ y ∈ r, 0 ≤ y) ∧ r.sum = (l.length : Int) := by
  induction d with
  | zero =>
    intro out i ho h0 hs hd
    refine ⟨out, Ev.step (f := fun _ => some out) (fun k => ?_) (Ev.now _), rfl, h0, by omega⟩
    simp only [impl_Spread.l0]; rw [if_neg (by omega)]
  | succ d ih =>
    intro out i ho h0 hs hd
    obtain ⟨t, h1, h2, t0, t1, _⟩ := jump_ev (rd l (i : Int)) n
    have t2 := t1 hn1
    have ht : t.toNat < out.length := by omega
    have e : rd out t = out[t.toNat] := by
      have := rd_at out t.toNat ht
      rwa [Int.toNat_of_nonneg t0] at this
    have hm := h0 out[t.toNat] (List.getElem_mem ht)
    have hm2 := sum_mem out h0 out[t.toNat] (List.getElem_mem ht)
    have hw : wrap64 (rd out t + 1) = out[t.toNat] + 1 := by rw [e]; unfold wrap64; omega
    obtain ⟨r, e2, hr, hr0, hrs⟩ := ih (out.set t.toNat (out[t.toNat] + 1)) (i + 1) (by simpa using ho) (by
      intro y hy
      rcases List.mem_or_eq_of_mem_set hy with h | h
      · exact h0 y h
      · rw [h]; omega) (by rw [sum_set out t.toNat _ ht]; omega) (by omega)
    refine ⟨r, ?_, by simpa using hr, hr0, hrs⟩
    refine Ev.step (f := fun k => (impl_Jump.f k (rd l (i : Int)) n).bind fun t109 => (if 0 ≤ t109 then (if t109 < (out.length : Int) then (impl_Spread.l0 k n (out.set (t109 : Int).toNat (wrap64 ((rd out t109) + 1))) l (l.length : Int) (wrap64 ((i : Int) + 1))) else (none)) else (none))) (fun k => ?_) (Ev.bind h2 ?_)
    · simp only [impl_Spread.l0]; rw [if_pos (by omega), if_pos (by omega), if_pos (by omega)]
    · refine Ev.congr (fun k => ?_) e2
      rw [if_pos t0, if_pos (by omega), w64 i (by omega), hw]
theorem sum_zeros (n : Nat) : (List.replicate n (0 : Int)).sum = 0 := by
  induction n with
  | zero => rfl
  | succ n ih => rw [List.replicate_succ, List.sum_cons, ih]; rfl
theorem spreadSum_ev (l : List Int) (n : Int) (h1 : 1 ≤ n) (h2 : n ≤ 1000) (hl : l.length ≤ 20) :
    ∃ r : List Int, Ev (fun k => impl_Spread.f k l n) r ∧ (r.length : Int) = n ∧ (∀ y ∈ r, 0 ≤ y) ∧ r.sum = (l.length : Int) := by
  have e2 : impl_inRange.f n 1 1000 = some true := by unfold impl_inRange.f; rw [if_pos h1, decide_eq_true h2]
  obtain ⟨r, h, hr, h0, hs⟩ := spreadSum_loop l n h1 hl l.length (List.replicate n.toNat 0) 0 (by rw [List.length_replicate]; omega)
    (fun y hy => by rw [(List.mem_replicate.1 hy).2]; omega) (by rw [sum_zeros]; rfl) (by omega)
  refine ⟨r, ?_, by rw [hr, List.length_replicate]; omega, h0, hs⟩
  refine Ev.congr (fun k => ?_) h
  unfold impl_Spread.f
  rw [e2]; simp only [Option.bind_some, if_true]
  rw [if_pos (by omega), if_pos (by omega)]
  rfl
theorem spread_none (l : List Int) : Ev (fun k => impl_Spread.f k l 0) [] := by
  refine Ev.congr (fun k => ?_) (Ev.now _)
  unfold impl_Spread.f
  have e : impl_inRange.f 0 1 1000 = some false := by unfold impl_inRange.f; rw [if_neg (by omega)]
  rw [e]; rfl
/-- The many numbers. -/
def manyL (i : Nat) : List Int := (List.range i).map fun (j : Nat) => (j : Int) * 7919 + 1
/-- How many of them are laid to each of four places. -/
theorem many_four : ∃ a b c d : Int, impl_Spread.f 500 (manyL 400) 4 = some [a, b, c, d] ∧ 50 < a ∧ 50 < b ∧ 50 < c ∧ 50 < d := by
  have h : (match impl_Spread.f 500 (manyL 400) 4 with | some [a, b, c, d] => decide (50 < a) && decide (50 < b) && decide (50 < c) && decide (50 < d) | _ => false) = true := by decide +kernel
  revert h
  generalize impl_Spread.f 500 (manyL 400) 4 = o
  intro h
  match o, h with
  | some [a, b, c, d], h =>
    simp only [Bool.and_eq_true, decide_eq_true_eq] at h
    exact ⟨a, b, c, d, rfl, h.1.1.1, h.1.1.2, h.1.2, h.2⟩
theorem many_loop (l : List Int) (d : Nat) : ∀ (i : Nat), i + d = 400 → Ev (fun k => laws_FnSpreads.l1 k l (manyL i) (i : Int)) true := by
  induction d with
  | zero =>
    intro i hd
    obtain rfl : i = 400 := by omega
    obtain ⟨a, b, c, d, h, ha, hb, hc, hd⟩ := many_four
    have hs : Ev (fun k => impl_Spread.f k (manyL 400) 4) [a, b, c, d] := Ev.of (fun k => impl_Spread.mono _ _ k) h
    refine Ev.step (f := fun k => (impl_Spread.f k (manyL 400) 4).bind fun t197 => (if 0 < (t197.length : Int) then (if (rd t197 0) > 50 then (if 1 < (t197.length : Int) then (if (rd t197 1) > 50 then (if 2 < (t197.length : Int) then (if (rd t197 2) > 50 then (if 3 < (t197.length : Int) then (if (rd t197 3) > 50 then ((impl_Spread.f k l 0).bind fun t204 => (some ((t204.length : Int) == 0))) else (some false)) else (none)) else (some false)) else (none)) else (some false)) else (none)) else (some false)) else (none))) (fun k => ?_) ?_
    · simp only [laws_FnSpreads.l1]
      rw [if_neg (by omega)]
    · refine Ev.bind hs ?_
      have r0 : rd [a, b, c, d] 0 = a := rfl
      have r1 : rd [a, b, c, d] 1 = b := rfl
      have r2 : rd [a, b, c, d] 2 = c := rfl
      have r3 : rd [a, b, c, d] 3 = d := rfl
      simp only [List.length_cons, List.length_nil, r0, r1, r2, r3, if_pos (show a > 50 from ha), if_pos (show b > 50 from hb), if_pos (show c > 50 from hc), if_pos (show d > 50 from hd)]
      simp only [if_pos (show (0 : Int) < ((0 + 1 + 1 + 1 + 1 : Nat) : Int) by omega), if_pos (show (1 : Int) < ((0 + 1 + 1 + 1 + 1 : Nat) : Int) by omega), if_pos (show (2 : Int) < ((0 + 1 + 1 + 1 + 1 : Nat) : Int) by omega), if_pos (show (3 : Int) < ((0 + 1 + 1 + 1 + 1 : Nat) : Int) by omega)]
      exact Ev.bind (spread_none l) (Ev.now true)
  | succ d ih =>
    intro i hd
    refine Ev.step (f := fun k => laws_FnSpreads.l1 k l (manyL (i + 1)) ((i + 1 : Nat) : Int)) (fun k => ?_) (ih (i + 1) (by omega))
    have e : manyL (i + 1) = manyL i ++ [(i : Int) * 7919 + 1] := by simp [manyL, List.range_succ]
    have hw : wrap64 (wrap64 ((i : Int) * 7919) + 1) = (i : Int) * 7919 + 1 := by unfold wrap64; omega
    simp only [laws_FnSpreads.l1]
    rw [if_pos (by omega), if_pos (by simp [manyL]; omega), hw, w64 i (by omega), e]
theorem sums_loop (l r : List Int) (n : Int) (hl : l.length ≤ 20) (hn : (r.length : Int) = n) (hn2 : n ≤ 1000) (h0 : ∀ y ∈ r, 0 ≤ y) (hs : r.sum = (l.length : Int)) (d : Nat) : ∀ (i : Nat), r.length = i + d →
    Ev (fun k => laws_FnSpreads.l0 k l n r (r.take i).sum (i : Int)) true := by
  induction d with
  | zero =>
    intro i hd
    have e : (r.take i).sum = (l.length : Int) := by rw [List.take_of_length_le (by omega)]; exact hs
    refine Ev.step (f := fun k => laws_FnSpreads.j1 k l false) (fun k => ?_) (Ev.step (f := fun k => laws_FnSpreads.l1 k l [] 0) (fun k => ?_) (many_loop l 400 0 rfl))
    · simp only [laws_FnSpreads.l0]
      rw [if_neg (by omega), if_pos hn, e]
      simp
    · simp only [laws_FnSpreads.j1]
      rw [if_neg (by simp)]
  | succ d ih =>
    intro i hd
    have hi : i < r.length := by omega
    have e : (r.take (i + 1)).sum = (r.take i).sum + r[i] := by rw [take_next r i hi, List.sum_append]; simp
    have b1 := sum_take r h0 i
    have b2 := sum_take r h0 (i + 1)
    have hw : wrap64 ((r.take i).sum + rd r (i : Int)) = (r.take (i + 1)).sum := by rw [rd_at r i hi, e]; unfold wrap64; omega
    refine Ev.step (f := fun k => laws_FnSpreads.l0 k l n r (r.take (i + 1)).sum ((i + 1 : Nat) : Int)) (fun k => ?_) (ih (i + 1) (by omega))
    simp only [laws_FnSpreads.l0]
    rw [if_pos (by omega), if_pos (by omega), hw, w64 i (by omega)]

theorem FnSpreads : laws_FnSpreads.Pure := by
  intro b _ hb' _
  have hb : b.length ≤ 140737488351232 := by omega
  apply Ev.rounds (r := true) (g := fun k => laws_FnSpreads.f k b)
  unfold laws_FnSpreads.f laws_big.f
  simp only [Option.bind_some]
  by_cases hbig : (b.length : Int) > 1048576
  · simp only [decide_eq_true hbig, if_true]
    exact Ev.now true
  · simp only [decide_eq_false hbig, if_neg (show ¬ (false = true) by decide)]
    obtain ⟨l, e1, hl⟩ := drawNumbers_ev b hb
    obtain ⟨p, e2, hp, hm⟩ := drawPlaces_ev b hb
    refine Ev.bind e1 (Ev.bind e2 ?_)
    simp only [if_pos (show (0 : Int) < (p.length : Int) by omega)]
    have h0 : 0 ≤ rd p 0 ∧ rd p 0 < 10000 := by
      have : rd p ((0 : Nat) : Int) = p[0] := rd_at p 0 (by omega)
      rw [show (0 : Int) = ((0 : Nat) : Int) from rfl, this]
      exact hm _ (List.getElem_mem _)
    have hn : wrap64 (1 + (Int.tmod (rd p 0) 20)) = 1 + rd p 0 % 20 := by
      rw [Int.tmod_eq_emod_of_nonneg h0.1]; unfold wrap64; omega
    rw [hn]
    obtain ⟨r, e3, hr, hr0, hrs⟩ := spreadSum_ev l (1 + rd p 0 % 20) (by omega) (by omega) hl
    exact Ev.bind e3 (sums_loop l r _ hl hr (by omega) hr0 hrs r.length 0 (by omega))

end Go.Proofs.Ytocgakpicmcemaa.Pure
