/- Spread of the program and of the reference lay the same numbers to the same places, into new memory, for every list and every n. -/
import Derived.Test.YtocgakpicmcemaaPFnExactSpreadx2
namespace Go.Proofs.Ytocgakpicmcemaa.Pure
open Go.RowKit Go.Proofs.Ytocgakpicmcemaa.PFnExactSpread Go.Proofs.YtocgakpicmcemaaW.PrintWords Go.Proofs.YtocgakpicmcemaaW.PrintLast Go.Proofs.YtocgakpicmcemaaW.PrintMore
set_option linter.unusedVariables false
set_option linter.unusedSimpArgs false

/-! ### Lists that are copied, compared, marked -/
theorem w64 (i : Nat) (h : (i : Int) < 9223372036854775807) : wrap64 ((i : Int) + 1) = ((i + 1 : Nat) : Int) := by unfold wrap64; omega
theorem set_take {α : Type} (x : List α) (i : Nat) (v : α) (h : i < x.length) : (x.set i v).take (i + 1) = x.take i ++ [v] := by
  rw [List.take_add_one, List.take_set_of_le (Nat.le_refl i), List.getElem?_set_self h]
  rfl
theorem take_next {α : Type} (x : List α) (i : Nat) (h : i < x.length) : x.take (i + 1) = x.take i ++ [x[i]] := by
  rw [List.take_add_one, List.getElem?_eq_getElem h]
  rfl
theorem rd_at (x : List Int) (i : Nat) (h : i < x.length) : rd x (i : Int) = x[i] := by
  unfold rd
  rw [List.getD_eq_getElem?_getD, Int.toNat_natCast, List.getElem?_eq_getElem h]
  rfl
theorem toIntS_loop (l : List Int) (hl : l.length ≤ 35184372088832) (d : Nat) : ∀ (x : List Int) (i : Nat), x.length = l.length → x.take i = l.take i → l.length = i + d → Ev (fun k => laws_toIntS.l0 k l x (i : Int)) l := by
  induction d with
  | zero =>
    intro x i hx ht hd
    refine Ev.step (f := fun _ => some l) (fun k => ?_) (Ev.now _)
    have e : x = l := by rw [List.take_of_length_le (by omega), List.take_of_length_le (by omega)] at ht; exact ht
    simp only [laws_toIntS.l0]
    rw [if_neg (by omega), e]
  | succ d ih =>
    intro x i hx ht hd
    have hi : i < l.length := by omega
    refine Ev.step (f := fun k => laws_toIntS.l0 k l (x.set i l[i]) ((i + 1 : Nat) : Int)) (fun k => ?_) (ih (x.set i l[i]) (i + 1) (by simpa using hx) ?_ (by omega))
    · simp only [laws_toIntS.l0]
      rw [if_pos (by omega), if_pos (by omega), if_pos (by omega), w64 i (by omega), rd_at l i hi, Int.toNat_natCast]
    · rw [set_take x i _ (by omega), take_next l i hi, ht]
theorem toIntS_ev (l : List Int) (hl : l.length ≤ 35184372088832) : Ev (fun k => laws_toIntS.f k l) l := by
  refine Ev.congr (f := fun k => laws_toIntS.l0 k l (List.replicate l.length 0) ((0 : Nat) : Int)) (fun k => ?_) (toIntS_loop l hl l.length _ 0 (by simp) rfl (by omega))
  unfold laws_toIntS.f
  rw [if_pos (by omega), if_pos (by rw [Int.toNat_natCast]; exact hl), Int.toNat_natCast]
  rfl
theorem eqIntS_loop (a b : List Int) (hl : a.length ≤ 35184372088832) (hab : a = b) (d : Nat) : ∀ (i : Nat), a.length = i + d → Ev (fun k => laws_eqIntS.l0 k a b (i : Int)) true := by
  subst hab
  induction d with
  | zero =>
    intro i hd
    refine Ev.step (f := fun _ => some true) (fun k => ?_) (Ev.now _)
    simp only [laws_eqIntS.l0]
    rw [if_neg (by omega)]
  | succ d ih =>
    intro i hd
    refine Ev.step (f := fun k => laws_eqIntS.l0 k a a ((i + 1 : Nat) : Int)) (fun k => ?_) (ih (i + 1) (by omega))
    simp only [laws_eqIntS.l0]
    rw [if_pos (by omega), if_pos (by omega), if_pos (by omega), w64 i (by omega)]
    simp only [if_true]
theorem eqIntS_ev (a : List Int) (hl : a.length ≤ 35184372088832) : Ev (fun k => laws_eqIntS.f k a a) true := by
  refine Ev.congr (f := fun k => laws_eqIntS.l0 k a a ((0 : Nat) : Int)) (fun k => ?_) (eqIntS_loop a a hl rfl a.length 0 (by omega))
  unfold laws_eqIntS.f
  rw [if_pos rfl]
  rfl
/-- What stands behind the marking. -/
def markedI (l : List Int) (m : Int) : List Int := (List.range l.length).map fun (i : Nat) => m + (i : Int)
theorem markedI_len (l : List Int) (m : Int) : (markedI l m).length = l.length := by simp [markedI]
theorem markIntS_loop (n : Nat) (m : Int) (h0 : 0 ≤ m) (h1 : m + n < 9223372036854775807) (d : Nat) : ∀ (x : List Int) (i : Nat), x.length = n → (∀ j, j < i → x[j]? = some (m + (j : Int))) → n = i + d →
    Ev (fun k => laws_markIntS.l0 k x (m + (i : Int)) (i : Int)) (m + (n : Int), (List.range n).map fun (i : Nat) => m + (i : Int)) := by
  induction d with
  | zero =>
    intro x i hx ht hd
    refine Ev.step (f := fun _ => some (m + (n : Int), (List.range n).map fun (i : Nat) => m + (i : Int))) (fun k => ?_) (Ev.now _)
    have e : x = (List.range n).map fun (i : Nat) => m + (i : Int) := by
      apply List.ext_getElem?
      intro j
      by_cases hj : j < n
      · rw [ht j (by omega)]; simp [hj]
      · rw [List.getElem?_eq_none (by omega), List.getElem?_eq_none (by simp; omega)]
    simp only [laws_markIntS.l0]
    rw [if_neg (by omega), ← e]
    have : i = n := by omega
    subst this
    rfl
  | succ d ih =>
    intro x i hx ht hd
    refine Ev.step (f := fun k => laws_markIntS.l0 k (x.set i (m + (i : Int))) (m + ((i + 1 : Nat) : Int)) ((i + 1 : Nat) : Int)) (fun k => ?_) (ih (x.set i (m + (i : Int))) (i + 1) (by simpa using hx) ?_ (by omega))
    · have e : wrap64 (m + (i : Int) + 1) = m + ((i + 1 : Nat) : Int) := by unfold wrap64; omega
      simp only [laws_markIntS.l0]
      rw [if_pos (by omega), if_pos (by omega), w64 i (by omega), e, Int.toNat_natCast]
    · intro j hj
      by_cases c : j = i
      · subst c; rw [List.getElem?_set_self (by omega)]
      · rw [List.getElem?_set_ne (by omega)]; exact ht j (by omega)
theorem markIntS_ev (l : List Int) (m : Int) (h0 : 0 ≤ m) (h1 : m + l.length < 9223372036854775807) : Ev (fun k => laws_markIntS.f k l m) (m + (l.length : Int), markedI l m) := by
  refine Ev.congr (f := fun k => laws_markIntS.l0 k l (m + ((0 : Nat) : Int)) ((0 : Nat) : Int)) (fun k => ?_) (markIntS_loop l.length m h0 h1 l.length l 0 rfl (fun j hj => absurd hj (by omega)) (by omega))
  unfold laws_markIntS.f
  rw [show m + ((0 : Nat) : Int) = m by omega]
  rfl
theorem heldIntS_loop (l : List Int) (m : Int) (h0 : 0 ≤ m) (h1 : m + l.length < 9223372036854775807) (d : Nat) : ∀ (i : Nat), l.length = i + d →
    Ev (fun k => laws_heldIntS.l0 k (markedI l m) (m + (i : Int)) (i : Int)) (m + (l.length : Int)) := by
  induction d with
  | zero =>
    intro i hd
    refine Ev.step (f := fun _ => some (m + (l.length : Int))) (fun k => ?_) (Ev.now _)
    simp only [laws_heldIntS.l0, markedI_len]
    rw [if_neg (by omega)]
    have : i = l.length := by omega
    subst this
    rfl
  | succ d ih =>
    intro i hd
    refine Ev.step (f := fun k => laws_heldIntS.l0 k (markedI l m) (m + ((i + 1 : Nat) : Int)) ((i + 1 : Nat) : Int)) (fun k => ?_) (ih (i + 1) (by omega))
    have e : wrap64 (m + (i : Int) + 1) = m + ((i + 1 : Nat) : Int) := by unfold wrap64; omega
    have e2 : rd (markedI l m) (i : Int) = m + (i : Int) := by
      rw [rd_at _ i (by rw [markedI_len]; omega)]
      simp [markedI]
    simp only [laws_heldIntS.l0, markedI_len]
    rw [if_pos (by omega), if_pos (by omega), e2, if_pos rfl, w64 i (by omega), e]
theorem heldIntS_ev (l : List Int) (m : Int) (h0 : 0 ≤ m) (h1 : m + l.length < 9223372036854775807) : Ev (fun k => laws_heldIntS.f k (markedI l m) m) (m + (l.length : Int)) := by
  refine Ev.congr (f := fun k => laws_heldIntS.l0 k (markedI l m) (m + ((0 : Nat) : Int)) ((0 : Nat) : Int)) (fun k => ?_) (heldIntS_loop l m h0 h1 l.length 0 (by omega))
  unfold laws_heldIntS.f
  rw [show m + ((0 : Nat) : Int) = m by omega]
  rfl
/-! ### Jump -/
theorem u64_wrap (n : Int) : IntKind.u64.wrap n = n % 18446744073709551616 := by simp [IntKind.wrap, IntKind.bits, IntKind.signed]

/-- The next number. -/
def nx (x : Int) : Int := IntKind.u64.wrap ((IntKind.u64.wrap (x * 2862933555777941757)) + 1)
theorem nx_lo (x : Int) : 0 ≤ nx x := by unfold nx; rw [u64_wrap]; omega
theorem nx_hi (x : Int) : nx x < 18446744073709551616 := by unfold nx; rw [u64_wrap]; omega
/-- What is divided by. -/
def dv (x : Int) : Int := nx x / 8589934592 + 1
theorem dv_lo (x : Int) : 1 ≤ dv x := by unfold dv; have := nx_lo x; omega
theorem dv_hi (x : Int) : dv x ≤ 2147483648 := by unfold dv; have := nx_hi x; omega
/-- The next place. -/
def nj (x j : Int) : Int := (j + 1) * 2147483648 / dv x
theorem nj_lo (x j : Int) (hj : 0 ≤ j) : j + 1 ≤ nj x j := by
  unfold nj
  have h1 := dv_lo x
  have h2 := dv_hi x
  rw [Int.le_ediv_iff_mul_le (by omega)]
  exact Int.mul_le_mul_of_nonneg_left h2 (by omega)
theorem nj_hi (x j : Int) (hj : 0 ≤ j) : nj x j ≤ (j + 1) * 2147483648 := by
  unfold nj
  have h1 := dv_lo x
  exact Int.ediv_le_self _ (by omega)

theorem spec_div (x : Int) : wrap64 ((wrap64 (IntKind.u64.wrap (Int.tdiv (nx x) 8589934592))) + 1) = dv x := by
  have h0 := nx_lo x
  have h1 := nx_hi x
  rw [Int.tdiv_eq_ediv_of_nonneg h0, u64_wrap]
  unfold dv wrap64
  omega
theorem impl_div (x : Int) : IntKind.u64.wrap ((nx x / 8589934592) + 1) = dv x := by
  have h0 := nx_lo x
  have h1 := nx_hi x
  rw [u64_wrap]
  unfold dv
  omega
theorem spec_j (x j : Int) (hj : 0 ≤ j) (hj2 : j ≤ 1000) : wrap64 (Int.tdiv (wrap64 ((wrap64 (j + 1)) * 2147483648)) (dv x)) = nj x j := by
  have e1 : wrap64 (j + 1) = j + 1 := by unfold wrap64; omega
  have e2 : wrap64 ((j + 1) * 2147483648) = (j + 1) * 2147483648 := by unfold wrap64; omega
  rw [e1, e2, Int.tdiv_eq_ediv_of_nonneg (by omega)]
  have a := nj_lo x j hj
  have b := nj_hi x j hj
  show wrap64 (nj x j) = nj x j
  unfold wrap64
  omega
theorem impl_j (x j : Int) (hj : 0 ≤ j) (hj2 : j ≤ 1000) :
    wrap64 (IntKind.u64.wrap (Int.tdiv (IntKind.u64.wrap ((IntKind.u64.wrap (wrap64 (j + 1))) * 2147483648)) (dv x))) = nj x j := by
  have e1 : wrap64 (j + 1) = j + 1 := by unfold wrap64; omega
  have e2 : IntKind.u64.wrap (j + 1) = j + 1 := by rw [u64_wrap]; omega
  have e3 : IntKind.u64.wrap ((j + 1) * 2147483648) = (j + 1) * 2147483648 := by rw [u64_wrap]; omega
  rw [e1, e2, e3, Int.tdiv_eq_ediv_of_nonneg (by omega)]
  have a := nj_lo x j hj
  have b := nj_hi x j hj
  show wrap64 (IntKind.u64.wrap (nj x j)) = nj x j
  rw [u64_wrap]
  unfold wrap64
  omega

theorem Ev_uniq {α : Type} {g : Nat → Option α} {a b : α} (h : Ev g a) (h' : Ev g b) : a = b := by
  obtain ⟨K, h⟩ := h
  obtain ⟨K', h'⟩ := h'
  have h1 := h (max K K') (by omega)
  rw [h' (max K K') (by omega)] at h1
  exact (Option.some.inj h1).symm
theorem spec_step (k : Nat) (n x b j : Int) (h0 : 0 ≤ j) (hn : n ≤ 1000) (hlt : j < n) : spec_Jump.l0 (k + 1) n x b j = spec_Jump.l0 k n (nx x) j (nj x j) := by
  have hd1 := dv_lo x
  simp only [spec_Jump.l0]
  rw [if_pos hlt]
  change (if wrap64 ((wrap64 (IntKind.u64.wrap (Int.tdiv (nx x) 8589934592))) + 1) = 0 then none else spec_Jump.l0 k n (nx x) j (wrap64 (Int.tdiv (wrap64 ((wrap64 (j + 1)) * 2147483648)) (wrap64 ((wrap64 (IntKind.u64.wrap (Int.tdiv (nx x) 8589934592))) + 1))))) = _
  rw [spec_div, if_neg (by omega), spec_j x j h0 (by omega)]
theorem impl_step (k : Nat) (n x b j : Int) (h0 : 0 ≤ j) (hn : n ≤ 1000) (hlt : j < n) : impl_Jump.l0 (k + 1) n x b j = impl_Jump.l0 k n (nx x) j (nj x j) := by
  have hd1 := dv_lo x
  simp only [impl_Jump.l0]
  rw [if_pos hlt]
  change (if IntKind.u64.wrap ((nx x / 8589934592) + 1) = 0 then none else impl_Jump.l0 k n (nx x) j (wrap64 (IntKind.u64.wrap (Int.tdiv (IntKind.u64.wrap ((IntKind.u64.wrap (wrap64 (j + 1))) * 2147483648)) (IntKind.u64.wrap ((nx x / 8589934592) + 1)))))) = _
  rw [impl_div, if_neg (by omega), impl_j x j h0 (by omega)]
theorem spec_stop (k : Nat) (n x b j : Int) (hlt : ¬ j < n) : spec_Jump.l0 (k + 1) n x b j = some b := by simp only [spec_Jump.l0]; rw [if_neg hlt]
theorem impl_stop (k : Nat) (n x b j : Int) (hlt : ¬ j < n) : impl_Jump.l0 (k + 1) n x b j = some b := by simp only [impl_Jump.l0]; rw [if_neg hlt]
/-- Both loops come to one place. -/
theorem loops (n : Int) (hn : n ≤ 1000) (d : Nat) : ∀ (x b j : Int), 0 ≤ j → n - j ≤ d →
    ∃ r, Ev (fun k => spec_Jump.l0 k n x b j) r ∧ Ev (fun k => impl_Jump.l0 k n x b j) r ∧ (j < n → 0 ≤ r ∧ r < n) ∧ (¬ j < n → r = b) := by
  induction d with
  | zero =>
    intro x b j h0 hd
    exact ⟨b, Ev.step (fun k => spec_stop k n x b j (by omega)) (Ev.now _), Ev.step (fun k => impl_stop k n x b j (by omega)) (Ev.now _), fun h => by omega, fun _ => rfl⟩
  | succ d ih =>
    intro x b j h0 hd
    by_cases hlt : j < n
    · have a := nj_lo x j h0
      obtain ⟨r, h1, h2, h3, h4⟩ := ih (nx x) j (nj x j) (by omega) (by omega)
      refine ⟨r, Ev.step (fun k => spec_step k n x b j h0 hn hlt) h1, Ev.step (fun k => impl_step k n x b j h0 hn hlt) h2, fun _ => ?_, fun h => absurd hlt h⟩
      by_cases c : nj x j < n
      · exact h3 c
      · rw [h4 c]; exact ⟨h0, hlt⟩
    · exact ⟨b, Ev.step (fun k => spec_stop k n x b j hlt) (Ev.now _), Ev.step (fun k => impl_stop k n x b j hlt) (Ev.now _), fun h => absurd h hlt, fun _ => rfl⟩
theorem spec_enter (k : Nat) (a0 a1 : Int) : spec_Jump.f (k + 2) a0 a1 = spec_Jump.l0 k (mx 1 (mn a1 1000)) (IntKind.u64.wrap a0) (-1) 0 := by
  unfold spec_Jump.f
  by_cases c1 : a1 < 1
  · have e : mx 1 (mn a1 1000) = 1 := by unfold mx mn; split <;> split <;> omega
    rw [if_pos c1, e]
    simp only [spec_Jump.j0, spec_Jump.j1]
    rw [if_neg (by omega)]
  · rw [if_neg c1]
    simp only [spec_Jump.j0, spec_Jump.j1]
    by_cases c2 : a1 > 1000
    · have e : mx 1 (mn a1 1000) = 1000 := by unfold mx mn; split <;> split <;> omega
      rw [if_pos c2, e]
    · have e : mx 1 (mn a1 1000) = a1 := by unfold mx mn; split <;> split <;> omega
      rw [if_neg c2, e]
theorem jump_ev (a0 a1 : Int) : ∃ r, Ev (fun k => spec_Jump.f k a0 a1) r ∧ Ev (fun k => impl_Jump.f k a0 a1) r ∧ 0 ≤ r ∧ (1 ≤ a1 → r < a1) ∧ (a1 ≤ 1 → r = 0) := by
  have hn : mx 1 (mn a1 1000) ≤ 1000 := by unfold mx mn; split <;> split <;> omega
  have hn1 : 1 ≤ mx 1 (mn a1 1000) := by unfold mx mn; split <;> split <;> omega
  have hn2 : 1 ≤ a1 → mx 1 (mn a1 1000) ≤ a1 := by intro h; unfold mx mn; split <;> split <;> omega
  have hn3 : a1 ≤ 1 → mx 1 (mn a1 1000) = 1 := by intro h; unfold mx mn; split <;> split <;> omega
  obtain ⟨r, h1, h2, h3, _⟩ := loops (mx 1 (mn a1 1000)) hn 1000 (IntKind.u64.wrap a0) (-1) 0 (by omega) (by omega)
  obtain ⟨h3, h4⟩ := h3 (by omega)
  exact ⟨r, Ev.step (fun k => rfl) (Ev.step (fun k => spec_enter k a0 a1) h1), h2, h3, fun h => by have := hn2 h; omega, fun h => by have := hn3 h; omega⟩

theorem rd_any (x : List Int) (i : Nat) : rd x (i : Int) = x.getD i 0 := by unfold rd; rw [Int.toNat_natCast]
theorem spread_loop (l : List Int) (n : Int) (hn1 : 1 ≤ n) (hl : l.length ≤ 35184372088832) (d : Nat) : ∀ (out : List Int) (i : Nat), (out.length : Int) = n → l.length = i + d →
    ∃ r : List Int, Ev (fun k => spec_Spread.l0 k l n out (i : Int)) r ∧ Ev (fun k => impl_Spread.l0 k n out l (l.length : Int) (i : Int)) r ∧ r.length = out.length := by
  induction d with
  | zero =>
    intro out i ho hd
    refine ⟨out, Ev.step (f := fun _ => some out) (fun k => ?_) (Ev.now _), Ev.step (f := fun _ => some out) (fun k => ?_) (Ev.now _), rfl⟩
    · simp only [spec_Spread.l0]; rw [if_neg (by omega)]
    · simp only [impl_Spread.l0]; rw [if_neg (by omega)]
  | succ d ih =>
    intro out i ho hd
    obtain ⟨t, h1, h2, t0, t1, _⟩ := jump_ev (rd l (i : Int)) n
    have t2 := t1 hn1
    obtain ⟨r, e1, e2, hr⟩ := ih (out.set t.toNat (wrap64 ((rd out t) + 1))) (i + 1) (by simpa using ho) (by omega)
    refine ⟨r, ?_, ?_, by simpa using hr⟩
    · refine Ev.step (f := fun k => (spec_Jump.f k (rd l (i : Int)) n).bind fun t109 => (if 0 ≤ t109 then (if t109 < (out.length : Int) then (spec_Spread.l0 k l n (out.set (t109 : Int).toNat (wrap64 ((rd out t109) + 1))) (wrap64 ((i : Int) + 1))) else (none)) else (none))) (fun k => ?_) (Ev.bind h1 ?_)
      · simp only [spec_Spread.l0]; rw [if_pos (by omega), if_pos (by omega)]
      · refine Ev.congr (fun k => ?_) e1
        rw [if_pos t0, if_pos (by omega), w64 i (by omega)]
    · refine Ev.step (f := fun k => (impl_Jump.f k (rd l (i : Int)) n).bind fun t109 => (if 0 ≤ t109 then (if t109 < (out.length : Int) then (impl_Spread.l0 k n (out.set (t109 : Int).toNat (wrap64 ((rd out t109) + 1))) l (l.length : Int) (wrap64 ((i : Int) + 1))) else (none)) else (none))) (fun k => ?_) (Ev.bind h2 ?_)
      · simp only [impl_Spread.l0]; rw [if_pos (by omega), if_pos (by omega), if_pos (by omega)]
      · refine Ev.congr (fun k => ?_) e2
        rw [if_pos t0, if_pos (by omega), w64 i (by omega)]
theorem spread_ev (l : List Int) (n : Int) (hl : l.length ≤ 1048576) : ∃ r : List Int, Ev (fun k => spec_Spread.f k l n) r ∧ Ev (fun k => impl_Spread.f k l n) r ∧ r.length ≤ 1000 := by
  by_cases c : 1 ≤ n ∧ n ≤ 1000
  · have e1 : spec_l01In.f n 1 1000 = some true := by unfold spec_l01In.f; rw [if_pos c.1, decide_eq_true c.2]
    have e2 : impl_inRange.f n 1 1000 = some true := by unfold impl_inRange.f; rw [if_pos c.1, decide_eq_true c.2]
    obtain ⟨r, h1, h2, hr⟩ := spread_loop l n c.1 (by omega) l.length (List.replicate n.toNat 0) 0 (by rw [List.length_replicate]; omega) (by omega)
    refine ⟨r, ?_, ?_, by rw [hr, List.length_replicate]; omega⟩
    · refine Ev.congr (fun k => ?_) h1
      unfold spec_Spread.f
      rw [e1]; simp only [Option.bind_some, if_true]
      rw [if_pos (by omega), if_pos (by omega)]
      rfl
    · refine Ev.congr (fun k => ?_) h2
      unfold impl_Spread.f
      rw [e2]; simp only [Option.bind_some, if_true]
      rw [if_pos (by omega), if_pos (by omega)]
      rfl
  · have e1 : spec_l01In.f n 1 1000 = some false := by
      unfold spec_l01In.f
      by_cases c1 : n ≥ 1
      · rw [if_pos c1, decide_eq_false (by omega)]
      · rw [if_neg c1]
    have e2 : impl_inRange.f n 1 1000 = some false := e1
    refine ⟨[], ?_, ?_, by simp⟩
    · refine Ev.congr (fun k => ?_) (Ev.now _)
      unfold spec_Spread.f
      rw [e1]; rfl
    · refine Ev.congr (fun k => ?_) (Ev.now _)
      unfold impl_Spread.f
      rw [e2]; rfl

theorem FnExactSpread : laws_FnExactSpread.Pure := by
  intro l n _ _ _ _
  apply Ev.rounds (r := true) (g := fun k => laws_FnExactSpread.f k l n)
  by_cases hbig : (l.length : Int) > 1048576
  · exact Ev.congr (fun k => by unfold laws_FnExactSpread.f; rw [if_pos hbig]) (Ev.now true)
  · have hl : l.length ≤ 1048576 := by omega
    obtain ⟨r, h1, h2, hr⟩ := spread_ev l n hl
    have hto := toIntS_ev l (by omega)
    unfold laws_FnExactSpread.f
    simp only [if_neg hbig]
    refine Ev.bind hto (Ev.bind h1 (Ev.bind hto (Ev.bind h2 (Ev.bind (eqIntS_ev r (by omega)) ?_))))
    simp only [if_true]
    refine Ev.bind hto (Ev.bind (eqIntS_ev l (by omega)) ?_)
    simp only [if_true]
    refine Ev.bind (markIntS_ev l 1 (by omega) (by omega)) ?_
    simp only [if_neg (show ¬ (1 + (l.length : Int) < 0) by omega)]
    refine Ev.bind (eqIntS_ev r (by omega)) ?_
    simp only [Bool.not_true]
    refine Ev.step (f := fun k => (laws_markIntS.f k r 1).bind fun bt149 => ((laws_heldIntS.f k bt149.2 1).bind fun t151 => (if t151 < 0 then (some false) else (if t151 = bt149.1 then ((laws_toIntS.f k l).bind fun t152 => ((impl_Spread.f k t152 n).bind fun t155 => ((laws_eqIntS.f k t155 r).bind fun t158 => (if t158 = true then ((laws_heldIntS.f k bt149.2 1).bind fun t159 => (if t159 < 0 then (some false) else (if t159 = bt149.1 then (some true) else (some false)))) else (some false))))) else (some false))))) (fun k => ?_) ?_
    · simp only [laws_FnExactSpread.j0]
      rw [if_neg (by simp)]
    refine Ev.bind (markIntS_ev r 1 (by omega) (by omega)) (Ev.bind (heldIntS_ev r 1 (by omega) (by omega)) ?_)
    simp only [if_neg (show ¬ (1 + (r.length : Int) < 0) by omega), if_true]
    refine Ev.bind hto (Ev.bind h2 (Ev.bind (eqIntS_ev r (by omega)) ?_))
    simp only [if_true]
    refine Ev.bind (heldIntS_ev r 1 (by omega) (by omega)) ?_
    simp only [if_neg (show ¬ (1 + (r.length : Int) < 0) by omega), if_true]
    exact Ev.now true

end Go.Proofs.Ytocgakpicmcemaa.Pure
