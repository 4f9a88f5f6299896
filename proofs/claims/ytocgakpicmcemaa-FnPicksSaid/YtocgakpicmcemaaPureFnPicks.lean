/- What is picked of drawn promises is the value that was taken by the greatest ballot, or the own one where there is none, as the reference picks it: for every draw. -/
import Derived.Test.YtocgakpicmcemaaQFnPicksx3
namespace Go.Proofs.Ytocgakpicmcemaa.Pure
open Go.RowKit Go.Proofs.Ytocgakpicmcemaa.PFnPicks Go.Proofs.YtocgakpicmcemaaW.PrintWords Go.Proofs.YtocgakpicmcemaaW.PrintLast Go.Proofs.YtocgakpicmcemaaW.PrintMore
set_option linter.unusedVariables false
set_option linter.unusedSimpArgs false

/-! ### The drawn cursor: what its words come to -/
theorem and255 (n : Int) : 0 ≤ Go.bits .and .i64 n 255 ∧ Go.bits .and .i64 n 255 ≤ 255 := by
  have h255 : (BitVec.ofInt 64 255).toNat = 255 := by decide
  have key : (BitVec.ofInt 64 n &&& BitVec.ofInt 64 255).toNat ≤ 255 := by
    rw [BitVec.toNat_and, h255]
    exact Nat.and_le_right
  show 0 ≤ IntKind.i64.wrap ((BitVec.ofInt 64 n &&& BitVec.ofInt 64 255).toNat : Nat) ∧ IntKind.i64.wrap ((BitVec.ofInt 64 n &&& BitVec.ofInt 64 255).toNat : Nat) ≤ 255
  rw [IntKind.wrap_i64]
  omega

theorem byte_some (b : List Int) (i h : Int) (hb : b.length ≤ 140737488351232) (hi : 0 ≤ i) :
    ∃ r i' h', spec_l01Byte.f b i h = some (r, i', h') ∧ 0 ≤ r ∧ r ≤ 255 ∧ 0 ≤ i' := by
  unfold spec_l01Byte.f
  by_cases c : i < (b.length : Int)
  · rw [if_pos c, if_pos hi]
    exact ⟨_, _, _, rfl, (and255 _).1, (and255 _).2, by unfold wrap64; omega⟩
  · rw [if_neg c]
    exact ⟨_, _, _, rfl, (and255 _).1, (and255 _).2, hi⟩

theorem below_some (b : List Int) (i h n : Int) (hb : b.length ≤ 140737488351232) (hi : 0 ≤ i) :
    ∃ r i' h', spec_l01Below.f b i h n = some (r, i', h') ∧ 0 ≤ r ∧ (0 < n → r < n) ∧ 0 ≤ i' := by
  unfold spec_l01Below.f
  by_cases c : n ≤ 0
  · rw [if_pos c]
    exact ⟨0, i, h, rfl, by omega, by omega, hi⟩
  · rw [if_neg c]
    by_cases c2 : n ≤ 256
    · rw [if_pos c2]
      obtain ⟨r, i1, h1, e1, r0, r1, hi1⟩ := byte_some b i h hb hi
      rw [e1]
      simp only [Option.bind_some]
      rw [if_neg (by omega)]
      refine ⟨_, _, _, rfl, ?_, ?_, hi1⟩
      · rw [Int.tmod_eq_emod_of_nonneg r0]; exact Int.emod_nonneg _ (by omega)
      · intro _; rw [Int.tmod_eq_emod_of_nonneg r0]; exact Int.emod_lt_of_pos _ (by omega)
    · rw [if_neg c2]
      obtain ⟨x, i1, h1, e1, x0, x1, hi1⟩ := byte_some b i h hb hi
      obtain ⟨y, i2, h2, e2, y0, y1, hi2⟩ := byte_some b i1 h1 hb hi1
      obtain ⟨z, i3, h3, e3, z0, z1, hi3⟩ := byte_some b i2 h2 hb hi2
      obtain ⟨w, i4, h4, e4, w0, w1, hi4⟩ := byte_some b i3 h3 hb hi3
      rw [e1]; simp only [Option.bind_some]
      rw [e2]; simp only [Option.bind_some]
      rw [e3]; simp only [Option.bind_some]
      rw [e4]; simp only [Option.bind_some]
      rw [if_neg (by omega)]
      have e : wrap64 ((wrap64 ((wrap64 ((wrap64 (x * 16777216)) + (wrap64 (y * 65536)))) + (wrap64 (z * 256)))) + w) = x * 16777216 + y * 65536 + z * 256 + w := by
        unfold wrap64; omega
      rw [e]
      refine ⟨_, _, _, rfl, ?_, ?_, hi4⟩
      · rw [Int.tmod_eq_emod_of_nonneg (by omega)]; exact Int.emod_nonneg _ (by omega)
      · intro _; rw [Int.tmod_eq_emod_of_nonneg (by omega)]; exact Int.emod_lt_of_pos _ (by omega)

theorem new_loop (b : List Int) (hb : b.length ≤ 140737488351232) (d : Nat) : ∀ (h i : Int), 0 ≤ i → 4000 - i ≤ d →
    ∃ h', ∀ k, d < k → spec_l01New.l0 k b h i = some (b, 0, h') := by
  induction d with
  | zero =>
    intro h i h0 hd
    refine ⟨h, fun k hk => ?_⟩
    obtain ⟨k, rfl⟩ : ∃ m, k = m + 1 := ⟨k - 1, by omega⟩
    simp only [spec_l01New.l0]
    split
    · rw [if_neg (by omega)]
    · rfl
  | succ d ih =>
    intro h i h0 hd
    by_cases c : i < (b.length : Int)
    · by_cases c2 : i < 4000
      · have e : wrap64 (i + 1) = i + 1 := by unfold wrap64; omega
        obtain ⟨h', H⟩ := ih (Go.bits .and .i64 (wrap64 ((wrap64 ((wrap64 (h * 131)) + (wrap64 (rd b i)))) + 7)) 1073741823) (i + 1) (by omega) (by omega)
        refine ⟨h', fun k hk => ?_⟩
        obtain ⟨k, rfl⟩ : ∃ m, k = m + 1 := ⟨k - 1, by omega⟩
        simp only [spec_l01New.l0]
        rw [if_pos c, if_pos c2, if_pos h0, e]
        exact H k (by omega)
      · refine ⟨h, fun k hk => ?_⟩
        obtain ⟨k, rfl⟩ : ∃ m, k = m + 1 := ⟨k - 1, by omega⟩
        simp only [spec_l01New.l0]
        rw [if_pos c, if_neg c2]
    · refine ⟨h, fun k hk => ?_⟩
      obtain ⟨k, rfl⟩ : ∃ m, k = m + 1 := ⟨k - 1, by omega⟩
      simp only [spec_l01New.l0]
      rw [if_neg c]

theorem new_some (b : List Int) (hb : b.length ≤ 140737488351232) : ∃ h, ∀ k, 4000 < k → spec_l01New.f k b = some (b, 0, h) := by
  obtain ⟨h, H⟩ := new_loop b hb 4000 (wrap64 (14301 + (b.length : Int))) 0 (by omega) (by omega)
  exact ⟨h, fun k hk => by unfold spec_l01New.f; exact H k hk⟩
/-! ### Lists that are copied, compared, marked -/
theorem w64 (i : Nat) (h : (i : Int) < 9223372036854775807) : wrap64 ((i : Int) + 1) = ((i + 1 : Nat) : Int) := by unfold wrap64; omega
theorem set_take {α : Type} (x : List α) (i : Nat) (v : α) (h : i < x.length) : (x.set i v).take (i + 1) = x.take i ++ [v] := by
  rw [List.take_add_one, List.take_set_of_le (Nat.le_refl i), List.getElem?_set_self h]
  rfl
theorem take_next {α : Type} (x : List α) (i : Nat) (h : i < x.length) : x.take (i + 1) = x.take i ++ [x[i]] := by
  rw [List.take_add_one, List.getElem?_eq_getElem h]
  rfl
theorem rd_at (x : List Int) (i : Nat) (h : i < x.length) : rd x (i : Int) = x[i] := by
  unfold rd
  rw [List.getD_eq_getElem?_getD, Int.toNat_natCast, List.getElem?_eq_getElem h]
  rfl
theorem once_some (b : List Int) (i h n : Int) (hb : b.length ≤ 140737488351232) (hi : 0 ≤ i) :
    ∃ r i' h', spec_l01Once.f b i h n = some (r, i', h') ∧ 0 ≤ i' := by
  obtain ⟨r, i1, h1, e1, r0, r1, hi1⟩ := below_some b i h n hb hi
  unfold spec_l01Once.f
  rw [e1]; simp only [Option.bind_some]
  exact ⟨_, _, _, rfl, hi1⟩
theorem pickInt_some (b : List Int) (i h : Int) (l : List Int) (hl : 0 < l.length) (hb : b.length ≤ 140737488351232) (hi : 0 ≤ i) :
    ∃ r i' h', spec_l01PickInt.f b i h l = some (r, i', h') ∧ r ∈ l ∧ 0 ≤ i' := by
  obtain ⟨r, i1, h1, e1, r0, r1, hi1⟩ := below_some b i h (l.length : Int) hb hi
  unfold spec_l01PickInt.f
  rw [e1]; simp only [Option.bind_some]
  have hr := r1 (by omega)
  rw [if_pos r0, if_pos hr]
  refine ⟨_, _, _, rfl, ?_, hi1⟩
  unfold rd
  have : r.toNat < l.length := by omega
  rw [List.getD_eq_getElem?_getD, List.getElem?_eq_getElem this]
  exact List.getElem_mem this
theorem new_ev (b : List Int) (hb : b.length ≤ 140737488351232) : ∃ h, Ev (fun k => spec_l01New.f k b) (b, 0, h) := by
  obtain ⟨h, H⟩ := new_some b hb
  exact ⟨h, 4001, fun k hk => H k (by omega)⟩
theorem pick_some (b : List Int) (i h : Int) (l : List ByteArray) (hl : 0 < l.length) (hb : b.length ≤ 140737488351232) (hi : 0 ≤ i) :
    ∃ r i' h', spec_l01Pick.f b i h l = some (r, i', h') ∧ r ∈ l ∧ 0 ≤ i' := by
  obtain ⟨r, i1, h1, e1, r0, r1, hi1⟩ := below_some b i h (l.length : Int) hb hi
  unfold spec_l01Pick.f
  rw [e1]; simp only [Option.bind_some]
  have hr := r1 (by omega)
  rw [if_pos r0, if_pos hr]
  refine ⟨_, _, _, rfl, ?_, hi1⟩
  unfold rdOf
  have : r.toNat < l.length := by omega
  rw [List.getD_eq_getElem?_getD, List.getElem?_eq_getElem this]
  exact List.getElem_mem this

theorem value_some (b : List Int) (i h : Int) (hb : b.length ≤ 140737488351232) (hi : 0 ≤ i) : ∃ r i' h', spec_l11Value.f b i h = some (r, i', h') ∧ 0 ≤ i' := by
  obtain ⟨r, i1, h1, e1, _, hi1⟩ := pick_some b i h [(⟨#[120]⟩ : ByteArray), (⟨#[121]⟩ : ByteArray), (⟨#[122]⟩ : ByteArray), (⟨#[49, 44, 50]⟩ : ByteArray), (⟨#[50, 44, 51]⟩ : ByteArray)] (by simp) hb hi
  unfold spec_l11Value.f
  rw [e1]
  exact ⟨r, i1, h1, rfl, hi1⟩
theorem long_loop (n x : Int) (hn : n ≤ 100) (d : Nat) : ∀ (l : List Int) (i : Nat), (l.length : Int) = n → n = i + d → ∃ s, Ev (fun k => spec_l01Long.l0 k n x l (i : Int)) s := by
  induction d with
  | zero =>
    intro l i hl hd
    refine ⟨_, Ev.step (f := fun _ => some (strOfNums l)) (fun k => ?_) (Ev.now _)⟩
    simp only [spec_l01Long.l0]; rw [if_neg (by omega)]
  | succ d ih =>
    intro l i hl hd
    obtain ⟨s, hs⟩ := ih (l.set i x) (i + 1) (by simpa using hl) (by omega)
    refine ⟨s, Ev.step (fun k => ?_) hs⟩
    simp only [spec_l01Long.l0]
    rw [if_pos (by omega), if_pos (by omega), if_pos (by omega), w64 i (by omega), Int.toNat_natCast]
theorem long_ev (n x : Int) (h0 : 0 ≤ n) (hn : n ≤ 100) : ∃ s, Ev (fun k => spec_l01Long.f k n x) s := by
  obtain ⟨s, hs⟩ := long_loop n x hn n.toNat (List.replicate n.toNat 0) 0 (by rw [List.length_replicate]; omega) (by omega)
  refine ⟨s, Ev.congr (fun k => ?_) hs⟩
  unfold spec_l01Long.f
  rw [if_pos h0, if_pos (by omega)]
  rfl
theorem note2_ev (b : List Int) (c h a0 a1 a2 a3 a4 : Int) (a5 : ByteArray) (hb : b.length ≤ 140737488351232) (hc : 0 ≤ c) :
    ∃ k0 k1 k2 k3 k4 v i' h', Ev (fun k => spec_l11Note.j2 k b c h a0 a1 a2 a3 a4 a5) (k0, k1, k2, k3, k4, v, i', h') ∧ 0 ≤ i' := by
  obtain ⟨r, i1, h1, e1, r0, r1, hi1⟩ := below_some b c h 20 hb hc
  by_cases c0 : r = 0
  · obtain ⟨r2, i2, h2, e2, _, hi2⟩ := pickInt_some b i1 h1 [0, 5] (by simp) hb hi1
    refine ⟨_, _, _, _, _, _, _, _, Ev.step (f := fun _ => some (r2, a1, a2, a3, a4, a5, i2, h2)) (fun k => ?_) (Ev.now _), hi2⟩
    simp only [spec_l11Note.j2]
    rw [e1]; simp only [Option.bind_some]
    rw [if_pos c0, e2]; rfl
  · by_cases c1 : r = 1
    · obtain ⟨r2, i2, h2, e2, _, hi2⟩ := pickInt_some b i1 h1 [0, (-1), 10000, 10001] (by simp) hb hi1
      refine ⟨_, _, _, _, _, _, _, _, Ev.step (f := fun _ => some (a0, a1, a2, r2, a4, a5, i2, h2)) (fun k => ?_) (Ev.now _), hi2⟩
      simp only [spec_l11Note.j2]
      rw [e1]; simp only [Option.bind_some]
      rw [if_neg c0, if_pos c1, e2]; rfl
    · by_cases c2 : r = 2
      · obtain ⟨r2, i2, h2, e2, q0, q1, hi2⟩ := below_some b i1 h1 2 hb hi1
        have := q1 (by omega)
        obtain ⟨s, hs⟩ := long_ev (wrap64 (40 + r2)) 65 (by unfold wrap64; omega) (by unfold wrap64; omega)
        refine ⟨_, _, _, _, _, _, _, _, Ev.step (f := fun k => (spec_l01Long.f k (wrap64 (40 + r2)) 65).bind fun t191 => (some (a0, a1, a2, a3, a4, t191, i2, h2))) (fun k => ?_) (Ev.bind hs (Ev.now _)), hi2⟩
        simp only [spec_l11Note.j2]
        rw [e1]; simp only [Option.bind_some]
        rw [if_neg c0, if_neg c1, if_pos c2, e2]; rfl
      · refine ⟨_, _, _, _, _, _, _, _, Ev.step (f := fun _ => some (a0, a1, a2, a3, a4, a5, i1, h1)) (fun k => ?_) (Ev.now _), hi1⟩
        simp only [spec_l11Note.j2]
        rw [e1]; simp only [Option.bind_some]
        rw [if_neg c0, if_neg c1, if_neg c2]
theorem note1_ev (b : List Int) (t : Bool) (c h a0 a1 a2 a3 a4 : Int) (a5 : ByteArray) (hb : b.length ≤ 140737488351232) (hc : 0 ≤ c) :
    ∃ k0 k1 k2 k3 k4 v i' h', Ev (fun k => spec_l11Note.j1 k t b c h a0 a1 a2 a3 a4 a5) (k0, k1, k2, k3, k4, v, i', h') ∧ 0 ≤ i' := by
  cases t with
  | true =>
    obtain ⟨r, i1, h1, e1, r0, r1, hi1⟩ := below_some b c h 20 hb hc
    obtain ⟨v, i2, h2, e2, hi2⟩ := value_some b i1 h1 hb hi1
    obtain ⟨k0, k1, k2, k3, k4, v', i', h', he, hi'⟩ := note2_ev b i2 h2 a0 a1 a2 a3 (wrap64 (1 + r)) v hb hi2
    refine ⟨k0, k1, k2, k3, k4, v', i', h', Ev.step (fun k => ?_) he, hi'⟩
    simp only [spec_l11Note.j1, if_true]
    rw [e1]; simp only [Option.bind_some]
    rw [e2]; rfl
  | false =>
    obtain ⟨k0, k1, k2, k3, k4, v', i', h', he, hi'⟩ := note2_ev b c h a0 a1 a2 a3 a4 a5 hb hc
    refine ⟨k0, k1, k2, k3, k4, v', i', h', Ev.step (fun k => ?_) he, hi'⟩
    simp only [spec_l11Note.j1]
    rw [if_neg (by simp)]
theorem note0_ev (b : List Int) (c h a0 a1 a2 a3 a4 : Int) (a5 : ByteArray) (hb : b.length ≤ 140737488351232) (hc : 0 ≤ c) :
    ∃ k0 k1 k2 k3 k4 v i' h', Ev (fun k => spec_l11Note.j0 k b c h a0 a1 a2 a3 a4 a5) (k0, k1, k2, k3, k4, v, i', h') ∧ 0 ≤ i' := by
  by_cases c2 : a0 = 2
  · obtain ⟨r, i1, h1, e1, hi1⟩ := once_some b c h 2 hb hc
    obtain ⟨k0, k1, k2, k3, k4, v', i', h', he, hi'⟩ := note1_ev b r i1 h1 a0 a1 a2 a3 a4 a5 hb hi1
    refine ⟨k0, k1, k2, k3, k4, v', i', h', Ev.step (fun k => ?_) he, hi'⟩
    simp only [spec_l11Note.j0]
    rw [if_pos c2, e1]; rfl
  · obtain ⟨k0, k1, k2, k3, k4, v', i', h', he, hi'⟩ := note1_ev b false c h a0 a1 a2 a3 a4 a5 hb hc
    refine ⟨k0, k1, k2, k3, k4, v', i', h', Ev.step (fun k => ?_) he, hi'⟩
    simp only [spec_l11Note.j0]
    rw [if_neg c2]
theorem note_ev (b : List Int) (c h : Int) (hb : b.length ≤ 140737488351232) (hc : 0 ≤ c) :
    ∃ k0 k1 k2 k3 k4 v i' h', Ev (fun k => spec_l11Note.f k b c h) (k0, k1, k2, k3, k4, v, i', h') ∧ 0 ≤ i' := by
  obtain ⟨r1, i1, h1, e1, _, _, hi1⟩ := below_some b c h 4 hb hc
  obtain ⟨r2, i2, h2, e2, _, _, hi2⟩ := below_some b i1 h1 3 hb hi1
  obtain ⟨r3, i3, h3, e3, _, _, hi3⟩ := below_some b i2 h2 3 hb hi2
  obtain ⟨r4, i4, h4, e4, _, _, hi4⟩ := below_some b i3 h3 40 hb hi3
  unfold spec_l11Note.f
  simp only [e1, e2, e3, e4, Option.bind_some]
  by_cases c3 : wrap64 (1 + r1) ≥ 3
  · obtain ⟨v, i5, h5, e5, hi5⟩ := value_some b i4 h4 hb hi4
    simp only [if_pos c3, e5, Option.bind_some]
    exact note0_ev b i5 h5 _ _ _ _ _ _ hb hi5
  · simp only [if_neg c3]
    exact note0_ev b i4 h4 _ _ _ _ _ _ hb hi4
theorem drawPick_loop (b : List Int) (hb : b.length ≤ 140737488351232) (d : Nat) : ∀ (x : List S61) (i : Nat) (c h : Int), x.length = i → i + d = 5 → 0 ≤ c →
    ∃ (l : List S61) (v : ByteArray), Ev (fun k => spec_DrawPickValue.l0 k x (i : Int) b c h) (l, v) ∧ l.length ≤ 5 := by
  have fin : ∀ (x : List S61) (i : Nat) (c h r i1 h1 : Int), x.length = i → i ≤ 5 → spec_l01Below.f b c h 5 = some (r, i1, h1) → 0 ≤ i1 → ¬ ((i : Int) < r) →
      ∃ (l : List S61) (v : ByteArray), Ev (fun k => spec_DrawPickValue.l0 k x (i : Int) b c h) (l, v) ∧ l.length ≤ 5 := by
    intro x i c h r i1 h1 hx hi e1 hi1 hr
    obtain ⟨v, i2, h2, e2, hi2⟩ := value_some b i1 h1 hb hi1
    refine ⟨x, v, Ev.step (f := fun _ => some (x, v)) (fun k => ?_) (Ev.now _), by omega⟩
    simp only [spec_DrawPickValue.l0]
    rw [e1]; simp only [Option.bind_some]
    rw [if_neg hr, e2]; rfl
  induction d with
  | zero =>
    intro x i c h hx hd hc
    obtain ⟨r, i1, h1, e1, r0, r1, hi1⟩ := below_some b c h 5 hb hc
    exact fin x i c h r i1 h1 hx (by omega) e1 hi1 (by have := r1 (by omega); omega)
  | succ d ih =>
    intro x i c h hx hd hc
    obtain ⟨r, i1, h1, e1, r0, r1, hi1⟩ := below_some b c h 5 hb hc
    by_cases hlt : (i : Int) < r
    · obtain ⟨k0, k1, k2, k3, k4, v, i2, h2, he, hi2⟩ := note_ev b i1 h1 hb hi1
      obtain ⟨l, v', hl, hn⟩ := ih (x ++ [(⟨k0, k1, k2, k3, k4, v⟩ : S61)]) (i + 1) i2 h2 (by simp [hx]) (by omega) hi2
      refine ⟨l, v', Ev.step (f := fun k => (spec_l11Note.f k b i1 h1).bind fun bt202 => (if x.length < 2513169434916 then (spec_DrawPickValue.l0 k (x ++ [(⟨bt202.1, bt202.2.1, bt202.2.2.1, bt202.2.2.2.1, bt202.2.2.2.2.1, bt202.2.2.2.2.2.1⟩ : S61)]) (wrap64 ((i : Int) + 1)) b bt202.2.2.2.2.2.2.1 bt202.2.2.2.2.2.2.2) else (none))) (fun k => ?_) (Ev.bind he ?_), hn⟩
      · simp only [spec_DrawPickValue.l0]
        rw [e1]; simp only [Option.bind_some]
        rw [if_pos hlt]
      · simp only [if_pos (show x.length < 2513169434916 by omega), w64 i (by omega)]
        exact hl
    · exact fin x i c h r i1 h1 hx (by omega) e1 hi1 hlt
theorem drawPick_ev (b : List Int) (hb : b.length ≤ 140737488351232) : ∃ (l : List S61) (v : ByteArray), Ev (fun k => spec_DrawPickValue.f k b) (l, v) ∧ l.length ≤ 5 := by
  obtain ⟨h, hn⟩ := new_ev b hb
  obtain ⟨l, v, hl, hlen⟩ := drawPick_loop b hb 5 [] 0 0 h rfl rfl (by omega)
  refine ⟨l, v, ?_, hlen⟩
  unfold spec_DrawPickValue.f
  exact Ev.bind hn hl

/-! ### What is picked -/
/-- One note more. -/
def pk (s : Int × ByteArray) (n : S61) : Int × ByteArray := if n.f0 = 2 then (if n.f4 > s.1 then (n.f4, n.f5) else s) else s
theorem drop_next {α : Type} (x : List α) (i : Nat) (h : i < x.length) : x.drop i = x[i] :: x.drop (i + 1) := List.drop_eq_getElem_cons h
theorem rdT_at (x : List S61) (i : Nat) (h : i < x.length) : rd_T61 x (i : Int) = x[i] := by
  unfold rd_T61
  rw [List.getD_eq_getElem?_getD, Int.toNat_natCast, List.getElem?_eq_getElem h]
  rfl
theorem pick_loop (l : List S61) (hl : l.length ≤ 1000) (d : Nat) : ∀ (i : Nat) (m : Int) (v : ByteArray), l.length = i + d →
    Ev (fun k => spec_PickValue.l0 k l m v (i : Int)) ((l.drop i).foldl pk (m, v)).2 ∧ Ev (fun k => impl_PickValue.l0 k m v l (l.length : Int) (i : Int)) ((l.drop i).foldl pk (m, v)).2 := by
  induction d with
  | zero =>
    intro i m v hd
    rw [List.drop_of_length_le (by omega)]
    refine ⟨Ev.step (f := fun _ => some v) (fun k => ?_) (Ev.now _), Ev.step (f := fun _ => some v) (fun k => ?_) (Ev.now _)⟩
    · simp only [spec_PickValue.l0]; rw [if_neg (by omega)]
    · simp only [impl_PickValue.l0]; rw [if_neg (by omega)]
  | succ d ih =>
    intro i m v hd
    have hi : i < l.length := by omega
    rw [drop_next l i hi, List.foldl_cons]
    by_cases c : l[i].f0 = 2
    · by_cases c2 : l[i].f4 > m
      · have e : pk (m, v) l[i] = (l[i].f4, l[i].f5) := by unfold pk; rw [if_pos c, if_pos c2]
        rw [e]
        obtain ⟨h1, h2⟩ := ih (i + 1) l[i].f4 l[i].f5 (by omega)
        refine ⟨Ev.step (fun k => ?_) h1, Ev.step (fun k => ?_) h2⟩
        · simp only [spec_PickValue.l0, rdT_at l i hi]; rw [if_pos (by omega), if_pos (by omega), if_pos c, if_pos c2, w64 i (by omega)]
        · simp only [impl_PickValue.l0, rdT_at l i hi]; rw [if_pos (by omega), if_pos (by omega), if_pos (by omega), if_pos c, if_pos c2, w64 i (by omega)]
      · have e : pk (m, v) l[i] = (m, v) := by unfold pk; rw [if_pos c, if_neg c2]
        rw [e]
        obtain ⟨h1, h2⟩ := ih (i + 1) m v (by omega)
        refine ⟨Ev.step (fun k => ?_) h1, Ev.step (fun k => ?_) h2⟩
        · simp only [spec_PickValue.l0, rdT_at l i hi]; rw [if_pos (by omega), if_pos (by omega), if_pos c, if_neg c2, w64 i (by omega)]
        · simp only [impl_PickValue.l0, rdT_at l i hi]; rw [if_pos (by omega), if_pos (by omega), if_pos (by omega), if_pos c, if_neg c2, w64 i (by omega)]
    · have e : pk (m, v) l[i] = (m, v) := by unfold pk; rw [if_neg c]
      rw [e]
      obtain ⟨h1, h2⟩ := ih (i + 1) m v (by omega)
      refine ⟨Ev.step (fun k => ?_) h1, Ev.step (fun k => ?_) h2⟩
      · simp only [spec_PickValue.l0, rdT_at l i hi]; rw [if_pos (by omega), if_pos (by omega), if_neg c, w64 i (by omega)]
      · simp only [impl_PickValue.l0, rdT_at l i hi]; rw [if_pos (by omega), if_pos (by omega), if_pos (by omega), if_neg c, w64 i (by omega)]
theorem pick_ev (l : List S61) (own : ByteArray) (hl : l.length ≤ 1000) : Ev (fun k => spec_PickValue.f k l own) (l.foldl pk (0, own)).2 ∧ Ev (fun k => impl_PickValue.f k l own) (l.foldl pk (0, own)).2 := pick_loop l hl l.length 0 0 own (by omega)
/-- What the fold comes to: nothing was picked, or one of the notes. -/
theorem fold_tells (l : List S61) : ∀ (m : Int) (v : ByteArray), l.foldl pk (m, v) = (m, v) ∨ ∃ n ∈ l, n.f0 = 2 ∧ m < n.f4 ∧ l.foldl pk (m, v) = (n.f4, n.f5) := by
  induction l with
  | nil => intro m v; exact .inl rfl
  | cons a l ih =>
    intro m v
    rw [List.foldl_cons]
    by_cases c : a.f0 = 2
    · by_cases c2 : a.f4 > m
      · have e : pk (m, v) a = (a.f4, a.f5) := by unfold pk; rw [if_pos c, if_pos c2]
        rw [e]
        rcases ih a.f4 a.f5 with h | ⟨n, hn, h1, h2, h3⟩
        · exact .inr ⟨a, List.mem_cons_self, c, c2, h⟩
        · exact .inr ⟨n, List.mem_cons_of_mem _ hn, h1, by omega, h3⟩
      · have e : pk (m, v) a = (m, v) := by unfold pk; rw [if_pos c, if_neg c2]
        rw [e]
        rcases ih m v with h | ⟨n, hn, h1, h2, h3⟩
        · exact .inl h
        · exact .inr ⟨n, List.mem_cons_of_mem _ hn, h1, h2, h3⟩
    · have e : pk (m, v) a = (m, v) := by unfold pk; rw [if_neg c]
      rw [e]
      rcases ih m v with h | ⟨n, hn, h1, h2, h3⟩
      · exact .inl h
      · exact .inr ⟨n, List.mem_cons_of_mem _ hn, h1, h2, h3⟩
/-- The search for the note that was picked. -/
theorem search_loop (l : List S61) (own v : ByteArray) (m : Int) (hl : l.length ≤ 1000) (hv : (l.foldl pk (0, own)).2 = v) (d : Nat) : ∀ (i j : Nat), i + d = j → ∀ (hj : j < l.length), l[j].f0 = 2 → l[j].f4 = m → l[j].f5 = v →
    Ev (fun k => laws_FnPicks.l1 k l own v m (i : Int)) true := by
  have hs := (pick_ev l own hl).1
  rw [hv] at hs
  induction d with
  | zero =>
    intro i j hd hj h1 h2 h3
    obtain rfl : i = j := by omega
    refine Ev.step (f := fun k => (spec_PickValue.f k l own).bind fun t232 => (some (v.toList == t232.toList))) (fun k => ?_) ?_
    · simp only [laws_FnPicks.l1, rdT_at l i hj]
      rw [if_pos (by omega), if_pos (by omega), if_pos h1, if_pos h2, h3]
      simp only [if_true]
    · refine Ev.bind hs ?_
      simp only [BEq.rfl]
      exact Ev.now true
  | succ d ih =>
    intro i j hd hj h1 h2 h3
    have hi : i < l.length := by omega
    have hn := ih (i + 1) j (by omega) hj h1 h2 h3
    by_cases c : l[i].f0 = 2 ∧ l[i].f4 = m ∧ l[i].f5.toList = v.toList
    · refine Ev.step (f := fun k => (spec_PickValue.f k l own).bind fun t232 => (some (v.toList == t232.toList))) (fun k => ?_) ?_
      · simp only [laws_FnPicks.l1, rdT_at l i hi]
        rw [if_pos (by omega), if_pos (by omega), if_pos c.1, if_pos c.2.1, if_pos c.2.2]
      · refine Ev.bind hs ?_
        simp only [BEq.rfl]
        exact Ev.now true
    · refine Ev.step (fun k => ?_) hn
      simp only [laws_FnPicks.l1, rdT_at l i hi]
      rw [if_pos (by omega), if_pos (by omega), w64 i (by omega)]
      by_cases c1 : l[i].f0 = 2
      · rw [if_pos c1]
        by_cases c2 : l[i].f4 = m
        · rw [if_pos c2, if_neg (fun h => c ⟨c1, c2, h⟩)]
        · rw [if_neg c2]
      · rw [if_neg c1]
theorem none_picked : Ev (fun k => impl_PickValue.f k ([] : List S61) (⟨#[113]⟩ : ByteArray)) (⟨#[113]⟩ : ByteArray) := (pick_ev [] (⟨#[113]⟩ : ByteArray) (by simp)).2
theorem most_loop (l : List S61) (own v : ByteArray) (hl : l.length ≤ 1000) (hv : (l.foldl pk (0, own)).2 = v) (d : Nat) : ∀ (i : Nat) (m : Int) (u : ByteArray), l.length = i + d → (l.drop i).foldl pk (m, u) = l.foldl pk (0, own) →
    Ev (fun k => laws_FnPicks.l0 k l own v m (i : Int)) true := by
  induction d with
  | zero =>
    intro i m u hd hf
    rw [List.drop_of_length_le (by omega)] at hf
    have hm : m = (l.foldl pk (0, own)).1 := by rw [← hf]; rfl
    rcases fold_tells l 0 own with h | ⟨n, hn, h1, h2, h3⟩
    · have hm0 : m = 0 := by rw [hm, h]
      have hv0 : v = own := by rw [← hv, h]
      refine Ev.step (f := fun k => (impl_PickValue.f k (([] : List (S61))) (⟨#[113]⟩ : ByteArray)).bind fun t228 => (some (t228.toList == ([113] : List UInt8)))) (fun k => ?_) ?_
      · simp only [laws_FnPicks.l0]
        rw [if_neg (by omega), if_pos hm0, hv0]
        simp only [if_true]
      · refine Ev.bind none_picked ?_
        have ht : ((⟨#[113]⟩ : ByteArray).toList == ([113] : List UInt8)) = true := by decide +kernel
        simp only [ht]
        exact Ev.now true
    · have hm1 : m = n.f4 := by rw [hm, h3]
      have hv1 : n.f5 = v := by rw [← hv, h3]
      obtain ⟨j, hj, rfl⟩ := List.getElem_of_mem hn
      refine Ev.step (fun k => ?_) (search_loop l own v m hl hv j 0 j (by omega) hj h1 hm1.symm hv1)
      simp only [laws_FnPicks.l0]
      rw [if_neg (by omega), if_neg (by omega)]
      rfl
  | succ d ih =>
    intro i m u hd hf
    have hi : i < l.length := by omega
    rw [drop_next l i hi, List.foldl_cons] at hf
    by_cases c : l[i].f0 = 2
    · by_cases c2 : l[i].f4 > m
      · have e : pk (m, u) l[i] = (l[i].f4, l[i].f5) := by unfold pk; rw [if_pos c, if_pos c2]
        rw [e] at hf
        refine Ev.step (fun k => ?_) (ih (i + 1) l[i].f4 l[i].f5 (by omega) hf)
        simp only [laws_FnPicks.l0, rdT_at l i hi]; rw [if_pos (by omega), if_pos (by omega), if_pos c, if_pos c2, w64 i (by omega)]
      · have e : pk (m, u) l[i] = (m, u) := by unfold pk; rw [if_pos c, if_neg c2]
        rw [e] at hf
        refine Ev.step (fun k => ?_) (ih (i + 1) m u (by omega) hf)
        simp only [laws_FnPicks.l0, rdT_at l i hi]; rw [if_pos (by omega), if_pos (by omega), if_pos c, if_neg c2, w64 i (by omega)]
    · have e : pk (m, u) l[i] = (m, u) := by unfold pk; rw [if_neg c]
      rw [e] at hf
      refine Ev.step (fun k => ?_) (ih (i + 1) m u (by omega) hf)
      simp only [laws_FnPicks.l0, rdT_at l i hi]; rw [if_pos (by omega), if_pos (by omega), if_neg c, w64 i (by omega)]

theorem FnPicks : laws_FnPicks.Pure := by
  intro b _ hb' _
  have hb : b.length ≤ 140737488351232 := by omega
  apply Ev.rounds (r := true) (g := fun k => laws_FnPicks.f k b)
  unfold laws_FnPicks.f laws_big.f
  simp only [Option.bind_some]
  by_cases hbig : (b.length : Int) > 1048576
  · simp only [decide_eq_true hbig, if_true]
    exact Ev.now true
  · simp only [decide_eq_false hbig, if_neg (show ¬ (false = true) by decide)]
    obtain ⟨l, own, e1, hl⟩ := drawPick_ev b hb
    refine Ev.bind e1 (Ev.bind (pick_ev l own (by omega)).2 ?_)
    exact most_loop l own _ (by omega) rfl l.length 0 0 own (by omega) rfl

end Go.Proofs.Ytocgakpicmcemaa.Pure
