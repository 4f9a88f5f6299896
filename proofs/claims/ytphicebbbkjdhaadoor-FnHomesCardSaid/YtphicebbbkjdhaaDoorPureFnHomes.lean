/- When a node goes from a ring, the homes of a key are the others, in order: the law in plain Lean over the functions that the walks tell. -/
import Derived.Test.YtphicebbbkjdhaaDoorGFnHomesx5
namespace Go.Proofs.YtphicebbbkjdhaaDoor.Pure
open Go.RowKit Go.Proofs.YtphicebbbkjdhaaDoor.GFnHomes Go.Proofs.YtphicebbbkjdhaaDoorW.PrintWords Go.Proofs.YtphicebbbkjdhaaDoorW.PrintLast Go.Proofs.YtphicebbbkjdhaaDoorW.PrintMore
set_option linter.unusedVariables false
set_option linter.unusedSimpArgs false

/-! ### The drawn cursor: what its words come to -/
theorem and255 (n : Int) : 0 ≤ Go.bits .and .i64 n 255 ∧ Go.bits .and .i64 n 255 ≤ 255 := by
  have h255 : (BitVec.ofInt 64 255).toNat = 255 := by decide
  have key : (BitVec.ofInt 64 n &&& BitVec.ofInt 64 255).toNat ≤ 255 := by
    rw [BitVec.toNat_and, h255]
    exact Nat.and_le_right
  show 0 ≤ IntKind.i64.wrap ((BitVec.ofInt 64 n &&& BitVec.ofInt 64 255).toNat : Nat) ∧ IntKind.i64.wrap ((BitVec.ofInt 64 n &&& BitVec.ofInt 64 255).toNat : Nat) ≤ 255
  rw [IntKind.wrap_i64]
  omega

theorem byte_some (b : List Int) (i h : Int) (hb : b.length ≤ 140737488351232) (hi : 0 ≤ i) :
    ∃ r i' h', spec_l01Byte.f b i h = some (r, i', h') ∧ 0 ≤ r ∧ r ≤ 255 ∧ 0 ≤ i' := by
  unfold spec_l01Byte.f
  by_cases c : i < (b.length : Int)
  · rw [if_pos c, if_pos hi]
    exact ⟨_, _, _, rfl, (and255 _).1, (and255 _).2, by unfold wrap64; omega⟩
  · rw [if_neg c]
    exact ⟨_, _, _, rfl, (and255 _).1, (and255 _).2, hi⟩

theorem below_some (b : List Int) (i h n : Int) (hb : b.length ≤ 140737488351232) (hi : 0 ≤ i) :
    ∃ r i' h', spec_l01Below.f b i h n = some (r, i', h') ∧ 0 ≤ r ∧ (0 < n → r < n) ∧ 0 ≤ i' := by
  unfold spec_l01Below.f
  by_cases c : n ≤ 0
  · rw [if_pos c]
    exact ⟨0, i, h, rfl, by omega, by omega, hi⟩
  · rw [if_neg c]
    by_cases c2 : n ≤ 256
    · rw [if_pos c2]
      obtain ⟨r, i1, h1, e1, r0, r1, hi1⟩ := byte_some b i h hb hi
      rw [e1]
      simp only [Option.bind_some]
      rw [if_neg (by omega)]
      refine ⟨_, _, _, rfl, ?_, ?_, hi1⟩
      · rw [Int.tmod_eq_emod_of_nonneg r0]; exact Int.emod_nonneg _ (by omega)
      · intro _; rw [Int.tmod_eq_emod_of_nonneg r0]; exact Int.emod_lt_of_pos _ (by omega)
    · rw [if_neg c2]
      obtain ⟨x, i1, h1, e1, x0, x1, hi1⟩ := byte_some b i h hb hi
      obtain ⟨y, i2, h2, e2, y0, y1, hi2⟩ := byte_some b i1 h1 hb hi1
      obtain ⟨z, i3, h3, e3, z0, z1, hi3⟩ := byte_some b i2 h2 hb hi2
      obtain ⟨w, i4, h4, e4, w0, w1, hi4⟩ := byte_some b i3 h3 hb hi3
      rw [e1]; simp only [Option.bind_some]
      rw [e2]; simp only [Option.bind_some]
      rw [e3]; simp only [Option.bind_some]
      rw [e4]; simp only [Option.bind_some]
      rw [if_neg (by omega)]
      have e : wrap64 ((wrap64 ((wrap64 ((wrap64 (x * 16777216)) + (wrap64 (y * 65536)))) + (wrap64 (z * 256)))) + w) = x * 16777216 + y * 65536 + z * 256 + w := by
        unfold wrap64; omega
      rw [e]
      refine ⟨_, _, _, rfl, ?_, ?_, hi4⟩
      · rw [Int.tmod_eq_emod_of_nonneg (by omega)]; exact Int.emod_nonneg _ (by omega)
      · intro _; rw [Int.tmod_eq_emod_of_nonneg (by omega)]; exact Int.emod_lt_of_pos _ (by omega)

theorem new_loop (b : List Int) (hb : b.length ≤ 140737488351232) (d : Nat) : ∀ (h i : Int), 0 ≤ i → 4000 - i ≤ d →
    ∃ h', ∀ k, d < k → spec_l01New.l0 k b h i = some (b, 0, h') := by
  induction d with
  | zero =>
    intro h i h0 hd
    refine ⟨h, fun k hk => ?_⟩
    obtain ⟨k, rfl⟩ : ∃ m, k = m + 1 := ⟨k - 1, by omega⟩
    simp only [spec_l01New.l0]
    split
    · rw [if_neg (by omega)]
    · rfl
  | succ d ih =>
    intro h i h0 hd
    by_cases c : i < (b.length : Int)
    · by_cases c2 : i < 4000
      · have e : wrap64 (i + 1) = i + 1 := by unfold wrap64; omega
        obtain ⟨h', H⟩ := ih (Go.bits .and .i64 (wrap64 ((wrap64 ((wrap64 (h * 131)) + (wrap64 (rd b i)))) + 7)) 1073741823) (i + 1) (by omega) (by omega)
        refine ⟨h', fun k hk => ?_⟩
        obtain ⟨k, rfl⟩ : ∃ m, k = m + 1 := ⟨k - 1, by omega⟩
        simp only [spec_l01New.l0]
        rw [if_pos c, if_pos c2, if_pos h0, e]
        exact H k (by omega)
      · refine ⟨h, fun k hk => ?_⟩
        obtain ⟨k, rfl⟩ : ∃ m, k = m + 1 := ⟨k - 1, by omega⟩
        simp only [spec_l01New.l0]
        rw [if_pos c, if_neg c2]
    · refine ⟨h, fun k hk => ?_⟩
      obtain ⟨k, rfl⟩ : ∃ m, k = m + 1 := ⟨k - 1, by omega⟩
      simp only [spec_l01New.l0]
      rw [if_neg c]

theorem new_some (b : List Int) (hb : b.length ≤ 140737488351232) : ∃ h, ∀ k, 4000 < k → spec_l01New.f k b = some (b, 0, h) := by
  obtain ⟨h, H⟩ := new_loop b hb 4000 (wrap64 (14301 + (b.length : Int))) 0 (by omega) (by omega)
  exact ⟨h, fun k hk => by unfold spec_l01New.f; exact H k hk⟩
/-! ### Drawn keys -/
theorem pick_some (b : List Int) (i h : Int) (l : List ByteArray) (hl : 0 < l.length) (hb : b.length ≤ 140737488351232) (hi : 0 ≤ i) :
    ∃ r i' h', spec_l01Pick.f b i h l = some (r, i', h') ∧ r ∈ l ∧ 0 ≤ i' := by
  obtain ⟨r, i1, h1, e1, r0, r1, hi1⟩ := below_some b i h (l.length : Int) hb hi
  unfold spec_l01Pick.f
  rw [e1]; simp only [Option.bind_some]
  have hr := r1 (by omega)
  rw [if_pos r0, if_pos hr]
  refine ⟨_, _, _, rfl, ?_, hi1⟩
  unfold rdOf
  have : r.toNat < l.length := by omega
  rw [List.getD_eq_getElem?_getD, List.getElem?_eq_getElem this]
  exact List.getElem_mem this
/-- The keys that are drawn. -/
def nameList : List ByteArray := [(⟨#[97]⟩ : ByteArray), (⟨#[98]⟩ : ByteArray), (⟨#[99]⟩ : ByteArray), (⟨#[100]⟩ : ByteArray), (⟨#[101]⟩ : ByteArray), (⟨#[102]⟩ : ByteArray), (⟨#[103]⟩ : ByteArray), (⟨#[104]⟩ : ByteArray), (⟨#[107, 49]⟩ : ByteArray), (⟨#[107, 50]⟩ : ByteArray), (⟨#[107, 51]⟩ : ByteArray), (⟨#[107, 101, 121]⟩ : ByteArray)]
theorem name_size : ∀ s ∈ nameList, 1 ≤ s.size ∧ s.size ≤ 3 := by decide
theorem new_ev (b : List Int) (hb : b.length ≤ 140737488351232) : ∃ h, Ev (fun k => spec_l01New.f k b) (b, 0, h) := by
  obtain ⟨h, H⟩ := new_some b hb
  exact ⟨h, 4001, fun k hk => H k (by omega)⟩
theorem key_some (b : List Int) (i h : Int) (hb : b.length ≤ 140737488351232) (hi : 0 ≤ i) : ∃ r i' h', spec_l03Key.f b i h = some (r, i', h') ∧ r ∈ nameList ∧ 0 ≤ i' := by
  obtain ⟨r, i1, h1, e1, hr, hi1⟩ := pick_some b i h nameList (by simp [nameList]) hb hi
  refine ⟨r, i1, h1, ?_, hr, hi1⟩
  unfold spec_l03Key.f
  show (spec_l01Pick.f b i h nameList).bind _ = _
  rw [e1]
  rfl
/-! ### Lists of texts -/
theorem str_eq {s t : ByteArray} : s.toList = t.toList ↔ s = t :=
  ⟨fun h => Go.WideShapes.bytes_inj (by rw [← ByteArray.toList_eq, ← ByteArray.toList_eq]; exact h), fun h => by rw [h]⟩
noncomputable abbrev decMem (s : ByteArray) (l : List ByteArray) : Decidable (s ∈ l) := Classical.propDecidable _
attribute [local instance] decMem
theorem rdS_at (x : List ByteArray) (i : Nat) (h : i < x.length) : rdOf ByteArray.empty x (i : Int) = x[i] := by
  unfold rdOf
  rw [List.getD_eq_getElem?_getD, Int.toNat_natCast, List.getElem?_eq_getElem h]
  rfl
/-! ### The home of a key -/
/-- The place of the first spot for a hash: none is the first of all. -/
def firstN (h : Int) (l : List S63) : Int := mx (Go.Lib.idxBy (fun _ (y : S63) => decide (h ≤ y.f0)) l default) 0
theorem bang_at (l : List S63) (i : Nat) (h : i < l.length) : l[i]! = l[i] := by simp [h]
theorem first_bound (h : Int) (l : List S63) (d : Nat) : ∀ (i : Nat), l.length = i + d → (∀ j, j < i → decide (h ≤ (l[j]!).f0) = false) → 0 ≤ firstN h l ∧ (0 < l.length → firstN h l < (l.length : Int)) := by
  induction d with
  | zero =>
    intro i hd hA
    have e : firstN h l = 0 := by
      have := Go.Lib.idxBy_miss (fun _ (y : S63) => decide (h ≤ y.f0)) l l.length default (fun j hj => hA j (by omega))
      rw [List.take_length] at this
      unfold firstN
      rw [this]; rfl
    rw [e]
    exact ⟨by omega, fun hp => by omega⟩
  | succ d ih =>
    intro i hd hA
    have hi : i < l.length := by omega
    by_cases c : h ≤ l[i].f0
    · have e : firstN h l = (i : Int) := by
        have := Go.Lib.idxBy_hit (fun _ (y : S63) => decide (h ≤ y.f0)) l l.length i default hi (Nat.le_refl _) (by show decide (h ≤ (l[i]!).f0) = true; rw [bang_at l i hi]; exact decide_eq_true c) (fun j hj => hA j hj)
        rw [List.take_length] at this
        unfold firstN
        rw [this]; unfold mx; split <;> omega
      rw [e]
      exact ⟨by omega, fun hp => by omega⟩
    · exact ih (i + 1) (by omega) (fun j hj => by
        rcases Nat.lt_succ_iff_lt_or_eq.1 hj with hj | rfl
        · exact hA j hj
        · rw [bang_at l j hi]; exact decide_eq_false c)
/-- The place of the first spot for a key. -/
def fromN (l : List S63) (s : ByteArray) : Int := firstN (hashN s 0 : Nat) l
theorem fromN_bound (l : List S63) (s : ByteArray) : 0 ≤ fromN l s ∧ (0 < l.length → fromN l s < (l.length : Int)) := first_bound _ l l.length 0 (by omega) (fun j hj => absurd hj (Nat.not_lt_zero _))
theorem homeI_ev (l : List S63) (s : ByteArray) (hl : l.length ≤ 1048576) (hs : s.size ≤ 4611686018427387904) :
    Ev (fun k => impl_Ring_home.f k l s) (if l.length = 0 then -1 else fromN l s) := by
  unfold impl_Ring_home.f
  simp only [if_pos (show l.length < 1099511627776 by omega)]
  by_cases c : l.length = 0
  · simp only [if_pos c]; exact Ev.now _
  · simp only [if_neg c]
    exact Ev.bind (hashI_ev s hs 0 (by omega)) (Ev.now _)
/-- The home of a key. -/
def homeN (l : List S63) (s : ByteArray) : Int := if l.length = 0 then 0 else (rd_T63 l (fromN l s)).f1
theorem rdT63_at (x : List S63) (i : Nat) (h : i < x.length) : rd_T63 x (i : Int) = x[i] := by
  unfold rd_T63
  rw [List.getD_eq_getElem?_getD, Int.toNat_natCast, List.getElem?_eq_getElem h]
  rfl
/-- The node at a place, counted round and round. -/
def nodeAt (l : List S63) (z : Int) : Int := (rd_T63 l (Int.tmod z (l.length : Int))).f1
/-- The homes that are found from a place on. -/
def homesF (l : List S63) (n z : Int) : Nat → Nat → List Int → List Int
  | 0, _, out => out
  | d + 1, i, out => homesF l n z d (i + 1) (if (out.length : Int) < n ∧ nodeAt l (z + (i : Int)) ∉ out then out ++ [nodeAt l (z + (i : Int))] else out)
/-! A ring, told from a key's place on -/
def rotL (l : List (S63)) (h : Int) : List (S63) := l.filter (fun y => decide (h ≤ y.f0)) ++ l.filter (fun y => decide (¬ h ≤ y.f0))
theorem rotL_filter (l : List (S63)) (h : Int) (p : S63 → Bool) : rotL (l.filter p) h = (rotL l h).filter p := by
  unfold rotL
  rw [List.filter_append]
  simp only [List.filter_filter, Bool.and_comm]
theorem rotL_perm (l : List (S63)) (h : Int) : (rotL l h).Perm l := by
  unfold rotL
  have := List.filter_append_perm (fun y : S63 => decide (h ≤ y.f0)) l
  simpa only [decide_not] using this
theorem rotL_len (l : List (S63)) (h : Int) : (rotL l h).length = l.length := (rotL_perm l h).length_eq
theorem filter_pre {α : Type} (p : α → Bool) : ∀ (l : List α) (i : Nat), (∀ j (h : j < l.length), j < i → p l[j] = false) → (∀ j (h : j < l.length), i ≤ j → p l[j] = true) → l.filter p = l.drop i ∧ l.filter (fun x => !p x) = l.take i
  | [], i, _, _ => by simp
  | a :: l, 0, _, h2 => by
    have := filter_pre p l 0 (fun j h hj => absurd hj (Nat.not_lt_zero _)) (fun j h _ => by have := h2 (j + 1) (by simpa using h) (Nat.zero_le _); simpa using this)
    have ha := h2 0 (by simp) (Nat.le_refl _)
    simp only [List.getElem_cons_zero] at ha
    rw [List.filter_cons, if_pos ha, List.filter_cons, if_neg (by simp [ha]), this.1, this.2]
    simp
  | a :: l, i + 1, h1, h2 => by
    have := filter_pre p l i (fun j h hj => by have := h1 (j + 1) (by simpa using h) (by omega); simpa using this) (fun j h hj => by have := h2 (j + 1) (by simpa using h) (by omega); simpa using this)
    have ha := h1 0 (by simp) (by omega)
    simp only [List.getElem_cons_zero] at ha
    rw [List.filter_cons, if_neg (by simp [ha]), List.filter_cons, if_pos (by simp [ha]), this.1, this.2]
    simp
theorem rotL_first (l : List (S63)) (h : Int) (hs : l.Pairwise (fun a b => leSp a b = true)) : rotL l h = l.drop (firstN h l).toNat ++ l.take (firstN h l).toNat ∧ 0 ≤ firstN h l ∧ (0 < l.length → firstN h l < (l.length : Int)) := by
  by_cases c : ∃ j, j < l.length ∧ decide (h ≤ (l[j]!).f0) = true
  · obtain ⟨j, hj, hp⟩ := c
    -- the least one
    have : ∃ i, i < l.length ∧ decide (h ≤ (l[i]!).f0) = true ∧ ∀ j, j < i → decide (h ≤ (l[j]!).f0) = false := by
      clear hs
      induction j using Nat.strongRecOn with
      | _ j ih =>
        by_cases q : ∃ m, m < j ∧ decide (h ≤ (l[m]!).f0) = true
        · obtain ⟨m, hm, hq⟩ := q; exact ih m hm (by omega) hq
        · exact ⟨j, hj, hp, fun m hm => by
            cases hd : decide (h ≤ (l[m]!).f0) with
            | false => rfl
            | true => exact absurd ⟨m, hm, hd⟩ q⟩
    obtain ⟨i, hi, h1, h2⟩ := this
    have e : firstN h l = (i : Int) := by
      have := Go.Lib.idxBy_hit (fun _ (y : S63) => decide (h ≤ y.f0)) l l.length i default hi (Nat.le_refl _) h1 (fun j hj => h2 j hj)
      rw [List.take_length] at this
      unfold firstN
      rw [this]; unfold mx; split <;> omega
    rw [e, Int.toNat_natCast]
    refine ⟨?_, by omega, fun _ => by omega⟩
    have hf := filter_pre (fun y : S63 => decide (h ≤ y.f0)) l i (fun j hj hji => by have := h2 j hji; rw [bang_at l j hj] at this; exact this) (fun j hj hij => by
      rw [bang_at l i hi] at h1
      rcases Nat.eq_or_lt_of_le hij with rfl | hlt
      · exact h1
      · have := List.pairwise_iff_getElem.1 hs i j hi hj hlt
        rw [leSp_iff] at this
        have h1' := of_decide_eq_true h1
        exact decide_eq_true (by omega))
    unfold rotL
    rw [hf.1]
    congr 1
    rw [← hf.2]
    congr 1; funext y
    rw [decide_not]
  · have hA : ∀ j, j < l.length → decide (h ≤ (l[j]!).f0) = false := fun j hj => by
      cases hd : decide (h ≤ (l[j]!).f0) with
      | false => rfl
      | true => exact absurd ⟨j, hj, hd⟩ c
    have e : firstN h l = 0 := by
      have := Go.Lib.idxBy_miss (fun _ (y : S63) => decide (h ≤ y.f0)) l l.length default (fun j hj => hA j hj)
      rw [List.take_length] at this
      unfold firstN
      rw [this]; rfl
    rw [e]
    refine ⟨?_, by omega, fun _ => by omega⟩
    have hf := filter_pre (fun y : S63 => decide (h ≤ y.f0)) l l.length (fun j hj hji => by have := hA j hj; rw [bang_at l j hj] at this; exact this) (fun j hj hij => absurd hj (by omega))
    unfold rotL
    simp only [decide_not, hf.1, hf.2]
    simp
/-! ### Homes: the nodes of a ring, each once, from a key's place on -/
/-- One node more, unless there are so many, or it is there. -/
def stepD (n : Int) (out : List Int) (v : Int) : List Int := if (out.length : Int) < n ∧ v ∉ out then out ++ [v] else out
/-- Each once. -/
def dedup (l : List Int) : List Int := l.foldl (fun out v => if v ∈ out then out else out ++ [v]) []
theorem foldD_facts (l : List Int) : ∀ (out : List Int), out.Nodup → (l.foldl (fun out v => if v ∈ out then out else out ++ [v]) out).Nodup ∧ (∀ v, v ∈ l.foldl (fun out v => if v ∈ out then out else out ++ [v]) out ↔ v ∈ out ∨ v ∈ l) ∧ (∃ t, l.foldl (fun out v => if v ∈ out then out else out ++ [v]) out = out ++ t) := by
  induction l with
  | nil => intro out h; exact ⟨h, by simp, [], by simp⟩
  | cons a l ih =>
    intro out h
    rw [List.foldl_cons]
    by_cases c : a ∈ out
    · rw [if_pos c]
      obtain ⟨h1, h2, h3⟩ := ih out h
      refine ⟨h1, fun v => (h2 v).trans ⟨fun q => q.elim .inl (fun q => .inr (List.mem_cons_of_mem _ q)), fun q => q.elim .inl (fun q => ?_)⟩, h3⟩
      rcases List.mem_cons.1 q with rfl | q
      · exact .inl c
      · exact .inr q
    · rw [if_neg c]
      obtain ⟨h1, h2, t, h3⟩ := ih (out ++ [a]) (by
        rw [List.nodup_append]
        refine ⟨h, by simp, fun x hx y hy e => ?_⟩
        rw [List.mem_singleton] at hy
        subst hy e
        exact c hx)
      refine ⟨h1, fun v => (h2 v).trans (by simp [or_assoc]), [a] ++ t, by rw [h3]; simp⟩
theorem dedup_nodup (l : List Int) : (dedup l).Nodup := (foldD_facts l [] List.nodup_nil).1
theorem mem_dedup {l : List Int} {v : Int} : v ∈ dedup l ↔ v ∈ l := by
  have := (foldD_facts l [] List.nodup_nil).2.1 v
  unfold dedup
  rw [this]; simp
theorem foldD_head (a : Int) (l : List Int) : ∃ t, dedup (a :: l) = a :: t := by
  unfold dedup
  rw [List.foldl_cons, if_neg (by simp)]
  obtain ⟨t, h⟩ := (foldD_facts l [a] (by simp)).2.2
  exact ⟨t, by rw [List.nil_append, h]; rfl⟩
theorem foldD_filter (p : Int → Bool) (l : List Int) : ∀ (out : List Int), (l.foldl (fun out v => if v ∈ out then out else out ++ [v]) out).filter p = (l.filter p).foldl (fun out v => if v ∈ out then out else out ++ [v]) (out.filter p) := by
  induction l with
  | nil => intro out; rfl
  | cons a l ih =>
    intro out
    rw [List.foldl_cons, ih, List.filter_cons]
    by_cases c : a ∈ out
    · rw [if_pos c]
      by_cases q : p a = true
      · rw [if_pos q, List.foldl_cons, if_pos (List.mem_filter.2 ⟨c, q⟩)]
      · rw [if_neg q]
    · rw [if_neg c, List.filter_append, List.filter_cons]
      by_cases q : p a = true
      · rw [if_pos q, if_pos q, List.foldl_cons, if_neg (fun h => c (List.mem_filter.1 h).1), List.filter_nil]
      · rw [if_neg q, if_neg q, List.filter_nil, List.append_nil]
theorem dedup_filter (p : Int → Bool) (l : List Int) : (dedup l).filter p = dedup (l.filter p) := foldD_filter p l []
theorem stepD_full (n : Int) (l : List Int) : ∀ (out : List Int), ¬ (out.length : Int) < n → l.foldl (stepD n) out = out := by
  induction l with
  | nil => intro out _; rfl
  | cons a l ih => intro out h; rw [List.foldl_cons, stepD, if_neg (fun c => h c.1)]; exact ih out h
theorem foldN (n : Int) (l : List Int) : ∀ (out : List Int), out.Nodup → (out.length : Int) ≤ n → l.foldl (stepD n) out = (l.foldl (fun out v => if v ∈ out then out else out ++ [v]) out).take n.toNat := by
  induction l with
  | nil => intro out _ h; rw [List.foldl_nil, List.foldl_nil, List.take_of_length_le (by omega)]
  | cons a l ih =>
    intro out hn h
    by_cases f : (out.length : Int) < n
    · rw [List.foldl_cons, List.foldl_cons, stepD]
      by_cases c : a ∈ out
      · rw [if_neg (fun q => q.2 c), if_pos c]; exact ih out hn h
      · rw [if_pos ⟨f, c⟩, if_neg c]
        refine ih _ ?_ (by rw [List.length_append, List.length_singleton]; omega)
        rw [List.nodup_append]
        refine ⟨hn, by simp, fun x hx y hy e => ?_⟩
        rw [List.mem_singleton] at hy
        subst hy e
        exact c hx
    · rw [stepD_full n _ out f]
      obtain ⟨t, e⟩ := (foldD_facts (a :: l) out hn).2.2
      rw [e, List.take_left' (by omega)]
theorem homes_take (n : Int) (l : List Int) (h : 0 ≤ n) : l.foldl (stepD n) [] = (dedup l).take n.toNat := foldN n l [] List.nodup_nil (by simpa using h)
theorem getElem_app {α : Type} {x y : List α} {i : Nat} (h : i < x.length) (h' : i < (x ++ y).length) : (x ++ y)[i] = x[i] := List.getElem_append_left h
/-- The homes that are found are those of the rotated ring. -/
theorem nodeAt_rot (l : List (S63)) (z i : Nat) (hz : z < l.length) (hi : i < l.length) : nodeAt l ((z : Int) + (i : Int)) = ((l.drop z ++ l.take z)[i]'(by rw [List.length_append, List.length_drop, List.length_take]; omega)).f1 := by
  have e0 : Int.tmod ((z : Int) + (i : Int)) (l.length : Int) = (((z + i) % l.length : Nat) : Int) := by
    rw [Int.tmod_eq_emod_of_nonneg (by omega), ← Int.natCast_add]; rfl
  unfold nodeAt
  rw [e0, rdT63_at l _ (Nat.mod_lt _ (by omega))]
  congr 1
  by_cases c : z + i < l.length
  · rw [List.getElem_append_left (by rw [List.length_drop]; omega), List.getElem_drop]
    congr 1
    exact Nat.mod_eq_of_lt c
  · rw [List.getElem_append_right (by rw [List.length_drop]; omega), List.getElem_take]
    congr 1
    rw [List.length_drop, Nat.mod_eq_sub_mod (by omega), Nat.mod_eq_of_lt (by omega)]
    omega
theorem homesF_rot (l : List (S63)) (n : Int) (z : Nat) (hz : z < l.length) (d : Nat) : ∀ (i : Nat) (out : List Int), l.length = i + d → homesF l n z d i out = (((l.drop z ++ l.take z).drop i).map (fun s => s.f1)).foldl (stepD n) out := by
  have hL : (l.drop z ++ l.take z).length = l.length := by rw [List.length_append, List.length_drop, List.length_take]; omega
  induction d with
  | zero => intro i out h; rw [homesF, List.drop_eq_nil_of_le (by omega)]; rfl
  | succ d ih =>
    intro i out h
    rw [homesF, List.drop_eq_getElem_cons (by omega), List.map_cons, List.foldl_cons, ih (i + 1) _ (by omega), stepD, nodeAt_rot l z i hz (by omega)]
/-! ### Lists of nodes -/
theorem lt_unique {l m : List Int} (h : ∀ v, v ∈ l ↔ v ∈ m) (hl : l.Pairwise (· < ·)) (hm : m.Pairwise (· < ·)) : l = m := by
  have nl : l.Nodup := hl.imp (fun h e => by omega)
  have nm : m.Nodup := hm.imp (fun h e => by omega)
  exact List.Perm.eq_of_pairwise (le := (· < ·)) (fun a b _ _ h1 h2 => absurd h1 (by omega)) hl hm ((List.perm_ext_iff_of_nodup nl nm).2 h)
structure ValidN (ns : List Int) : Prop where
  len : 1 ≤ ns.length ∧ ns.length ≤ 6
  range : ∀ v ∈ ns, 1 ≤ v ∧ v ≤ 9
  asc : ns.Pairwise (· < ·)
theorem validN_iff {ns : List Int} : validN ns = true ↔ ValidN ns := by
  unfold validN
  simp only [Bool.and_eq_true, decide_eq_true_eq]
  exact ⟨fun ⟨h1, h2, h3⟩ => ⟨h1, h2, h3⟩, fun h => ⟨h.len, h.range, h.asc⟩⟩
theorem ring_members (ns : List Int) (v : Int) : (∃ s ∈ ringL ns, s.f1 = v) ↔ v ∈ ns := ⟨fun ⟨s, hs, e⟩ => e ▸ mem_ring hs, fun h => ring_mem h⟩
/-! ### What the laws say of rings -/
theorem homeN_rot (l : List (S63)) (s : ByteArray) (hs : l.Pairwise (fun a b => leSp a b = true)) : homeN l s = (((rotL l (hashN s 0 : Nat)).map (fun x => x.f1)).head?).getD 0 := by
  unfold homeN
  by_cases c : l.length = 0
  · rw [if_pos c, List.eq_nil_of_length_eq_zero c]; rfl
  · rw [if_neg c]
    obtain ⟨h1, h2, h3⟩ := rotL_first l (hashN s 0 : Nat) hs
    have h3 := h3 (by omega)
    have e : fromN l s = (((firstN (hashN s 0 : Nat) l).toNat : Nat) : Int) := by unfold fromN; omega
    rw [e, rdT63_at l _ (by omega), h1, List.drop_eq_getElem_cons (by omega)]
    rfl
theorem homesN_rot (l : List (S63)) (s : ByteArray) (n : Int) (hs : l.Pairwise (fun a b => leSp a b = true)) (hp : 0 < l.length) : homesF l n (fromN l s) l.length 0 [] = ((rotL l (hashN s 0 : Nat)).map (fun x => x.f1)).foldl (stepD n) [] := by
  obtain ⟨h1, h2, h3⟩ := rotL_first l (hashN s 0 : Nat) hs
  have h3 := h3 hp
  have e : fromN l s = (((firstN (hashN s 0 : Nat) l).toNat : Nat) : Int) := by unfold fromN; omega
  rw [e, homesF_rot l n _ (by omega) l.length 0 [] (by omega), h1]
  rfl
/-- All nodes, from a key's place on, each once. -/
def allH (ns : List Int) (s : ByteArray) : List Int := dedup ((rotL (ringL ns) (hashN s 0 : Nat)).map (fun x => x.f1))
theorem mem_allH {ns : List Int} {s : ByteArray} {v : Int} : v ∈ allH ns s ↔ v ∈ ns := by
  unfold allH
  rw [mem_dedup, List.mem_map]
  refine Iff.trans ?_ (ring_members ns v)
  constructor
  · rintro ⟨x, hx, e⟩; exact ⟨x, (rotL_perm _ _).mem_iff.1 hx, e⟩
  · rintro ⟨x, hx, e⟩; exact ⟨x, (rotL_perm _ _).mem_iff.2 hx, e⟩
theorem allH_nodup (ns : List Int) (s : ByteArray) : (allH ns s).Nodup := dedup_nodup _
theorem allH_len {ns : List Int} (s : ByteArray) (h : ns.Pairwise (· < ·)) : (allH ns s).length = ns.length :=
  ((List.perm_ext_iff_of_nodup (allH_nodup ns s) (h.imp (fun h e => by omega))).2 (fun v => mem_allH)).length_eq
theorem allH_filter (ns : List Int) (s : ByteArray) (x : Int) : (allH ns s).filter (fun v => decide (v ≠ x)) = allH (ns.filter (fun v => decide (v ≠ x))) s := by
  unfold allH
  rw [dedup_filter, ← ringL_filter, rotL_filter, List.filter_map]
  rfl
theorem homes_ring {ns : List Int} (s : ByteArray) (n : Int) (hn : 0 ≤ n) (h : ns ≠ []) : homesF (ringL ns) n (fromN (ringL ns) s) (ringL ns).length 0 [] = (allH ns s).take n.toNat := by
  have : 0 < (ringL ns).length := by
    rw [ringL_len]
    rcases Nat.eq_zero_or_pos ns.length with q | q
    · exact absurd (List.eq_nil_of_length_eq_zero q) h
    · omega
  rw [homesN_rot _ _ _ (ringL_sorted ns) this, homes_take _ _ hn]
  rfl
theorem home_ring {ns : List Int} (s : ByteArray) : homeN (ringL ns) s = (allH ns s).head?.getD 0 := by
  rw [homeN_rot _ _ (ringL_sorted ns)]
  unfold allH
  cases (rotL (ringL ns) (hashN s 0 : Nat)).map (fun x => x.f1) with
  | nil => rfl
  | cons a l => obtain ⟨t, e⟩ := foldD_head a l; rw [e]; rfl
theorem home_mem {ns : List Int} (s : ByteArray) (h : ns ≠ []) : homeN (ringL ns) s ∈ ns := by
  rw [home_ring]
  cases q : allH ns s with
  | nil =>
    obtain ⟨v, hv⟩ := List.exists_mem_of_ne_nil _ h
    have := (mem_allH (s := s)).2 hv
    rw [q] at this; cases this
  | cons a l => exact (mem_allH (s := s)).1 (by rw [q]; exact List.mem_cons_self)
/-- When a node goes, just its keys move. -/
theorem home_moves {ns : List Int} (s : ByteArray) (x : Int) (hx : ns.filter (fun v => decide (v ≠ x)) ≠ []) : homeN (ringL ns) s ≠ homeN (ringL (ns.filter (fun v => decide (v ≠ x)))) s ↔ homeN (ringL ns) s = x := by
  have hm := home_mem s hx
  have hne : homeN (ringL (ns.filter (fun v => decide (v ≠ x)))) s ≠ x := by
    have := (List.mem_filter.1 hm).2
    simpa using this
  constructor
  · intro h
    refine Classical.byContradiction fun q => h ?_
    rw [home_ring, home_ring, ← allH_filter]
    rw [home_ring] at q
    cases e : allH ns s with
    | nil => rfl
    | cons a l =>
      rw [e] at q
      rw [List.filter_cons, if_pos (by simpa using q)]
      rfl
  · intro h e
    exact hne (e.symm.trans h)
theorem once_some (b : List Int) (i h n : Int) (hb : b.length ≤ 140737488351232) (hi : 0 ≤ i) :
    ∃ r i' h', spec_l01Once.f b i h n = some (r, i', h') ∧ 0 ≤ i' := by
  obtain ⟨r, i1, h1, e1, r0, r1, hi1⟩ := below_some b i h n hb hi
  unfold spec_l01Once.f
  rw [e1]; simp only [Option.bind_some]
  exact ⟨_, _, _, rfl, hi1⟩
/-- Nodes that are drawn. -/
structure NodesR (v : Nat) (x : List Int) : Prop where
  asc : x.Pairwise (· < ·)
  range : ∀ y ∈ x, 1 ≤ y ∧ y < (v : Int)
  len : x.length ≤ 6
  two : v ≤ 3 → x.length + 1 = v
  more : 3 ≤ v → 2 ≤ x.length
theorem NodesR.next {v : Nat} {x : List Int} (h : NodesR v x) (hl : x.length < 6) : NodesR (v + 1) (x ++ [(v : Int)]) where
  asc := List.pairwise_append.2 ⟨h.asc, List.pairwise_singleton _ _, fun a ha b hb => by rw [List.mem_singleton.1 hb]; exact (h.range a ha).2⟩
  range := fun y hy => by
    rcases List.mem_append.1 hy with hy | hy
    · have := h.range y hy; omega
    · rw [List.mem_singleton.1 hy]
      have : 1 ≤ v := by
        rcases Nat.lt_or_ge v 4 with q | q
        · have := h.two (by omega); omega
        · omega
      omega
  len := by rw [List.length_append, List.length_singleton]; omega
  two := fun q => by have := h.two (by omega); rw [List.length_append, List.length_singleton]; omega
  more := fun q => by
    rw [List.length_append, List.length_singleton]
    rcases Nat.lt_or_ge v 3 with q' | q'
    · have := h.two (by omega); omega
    · have := h.more q'; omega
theorem NodesR.skip {v : Nat} {x : List Int} (h : NodesR v x) (h3 : 3 ≤ v) : NodesR (v + 1) x where
  asc := h.asc
  range := fun y hy => by have := h.range y hy; omega
  len := h.len
  two := fun q => by omega
  more := fun _ => h.more h3
theorem drawNodes_loop (b : List Int) (hb : b.length ≤ 140737488351232) (d : Nat) : ∀ (x : List Int) (v : Nat) (c h : Int), v + d = 10 → 1 ≤ v → 0 ≤ c → NodesR v x →
    ∃ l : List Int, Ev (fun k => spec_DrawNodes.l0 k x (v : Int) b c h) l ∧ NodesR 10 l := by
  induction d with
  | zero =>
    intro x v c h hd h1 hc hx
    obtain rfl : v = 10 := by omega
    refine ⟨x, Ev.step (f := fun k => spec_DrawNodes.j1 k x ((10 : Nat) : Int) false b c h) (fun k => ?_) (Ev.step (f := fun _ => some x) (fun k => ?_) (Ev.now _)), hx⟩
    · simp only [spec_DrawNodes.l0]; rw [if_neg (by omega)]
    · simp only [spec_DrawNodes.j1]; rw [if_neg (by decide)]
  | succ d ih =>
    intro x v c h hd h1 hc hx
    by_cases hl : x.length < 6
    · by_cases h2 : v ≤ 2
      · obtain ⟨l, e, hr⟩ := ih (x ++ [(v : Int)]) (v + 1) c h (by omega) (by omega) hc (hx.next hl)
        refine ⟨l, Ev.step (f := fun k => spec_DrawNodes.j1 k x (v : Int) true b c h) (fun k => ?_) (Ev.step (fun k => ?_) e), hr⟩
        · simp only [spec_DrawNodes.l0]; rw [if_pos (by omega), decide_eq_true (show (x.length : Int) < 6 by omega)]
        · simp only [spec_DrawNodes.j1]; rw [if_pos trivial, if_pos (by omega), if_pos (by omega), w64 v (by omega)]
      · obtain ⟨r, c1, h1', e1, hc1⟩ := once_some b c h 3 hb hc
        cases r with
        | true =>
          obtain ⟨l, e, hr⟩ := ih (x ++ [(v : Int)]) (v + 1) c1 h1' (by omega) (by omega) hc1 (hx.next hl)
          refine ⟨l, Ev.step (f := fun k => spec_DrawNodes.j1 k x (v : Int) true b c h) (fun k => ?_) (Ev.step (fun k => ?_) e), hr⟩
          · simp only [spec_DrawNodes.l0]; rw [if_pos (by omega), decide_eq_true (show (x.length : Int) < 6 by omega)]
          · simp only [spec_DrawNodes.j1]; rw [if_pos trivial, if_neg (by omega), e1]; simp only [Option.bind_some]; rw [if_pos trivial, if_pos (by omega), w64 v (by omega)]
        | false =>
          obtain ⟨l, e, hr⟩ := ih x (v + 1) c1 h1' (by omega) (by omega) hc1 (hx.skip (by omega))
          refine ⟨l, Ev.step (f := fun k => spec_DrawNodes.j1 k x (v : Int) true b c h) (fun k => ?_) (Ev.step (fun k => ?_) e), hr⟩
          · simp only [spec_DrawNodes.l0]; rw [if_pos (by omega), decide_eq_true (show (x.length : Int) < 6 by omega)]
          · simp only [spec_DrawNodes.j1]; rw [if_pos trivial, if_neg (by omega), e1]; simp only [Option.bind_some]; rw [if_neg (by decide), w64 v (by omega)]
    · have h6 : x.length = 6 := by have := hx.len; omega
      refine ⟨x, Ev.step (f := fun k => spec_DrawNodes.j1 k x (v : Int) false b c h) (fun k => ?_) (Ev.step (f := fun _ => some x) (fun k => ?_) (Ev.now _)), ⟨hx.asc, fun y hy => by have := hx.range y hy; omega, hx.len, fun q => by omega, fun _ => by omega⟩⟩
      · simp only [spec_DrawNodes.l0]; rw [if_pos (by omega), decide_eq_false (by omega)]
      · simp only [spec_DrawNodes.j1]; rw [if_neg (by decide)]
theorem drawNodes_ev (b : List Int) (hb : b.length ≤ 140737488351232) : ∃ l : List Int, Ev (fun k => spec_DrawNodes.f k b) l ∧ ValidN l ∧ 2 ≤ l.length := by
  obtain ⟨h, hn⟩ := new_ev b hb
  obtain ⟨l, hl, hr⟩ := drawNodes_loop b hb 9 [] 1 0 h rfl (by omega) (by omega) ⟨List.Pairwise.nil, (fun y hy => by cases hy), (by simp), fun _ => rfl, (fun q => by omega)⟩
  refine ⟨l, ?_, ⟨⟨by have := hr.more (by omega); omega, hr.len⟩, fun y hy => by have := hr.range y hy; omega, hr.asc⟩, hr.more (by omega)⟩
  unfold spec_DrawNodes.f
  exact Ev.bind hn hl
theorem drawPlaces_loop (b : List Int) (hb : b.length ≤ 140737488351232) (d : Nat) : ∀ (x : List Int) (i : Nat) (c h : Int), x.length = i → i + d = 12 → 0 ≤ c → (∀ y ∈ x, 0 ≤ y ∧ y < 10000) →
    ∃ l : List Int, Ev (fun k => spec_DrawPlaces.l0 k x (i : Int) b c h) l ∧ l.length = 12 ∧ ∀ y ∈ l, 0 ≤ y ∧ y < 10000 := by
  induction d with
  | zero =>
    intro x i c h hx hd hc hy
    refine ⟨x, Ev.step (f := fun _ => some x) (fun k => ?_) (Ev.now _), by omega, hy⟩
    simp only [spec_DrawPlaces.l0]
    rw [if_neg (by omega)]
  | succ d ih =>
    intro x i c h hx hd hc hy
    obtain ⟨r, i1, h1, e1, r0, r1, hi1⟩ := below_some b c h 10000 hb hc
    obtain ⟨l, hl, hn, hm⟩ := ih (x ++ [r]) (i + 1) i1 h1 (by simp [hx]) (by omega) hi1 (by
      intro y hy'
      rcases List.mem_append.1 hy' with h' | h'
      · exact hy y h'
      · rw [List.mem_singleton.1 h']; exact ⟨r0, r1 (by omega)⟩)
    refine ⟨l, Ev.step (fun k => ?_) hl, hn, hm⟩
    simp only [spec_DrawPlaces.l0]
    rw [if_pos (by omega), e1]; simp only [Option.bind_some]
    rw [if_pos (by omega), w64 i (by omega)]
theorem drawPlaces_ev (b : List Int) (hb : b.length ≤ 140737488351232) : ∃ l : List Int, Ev (fun k => spec_DrawPlaces.f k b) l ∧ l.length = 12 ∧ ∀ y ∈ l, 0 ≤ y ∧ y < 10000 := by
  obtain ⟨h, hn⟩ := new_ev b hb
  obtain ⟨r, i1, h1, e1, _, _, hi1⟩ := byte_some b 0 h hb (by omega)
  obtain ⟨l, hl, hlen, hm⟩ := drawPlaces_loop b hb 12 [] 0 i1 h1 rfl rfl hi1 (fun y hy => by cases hy)
  refine ⟨l, ?_, hlen, hm⟩
  unfold spec_DrawPlaces.f
  refine Ev.bind hn ?_
  simp only [e1, Option.bind_some]
  exact hl
theorem drawWords_loop (b : List Int) (hb : b.length ≤ 140737488351232) (d : Nat) : ∀ (x : List ByteArray) (i : Nat) (c h : Int), x.length = i → i + d = 29 → 0 ≤ c → (∀ s ∈ x, s ∈ nameList) →
    ∃ l : List ByteArray, Ev (fun k => spec_DrawWords.l0 k x (i : Int) b c h) l ∧ l.length ≤ 29 ∧ ∀ s ∈ l, s ∈ nameList := by
  induction d with
  | zero =>
    intro x i c h hx hd hc hm
    obtain ⟨r, i1, h1, e1, r0, r1, hi1⟩ := below_some b c h 30 hb hc
    refine ⟨x, Ev.step (f := fun _ => some x) (fun k => ?_) (Ev.now _), by omega, hm⟩
    simp only [spec_DrawWords.l0]
    rw [e1]; simp only [Option.bind_some]
    rw [if_neg (by have := r1 (by omega); omega)]
  | succ d ih =>
    intro x i c h hx hd hc hm
    obtain ⟨r, i1, h1, e1, r0, r1, hi1⟩ := below_some b c h 30 hb hc
    by_cases hlt : (i : Int) < r
    · obtain ⟨v, i2, h2, e2, hv, hi2⟩ := key_some b i1 h1 hb hi1
      obtain ⟨l, hl, hn, hml⟩ := ih (x ++ [v]) (i + 1) i2 h2 (by simp [hx]) (by omega) hi2 (by
        intro s hs
        rcases List.mem_append.1 hs with h' | h'
        · exact hm s h'
        · rw [List.mem_singleton.1 h']; exact hv)
      refine ⟨l, Ev.step (fun k => ?_) hl, hn, hml⟩
      simp only [spec_DrawWords.l0]
      rw [e1]; simp only [Option.bind_some]
      rw [if_pos hlt, e2]; simp only [Option.bind_some]
      rw [if_pos (by omega), w64 i (by omega)]
    · refine ⟨x, Ev.step (f := fun _ => some x) (fun k => ?_) (Ev.now _), by omega, hm⟩
      simp only [spec_DrawWords.l0]
      rw [e1]; simp only [Option.bind_some]
      rw [if_neg hlt]
theorem drawWords_ev (b : List Int) (hb : b.length ≤ 140737488351232) : ∃ l : List ByteArray, Ev (fun k => spec_DrawWords.f k b) l ∧ l.length ≤ 29 ∧ ∀ s ∈ l, s ∈ nameList := by
  obtain ⟨h, hn⟩ := new_ev b hb
  obtain ⟨l, hl, hlen, hm⟩ := drawWords_loop b hb 29 [] 0 0 h rfl rfl (by omega) (fun s hs => by cases hs)
  refine ⟨l, ?_, hlen, hm⟩
  unfold spec_DrawWords.f
  exact Ev.bind hn hl
/-! ### The homes of a key, as the program finds them -/
theorem dropn {α : Type} (x : List α) (i : Nat) (h : i < x.length) : x.drop i = x[i] :: x.drop (i + 1) := List.drop_eq_getElem_cons h
theorem mem_dropn (l : List Int) (v : Int) (i : Nat) (h : i < l.length) (c : ¬ l[i] = v) : decide (v ∈ l.drop i) = decide (v ∈ l.drop (i + 1)) := by
  rw [dropn l i h, decide_eq_decide, List.mem_cons]
  exact ⟨fun h => h.resolve_left (fun e => c e.symm), .inr⟩
theorem ixI_loop (l : List Int) (v : Int) (hl : l.length ≤ 1048576) (d : Nat) : ∀ (i : Nat), l.length = i + d → ∃ j : Int, Ev (fun k => slices_Index_int_int.l0 k l v (l.length : Int) (i : Int)) j ∧ decide (j ≥ 0) = decide (v ∈ l.drop i) := by
  induction d with
  | zero =>
    intro i hd
    rw [List.drop_eq_nil_of_le (by omega)]
    refine ⟨-1, Ev.step (f := fun _ => some (-1)) (fun k => ?_) (Ev.now _), by simp⟩
    simp only [slices_Index_int_int.l0]; rw [if_neg (by omega)]
  | succ d ih =>
    intro i hd
    have hi : i < l.length := by omega
    by_cases c : v = l[i]
    · refine ⟨(i : Int), Ev.step (f := fun _ => some (i : Int)) (fun k => ?_) (Ev.now _), ?_⟩
      · simp only [slices_Index_int_int.l0, rd_at l i hi]
        rw [if_pos (by omega), if_pos (by omega), if_pos (by omega), if_pos c]
      · rw [dropn l i hi, decide_eq_true (show (i : Int) ≥ 0 by omega), decide_eq_true (by rw [c]; exact List.mem_cons_self)]
    · rw [mem_dropn l v i hi (fun e => c e.symm)]
      obtain ⟨j, hj, hd'⟩ := ih (i + 1) (by omega)
      refine ⟨j, Ev.step (fun k => ?_) hj, hd'⟩
      simp only [slices_Index_int_int.l0, rd_at l i hi]
      rw [if_pos (by omega), if_pos (by omega), if_pos (by omega), if_neg c, w64 i (by omega)]
theorem hasInt_ev (l : List Int) (v : Int) (hl : l.length ≤ 1048576) : Ev (fun k => slices_Contains_int_int.f k l v) (decide (v ∈ l)) := by
  obtain ⟨j, h, e⟩ := ixI_loop l v hl l.length 0 (by omega)
  unfold slices_Contains_int_int.f
  rw [show l = l.drop 0 from rfl, ← e]
  exact Ev.bind h (Ev.now _)
theorem homesI_loop (l : List S63) (n z : Int) (hl : l.length ≤ 1048576) (h0 : 0 ≤ z) (h1 : z < (l.length : Int)) (d : Nat) : ∀ (i : Nat) (out : List Int), l.length = i + d → out.length ≤ i →
    Ev (fun k => impl_HomesOf.l0 k n out z (l.length : Int) (i : Int) l) (homesF l n z d i out) := by
  induction d with
  | zero =>
    intro i out hd ho
    refine Ev.step (f := fun _ => some out) (fun k => ?_) (Ev.now _)
    simp only [impl_HomesOf.l0]; rw [if_neg (by omega)]
  | succ d ih =>
    intro i out hd ho
    have e : wrap64 (z + (i : Int)) = z + (i : Int) := by unfold wrap64; omega
    have t0 : 0 ≤ Int.tmod (z + (i : Int)) (l.length : Int) := Int.tmod_nonneg _ (by omega)
    have t1 : Int.tmod (z + (i : Int)) (l.length : Int) < (l.length : Int) := Int.tmod_lt_of_pos _ (by omega)
    rw [homesF]
    by_cases c : (out.length : Int) < n
    · refine Ev.step (f := fun k => (slices_Contains_int_int.f k out (nodeAt l (z + (i : Int)))).bind fun t => (if t = true then (impl_HomesOf.l0 k n out z (l.length : Int) ((i + 1 : Nat) : Int) l) else (impl_HomesOf.l0 k n (out ++ [nodeAt l (z + (i : Int))]) z (l.length : Int) ((i + 1 : Nat) : Int) l))) (fun k => ?_) ?_
      · simp only [impl_HomesOf.l0]
        rw [if_pos (by omega), if_neg (by omega), e, if_pos t0, if_pos t1, if_pos c, w64 i (by omega)]
        simp only [if_pos (show out.length < 17592186044416 by omega)]
        rfl
      · refine Ev.bind (hasInt_ev out (nodeAt l (z + (i : Int))) (by omega)) ?_
        by_cases m : nodeAt l (z + (i : Int)) ∈ out
        · rw [if_neg (fun q => q.2 m), decide_eq_true m]
          simp only [if_true]
          exact ih (i + 1) out (by omega) (by omega)
        · rw [if_pos ⟨c, m⟩, decide_eq_false m]
          simp only [Bool.false_eq_true, if_false]
          exact ih (i + 1) _ (by omega) (by rw [List.length_append, List.length_singleton]; omega)
    · rw [if_neg (fun q => c q.1)]
      refine Ev.step (fun k => ?_) (ih (i + 1) out (by omega) (by omega))
      simp only [impl_HomesOf.l0]
      rw [if_pos (by omega), if_neg (by omega), e, if_pos t0, if_pos t1, if_neg c, w64 i (by omega)]
theorem validN_less {ns : List Int} (h : ValidN ns) (h2 : 2 ≤ ns.length) {x : Int} (hx : x ∈ ns) : ValidN (ns.filter (fun v => decide (v ≠ x))) ∧ (ns.filter (fun v => decide (v ≠ x))).length + 1 = ns.length ∧ ns.filter (fun v => decide (v ≠ x)) ≠ [] := by
  have hl : (ns.filter (fun v => decide (v ≠ x))).length + 1 = ns.length := by
    have nd : ns.Nodup := h.asc.imp (fun h e => by omega)
    have h1 := List.Nodup.erase_eq_filter nd x
    have h2 := List.length_erase_of_mem hx
    rw [h1] at h2
    have e : (ns.filter (fun y => y != x)) = ns.filter (fun v => decide (v ≠ x)) := by
      congr 1; funext v
      by_cases c : v = x <;> simp [c]
    rw [e] at h2
    have := List.length_pos_of_mem hx
    omega
  refine ⟨⟨⟨by omega, by have := h.len; omega⟩, fun v hv => h.range v (List.mem_filter.1 hv).1, h.asc.filter _⟩, hl, fun e => by rw [e] at hl; simp at hl; omega⟩

theorem homesOfI_ev (ns : List Int) (hv : ValidN ns) (s : ByteArray) (n : Int) (hn : 0 ≤ n) (hs : s.size ≤ 1048576) : Ev (fun k => impl_HomesOf.f k (ringL ns) s n) ((allH ns s).take n.toNat) := by
  have hl := hv.len
  have hr : (ringL ns).length = 4 * ns.length := ringL_len ns
  obtain ⟨h2, h3⟩ := fromN_bound (ringL ns) s
  have h := homeI_ev (ringL ns) s (by omega) (by omega)
  rw [if_neg (show ¬ (ringL ns).length = 0 by omega)] at h
  have he := homesI_loop (ringL ns) n (fromN (ringL ns) s) (by omega) h2 (h3 (by omega)) (ringL ns).length 0 [] (by omega) (by simp)
  rw [homes_ring s n hn (fun e => by rw [e] at hl; simp at hl)] at he
  unfold impl_HomesOf.f
  exact Ev.bind h he
theorem filter_neH (ns : List Int) (x : Int) (d : Nat) (l0 : List Int) (hn : ns.length ≤ 6) {r : Bool} : ∀ (i : Nat) (acc : List Int), i + d = ns.length → acc.length ≤ i →
    Ev (fun k => laws_FnHomes.l0 k l0 ns x (acc ++ (ns.drop i).filter (fun v => decide (v ≠ x))) (ns.length : Int)) r → Ev (fun k => laws_FnHomes.l0 k l0 ns x acc (i : Int)) r := by
  induction d with
  | zero =>
    intro i acc hi ha h
    rw [List.drop_eq_nil_of_le (by omega), List.filter_nil, List.append_nil] at h
    rw [show i = ns.length by omega]
    exact h
  | succ d ih =>
    intro i acc hi ha h
    have h1 : i < ns.length := by omega
    rw [List.drop_eq_getElem_cons h1, List.filter_cons] at h
    by_cases c : ns[i] = x
    · rw [if_neg (by simpa using c)] at h
      refine Ev.step (fun k => ?_) (ih (i + 1) acc (by omega) (by omega) h)
      simp only [laws_FnHomes.l0]
      rw [if_pos (by omega), if_pos (by omega), rd_at ns i h1, if_pos c, w64 i (by omega)]
    · rw [if_pos (by simpa using c)] at h
      refine Ev.step (fun k => ?_) (ih (i + 1) (acc ++ [ns[i]]) (by omega) (by rw [List.length_append, List.length_singleton]; omega) (by rw [List.append_assoc]; exact h))
      simp only [laws_FnHomes.l0]
      rw [if_pos (by omega), if_pos (by omega), rd_at ns i h1, if_neg c, if_pos (by omega), w64 i (by omega)]
theorem filter_l2 (ns : List Int) (x : Int) (ws : List ByteArray) (j : Int) (a b : List S63) (all : List Int) (hn : all.length ≤ 1000) (d : Nat) {r : Bool} : ∀ (i : Nat) (acc : List Int), i + d = all.length → acc.length ≤ i →
    Ev (fun k => laws_FnHomes.l2 k ns x ws j all (acc ++ (all.drop i).filter (fun v => decide (v ≠ x))) (all.length : Int) a b) r → Ev (fun k => laws_FnHomes.l2 k ns x ws j all acc (i : Int) a b) r := by
  induction d with
  | zero =>
    intro i acc hi ha h
    rw [List.drop_eq_nil_of_le (by omega), List.filter_nil, List.append_nil] at h
    rw [show i = all.length by omega]
    exact h
  | succ d ih =>
    intro i acc hi ha h
    have h1 : i < all.length := by omega
    rw [List.drop_eq_getElem_cons h1, List.filter_cons] at h
    by_cases c : all[i] = x
    · rw [if_neg (by simpa using c)] at h
      refine Ev.step (fun k => ?_) (ih (i + 1) acc (by omega) (by omega) h)
      simp only [laws_FnHomes.l2]
      rw [if_pos (by omega), if_pos (by omega), rd_at all i h1, if_pos c, w64 i (by omega)]
    · rw [if_pos (by simpa using c)] at h
      refine Ev.step (fun k => ?_) (ih (i + 1) (acc ++ [all[i]]) (by omega) (by rw [List.length_append, List.length_singleton]; omega) (by rw [List.append_assoc]; exact h))
      simp only [laws_FnHomes.l2]
      rw [if_pos (by omega), if_pos (by omega), rd_at all i h1, if_neg c, if_pos (by omega), w64 i (by omega)]
theorem sameInts_loop (l : List Int) (hl : l.length ≤ 1048576) (d : Nat) : ∀ (i : Nat), l.length = i + d → Ev (fun k => laws_sameInts.l0 k l l (i : Int)) true := by
  induction d with
  | zero =>
    intro i hd
    refine Ev.step (f := fun _ => some true) (fun k => ?_) (Ev.now _)
    simp only [laws_sameInts.l0]; rw [if_neg (by omega)]
  | succ d ih =>
    intro i hd
    refine Ev.step (fun k => ?_) (ih (i + 1) (by omega))
    simp only [laws_sameInts.l0, if_true]
    rw [if_pos (by omega), if_pos (by omega), if_pos (by omega), w64 i (by omega)]
theorem sameInts_ev (l : List Int) (hl : l.length ≤ 1048576) : Ev (fun k => laws_sameInts.f k l l) true := by
  unfold laws_sameInts.f
  simp only [if_true]
  exact sameInts_loop l hl l.length 0 (by omega)
theorem homes_l1 (ns : List Int) (x : Int) (hv : ValidN ns) (h2 : 2 ≤ ns.length) (hx : x ∈ ns) (ws : List ByteArray) (hl : ws.length ≤ 100) (hs : ∀ s ∈ ws, s.size ≤ 1048576) (d : Nat) : ∀ (i : Nat), i + d = ws.length →
    Ev (fun k => laws_FnHomes.l1 k ns x ws (i : Int) (ringL ns) (ringL (ns.filter (fun v => decide (v ≠ x))))) true := by
  obtain ⟨v1, v2, v3⟩ := validN_less hv h2 hx
  have hvl := hv.len
  induction d with
  | zero =>
    intro i hi
    refine Ev.step (f := fun _ => some true) (fun k => ?_) (Ev.now _)
    simp only [laws_FnHomes.l1]; rw [if_neg (by omega)]
  | succ d ih =>
    intro i hi
    have h1 : i < ws.length := by omega
    have hz := hs _ (List.getElem_mem h1)
    have ha := homesOfI_ev ns hv ws[i] 9 (by omega) hz
    have hb := homesOfI_ev _ v1 ws[i] 9 (by omega) hz
    have la := allH_len (ns := ns) ws[i] hv.asc
    have lb := allH_len (ns := ns.filter (fun v => decide (v ≠ x))) ws[i] v1.asc
    rw [List.take_of_length_le (by show _ ≤ 9; omega)] at ha
    rw [List.take_of_length_le (by show _ ≤ 9; have := v1.len; omega), ← allH_filter] at hb
    rw [← allH_filter] at lb
    have hsm := sameInts_ev ((allH ns ws[i]).filter (fun v => decide (v ≠ x))) (by have := v1.len; omega)
    refine Ev.step (f := fun k => (impl_HomesOf.f k (ringL ns) ws[i] 9).bind fun t232 => (laws_FnHomes.l2 k ns x ws (i : Int) t232 (([] : List Int)) 0 (ringL ns) (ringL (ns.filter (fun v => decide (v ≠ x)))))) (fun k => ?_) (Ev.bind ha ?_)
    · simp only [laws_FnHomes.l1]
      rw [if_pos (by omega), if_pos (by omega), rdS_at ws i h1]
    · refine filter_l2 ns x ws (i : Int) _ _ (allH ns ws[i]) (by omega) (allH ns ws[i]).length 0 [] (by omega) (by simp) ?_
      rw [List.drop_zero, List.nil_append]
      refine Ev.step (f := fun k => (impl_HomesOf.f k (ringL (ns.filter (fun v => decide (v ≠ x)))) ws[i] 9).bind fun t244 => ((laws_sameInts.f k t244 ((allH ns ws[i]).filter (fun v => decide (v ≠ x)))).bind fun t247 => (if t247 = true then (laws_FnHomes.l1 k ns x ws ((i + 1 : Nat) : Int) (ringL ns) (ringL (ns.filter (fun v => decide (v ≠ x))))) else (some false)))) (fun k => ?_) (Ev.bind hb (Ev.bind hsm ?_))
      · simp only [laws_FnHomes.l2]
        rw [if_neg (by omega), if_pos (by omega), if_pos (by omega), rdS_at ws i h1, w64 i (by omega)]
        simp only [if_pos (show ((allH ns ws[i]).length : Int) = (ns.length : Int) by omega)]
      · simp only [if_true]
        exact ih (i + 1) (by omega)
theorem FnHomes : laws_FnHomes.Pure := by
  intro l hl hb _
  apply Ev.rounds (r := true) (g := fun k => laws_FnHomes.f k l)
  have hb' : l.length ≤ 140737488351232 := by omega
  unfold laws_FnHomes.f laws_big.f
  simp only [Option.bind_some]
  by_cases hbig : (l.length : Int) > 1048576
  · simp only [decide_eq_true hbig, if_true]; exact Ev.now true
  · simp only [decide_eq_false hbig, Bool.false_eq_true, if_false]
    obtain ⟨ns, hns, hv, h2⟩ := drawNodes_ev l hb'
    obtain ⟨ps, hps, hpl, hpr⟩ := drawPlaces_ev l hb'
    obtain ⟨ws, hws, hwl, hwm⟩ := drawWords_ev l hb'
    refine Ev.bind hns (Ev.bind hps ?_)
    have hp0 := hpr (ps[0]'(by omega)) (List.getElem_mem _)
    have hq0 : 0 ≤ Int.tmod (rd ps 0) (ns.length : Int) := by
      rw [show (0 : Int) = ((0 : Nat) : Int) from rfl, rd_at ps 0 (by omega)]
      exact Int.tmod_nonneg _ hp0.1
    have hq1 : Int.tmod (rd ps 0) (ns.length : Int) < (ns.length : Int) := Int.tmod_lt_of_pos _ (by omega)
    simp only [if_pos (show (0 : Int) < (ps.length : Int) by omega), if_neg (show ¬ (ns.length : Int) = 0 by omega), if_pos hq0, if_pos hq1]
    obtain ⟨x, hx, hxm⟩ : ∃ x, rd ns (Int.tmod (rd ps 0) (ns.length : Int)) = x ∧ x ∈ ns := by
      obtain ⟨q, hq⟩ : ∃ q : Nat, Int.tmod (rd ps 0) (ns.length : Int) = (q : Int) := ⟨(Int.tmod (rd ps 0) (ns.length : Int)).toNat, by omega⟩
      rw [hq, rd_at ns q (by omega)]
      exact ⟨_, rfl, List.getElem_mem _⟩
    rw [hx]
    obtain ⟨v1, v2, v3⟩ := validN_less hv h2 hxm
    have hn := hv.len
    refine filter_neH ns x ns.length l hn.2 0 [] (by omega) (by simp) ?_
    rw [List.drop_zero, List.nil_append]
    have ia : impl_RingOf.f ns = some (ringL ns, true) := by unfold impl_RingOf.f; rw [if_pos (validN_iff.2 hv)]
    have ib : impl_RingOf.f (ns.filter (fun v => decide (v ≠ x))) = some (ringL (ns.filter (fun v => decide (v ≠ x))), true) := by unfold impl_RingOf.f; rw [if_pos (validN_iff.2 v1)]
    obtain ⟨W, hW⟩ : ∃ W, W = ([(⟨#[111, 110, 101]⟩ : ByteArray), (⟨#[116, 119, 111]⟩ : ByteArray)] : List ByteArray) := ⟨_, rfl⟩
    have hW2 : W.length = 2 := by rw [hW]; rfl
    have hsz : ∀ s ∈ W ++ ws, s.size ≤ 1048576 := fun s hs => by
      rcases List.mem_append.1 hs with hs | hs
      · rw [hW] at hs
        simp only [List.mem_cons, List.not_mem_nil, or_false] at hs
        rcases hs with rfl | rfl <;> decide
      · have := (name_size _ (hwm s hs)).2; omega
    have hl1 := homes_l1 ns x hv h2 hxm (W ++ ws) (by rw [List.length_append]; omega) hsz (W ++ ws).length 0 (by omega)
    refine Ev.step (f := fun k => (spec_DrawWords.f k l).bind fun t225 => (if W.length + t225.length < 8796093022208 then (laws_FnHomes.l1 k ns x (W ++ t225) 0 (ringL ns) (ringL (ns.filter (fun v => decide (v ≠ x))))) else (none))) (fun k => ?_) ?_
    · simp only [laws_FnHomes.l0]
      rw [if_neg (by omega), ia, ib, ← hW]
      simp only [Option.bind_some]
    · refine Ev.bind hws ?_
      simp only [if_pos (show W.length + ws.length < 8796093022208 by omega)]
      exact hl1

end Go.Proofs.YtphicebbbkjdhaaDoor.Pure
