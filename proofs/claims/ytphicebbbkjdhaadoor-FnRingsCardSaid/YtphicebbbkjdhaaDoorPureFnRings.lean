/- A ring of drawn nodes is right, and each key has its home there: the law in plain Lean over the functions that the walks tell. -/
import Derived.Test.YtphicebbbkjdhaaDoorGFnRingsx6
namespace Go.Proofs.YtphicebbbkjdhaaDoor.Pure
open Go.RowKit Go.Proofs.YtphicebbbkjdhaaDoor.GFnRings Go.Proofs.YtphicebbbkjdhaaDoorW.PrintWords Go.Proofs.YtphicebbbkjdhaaDoorW.PrintLast Go.Proofs.YtphicebbbkjdhaaDoorW.PrintMore
set_option linter.unusedVariables false
set_option linter.unusedSimpArgs false

/-! ### The drawn cursor: what its words come to -/
theorem and255 (n : Int) : 0 ≤ Go.bits .and .i64 n 255 ∧ Go.bits .and .i64 n 255 ≤ 255 := by
  have h255 : (BitVec.ofInt 64 255).toNat = 255 := by decide
  have key : (BitVec.ofInt 64 n &&& BitVec.ofInt 64 255).toNat ≤ 255 := by
    rw [BitVec.toNat_and, h255]
    exact Nat.and_le_right
  show 0 ≤ IntKind.i64.wrap ((BitVec.ofInt 64 n &&& BitVec.ofInt 64 255).toNat : Nat) ∧ IntKind.i64.wrap ((BitVec.ofInt 64 n &&& BitVec.ofInt 64 255).toNat : Nat) ≤ 255
  rw [IntKind.wrap_i64]
  omega

theorem byte_some (b : List Int) (i h : Int) (hb : b.length ≤ 140737488351232) (hi : 0 ≤ i) :
    ∃ r i' h', spec_l01Byte.f b i h = some (r, i', h') ∧ 0 ≤ r ∧ r ≤ 255 ∧ 0 ≤ i' := by
  unfold spec_l01Byte.f
  by_cases c : i < (b.length : Int)
  · rw [if_pos c, if_pos hi]
    exact ⟨_, _, _, rfl, (and255 _).1, (and255 _).2, by unfold wrap64; omega⟩
  · rw [if_neg c]
    exact ⟨_, _, _, rfl, (and255 _).1, (and255 _).2, hi⟩

theorem below_some (b : List Int) (i h n : Int) (hb : b.length ≤ 140737488351232) (hi : 0 ≤ i) :
    ∃ r i' h', spec_l01Below.f b i h n = some (r, i', h') ∧ 0 ≤ r ∧ (0 < n → r < n) ∧ 0 ≤ i' := by
  unfold spec_l01Below.f
  by_cases c : n ≤ 0
  · rw [if_pos c]
    exact ⟨0, i, h, rfl, by omega, by omega, hi⟩
  · rw [if_neg c]
    by_cases c2 : n ≤ 256
    · rw [if_pos c2]
      obtain ⟨r, i1, h1, e1, r0, r1, hi1⟩ := byte_some b i h hb hi
      rw [e1]
      simp only [Option.bind_some]
      rw [if_neg (by omega)]
      refine ⟨_, _, _, rfl, ?_, ?_, hi1⟩
      · rw [Int.tmod_eq_emod_of_nonneg r0]; exact Int.emod_nonneg _ (by omega)
      · intro _; rw [Int.tmod_eq_emod_of_nonneg r0]; exact Int.emod_lt_of_pos _ (by omega)
    · rw [if_neg c2]
      obtain ⟨x, i1, h1, e1, x0, x1, hi1⟩ := byte_some b i h hb hi
      obtain ⟨y, i2, h2, e2, y0, y1, hi2⟩ := byte_some b i1 h1 hb hi1
      obtain ⟨z, i3, h3, e3, z0, z1, hi3⟩ := byte_some b i2 h2 hb hi2
      obtain ⟨w, i4, h4, e4, w0, w1, hi4⟩ := byte_some b i3 h3 hb hi3
      rw [e1]; simp only [Option.bind_some]
      rw [e2]; simp only [Option.bind_some]
      rw [e3]; simp only [Option.bind_some]
      rw [e4]; simp only [Option.bind_some]
      rw [if_neg (by omega)]
      have e : wrap64 ((wrap64 ((wrap64 ((wrap64 (x * 16777216)) + (wrap64 (y * 65536)))) + (wrap64 (z * 256)))) + w) = x * 16777216 + y * 65536 + z * 256 + w := by
        unfold wrap64; omega
      rw [e]
      refine ⟨_, _, _, rfl, ?_, ?_, hi4⟩
      · rw [Int.tmod_eq_emod_of_nonneg (by omega)]; exact Int.emod_nonneg _ (by omega)
      · intro _; rw [Int.tmod_eq_emod_of_nonneg (by omega)]; exact Int.emod_lt_of_pos _ (by omega)

theorem new_loop (b : List Int) (hb : b.length ≤ 140737488351232) (d : Nat) : ∀ (h i : Int), 0 ≤ i → 4000 - i ≤ d →
    ∃ h', ∀ k, d < k → spec_l01New.l0 k b h i = some (b, 0, h') := by
  induction d with
  | zero =>
    intro h i h0 hd
    refine ⟨h, fun k hk => ?_⟩
    obtain ⟨k, rfl⟩ : ∃ m, k = m + 1 := ⟨k - 1, by omega⟩
    simp only [spec_l01New.l0]
    split
    · rw [if_neg (by omega)]
    · rfl
  | succ d ih =>
    intro h i h0 hd
    by_cases c : i < (b.length : Int)
    · by_cases c2 : i < 4000
      · have e : wrap64 (i + 1) = i + 1 := by unfold wrap64; omega
        obtain ⟨h', H⟩ := ih (Go.bits .and .i64 (wrap64 ((wrap64 ((wrap64 (h * 131)) + (wrap64 (rd b i)))) + 7)) 1073741823) (i + 1) (by omega) (by omega)
        refine ⟨h', fun k hk => ?_⟩
        obtain ⟨k, rfl⟩ : ∃ m, k = m + 1 := ⟨k - 1, by omega⟩
        simp only [spec_l01New.l0]
        rw [if_pos c, if_pos c2, if_pos h0, e]
        exact H k (by omega)
      · refine ⟨h, fun k hk => ?_⟩
        obtain ⟨k, rfl⟩ : ∃ m, k = m + 1 := ⟨k - 1, by omega⟩
        simp only [spec_l01New.l0]
        rw [if_pos c, if_neg c2]
    · refine ⟨h, fun k hk => ?_⟩
      obtain ⟨k, rfl⟩ : ∃ m, k = m + 1 := ⟨k - 1, by omega⟩
      simp only [spec_l01New.l0]
      rw [if_neg c]

theorem new_some (b : List Int) (hb : b.length ≤ 140737488351232) : ∃ h, ∀ k, 4000 < k → spec_l01New.f k b = some (b, 0, h) := by
  obtain ⟨h, H⟩ := new_loop b hb 4000 (wrap64 (14301 + (b.length : Int))) 0 (by omega) (by omega)
  exact ⟨h, fun k hk => by unfold spec_l01New.f; exact H k hk⟩
/-! ### Drawn keys -/
theorem pick_some (b : List Int) (i h : Int) (l : List ByteArray) (hl : 0 < l.length) (hb : b.length ≤ 140737488351232) (hi : 0 ≤ i) :
    ∃ r i' h', spec_l01Pick.f b i h l = some (r, i', h') ∧ r ∈ l ∧ 0 ≤ i' := by
  obtain ⟨r, i1, h1, e1, r0, r1, hi1⟩ := below_some b i h (l.length : Int) hb hi
  unfold spec_l01Pick.f
  rw [e1]; simp only [Option.bind_some]
  have hr := r1 (by omega)
  rw [if_pos r0, if_pos hr]
  refine ⟨_, _, _, rfl, ?_, hi1⟩
  unfold rdOf
  have : r.toNat < l.length := by omega
  rw [List.getD_eq_getElem?_getD, List.getElem?_eq_getElem this]
  exact List.getElem_mem this
/-- The keys that are drawn. -/
def nameList : List ByteArray := [(⟨#[97]⟩ : ByteArray), (⟨#[98]⟩ : ByteArray), (⟨#[99]⟩ : ByteArray), (⟨#[100]⟩ : ByteArray), (⟨#[101]⟩ : ByteArray), (⟨#[102]⟩ : ByteArray), (⟨#[103]⟩ : ByteArray), (⟨#[104]⟩ : ByteArray), (⟨#[107, 49]⟩ : ByteArray), (⟨#[107, 50]⟩ : ByteArray), (⟨#[107, 51]⟩ : ByteArray), (⟨#[107, 101, 121]⟩ : ByteArray)]
theorem name_size : ∀ s ∈ nameList, 1 ≤ s.size ∧ s.size ≤ 3 := by decide
theorem new_ev (b : List Int) (hb : b.length ≤ 140737488351232) : ∃ h, Ev (fun k => spec_l01New.f k b) (b, 0, h) := by
  obtain ⟨h, H⟩ := new_some b hb
  exact ⟨h, 4001, fun k hk => H k (by omega)⟩
theorem key_some (b : List Int) (i h : Int) (hb : b.length ≤ 140737488351232) (hi : 0 ≤ i) : ∃ r i' h', spec_l03Key.f b i h = some (r, i', h') ∧ r ∈ nameList ∧ 0 ≤ i' := by
  obtain ⟨r, i1, h1, e1, hr, hi1⟩ := pick_some b i h nameList (by simp [nameList]) hb hi
  refine ⟨r, i1, h1, ?_, hr, hi1⟩
  unfold spec_l03Key.f
  show (spec_l01Pick.f b i h nameList).bind _ = _
  rw [e1]
  rfl
/-! ### Lists of texts -/
theorem str_eq {s t : ByteArray} : s.toList = t.toList ↔ s = t :=
  ⟨fun h => Go.WideShapes.bytes_inj (by rw [← ByteArray.toList_eq, ← ByteArray.toList_eq]; exact h), fun h => by rw [h]⟩
noncomputable abbrev decMem (s : ByteArray) (l : List ByteArray) : Decidable (s ∈ l) := Classical.propDecidable _
attribute [local instance] decMem
theorem rdS_at (x : List ByteArray) (i : Nat) (h : i < x.length) : rdOf ByteArray.empty x (i : Int) = x[i] := by
  unfold rdOf
  rw [List.getD_eq_getElem?_getD, Int.toNat_natCast, List.getElem?_eq_getElem h]
  rfl
/-! ### The home of a key -/
/-- The place of the first spot for a hash: none is the first of all. -/
def firstN (h : Int) (l : List S63) : Int := mx (Go.Lib.idxBy (fun _ (y : S63) => decide (h ≤ y.f0)) l default) 0
theorem bang_at (l : List S63) (i : Nat) (h : i < l.length) : l[i]! = l[i] := by simp [h]
theorem first_bound (h : Int) (l : List S63) (d : Nat) : ∀ (i : Nat), l.length = i + d → (∀ j, j < i → decide (h ≤ (l[j]!).f0) = false) → 0 ≤ firstN h l ∧ (0 < l.length → firstN h l < (l.length : Int)) := by
  induction d with
  | zero =>
    intro i hd hA
    have e : firstN h l = 0 := by
      have := Go.Lib.idxBy_miss (fun _ (y : S63) => decide (h ≤ y.f0)) l l.length default (fun j hj => hA j (by omega))
      rw [List.take_length] at this
      unfold firstN
      rw [this]; rfl
    rw [e]
    exact ⟨by omega, fun hp => by omega⟩
  | succ d ih =>
    intro i hd hA
    have hi : i < l.length := by omega
    by_cases c : h ≤ l[i].f0
    · have e : firstN h l = (i : Int) := by
        have := Go.Lib.idxBy_hit (fun _ (y : S63) => decide (h ≤ y.f0)) l l.length i default hi (Nat.le_refl _) (by show decide (h ≤ (l[i]!).f0) = true; rw [bang_at l i hi]; exact decide_eq_true c) (fun j hj => hA j hj)
        rw [List.take_length] at this
        unfold firstN
        rw [this]; unfold mx; split <;> omega
      rw [e]
      exact ⟨by omega, fun hp => by omega⟩
    · exact ih (i + 1) (by omega) (fun j hj => by
        rcases Nat.lt_succ_iff_lt_or_eq.1 hj with hj | rfl
        · exact hA j hj
        · rw [bang_at l j hi]; exact decide_eq_false c)
/-- The place of the first spot for a key. -/
def fromN (l : List S63) (s : ByteArray) : Int := firstN (hashN s 0 : Nat) l
theorem fromN_bound (l : List S63) (s : ByteArray) : 0 ≤ fromN l s ∧ (0 < l.length → fromN l s < (l.length : Int)) := first_bound _ l l.length 0 (by omega) (fun j hj => absurd hj (Nat.not_lt_zero _))
theorem homeI_ev (l : List S63) (s : ByteArray) (hl : l.length ≤ 1048576) (hs : s.size ≤ 4611686018427387904) :
    Ev (fun k => impl_Ring_home.f k l s) (if l.length = 0 then -1 else fromN l s) := by
  unfold impl_Ring_home.f
  simp only [if_pos (show l.length < 1099511627776 by omega)]
  by_cases c : l.length = 0
  · simp only [if_pos c]; exact Ev.now _
  · simp only [if_neg c]
    exact Ev.bind (hashI_ev s hs 0 (by omega)) (Ev.now _)
/-- The home of a key. -/
def homeN (l : List S63) (s : ByteArray) : Int := if l.length = 0 then 0 else (rd_T63 l (fromN l s)).f1
theorem rdT63_at (x : List S63) (i : Nat) (h : i < x.length) : rd_T63 x (i : Int) = x[i] := by
  unfold rd_T63
  rw [List.getD_eq_getElem?_getD, Int.toNat_natCast, List.getElem?_eq_getElem h]
  rfl
/-- The node at a place, counted round and round. -/
def nodeAt (l : List S63) (z : Int) : Int := (rd_T63 l (Int.tmod z (l.length : Int))).f1
/-- The homes that are found from a place on. -/
def homesF (l : List S63) (n z : Int) : Nat → Nat → List Int → List Int
  | 0, _, out => out
  | d + 1, i, out => homesF l n z d (i + 1) (if (out.length : Int) < n ∧ nodeAt l (z + (i : Int)) ∉ out then out ++ [nodeAt l (z + (i : Int))] else out)
/-! A ring, told from a key's place on -/
def rotL (l : List (S63)) (h : Int) : List (S63) := l.filter (fun y => decide (h ≤ y.f0)) ++ l.filter (fun y => decide (¬ h ≤ y.f0))
theorem rotL_filter (l : List (S63)) (h : Int) (p : S63 → Bool) : rotL (l.filter p) h = (rotL l h).filter p := by
  unfold rotL
  rw [List.filter_append]
  simp only [List.filter_filter, Bool.and_comm]
theorem rotL_perm (l : List (S63)) (h : Int) : (rotL l h).Perm l := by
  unfold rotL
  have := List.filter_append_perm (fun y : S63 => decide (h ≤ y.f0)) l
  simpa only [decide_not] using this
theorem rotL_len (l : List (S63)) (h : Int) : (rotL l h).length = l.length := (rotL_perm l h).length_eq
theorem filter_pre {α : Type} (p : α → Bool) : ∀ (l : List α) (i : Nat), (∀ j (h : j < l.length), j < i → p l[j] = false) → (∀ j (h : j < l.length), i ≤ j → p l[j] = true) → l.filter p = l.drop i ∧ l.filter (fun x => !p x) = l.take i
  | [], i, _, _ => by simp
  | a :: l, 0, _, h2 => by
    have := filter_pre p l 0 (fun j h hj => absurd hj (Nat.not_lt_zero _)) (fun j h _ => by have := h2 (j + 1) (by simpa using h) (Nat.zero_le _); simpa using this)
    have ha := h2 0 (by simp) (Nat.le_refl _)
    simp only [List.getElem_cons_zero] at ha
    rw [List.filter_cons, if_pos ha, List.filter_cons, if_neg (by simp [ha]), this.1, this.2]
    simp
  | a :: l, i + 1, h1, h2 => by
    have := filter_pre p l i (fun j h hj => by have := h1 (j + 1) (by simpa using h) (by omega); simpa using this) (fun j h hj => by have := h2 (j + 1) (by simpa using h) (by omega); simpa using this)
    have ha := h1 0 (by simp) (by omega)
    simp only [List.getElem_cons_zero] at ha
    rw [List.filter_cons, if_neg (by simp [ha]), List.filter_cons, if_pos (by simp [ha]), this.1, this.2]
    simp
theorem rotL_first (l : List (S63)) (h : Int) (hs : l.Pairwise (fun a b => leSp a b = true)) : rotL l h = l.drop (firstN h l).toNat ++ l.take (firstN h l).toNat ∧ 0 ≤ firstN h l ∧ (0 < l.length → firstN h l < (l.length : Int)) := by
  by_cases c : ∃ j, j < l.length ∧ decide (h ≤ (l[j]!).f0) = true
  · obtain ⟨j, hj, hp⟩ := c
    -- the least one
    have : ∃ i, i < l.length ∧ decide (h ≤ (l[i]!).f0) = true ∧ ∀ j, j < i → decide (h ≤ (l[j]!).f0) = false := by
      clear hs
      induction j using Nat.strongRecOn with
      | _ j ih =>
        by_cases q : ∃ m, m < j ∧ decide (h ≤ (l[m]!).f0) = true
        · obtain ⟨m, hm, hq⟩ := q; exact ih m hm (by omega) hq
        · exact ⟨j, hj, hp, fun m hm => by
            cases hd : decide (h ≤ (l[m]!).f0) with
            | false => rfl
            | true => exact absurd ⟨m, hm, hd⟩ q⟩
    obtain ⟨i, hi, h1, h2⟩ := this
    have e : firstN h l = (i : Int) := by
      have := Go.Lib.idxBy_hit (fun _ (y : S63) => decide (h ≤ y.f0)) l l.length i default hi (Nat.le_refl _) h1 (fun j hj => h2 j hj)
      rw [List.take_length] at this
      unfold firstN
      rw [this]; unfold mx; split <;> omega
    rw [e, Int.toNat_natCast]
    refine ⟨?_, by omega, fun _ => by omega⟩
    have hf := filter_pre (fun y : S63 => decide (h ≤ y.f0)) l i (fun j hj hji => by have := h2 j hji; rw [bang_at l j hj] at this; exact this) (fun j hj hij => by
      rw [bang_at l i hi] at h1
      rcases Nat.eq_or_lt_of_le hij with rfl | hlt
      · exact h1
      · have := List.pairwise_iff_getElem.1 hs i j hi hj hlt
        rw [leSp_iff] at this
        have h1' := of_decide_eq_true h1
        exact decide_eq_true (by omega))
    unfold rotL
    rw [hf.1]
    congr 1
    rw [← hf.2]
    congr 1; funext y
    rw [decide_not]
  · have hA : ∀ j, j < l.length → decide (h ≤ (l[j]!).f0) = false := fun j hj => by
      cases hd : decide (h ≤ (l[j]!).f0) with
      | false => rfl
      | true => exact absurd ⟨j, hj, hd⟩ c
    have e : firstN h l = 0 := by
      have := Go.Lib.idxBy_miss (fun _ (y : S63) => decide (h ≤ y.f0)) l l.length default (fun j hj => hA j hj)
      rw [List.take_length] at this
      unfold firstN
      rw [this]; rfl
    rw [e]
    refine ⟨?_, by omega, fun _ => by omega⟩
    have hf := filter_pre (fun y : S63 => decide (h ≤ y.f0)) l l.length (fun j hj hji => by have := hA j hj; rw [bang_at l j hj] at this; exact this) (fun j hj hij => absurd hj (by omega))
    unfold rotL
    simp only [decide_not, hf.1, hf.2]
    simp
/-! ### Homes: the nodes of a ring, each once, from a key's place on -/
/-- One node more, unless there are so many, or it is there. -/
def stepD (n : Int) (out : List Int) (v : Int) : List Int := if (out.length : Int) < n ∧ v ∉ out then out ++ [v] else out
/-- Each once. -/
def dedup (l : List Int) : List Int := l.foldl (fun out v => if v ∈ out then out else out ++ [v]) []
theorem foldD_facts (l : List Int) : ∀ (out : List Int), out.Nodup → (l.foldl (fun out v => if v ∈ out then out else out ++ [v]) out).Nodup ∧ (∀ v, v ∈ l.foldl (fun out v => if v ∈ out then out else out ++ [v]) out ↔ v ∈ out ∨ v ∈ l) ∧ (∃ t, l.foldl (fun out v => if v ∈ out then out else out ++ [v]) out = out ++ t) := by
  induction l with
  | nil => intro out h; exact ⟨h, by simp, [], by simp⟩
  | cons a l ih =>
    intro out h
    rw [List.foldl_cons]
    by_cases c : a ∈ out
    · rw [if_pos c]
      obtain ⟨h1, h2, h3⟩ := ih out h
      refine ⟨h1, fun v => (h2 v).trans ⟨fun q => q.elim .inl (fun q => .inr (List.mem_cons_of_mem _ q)), fun q => q.elim .inl (fun q => ?_)⟩, h3⟩
      rcases List.mem_cons.1 q with rfl | q
      · exact .inl c
      · exact .inr q
    · rw [if_neg c]
      obtain ⟨h1, h2, t, h3⟩ := ih (out ++ [a]) (by
        rw [List.nodup_append]
        refine ⟨h, by simp, fun x hx y hy e => ?_⟩
        rw [List.mem_singleton] at hy
        subst hy e
        exact c hx)
      refine ⟨h1, fun v => (h2 v).trans (by simp [or_assoc]), [a] ++ t, by rw [h3]; simp⟩
theorem dedup_nodup (l : List Int) : (dedup l).Nodup := (foldD_facts l [] List.nodup_nil).1
theorem mem_dedup {l : List Int} {v : Int} : v ∈ dedup l ↔ v ∈ l := by
  have := (foldD_facts l [] List.nodup_nil).2.1 v
  unfold dedup
  rw [this]; simp
theorem foldD_head (a : Int) (l : List Int) : ∃ t, dedup (a :: l) = a :: t := by
  unfold dedup
  rw [List.foldl_cons, if_neg (by simp)]
  obtain ⟨t, h⟩ := (foldD_facts l [a] (by simp)).2.2
  exact ⟨t, by rw [List.nil_append, h]; rfl⟩
theorem foldD_filter (p : Int → Bool) (l : List Int) : ∀ (out : List Int), (l.foldl (fun out v => if v ∈ out then out else out ++ [v]) out).filter p = (l.filter p).foldl (fun out v => if v ∈ out then out else out ++ [v]) (out.filter p) := by
  induction l with
  | nil => intro out; rfl
  | cons a l ih =>
    intro out
    rw [List.foldl_cons, ih, List.filter_cons]
    by_cases c : a ∈ out
    · rw [if_pos c]
      by_cases q : p a = true
      · rw [if_pos q, List.foldl_cons, if_pos (List.mem_filter.2 ⟨c, q⟩)]
      · rw [if_neg q]
    · rw [if_neg c, List.filter_append, List.filter_cons]
      by_cases q : p a = true
      · rw [if_pos q, if_pos q, List.foldl_cons, if_neg (fun h => c (List.mem_filter.1 h).1), List.filter_nil]
      · rw [if_neg q, if_neg q, List.filter_nil, List.append_nil]
theorem dedup_filter (p : Int → Bool) (l : List Int) : (dedup l).filter p = dedup (l.filter p) := foldD_filter p l []
theorem stepD_full (n : Int) (l : List Int) : ∀ (out : List Int), ¬ (out.length : Int) < n → l.foldl (stepD n) out = out := by
  induction l with
  | nil => intro out _; rfl
  | cons a l ih => intro out h; rw [List.foldl_cons, stepD, if_neg (fun c => h c.1)]; exact ih out h
theorem foldN (n : Int) (l : List Int) : ∀ (out : List Int), out.Nodup → (out.length : Int) ≤ n → l.foldl (stepD n) out = (l.foldl (fun out v => if v ∈ out then out else out ++ [v]) out).take n.toNat := by
  induction l with
  | nil => intro out _ h; rw [List.foldl_nil, List.foldl_nil, List.take_of_length_le (by omega)]
  | cons a l ih =>
    intro out hn h
    by_cases f : (out.length : Int) < n
    · rw [List.foldl_cons, List.foldl_cons, stepD]
      by_cases c : a ∈ out
      · rw [if_neg (fun q => q.2 c), if_pos c]; exact ih out hn h
      · rw [if_pos ⟨f, c⟩, if_neg c]
        refine ih _ ?_ (by rw [List.length_append, List.length_singleton]; omega)
        rw [List.nodup_append]
        refine ⟨hn, by simp, fun x hx y hy e => ?_⟩
        rw [List.mem_singleton] at hy
        subst hy e
        exact c hx
    · rw [stepD_full n _ out f]
      obtain ⟨t, e⟩ := (foldD_facts (a :: l) out hn).2.2
      rw [e, List.take_left' (by omega)]
theorem homes_take (n : Int) (l : List Int) (h : 0 ≤ n) : l.foldl (stepD n) [] = (dedup l).take n.toNat := foldN n l [] List.nodup_nil (by simpa using h)
theorem getElem_app {α : Type} {x y : List α} {i : Nat} (h : i < x.length) (h' : i < (x ++ y).length) : (x ++ y)[i] = x[i] := List.getElem_append_left h
/-- The homes that are found are those of the rotated ring. -/
theorem nodeAt_rot (l : List (S63)) (z i : Nat) (hz : z < l.length) (hi : i < l.length) : nodeAt l ((z : Int) + (i : Int)) = ((l.drop z ++ l.take z)[i]'(by rw [List.length_append, List.length_drop, List.length_take]; omega)).f1 := by
  have e0 : Int.tmod ((z : Int) + (i : Int)) (l.length : Int) = (((z + i) % l.length : Nat) : Int) := by
    rw [Int.tmod_eq_emod_of_nonneg (by omega), ← Int.natCast_add]; rfl
  unfold nodeAt
  rw [e0, rdT63_at l _ (Nat.mod_lt _ (by omega))]
  congr 1
  by_cases c : z + i < l.length
  · rw [List.getElem_append_left (by rw [List.length_drop]; omega), List.getElem_drop]
    congr 1
    exact Nat.mod_eq_of_lt c
  · rw [List.getElem_append_right (by rw [List.length_drop]; omega), List.getElem_take]
    congr 1
    rw [List.length_drop, Nat.mod_eq_sub_mod (by omega), Nat.mod_eq_of_lt (by omega)]
    omega
theorem homesF_rot (l : List (S63)) (n : Int) (z : Nat) (hz : z < l.length) (d : Nat) : ∀ (i : Nat) (out : List Int), l.length = i + d → homesF l n z d i out = (((l.drop z ++ l.take z).drop i).map (fun s => s.f1)).foldl (stepD n) out := by
  have hL : (l.drop z ++ l.take z).length = l.length := by rw [List.length_append, List.length_drop, List.length_take]; omega
  induction d with
  | zero => intro i out h; rw [homesF, List.drop_eq_nil_of_le (by omega)]; rfl
  | succ d ih =>
    intro i out h
    rw [homesF, List.drop_eq_getElem_cons (by omega), List.map_cons, List.foldl_cons, ih (i + 1) _ (by omega), stepD, nodeAt_rot l z i hz (by omega)]
/-! ### Lists of nodes -/
theorem lt_unique {l m : List Int} (h : ∀ v, v ∈ l ↔ v ∈ m) (hl : l.Pairwise (· < ·)) (hm : m.Pairwise (· < ·)) : l = m := by
  have nl : l.Nodup := hl.imp (fun h e => by omega)
  have nm : m.Nodup := hm.imp (fun h e => by omega)
  exact List.Perm.eq_of_pairwise (le := (· < ·)) (fun a b _ _ h1 h2 => absurd h1 (by omega)) hl hm ((List.perm_ext_iff_of_nodup nl nm).2 h)
structure ValidN (ns : List Int) : Prop where
  len : 1 ≤ ns.length ∧ ns.length ≤ 6
  range : ∀ v ∈ ns, 1 ≤ v ∧ v ≤ 9
  asc : ns.Pairwise (· < ·)
theorem validN_iff {ns : List Int} : validN ns = true ↔ ValidN ns := by
  unfold validN
  simp only [Bool.and_eq_true, decide_eq_true_eq]
  exact ⟨fun ⟨h1, h2, h3⟩ => ⟨h1, h2, h3⟩, fun h => ⟨h.len, h.range, h.asc⟩⟩
theorem ring_members (ns : List Int) (v : Int) : (∃ s ∈ ringL ns, s.f1 = v) ↔ v ∈ ns := ⟨fun ⟨s, hs, e⟩ => e ▸ mem_ring hs, fun h => ring_mem h⟩
/-! ### What the laws say of rings -/
theorem homeN_rot (l : List (S63)) (s : ByteArray) (hs : l.Pairwise (fun a b => leSp a b = true)) : homeN l s = (((rotL l (hashN s 0 : Nat)).map (fun x => x.f1)).head?).getD 0 := by
  unfold homeN
  by_cases c : l.length = 0
  · rw [if_pos c, List.eq_nil_of_length_eq_zero c]; rfl
  · rw [if_neg c]
    obtain ⟨h1, h2, h3⟩ := rotL_first l (hashN s 0 : Nat) hs
    have h3 := h3 (by omega)
    have e : fromN l s = (((firstN (hashN s 0 : Nat) l).toNat : Nat) : Int) := by unfold fromN; omega
    rw [e, rdT63_at l _ (by omega), h1, List.drop_eq_getElem_cons (by omega)]
    rfl
theorem homesN_rot (l : List (S63)) (s : ByteArray) (n : Int) (hs : l.Pairwise (fun a b => leSp a b = true)) (hp : 0 < l.length) : homesF l n (fromN l s) l.length 0 [] = ((rotL l (hashN s 0 : Nat)).map (fun x => x.f1)).foldl (stepD n) [] := by
  obtain ⟨h1, h2, h3⟩ := rotL_first l (hashN s 0 : Nat) hs
  have h3 := h3 hp
  have e : fromN l s = (((firstN (hashN s 0 : Nat) l).toNat : Nat) : Int) := by unfold fromN; omega
  rw [e, homesF_rot l n _ (by omega) l.length 0 [] (by omega), h1]
  rfl
/-- All nodes, from a key's place on, each once. -/
def allH (ns : List Int) (s : ByteArray) : List Int := dedup ((rotL (ringL ns) (hashN s 0 : Nat)).map (fun x => x.f1))
theorem mem_allH {ns : List Int} {s : ByteArray} {v : Int} : v ∈ allH ns s ↔ v ∈ ns := by
  unfold allH
  rw [mem_dedup, List.mem_map]
  refine Iff.trans ?_ (ring_members ns v)
  constructor
  · rintro ⟨x, hx, e⟩; exact ⟨x, (rotL_perm _ _).mem_iff.1 hx, e⟩
  · rintro ⟨x, hx, e⟩; exact ⟨x, (rotL_perm _ _).mem_iff.2 hx, e⟩
theorem allH_nodup (ns : List Int) (s : ByteArray) : (allH ns s).Nodup := dedup_nodup _
theorem allH_len {ns : List Int} (s : ByteArray) (h : ns.Pairwise (· < ·)) : (allH ns s).length = ns.length :=
  ((List.perm_ext_iff_of_nodup (allH_nodup ns s) (h.imp (fun h e => by omega))).2 (fun v => mem_allH)).length_eq
theorem allH_filter (ns : List Int) (s : ByteArray) (x : Int) : (allH ns s).filter (fun v => decide (v ≠ x)) = allH (ns.filter (fun v => decide (v ≠ x))) s := by
  unfold allH
  rw [dedup_filter, ← ringL_filter, rotL_filter, List.filter_map]
  rfl
theorem homes_ring {ns : List Int} (s : ByteArray) (n : Int) (hn : 0 ≤ n) (h : ns ≠ []) : homesF (ringL ns) n (fromN (ringL ns) s) (ringL ns).length 0 [] = (allH ns s).take n.toNat := by
  have : 0 < (ringL ns).length := by
    rw [ringL_len]
    rcases Nat.eq_zero_or_pos ns.length with q | q
    · exact absurd (List.eq_nil_of_length_eq_zero q) h
    · omega
  rw [homesN_rot _ _ _ (ringL_sorted ns) this, homes_take _ _ hn]
  rfl
theorem home_ring {ns : List Int} (s : ByteArray) : homeN (ringL ns) s = (allH ns s).head?.getD 0 := by
  rw [homeN_rot _ _ (ringL_sorted ns)]
  unfold allH
  cases (rotL (ringL ns) (hashN s 0 : Nat)).map (fun x => x.f1) with
  | nil => rfl
  | cons a l => obtain ⟨t, e⟩ := foldD_head a l; rw [e]; rfl
theorem home_mem {ns : List Int} (s : ByteArray) (h : ns ≠ []) : homeN (ringL ns) s ∈ ns := by
  rw [home_ring]
  cases q : allH ns s with
  | nil =>
    obtain ⟨v, hv⟩ := List.exists_mem_of_ne_nil _ h
    have := (mem_allH (s := s)).2 hv
    rw [q] at this; cases this
  | cons a l => exact (mem_allH (s := s)).1 (by rw [q]; exact List.mem_cons_self)
/-- When a node goes, just its keys move. -/
theorem home_moves {ns : List Int} (s : ByteArray) (x : Int) (hx : ns.filter (fun v => decide (v ≠ x)) ≠ []) : homeN (ringL ns) s ≠ homeN (ringL (ns.filter (fun v => decide (v ≠ x)))) s ↔ homeN (ringL ns) s = x := by
  have hm := home_mem s hx
  have hne : homeN (ringL (ns.filter (fun v => decide (v ≠ x)))) s ≠ x := by
    have := (List.mem_filter.1 hm).2
    simpa using this
  constructor
  · intro h
    refine Classical.byContradiction fun q => h ?_
    rw [home_ring, home_ring, ← allH_filter]
    rw [home_ring] at q
    cases e : allH ns s with
    | nil => rfl
    | cons a l =>
      rw [e] at q
      rw [List.filter_cons, if_pos (by simpa using q)]
      rfl
  · intro h e
    exact hne (e.symm.trans h)
theorem once_some (b : List Int) (i h n : Int) (hb : b.length ≤ 140737488351232) (hi : 0 ≤ i) :
    ∃ r i' h', spec_l01Once.f b i h n = some (r, i', h') ∧ 0 ≤ i' := by
  obtain ⟨r, i1, h1, e1, r0, r1, hi1⟩ := below_some b i h n hb hi
  unfold spec_l01Once.f
  rw [e1]; simp only [Option.bind_some]
  exact ⟨_, _, _, rfl, hi1⟩
/-- Nodes that are drawn. -/
structure NodesR (v : Nat) (x : List Int) : Prop where
  asc : x.Pairwise (· < ·)
  range : ∀ y ∈ x, 1 ≤ y ∧ y < (v : Int)
  len : x.length ≤ 6
  two : v ≤ 3 → x.length + 1 = v
  more : 3 ≤ v → 2 ≤ x.length
theorem NodesR.next {v : Nat} {x : List Int} (h : NodesR v x) (hl : x.length < 6) : NodesR (v + 1) (x ++ [(v : Int)]) where
  asc := List.pairwise_append.2 ⟨h.asc, List.pairwise_singleton _ _, fun a ha b hb => by rw [List.mem_singleton.1 hb]; exact (h.range a ha).2⟩
  range := fun y hy => by
    rcases List.mem_append.1 hy with hy | hy
    · have := h.range y hy; omega
    · rw [List.mem_singleton.1 hy]
      have : 1 ≤ v := by
        rcases Nat.lt_or_ge v 4 with q | q
        · have := h.two (by omega); omega
        · omega
      omega
  len := by rw [List.length_append, List.length_singleton]; omega
  two := fun q => by have := h.two (by omega); rw [List.length_append, List.length_singleton]; omega
  more := fun q => by
    rw [List.length_append, List.length_singleton]
    rcases Nat.lt_or_ge v 3 with q' | q'
    · have := h.two (by omega); omega
    · have := h.more q'; omega
theorem NodesR.skip {v : Nat} {x : List Int} (h : NodesR v x) (h3 : 3 ≤ v) : NodesR (v + 1) x where
  asc := h.asc
  range := fun y hy => by have := h.range y hy; omega
  len := h.len
  two := fun q => by omega
  more := fun _ => h.more h3
theorem drawNodes_loop (b : List Int) (hb : b.length ≤ 140737488351232) (d : Nat) : ∀ (x : List Int) (v : Nat) (c h : Int), v + d = 10 → 1 ≤ v → 0 ≤ c → NodesR v x →
    ∃ l : List Int, Ev (fun k => spec_DrawNodes.l0 k x (v : Int) b c h) l ∧ NodesR 10 l := by
  induction d with
  | zero =>
    intro x v c h hd h1 hc hx
    obtain rfl : v = 10 := by omega
    refine ⟨x, Ev.step (f := fun k => spec_DrawNodes.j1 k x ((10 : Nat) : Int) false b c h) (fun k => ?_) (Ev.step (f := fun _ => some x) (fun k => ?_) (Ev.now _)), hx⟩
    · simp only [spec_DrawNodes.l0]; rw [if_neg (by omega)]
    · simp only [spec_DrawNodes.j1]; rw [if_neg (by decide)]
  | succ d ih =>
    intro x v c h hd h1 hc hx
    by_cases hl : x.length < 6
    · by_cases h2 : v ≤ 2
      · obtain ⟨l, e, hr⟩ := ih (x ++ [(v : Int)]) (v + 1) c h (by omega) (by omega) hc (hx.next hl)
        refine ⟨l, Ev.step (f := fun k => spec_DrawNodes.j1 k x (v : Int) true b c h) (fun k => ?_) (Ev.step (fun k => ?_) e), hr⟩
        · simp only [spec_DrawNodes.l0]; rw [if_pos (by omega), decide_eq_true (show (x.length : Int) < 6 by omega)]
        · simp only [spec_DrawNodes.j1]; rw [if_pos trivial, if_pos (by omega), if_pos (by omega), w64 v (by omega)]
      · obtain ⟨r, c1, h1', e1, hc1⟩ := once_some b c h 3 hb hc
        cases r with
        | true =>
          obtain ⟨l, e, hr⟩ := ih (x ++ [(v : Int)]) (v + 1) c1 h1' (by omega) (by omega) hc1 (hx.next hl)
          refine ⟨l, Ev.step (f := fun k => spec_DrawNodes.j1 k x (v : Int) true b c h) (fun k => ?_) (Ev.step (fun k => ?_) e), hr⟩
          · simp only [spec_DrawNodes.l0]; rw [if_pos (by omega), decide_eq_true (show (x.length : Int) < 6 by omega)]
          · simp only [spec_DrawNodes.j1]; rw [if_pos trivial, if_neg (by omega), e1]; simp only [Option.bind_some]; rw [if_pos trivial, if_pos (by omega), w64 v (by omega)]
        | false =>
          obtain ⟨l, e, hr⟩ := ih x (v + 1) c1 h1' (by omega) (by omega) hc1 (hx.skip (by omega))
          refine ⟨l, Ev.step (f := fun k => spec_DrawNodes.j1 k x (v : Int) true b c h) (fun k => ?_) (Ev.step (fun k => ?_) e), hr⟩
          · simp only [spec_DrawNodes.l0]; rw [if_pos (by omega), decide_eq_true (show (x.length : Int) < 6 by omega)]
          · simp only [spec_DrawNodes.j1]; rw [if_pos trivial, if_neg (by omega), e1]; simp only [Option.bind_some]; rw [if_neg (by decide), w64 v (by omega)]
    · have h6 : x.length = 6 := by have := hx.len; omega
      refine ⟨x, Ev.step (f := fun k => spec_DrawNodes.j1 k x (v : Int) false b c h) (fun k => ?_) (Ev.step (f := fun _ => some x) (fun k => ?_) (Ev.now _)), ⟨hx.asc, fun y hy => by have := hx.range y hy; omega, hx.len, fun q => by omega, fun _ => by omega⟩⟩
      · simp only [spec_DrawNodes.l0]; rw [if_pos (by omega), decide_eq_false (by omega)]
      · simp only [spec_DrawNodes.j1]; rw [if_neg (by decide)]
theorem drawNodes_ev (b : List Int) (hb : b.length ≤ 140737488351232) : ∃ l : List Int, Ev (fun k => spec_DrawNodes.f k b) l ∧ ValidN l ∧ 2 ≤ l.length := by
  obtain ⟨h, hn⟩ := new_ev b hb
  obtain ⟨l, hl, hr⟩ := drawNodes_loop b hb 9 [] 1 0 h rfl (by omega) (by omega) ⟨List.Pairwise.nil, (fun y hy => by cases hy), (by simp), fun _ => rfl, (fun q => by omega)⟩
  refine ⟨l, ?_, ⟨⟨by have := hr.more (by omega); omega, hr.len⟩, fun y hy => by have := hr.range y hy; omega, hr.asc⟩, hr.more (by omega)⟩
  unfold spec_DrawNodes.f
  exact Ev.bind hn hl
theorem drawWords_loop (b : List Int) (hb : b.length ≤ 140737488351232) (d : Nat) : ∀ (x : List ByteArray) (i : Nat) (c h : Int), x.length = i → i + d = 29 → 0 ≤ c → (∀ s ∈ x, s ∈ nameList) →
    ∃ l : List ByteArray, Ev (fun k => spec_DrawWords.l0 k x (i : Int) b c h) l ∧ l.length ≤ 29 ∧ ∀ s ∈ l, s ∈ nameList := by
  induction d with
  | zero =>
    intro x i c h hx hd hc hm
    obtain ⟨r, i1, h1, e1, r0, r1, hi1⟩ := below_some b c h 30 hb hc
    refine ⟨x, Ev.step (f := fun _ => some x) (fun k => ?_) (Ev.now _), by omega, hm⟩
    simp only [spec_DrawWords.l0]
    rw [e1]; simp only [Option.bind_some]
    rw [if_neg (by have := r1 (by omega); omega)]
  | succ d ih =>
    intro x i c h hx hd hc hm
    obtain ⟨r, i1, h1, e1, r0, r1, hi1⟩ := below_some b c h 30 hb hc
    by_cases hlt : (i : Int) < r
    · obtain ⟨v, i2, h2, e2, hv, hi2⟩ := key_some b i1 h1 hb hi1
      obtain ⟨l, hl, hn, hml⟩ := ih (x ++ [v]) (i + 1) i2 h2 (by simp [hx]) (by omega) hi2 (by
        intro s hs
        rcases List.mem_append.1 hs with h' | h'
        · exact hm s h'
        · rw [List.mem_singleton.1 h']; exact hv)
      refine ⟨l, Ev.step (fun k => ?_) hl, hn, hml⟩
      simp only [spec_DrawWords.l0]
      rw [e1]; simp only [Option.bind_some]
      rw [if_pos hlt, e2]; simp only [Option.bind_some]
      rw [if_pos (by omega), w64 i (by omega)]
    · refine ⟨x, Ev.step (f := fun _ => some x) (fun k => ?_) (Ev.now _), by omega, hm⟩
      simp only [spec_DrawWords.l0]
      rw [e1]; simp only [Option.bind_some]
      rw [if_neg hlt]
theorem drawWords_ev (b : List Int) (hb : b.length ≤ 140737488351232) : ∃ l : List ByteArray, Ev (fun k => spec_DrawWords.f k b) l ∧ l.length ≤ 29 ∧ ∀ s ∈ l, s ∈ nameList := by
  obtain ⟨h, hn⟩ := new_ev b hb
  obtain ⟨l, hl, hlen, hm⟩ := drawWords_loop b hb 29 [] 0 0 h rfl rfl (by omega) (fun s hs => by cases hs)
  refine ⟨l, ?_, hlen, hm⟩
  unfold spec_DrawWords.f
  exact Ev.bind hn hl
theorem compact_sorted (zs : List Int) (hs : zs.Pairwise (· ≤ ·)) (m : Nat) (hm : m ≤ zs.length) : (Go.Lib.compactUpTo zs.toArray m).Pairwise (· < ·) ∧ ∀ v, v ∈ Go.Lib.compactUpTo zs.toArray m ↔ ∃ j, j < m ∧ zs[j]! = v := by
  have hle : ∀ i j, i ≤ j → j < zs.length → zs[i]! ≤ zs[j]! := fun i j hij hj => by
    rcases Nat.eq_or_lt_of_le hij with rfl | h
    · exact Int.le_refl _
    · have := List.pairwise_iff_getElem.1 hs i j (by omega) hj h
      simpa [List.getElem!_eq_getElem?_getD, hj, show i < zs.length by omega] using this
  have hA : ∀ i : Nat, zs.toArray[i]! = zs[i]! := fun i => by simp
  induction m with
  | zero => exact ⟨by simp [Go.Lib.compactUpTo], by simp [Go.Lib.compactUpTo]⟩
  | succ m ih =>
    obtain ⟨h1, h2⟩ := ih (by omega)
    rw [Go.Lib.compactUpTo_succ, hA]
    by_cases k : Go.Lib.keeps zs.toArray m = true
    · rw [if_pos k]
      refine ⟨List.pairwise_append.2 ⟨h1, List.pairwise_singleton _ _, fun a ha b hb => ?_⟩, fun v => ?_⟩
      · obtain rfl := List.mem_singleton.1 hb
        obtain ⟨j, hj, rfl⟩ := (h2 a).1 ha
        have hk := of_decide_eq_true k
        rw [hA, hA] at hk
        have e1 := hle j (m - 1) (by omega) (by omega)
        have e2 := hle (m - 1) m (by omega) (by omega)
        rcases hk with hk | hk
        · omega
        · omega
      · rw [List.mem_append, h2, List.mem_singleton]
        constructor
        · rintro (⟨j, hj, e⟩ | e)
          · exact ⟨j, by omega, e⟩
          · exact ⟨m, by omega, e.symm⟩
        · rintro ⟨j, hj, e⟩
          rcases Nat.lt_succ_iff_lt_or_eq.1 hj with hj | rfl
          · exact .inl ⟨j, hj, e⟩
          · exact .inr e.symm
    · have k' : Go.Lib.keeps zs.toArray m = false := by simpa using k
      rw [if_neg k, List.append_nil]
      refine ⟨h1, fun v => (h2 v).trans ⟨fun ⟨j, hj, e⟩ => ⟨j, by omega, e⟩, fun ⟨j, hj, e⟩ => ?_⟩⟩
      rcases Nat.lt_succ_iff_lt_or_eq.1 hj with hj | rfl
      · exact ⟨j, hj, e⟩
      · have hk := of_decide_eq_false k'
        rw [hA, hA] at hk
        refine ⟨j - 1, ?_, ?_⟩
        · rcases Nat.eq_zero_or_pos j with h0 | h0
          · exact absurd (.inl h0) hk
          · omega
        · rw [← e]
          exact (Classical.not_not.1 (fun q => hk (.inr q))).symm
theorem nodesI_facts (l : List (S63)) : (nodesI l).Pairwise (· < ·) ∧ ∀ v, v ∈ nodesI l ↔ ∃ s ∈ l, s.f1 = v := by
  have hs : ((l.map (fun s => s.f1)).mergeSort (fun a b => decide (a ≤ b))).Pairwise (· ≤ ·) :=
    (List.pairwise_mergeSort (le := fun a b : Int => decide (a ≤ b)) (fun a b c h1 h2 => by simp only [decide_eq_true_eq] at *; omega) (fun a b => by simp only [Bool.or_eq_true, decide_eq_true_eq]; omega) _).imp (fun h => of_decide_eq_true h)
  obtain ⟨h1, h2⟩ := compact_sorted _ hs _ (Nat.le_refl _)
  refine ⟨h1, fun v => (h2 v).trans ?_⟩
  constructor
  · rintro ⟨j, hj, e⟩
    have : v ∈ (l.map (fun s => s.f1)).mergeSort (fun a b => decide (a ≤ b)) := by
      rw [← e, List.getElem!_eq_getElem?_getD, List.getElem?_eq_getElem hj]; exact List.getElem_mem hj
    obtain ⟨s, hs, e⟩ := List.mem_map.1 ((List.mergeSort_perm _ _).mem_iff.1 this)
    exact ⟨s, hs, e⟩
  · rintro ⟨s, hs, e⟩
    have : v ∈ (l.map (fun s => s.f1)).mergeSort (fun a b => decide (a ≤ b)) := (List.mergeSort_perm _ _).mem_iff.2 (List.mem_map.2 ⟨s, hs, e⟩)
    obtain ⟨j, hj, e⟩ := List.getElem_of_mem this
    exact ⟨j, hj, by rw [List.getElem!_eq_getElem?_getD, List.getElem?_eq_getElem hj]; exact e⟩
/-- As the reference has them. -/
def nodesS (l : List (S63)) : List Int := ([0, 1, 2, 3, 4, 5, 6, 7, 8, 9] : List Int).filter (fun v => l.any (fun s => decide (s.f1 = v)))
theorem nodesI_ring {ns : List Int} (h : ns.Pairwise (· < ·)) : nodesI (ringL ns) = ns :=
  lt_unique (fun v => ((nodesI_facts _).2 v).trans (ring_members ns v)) (nodesI_facts _).1 h
theorem nodesS_ring {ns : List Int} (h : ValidN ns) : nodesS (ringL ns) = ns := by
  refine lt_unique (fun v => ?_) (List.Pairwise.filter _ (by decide)) h.asc
  rw [← ring_members ns v]
  unfold nodesS
  rw [List.mem_filter, List.any_eq_true]
  constructor
  · rintro ⟨_, s, hs, e⟩; exact ⟨s, hs, of_decide_eq_true e⟩
  · rintro ⟨s, hs, e⟩
    refine ⟨?_, s, hs, decide_eq_true e⟩
    have := h.range v (e ▸ mem_ring hs)
    obtain ⟨h1, h2⟩ := this
    have : v = 1 ∨ v = 2 ∨ v = 3 ∨ v = 4 ∨ v = 5 ∨ v = 6 ∨ v = 7 ∨ v = 8 ∨ v = 9 := by omega
    simp only [List.mem_cons, List.not_mem_nil, or_false]
    omega
/-- Spots are a ring of nodes. -/
def RingR (l : List (S63)) : Prop := ∃ ns, ValidN ns ∧ ringL ns = l
theorem ringR_I (l : List (S63)) : RingR l ↔ ValidN (nodesI l) ∧ ringL (nodesI l) = l :=
  ⟨fun ⟨ns, h, e⟩ => by subst e; rw [nodesI_ring h.asc]; exact ⟨h, rfl⟩, fun h => ⟨_, h.1, h.2⟩⟩
theorem ringR_S (l : List (S63)) : RingR l ↔ ValidN (nodesS l) ∧ ringL (nodesS l) = l :=
  ⟨fun ⟨ns, h, e⟩ => by subst e; rw [nodesS_ring h]; exact ⟨h, rfl⟩, fun h => ⟨_, h.1, h.2⟩⟩
theorem homeOfI_ev (l : List S63) (s : ByteArray) (hl : l.length ≤ 1048576) (hs : s.size ≤ 4611686018427387904) : Ev (fun k => impl_HomeOf.f k l s) (homeN l s) := by
  obtain ⟨h2, h3⟩ := fromN_bound l s
  have h := homeI_ev l s hl hs
  unfold impl_HomeOf.f homeN
  refine Ev.bind h ?_
  by_cases c : l.length = 0
  · simp only [if_pos c, if_pos (show (-1 : Int) < 0 by omega)]; exact Ev.now _
  · simp only [if_neg c, if_neg (show ¬ fromN l s < 0 by omega), if_pos h2, if_pos (h3 (by omega))]
    exact Ev.now _
/-! ### The homes of a key, as the program finds them -/
theorem dropn {α : Type} (x : List α) (i : Nat) (h : i < x.length) : x.drop i = x[i] :: x.drop (i + 1) := List.drop_eq_getElem_cons h
theorem mem_dropn (l : List Int) (v : Int) (i : Nat) (h : i < l.length) (c : ¬ l[i] = v) : decide (v ∈ l.drop i) = decide (v ∈ l.drop (i + 1)) := by
  rw [dropn l i h, decide_eq_decide, List.mem_cons]
  exact ⟨fun h => h.resolve_left (fun e => c e.symm), .inr⟩
theorem ixI_loop (l : List Int) (v : Int) (hl : l.length ≤ 1048576) (d : Nat) : ∀ (i : Nat), l.length = i + d → ∃ j : Int, Ev (fun k => slices_Index_int_int.l0 k l v (l.length : Int) (i : Int)) j ∧ decide (j ≥ 0) = decide (v ∈ l.drop i) := by
  induction d with
  | zero =>
    intro i hd
    rw [List.drop_eq_nil_of_le (by omega)]
    refine ⟨-1, Ev.step (f := fun _ => some (-1)) (fun k => ?_) (Ev.now _), by simp⟩
    simp only [slices_Index_int_int.l0]; rw [if_neg (by omega)]
  | succ d ih =>
    intro i hd
    have hi : i < l.length := by omega
    by_cases c : v = l[i]
    · refine ⟨(i : Int), Ev.step (f := fun _ => some (i : Int)) (fun k => ?_) (Ev.now _), ?_⟩
      · simp only [slices_Index_int_int.l0, rd_at l i hi]
        rw [if_pos (by omega), if_pos (by omega), if_pos (by omega), if_pos c]
      · rw [dropn l i hi, decide_eq_true (show (i : Int) ≥ 0 by omega), decide_eq_true (by rw [c]; exact List.mem_cons_self)]
    · rw [mem_dropn l v i hi (fun e => c e.symm)]
      obtain ⟨j, hj, hd'⟩ := ih (i + 1) (by omega)
      refine ⟨j, Ev.step (fun k => ?_) hj, hd'⟩
      simp only [slices_Index_int_int.l0, rd_at l i hi]
      rw [if_pos (by omega), if_pos (by omega), if_pos (by omega), if_neg c, w64 i (by omega)]
theorem hasInt_ev (l : List Int) (v : Int) (hl : l.length ≤ 1048576) : Ev (fun k => slices_Contains_int_int.f k l v) (decide (v ∈ l)) := by
  obtain ⟨j, h, e⟩ := ixI_loop l v hl l.length 0 (by omega)
  unfold slices_Contains_int_int.f
  rw [show l = l.drop 0 from rfl, ← e]
  exact Ev.bind h (Ev.now _)
theorem homesI_loop (l : List S63) (n z : Int) (hl : l.length ≤ 1048576) (h0 : 0 ≤ z) (h1 : z < (l.length : Int)) (d : Nat) : ∀ (i : Nat) (out : List Int), l.length = i + d → out.length ≤ i →
    Ev (fun k => impl_HomesOf.l0 k n out z (l.length : Int) (i : Int) l) (homesF l n z d i out) := by
  induction d with
  | zero =>
    intro i out hd ho
    refine Ev.step (f := fun _ => some out) (fun k => ?_) (Ev.now _)
    simp only [impl_HomesOf.l0]; rw [if_neg (by omega)]
  | succ d ih =>
    intro i out hd ho
    have e : wrap64 (z + (i : Int)) = z + (i : Int) := by unfold wrap64; omega
    have t0 : 0 ≤ Int.tmod (z + (i : Int)) (l.length : Int) := Int.tmod_nonneg _ (by omega)
    have t1 : Int.tmod (z + (i : Int)) (l.length : Int) < (l.length : Int) := Int.tmod_lt_of_pos _ (by omega)
    rw [homesF]
    by_cases c : (out.length : Int) < n
    · refine Ev.step (f := fun k => (slices_Contains_int_int.f k out (nodeAt l (z + (i : Int)))).bind fun t => (if t = true then (impl_HomesOf.l0 k n out z (l.length : Int) ((i + 1 : Nat) : Int) l) else (impl_HomesOf.l0 k n (out ++ [nodeAt l (z + (i : Int))]) z (l.length : Int) ((i + 1 : Nat) : Int) l))) (fun k => ?_) ?_
      · simp only [impl_HomesOf.l0]
        rw [if_pos (by omega), if_neg (by omega), e, if_pos t0, if_pos t1, if_pos c, w64 i (by omega)]
        simp only [if_pos (show out.length < 17592186044416 by omega)]
        rfl
      · refine Ev.bind (hasInt_ev out (nodeAt l (z + (i : Int))) (by omega)) ?_
        by_cases m : nodeAt l (z + (i : Int)) ∈ out
        · rw [if_neg (fun q => q.2 m), decide_eq_true m]
          simp only [if_true]
          exact ih (i + 1) out (by omega) (by omega)
        · rw [if_pos ⟨c, m⟩, decide_eq_false m]
          simp only [Bool.false_eq_true, if_false]
          exact ih (i + 1) _ (by omega) (by rw [List.length_append, List.length_singleton]; omega)
    · rw [if_neg (fun q => c q.1)]
      refine Ev.step (fun k => ?_) (ih (i + 1) out (by omega) (by omega))
      simp only [impl_HomesOf.l0]
      rw [if_pos (by omega), if_neg (by omega), e, if_pos t0, if_pos t1, if_neg c, w64 i (by omega)]
theorem homesOfI_ev (ns : List Int) (hv : ValidN ns) (s : ByteArray) (n : Int) (hn : 0 ≤ n) (hs : s.size ≤ 1048576) : Ev (fun k => impl_HomesOf.f k (ringL ns) s n) ((allH ns s).take n.toNat) := by
  have hl := hv.len
  have hr : (ringL ns).length = 4 * ns.length := ringL_len ns
  obtain ⟨h2, h3⟩ := fromN_bound (ringL ns) s
  have h := homeI_ev (ringL ns) s (by omega) (by omega)
  rw [if_neg (show ¬ (ringL ns).length = 0 by omega)] at h
  have he := homesI_loop (ringL ns) n (fromN (ringL ns) s) (by omega) h2 (h3 (by omega)) (ringL ns).length 0 [] (by omega) (by simp)
  rw [homes_ring s n hn (fun e => by rw [e] at hl; simp at hl)] at he
  unfold impl_HomesOf.f
  exact Ev.bind h he
theorem sameInts_loop (l : List Int) (hl : l.length ≤ 1048576) (d : Nat) : ∀ (i : Nat), l.length = i + d → Ev (fun k => laws_sameInts.l0 k l l (i : Int)) true := by
  induction d with
  | zero =>
    intro i hd
    refine Ev.step (f := fun _ => some true) (fun k => ?_) (Ev.now _)
    simp only [laws_sameInts.l0]; rw [if_neg (by omega)]
  | succ d ih =>
    intro i hd
    refine Ev.step (fun k => ?_) (ih (i + 1) (by omega))
    simp only [laws_sameInts.l0, if_true]
    rw [if_pos (by omega), if_pos (by omega), if_pos (by omega), w64 i (by omega)]
theorem sameInts_ev (l : List Int) (hl : l.length ≤ 1048576) : Ev (fun k => laws_sameInts.f k l l) true := by
  unfold laws_sameInts.f
  simp only [if_true]
  exact sameInts_loop l hl l.length 0 (by omega)
/-! ### Is it a ring? -/
theorem eqSp_loop (a b : List S63) (hl : a.length = b.length) (hn : a.length ≤ 1048576) (d : Nat) : ∀ (i : Nat), i + d = a.length → a.take i = b.take i → ∃ r, Ev (fun k => impl_Spot_54.l0 k a b (a.length : Int) (i : Int)) r ∧ (r = true ↔ a = b) := by
  induction d with
  | zero =>
    intro i hi ht
    have e : a = b := by rw [List.take_of_length_le (by omega), List.take_of_length_le (by omega)] at ht; exact ht
    refine ⟨true, Ev.step (f := fun _ => some true) (fun k => ?_) (Ev.now _), ⟨fun _ => e, fun _ => rfl⟩⟩
    simp only [impl_Spot_54.l0]; rw [if_neg (by omega)]
  | succ d ih =>
    intro i hi ht
    have h1 : i < a.length := by omega
    have h2 : i < b.length := by omega
    by_cases c : a[i] = b[i]
    · obtain ⟨r, hr, hq⟩ := ih (i + 1) (by omega) (by rw [List.take_add_one, List.take_add_one, ht, List.getElem?_eq_getElem h1, List.getElem?_eq_getElem h2, c])
      refine ⟨r, Ev.step (fun k => ?_) hr, hq⟩
      simp only [impl_Spot_54.l0]
      rw [if_pos (by omega), if_pos (by omega), if_pos (by omega), if_pos (by omega), rdT63_at a i h1, rdT63_at b i h2, c, if_neg (by simp), w64 i (by omega)]
    · refine ⟨false, Ev.step (f := fun _ => some false) (fun k => ?_) (Ev.now _), ⟨fun h => (by cases h), fun e => (by subst e; exact absurd rfl c)⟩⟩
      simp only [impl_Spot_54.l0]
      rw [if_pos (by omega), if_pos (by omega), if_pos (by omega), if_pos (by omega), rdT63_at a i h1, rdT63_at b i h2, if_pos]
      by_cases e0 : a[i].f0 = b[i].f0
      · by_cases e1 : a[i].f1 = b[i].f1
        · refine absurd ?_ c
          cases h3 : a[i] with
          | mk x0 x1 => cases h4 : b[i] with
            | mk y0 y1 => rw [h3, h4] at e0 e1; simp only at e0 e1; rw [e0, e1]
        · simp [e1]
      · simp [e0]
theorem eqSp_ev (a b : List S63) (hn : a.length ≤ 1048576) : ∃ r, Ev (fun k => impl_Spot_54.f k a b) r ∧ (r = true ↔ a = b) := by
  unfold impl_Spot_54.f
  by_cases h : a.length = b.length
  · simp only [if_pos (show (a.length : Int) = (b.length : Int) by omega)]
    exact eqSp_loop a b h hn a.length 0 (by omega) rfl
  · simp only [if_neg (show ¬ (a.length : Int) = (b.length : Int) by omega)]
    exact ⟨false, Ev.now _, ⟨fun h => (by cases h), fun e => absurd (by rw [e]) h⟩⟩
theorem ringOkI_ev (l : List S63) (hl : l.length ≤ 1048576) : ∃ b, Ev (fun k => impl_RingOk.f k l) b ∧ (b = true ↔ RingR l) := by
  unfold impl_RingOk.f impl_NodesOf.f impl_RingOf.f
  simp only [if_pos hl, Option.bind_some]
  by_cases h : validN (nodesI l) = true
  · simp only [if_pos h, Option.bind_some, if_true]
    obtain ⟨r, hr, hq⟩ := eqSp_ev (ringL (nodesI l)) l (by rw [ringL_len]; have := (validN_iff.1 h).len; omega)
    exact ⟨r, Ev.bind hr (Ev.now _), hq.trans ⟨fun e => (ringR_I l).2 ⟨validN_iff.1 h, e⟩, fun q => ((ringR_I l).1 q).2⟩⟩
  · simp only [if_neg h, Option.bind_some, Bool.false_eq_true, if_false]
    exact ⟨false, Ev.now _, ⟨fun q => (by cases q), fun q => absurd (validN_iff.2 ((ringR_I l).1 q).1) h⟩⟩

theorem in_loop (l : List Int) (v : Int) (hl : l.length ≤ 1048576) (d : Nat) : ∀ (i : Nat), l.length = i + d → Ev (fun k => laws_in.l0 k l v (i : Int)) (decide (v ∈ l.drop i)) := by
  induction d with
  | zero =>
    intro i hd
    rw [List.drop_eq_nil_of_le (by omega)]
    refine Ev.step (f := fun _ => some false) (fun k => ?_) (Ev.congr (fun k => ?_) (Ev.now _))
    · simp only [laws_in.l0]; rw [if_neg (by omega)]
    · simp
  | succ d ih =>
    intro i hd
    have hi : i < l.length := by omega
    by_cases c : l[i] = v
    · refine Ev.step (f := fun _ => some true) (fun k => ?_) (Ev.congr (fun k => ?_) (Ev.now _))
      · simp only [laws_in.l0, rd_at l i hi]
        rw [if_pos (by omega), if_pos (by omega), if_pos c]
      · rw [dropn l i hi, decide_eq_true (by rw [c]; exact List.mem_cons_self)]
    · rw [mem_dropn l v i hi c]
      refine Ev.step (fun k => ?_) (ih (i + 1) (by omega))
      simp only [laws_in.l0, rd_at l i hi]
      rw [if_pos (by omega), if_pos (by omega), if_neg c, w64 i (by omega)]
theorem in_ev (l : List Int) (v : Int) (hl : l.length ≤ 1048576) : Ev (fun k => laws_in.f k l v) (decide (v ∈ l)) := in_loop l v hl l.length 0 (by omega)
theorem rings_l1 (ns : List Int) (hv : ValidN ns) (ws : List ByteArray) (j : Nat) (hj : j < 1000) (list : List Int) (hn : list.Nodup) (hm : ∀ v ∈ list, v ∈ ns) (hll : list.length ≤ 1000) {r : Bool}
    (h : Ev (fun k => laws_FnRings.l0 k ns ws ((j + 1 : Nat) : Int) (ringL ns)) r) (d : Nat) : ∀ (i : Nat), i + d = list.length → Ev (fun k => laws_FnRings.l1 k ns ws (j : Int) list (i : Int) (ringL ns)) r := by
  induction d with
  | zero =>
    intro i hi
    refine Ev.step (fun k => ?_) h
    simp only [laws_FnRings.l1]
    rw [if_neg (by omega), w64 j (by omega)]
  | succ d ih =>
    intro i hi
    have h1 : i < list.length := by omega
    have ha := in_ev (list.take i) list[i] (by rw [List.length_take]; omega)
    have hb := in_ev ns list[i] (by have := hv.len; omega)
    have e1 : decide (list[i] ∈ list.take i) = false := decide_eq_false (fun hc => by
      obtain ⟨q, hq, e⟩ := List.getElem_of_mem hc
      rw [List.length_take] at hq
      rw [List.getElem_take] at e
      have := (List.getElem_inj hn).1 e
      omega)
    rw [e1] at ha
    rw [decide_eq_true (hm _ (List.getElem_mem h1))] at hb
    refine Ev.step (f := fun k => (laws_in.f k (list.take i) list[i]).bind fun t226 => (if t226 = true then (some false) else ((laws_in.f k ns list[i]).bind fun t228 => (if t228 = true then (laws_FnRings.l1 k ns ws (j : Int) list ((i + 1 : Nat) : Int) (ringL ns)) else (some false))))) (fun k => ?_) (Ev.bind ha ?_)
    · simp only [laws_FnRings.l1]
      rw [if_pos (by omega), if_pos (by omega), if_pos (by omega), rd_at list i h1, w64 i (by omega), Int.toNat_natCast]
    · simp only [Bool.false_eq_true, if_false]
      refine Ev.bind hb ?_
      simp only [if_true]
      exact ih (i + 1) (by omega)
theorem rings_l0 (ns : List Int) (hv : ValidN ns) (ws : List ByteArray) (hl : ws.length ≤ 100) (hs : ∀ s ∈ ws, s.size ≤ 1048576) (d : Nat) : ∀ (j : Nat), j + d = ws.length → Ev (fun k => laws_FnRings.l0 k ns ws (j : Int) (ringL ns)) true := by
  have hvl := hv.len
  have hne : ns ≠ [] := fun e => by rw [e] at hvl; simp at hvl
  have hr : (ringL ns).length = 4 * ns.length := ringL_len ns
  induction d with
  | zero =>
    intro j hj
    have h0 : Ev (fun k => impl_HomeOf.f k ([] : List S63) (⟨#[97]⟩ : ByteArray)) 0 := by
      have := homeOfI_ev ([] : List S63) (⟨#[97]⟩ : ByteArray) (by simp) (by decide)
      simpa [homeN] using this
    refine Ev.step (f := fun k => (impl_HomeOf.f k ([] : List S63) (⟨#[97]⟩ : ByteArray)).bind fun t212 => (some (t212 == 0))) (fun k => ?_) (Ev.bind h0 (Ev.now _))
    simp only [laws_FnRings.l0]; rw [if_neg (by omega)]
  | succ d ih =>
    intro j hj
    have h1 : j < ws.length := by omega
    have hz := hs _ (List.getElem_mem h1)
    have ih := ih (j + 1) (by omega)
    have ho := homeOfI_ev (ringL ns) ws[j] (by omega) (by omega)
    have hh := homesOfI_ev ns hv ws[j] 3 (by omega) hz
    have la := allH_len (ns := ns) ws[j] hv.asc
    have hom : homeN (ringL ns) ws[j] ∈ ns := home_mem ws[j] hne
    obtain ⟨hd_, tl, e⟩ : ∃ a t, allH ns ws[j] = a :: t := by
      cases q : allH ns ws[j] with
      | nil => rw [q] at la; simp at la; omega
      | cons a t => exact ⟨a, t, rfl⟩
    have hrn : homeN (ringL ns) ws[j] = hd_ := by rw [home_ring, e]; rfl
    obtain ⟨list, hlist⟩ : ∃ q, q = (allH ns ws[j]).take (3 : Int).toNat := ⟨_, rfl⟩
    rw [← hlist] at hh
    have hll : list.length = min 3 ns.length := by rw [hlist, List.length_take, la]; rfl
    have hnd : list.Nodup := by rw [hlist]; exact (allH_nodup ns ws[j]).sublist (List.take_sublist _ _)
    have hmm : ∀ v ∈ list, v ∈ ns := fun v hv' => (mem_allH (s := ws[j])).1 (List.mem_of_mem_take (hlist ▸ hv'))
    have hl0 : list[0]'(by omega) = hd_ := by
      simp only [hlist, e]
      rfl
    have hL := rings_l1 ns hv ws j (by omega) list hnd hmm (by omega) ih (list.length - 1) 1 (by omega)
    have hin := in_ev ns hd_ (by omega)
    rw [decide_eq_true (hrn ▸ hom)] at hin
    rw [hrn] at ho
    have h2 : Ev (fun k => laws_FnRings.j2 k ns ws (j : Int) hd_ list (list.length : Int) (ringL ns)) true := by
      refine Ev.step (f := fun k => (laws_in.f k ns hd_).bind fun t219 => (if t219 = true then laws_FnRings.j3 k ns ws (j : Int) list ((rd list 0) != hd_) (ringL ns) else (laws_FnRings.j3 k ns ws (j : Int) list true (ringL ns)))) (fun k => ?_) (Ev.bind hin ?_)
      · simp only [laws_FnRings.j2]
        rw [if_pos trivial, if_pos (by omega)]
      · simp only [if_true]
        have e0 : rd list 0 = hd_ := by rw [show (0 : Int) = ((0 : Nat) : Int) from rfl, rd_at list 0 (by omega), hl0]
        rw [e0, bne_self_eq_false]
        refine Ev.step (fun k => ?_) hL
        simp only [laws_FnRings.j3]
        rw [if_neg (by decide)]
        rfl
    refine Ev.step (f := fun k => (impl_HomeOf.f k (ringL ns) ws[j]).bind fun t214 => ((impl_HomesOf.f k (ringL ns) ws[j] 3).bind fun t216 => (if (ns.length : Int) < 3 then (laws_FnRings.j2 k ns ws (j : Int) t214 t216 (ns.length : Int) (ringL ns)) else (laws_FnRings.j2 k ns ws (j : Int) t214 t216 3 (ringL ns))))) (fun k => ?_) (Ev.bind ho (Ev.bind hh ?_))
    · simp only [laws_FnRings.l0]
      rw [if_pos (by omega), if_pos (by omega), rdS_at ws j h1]
    · by_cases c : (ns.length : Int) < 3
      · simp only [if_pos c]
        rw [show (ns.length : Int) = (list.length : Int) by omega]
        exact h2
      · simp only [if_neg c]
        rw [show (3 : Int) = (list.length : Int) by omega]
        exact h2
theorem FnRings : laws_FnRings.Pure := by
  intro l hl hb _
  apply Ev.rounds (r := true) (g := fun k => laws_FnRings.f k l)
  have hb' : l.length ≤ 140737488351232 := by omega
  unfold laws_FnRings.f laws_big.f
  simp only [Option.bind_some]
  by_cases hbig : (l.length : Int) > 1048576
  · simp only [decide_eq_true hbig, if_true]; exact Ev.now true
  · simp only [decide_eq_false hbig, Bool.false_eq_true, if_false]
    obtain ⟨ns, hns, hv, h2⟩ := drawNodes_ev l hb'
    obtain ⟨ws, hws, hwl, hwm⟩ := drawWords_ev l hb'
    have hn := hv.len
    have ia : impl_RingOf.f ns = some (ringL ns, true) := by unfold impl_RingOf.f; rw [if_pos (validN_iff.2 hv)]
    have ra : (ringL ns).length = 4 * ns.length := ringL_len ns
    have inn : impl_NodesOf.f (ringL ns) = some ns := by unfold impl_NodesOf.f; rw [if_pos (by omega), nodesI_ring hv.asc]
    obtain ⟨b, hok, hbq⟩ := ringOkI_ev (ringL ns) (by omega)
    obtain rfl : b = true := hbq.2 ⟨ns, hv, rfl⟩
    have hsm := sameInts_ev ns (by omega)
    have hsz : ∀ s ∈ ws, s.size ≤ 1048576 := fun s hs => by have := (name_size _ (hwm s hs)).2; omega
    have h0 := rings_l0 ns hv ws (by omega) hsz ws.length 0 (by omega)
    refine Ev.bind hns ?_
    simp only [ia, Option.bind_some, if_true]
    refine Ev.bind hok ?_
    simp only [if_true, inn, Option.bind_some]
    refine Ev.bind hsm ?_
    simp only [if_true]
    have e : (((ringL ns).length : Int) != wrap64 (4 * (ns.length : Int))) = false := by
      rw [bne_eq_false_iff_eq, ra]
      unfold wrap64; omega
    rw [e]
    refine Ev.step (f := fun k => (spec_DrawWords.f k l).bind fun t209 => (laws_FnRings.l0 k ns t209 0 (ringL ns))) (fun k => ?_) (Ev.bind hws h0)
    simp only [laws_FnRings.j0]
    rw [if_neg (by decide)]

end Go.Proofs.YtphicebbbkjdhaaDoor.Pure
