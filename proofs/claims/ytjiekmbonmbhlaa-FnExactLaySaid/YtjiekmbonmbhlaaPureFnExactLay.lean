/- The reference's Lay and the program's Lay answer alike for every arena, key and value. -/
import Derived.Test.YtjiekmbonmbhlaaAskFnExactLay
namespace Go.Proofs.Ytjiekmbonmbhlaa.Pure
open Go.RowKit Go.Proofs.Ytjiekmbonmbhlaa.GFnExactLay Go.Proofs.YtjiekmbonmbhlaaW.PrintWords Go.Proofs.YtjiekmbonmbhlaaW.PrintLast Go.Proofs.YtjiekmbonmbhlaaW.PrintMore
set_option linter.unusedVariables false
set_option linter.unusedSimpArgs false

/-! ### Lists that are copied, compared, marked -/
theorem w64 (i : Nat) (h : (i : Int) < 9223372036854775807) : wrap64 ((i : Int) + 1) = ((i + 1 : Nat) : Int) := by unfold wrap64; omega
theorem set_take {α : Type} (x : List α) (i : Nat) (v : α) (h : i < x.length) : (x.set i v).take (i + 1) = x.take i ++ [v] := by
  rw [List.take_add_one, List.take_set_of_le (Nat.le_refl i), List.getElem?_set_self h]
  rfl
theorem take_next {α : Type} (x : List α) (i : Nat) (h : i < x.length) : x.take (i + 1) = x.take i ++ [x[i]] := by
  rw [List.take_add_one, List.getElem?_eq_getElem h]
  rfl
theorem rd_at (x : List Int) (i : Nat) (h : i < x.length) : rd x (i : Int) = x[i] := by
  unfold rd
  rw [List.getD_eq_getElem?_getD, Int.toNat_natCast, List.getElem?_eq_getElem h]
  rfl
/-! ### Lists of texts -/
theorem str_eq {s t : ByteArray} : s.toList = t.toList ↔ s = t :=
  ⟨fun h => Go.WideShapes.bytes_inj (by rw [← ByteArray.toList_eq, ← ByteArray.toList_eq]; exact h), fun h => by rw [h]⟩
noncomputable abbrev decMem (s : ByteArray) (l : List ByteArray) : Decidable (s ∈ l) := Classical.propDecidable _
attribute [local instance] decMem
theorem rdS_at (x : List ByteArray) (i : Nat) (h : i < x.length) : rdOf ByteArray.empty x (i : Int) = x[i] := by
  unfold rdOf
  rw [List.getD_eq_getElem?_getD, Int.toNat_natCast, List.getElem?_eq_getElem h]
  rfl
/-! ### Slots and cells, read at a place -/
theorem empty_iff (s : ByteArray) : s.toList = ([] : List UInt8) ↔ s.size = 0 := by
  constructor
  · intro h
    have := str_eq.1 (h.trans (show ([] : List UInt8) = (⟨#[]⟩ : ByteArray).toList from by rw [ByteArray.toList_eq]))
    rw [this]; rfl
  · intro h
    have : s = (⟨#[]⟩ : ByteArray) := by
      apply ByteArray.ext
      exact Array.eq_empty_of_size_eq_zero h
    rw [this, ByteArray.toList_eq]
theorem rd_sl (x : List S81) (i : Nat) (h : i < x.length) : rd_T81 x (i : Int) = x[i] := by
  unfold rd_T81
  rw [List.getD_eq_getElem?_getD, Int.toNat_natCast, List.getElem?_eq_getElem h]
  rfl
/-! ### Ranges, keys -/
theorem rangeI (a b c : Int) : impl_inRange.f a b c = some (decide (b ≤ a ∧ a ≤ c)) := by
  unfold impl_inRange.f
  by_cases h : a ≥ b
  · rw [if_pos h]; congr 1; rw [Bool.eq_iff_iff]; simp; omega
  · rw [if_neg h]; congr 1; rw [Bool.eq_iff_iff]; simp; omega
theorem keyI (s : ByteArray) : impl_isKey.f s = some (decide (1 ≤ (s.size : Int) ∧ (s.size : Int) ≤ 12)) := by unfold impl_isKey.f; rw [rangeI]; rfl
theorem rangeS (a b c : Int) : spec_l01In.f a b c = some (decide (b ≤ a ∧ a ≤ c)) := by
  unfold spec_l01In.f
  by_cases h : a ≥ b
  · rw [if_pos h]; congr 1; rw [Bool.eq_iff_iff]; simp; omega
  · rw [if_neg h]; congr 1; rw [Bool.eq_iff_iff]; simp; omega
namespace AM
variable {α : Type} (G : α → Int) (U : α → Bool) (K V : α → ByteArray) (N : α → Int)

/-- The places that a chain comes to, in order. -/
def Path (xs : List α) : Int → List Nat → Prop
  | p, [] => p = -1
  | p, i :: l => p = (i : Int) ∧ ∃ x, xs[i]? = some x ∧ U x = false ∧ Path xs (N x) l

theorem Path.det {xs : List α} : ∀ {l l' : List Nat} {p : Int}, Path U N xs p l → Path U N xs p l' → l = l'
  | [], [], _, _, _ => rfl
  | [], i :: l, p, h, h' => by have h1 := h'.1; have h2 : p = -1 := h; omega
  | i :: l, [], p, h, h' => by have h1 := h.1; have h2 : p = -1 := h'; omega
  | i :: l, j :: l', p, h, h' => by
    obtain ⟨h1, x, hx, _, hp⟩ := h
    obtain ⟨h1', x', hx', _, hp'⟩ := h'
    have e : i = j := by omega
    subst e
    rw [hx] at hx'
    obtain rfl := Option.some.inj hx'
    rw [hp.det hp']
theorem Path.suffix {xs : List α} : ∀ {l : List Nat} {p : Int} {i : Nat}, Path U N xs p l → i ∈ l → ∃ t, Path U N xs (i : Int) (i :: t) ∧ (i :: t).length ≤ l.length
  | j :: l, p, i, h, hi => by
    rcases List.mem_cons.1 hi with e | hi
    · subst e
      have h1 := h.1
      exact ⟨l, by rw [← h1]; exact h, Nat.le_refl _⟩
    · obtain ⟨_, x, _, _, hp⟩ := h
      obtain ⟨t, ht, hle⟩ := hp.suffix hi
      exact ⟨t, ht, by simp only [List.length_cons] at hle ⊢; omega⟩
theorem Path.nodup {xs : List α} : ∀ {l : List Nat} {p : Int}, Path U N xs p l → l.Nodup
  | [], _, _ => List.nodup_nil
  | i :: l, p, h => by
    have h0 := h
    obtain ⟨h1, x, hx, hu, hp⟩ := h
    refine List.nodup_cons.2 ⟨fun hi => ?_, hp.nodup⟩
    obtain ⟨t, ht, hle⟩ := hp.suffix U N hi
    rw [h1] at h0
    have := h0.det U N ht
    rw [← this] at hle
    simp only [List.length_cons] at hle
    omega
theorem Path.mem {xs : List α} : ∀ {l : List Nat} {p : Int}, Path U N xs p l → ∀ i ∈ l, ∃ x, xs[i]? = some x ∧ U x = false
  | j :: l, p, h, i, hi => by
    obtain ⟨_, x, hx, hu, hp⟩ := h
    rcases List.mem_cons.1 hi with e | hi
    · subst e; exact ⟨x, hx, hu⟩
    · exact hp.mem i hi
theorem Path.set {xs : List α} {k : Nat} {y : α} : ∀ {l : List Nat} {p : Int}, Path U N xs p l → k ∉ l → Path U N (xs.set k y) p l
  | [], p, h, _ => h
  | i :: l, p, h, hk => by
    obtain ⟨h1, x, hx, hu, hp⟩ := h
    simp only [List.mem_cons, not_or] at hk
    exact ⟨h1, x, by rw [List.getElem?_set_ne hk.1]; exact hx, hu, hp.set hk.2⟩

/-- A slot that is right by itself. -/
def slotR (x : α) : Prop := 0 ≤ G x ∧ G x ≤ 41666665 ∧ (U x = true → 1 ≤ (K x).size ∧ (K x).size ≤ 12 ∧ (V x).size ≤ 20 ∧ N x = 0) ∧ (U x = false → (K x).size = 0 ∧ (V x).size = 0)
/-- A right arena. -/
structure Right (xs : List α) (free : Int) : Prop where
  len : 1 ≤ xs.length ∧ xs.length ≤ 24
  slots : ∀ x ∈ xs, slotR G U K V N x
  path : ∃ l, Path U N xs free l ∧ ∀ i x, xs[i]? = some x → U x = false → i ∈ l

theorem mem_set {xs : List α} {k : Nat} {y z : α} (h : z ∈ xs.set k y) : z ∈ xs ∨ z = y := List.mem_or_eq_of_mem_set h

theorem Right.first {xs : List α} {free : Int} (h : Right G U K V N xs free) (hf : free ≠ -1) : ∃ (k : Nat) (x : α), free = (k : Int) ∧ xs[k]? = some x ∧ U x = false := by
  obtain ⟨l, hp, _⟩ := h.path
  cases l with
  | nil => exact absurd hp hf
  | cons i l =>
    obtain ⟨h1, x, hx, hu, _⟩ := hp
    exact ⟨i, x, h1, hx, hu⟩
theorem Right.full {xs : List α} {free : Int} (h : Right G U K V N xs free) : free = -1 ↔ ∀ x ∈ xs, U x = true := by
  obtain ⟨l, hp, ha⟩ := h.path
  constructor
  · intro e x hx
    cases l with
    | nil =>
      obtain ⟨i, hi, rfl⟩ := List.getElem_of_mem hx
      cases hu : U xs[i] with
      | true => rfl
      | false => exact absurd (ha i _ (List.getElem?_eq_getElem hi) hu) (by simp)
    | cons i l => have := hp.1; omega
  · intro hall
    cases l with
    | nil => exact hp
    | cons i l =>
      obtain ⟨_, x, hx, hu, _⟩ := hp
      rw [hall x (List.mem_of_getElem? hx)] at hu
      cases hu
theorem Right.lay {xs : List α} {k : Nat} {x y : α} (h : Right G U K V N xs (k : Int)) (hx : xs[k]? = some x) (hu : U y = true) (hy : slotR G U K V N y) : Right G U K V N (xs.set k y) (N x) := by
  obtain ⟨l, hp, ha⟩ := h.path
  have hkl : k < xs.length := (List.getElem?_eq_some_iff.1 hx).1
  cases l with
  | nil => have h2 : (k : Int) = -1 := hp; omega
  | cons i l =>
    have hnd := hp.nodup
    obtain ⟨h1, x', hx', hu', hp'⟩ := hp
    have e : k = i := by omega
    subst e
    rw [hx] at hx'
    obtain rfl := Option.some.inj hx'
    refine ⟨by rw [List.length_set]; exact h.len, fun z hz => ?_, l, hp'.set U N (List.nodup_cons.1 hnd).1, fun i z hz hzu => ?_⟩
    · rcases mem_set hz with hz | rfl
      · exact h.slots z hz
      · exact hy
    · by_cases e : k = i
      · subst e
        rw [List.getElem?_set_self hkl] at hz
        obtain rfl := Option.some.inj hz
        rw [hu] at hzu; cases hzu
      · rw [List.getElem?_set_ne e] at hz
        rcases List.mem_cons.1 (ha i z hz hzu) with e' | h'
        · exact absurd e'.symm e
        · exact h'
theorem Right.lift {xs : List α} {free : Int} {k : Nat} {x y : α} (h : Right G U K V N xs free) (hx : xs[k]? = some x) (hux : U x = true) (hu : U y = false) (hn : N y = free) (hy : slotR G U K V N y) : Right G U K V N (xs.set k y) (k : Int) := by
  obtain ⟨l, hp, ha⟩ := h.path
  have hkl : k < xs.length := (List.getElem?_eq_some_iff.1 hx).1
  have hk : k ∉ l := fun hk => by
    obtain ⟨z, hz, hzu⟩ := hp.mem U N k hk
    rw [hx] at hz
    obtain rfl := Option.some.inj hz
    rw [hux] at hzu; cases hzu
  refine ⟨by rw [List.length_set]; exact h.len, fun z hz => ?_, k :: l, ⟨rfl, y, List.getElem?_set_self hkl, hu, by rw [hn]; exact hp.set U N hk⟩, fun i z hz hzu => ?_⟩
  · rcases mem_set hz with hz | rfl
    · exact h.slots z hz
    · exact hy
  · by_cases e : k = i
    · subst e; simp
    · rw [List.getElem?_set_ne e] at hz
      exact List.mem_cons_of_mem _ (ha i z hz hzu)

/-- The length of the chain, by walking it (the program's way); -1: it is none. -/
def chainF (xs : List α) : Nat → Int → Option Nat
  | 0, p => if p = -1 then some 0 else none
  | d + 1, p => if p = -1 then some 0 else if 0 ≤ p then (match xs[p.toNat]? with
    | none => none
    | some x => if U x then none else (chainF xs d (N x)).map (· + 1)) else none
theorem chainF_iff {xs : List α} : ∀ {d n : Nat} {p : Int}, chainF U N xs d p = some n ↔ ∃ l, Path U N xs p l ∧ l.length = n ∧ n ≤ d
  | 0, n, p => by
    simp only [chainF]
    constructor
    · intro h
      by_cases c : p = -1
      · rw [if_pos c] at h
        obtain rfl := Option.some.inj h
        exact ⟨[], c, rfl, Nat.le_refl _⟩
      · rw [if_neg c] at h; cases h
    · rintro ⟨l, hp, rfl, hl⟩
      obtain rfl := List.eq_nil_of_length_eq_zero (Nat.le_zero.1 hl)
      rw [if_pos (show p = -1 from hp)]; rfl
  | d + 1, n, p => by
    simp only [chainF]
    by_cases c : p = -1
    · rw [if_pos c]
      constructor
      · intro h
        obtain rfl := Option.some.inj h
        exact ⟨[], c, rfl, Nat.zero_le _⟩
      · rintro ⟨l, hp, rfl, hl⟩
        cases l with
        | nil => rfl
        | cons i l => have := hp.1; omega
    · rw [if_neg c]
      by_cases c0 : 0 ≤ p
      · rw [if_pos c0]
        cases hx : xs[p.toNat]? with
        | none =>
          simp only
          constructor
          · intro h; cases h
          · rintro ⟨l, hp, rfl, hl⟩
            cases l with
            | nil => exact absurd hp c
            | cons i l =>
              obtain ⟨e, x, h1, _⟩ := hp
              rw [e, Int.toNat_natCast, h1] at hx
              cases hx
        | some x =>
          simp only
          cases hu : U x with
          | true =>
            simp only [if_true]
            constructor
            · intro h; cases h
            · rintro ⟨l, hp, rfl, hl⟩
              cases l with
              | nil => exact absurd hp c
              | cons i l =>
                obtain ⟨e, x', h1, h2, _⟩ := hp
                rw [e, Int.toNat_natCast, h1] at hx
                rw [Option.some.inj hx, hu] at h2; cases h2
          | false =>
            simp only [Bool.false_eq_true, if_false]
            constructor
            · intro h
              obtain ⟨m, hm, rfl⟩ := Option.map_eq_some_iff.1 h
              obtain ⟨l, hp, hl, hle⟩ := chainF_iff.1 hm
              exact ⟨p.toNat :: l, ⟨by omega, x, hx, hu, hp⟩, by simp [hl], by omega⟩
            · rintro ⟨l, hp, rfl, hl⟩
              cases l with
              | nil => exact absurd hp c
              | cons i l =>
                obtain ⟨e, x', h1, h2, h3⟩ := hp
                rw [e, Int.toNat_natCast, h1] at hx
                obtain rfl := Option.some.inj hx
                exact Option.map_eq_some_iff.2 ⟨l.length, chainF_iff.2 ⟨l, h3, rfl, by simp only [List.length_cons] at hl; omega⟩, rfl⟩
      · rw [if_neg c0]
        constructor
        · intro h; cases h
        · rintro ⟨l, hp, rfl, hl⟩
          cases l with
          | nil => exact absurd hp c
          | cons i l => have := hp.1; omega
theorem nodup_le {l m : List Nat} (hl : l.Nodup) (hs : ∀ i ∈ l, i ∈ m) : l.length ≤ m.length := by
  induction l generalizing m with
  | nil => simp
  | cons a l ih =>
    obtain ⟨ha, hl⟩ := List.nodup_cons.1 hl
    have h := ih (m := m.erase a) hl (fun j hj => (List.mem_erase_of_ne (fun e => ha (by rw [← e]; exact hj))).2 (hs j (List.mem_cons_of_mem _ hj)))
    have h1 := List.length_erase_of_mem (hs a (by simp))
    have h2 : 0 < m.length := List.length_pos_of_mem (hs a (by simp))
    simp only [List.length_cons]
    omega
/-- Among different ones of a list, as many as the list: all of them. -/
theorem all_of_length {l m : List Nat} (hl : l.Nodup) (hs : ∀ i ∈ l, i ∈ m) (hlen : m.length ≤ l.length) : ∀ i ∈ m, i ∈ l := by
  intro i hi
  by_cases h : i ∈ l
  · exact h
  · have h1 := nodup_le (l := i :: l) (m := m) (List.nodup_cons.2 ⟨h, hl⟩) (fun j hj => (List.mem_cons.1 hj).elim (fun e => e ▸ hi) (hs j))
    simp only [List.length_cons] at h1
    omega
/-- The places that are not used. -/
def freeAt (xs : List α) : List Nat := (List.range xs.length).filter fun i => (xs[i]?.map fun x => !U x).getD false
theorem freeAt_mem {xs : List α} {i : Nat} : i ∈ freeAt U xs ↔ ∃ x, xs[i]? = some x ∧ U x = false := by
  unfold freeAt
  rw [List.mem_filter, List.mem_range]
  constructor
  · rintro ⟨h, hu⟩
    rw [List.getElem?_eq_getElem h] at hu
    exact ⟨xs[i], List.getElem?_eq_getElem h, by simpa using hu⟩
  · rintro ⟨x, hx, hu⟩
    refine ⟨(List.getElem?_eq_some_iff.1 hx).1, ?_⟩
    rw [hx]; simp [hu]
theorem freeAt_nodup {xs : List α} : (freeAt U xs).Nodup := (List.nodup_range (n := xs.length)).sublist List.filter_sublist
theorem freeAt_length (xs : List α) : (freeAt U xs).length + xs.countP U = xs.length := by
  unfold freeAt
  have h : ((List.range xs.length).filter fun i => (xs[i]?.map fun x => !U x).getD false).length = xs.countP (fun x => !U x) := by
    rw [← List.countP_eq_length_filter]
    have e : xs.countP (fun x => !U x) = ((List.range xs.length).map fun i => xs[i]?).countP (fun o => (o.map fun x => !U x).getD false) := by
      have : ((List.range xs.length).map fun i => xs[i]?) = xs.map some := by
        apply List.ext_getElem
        · simp
        · intro i h1 h2
          simp at h1
          simp [h1]
      rw [this, List.countP_map]
      rfl
    rw [e, List.countP_map]
    rfl
  rw [h]
  have := List.length_eq_countP_add_countP U (l := xs)
  have e : xs.countP (fun x => !U x) = xs.countP (fun x => decide ¬ U x = true) := by congr 1; funext x; cases U x <;> rfl
  rw [e]; omega
theorem Path.length_le {xs : List α} {l : List Nat} {p : Int} (h : Path U N xs p l) : l.length ≤ xs.length - xs.countP U := by
  have h1 : l.length ≤ (freeAt U xs).length := nodup_le (h.nodup U N) fun i hi => (freeAt_mem U).2 (h.mem U N i hi)
  have := freeAt_length U xs
  omega
/-- The program's test: as long a chain as there are free slots. -/
theorem Path.all_iff {xs : List α} {l : List Nat} {p : Int} (h : Path U N xs p l) : (l.length + xs.countP U = xs.length) ↔ ∀ i x, xs[i]? = some x → U x = false → i ∈ l := by
  have hf := freeAt_length U xs
  constructor
  · intro e i x hx hu
    exact all_of_length (m := freeAt U xs) (h.nodup U N) (fun j hj => (freeAt_mem U).2 (h.mem U N j hj)) (by omega) i ((freeAt_mem U).2 ⟨x, hx, hu⟩)
  · intro hall
    have h1 := h.length_le U N
    have h2 : (freeAt U xs).length ≤ l.length := nodup_le (freeAt_nodup U) fun i hi => by obtain ⟨x, hx, hu⟩ := (freeAt_mem U).1 hi; exact hall i x hx hu
    have := List.countP_le_length (p := U) (l := xs)
    omega
end AM
/-! ### The program's ArenaOk -/
abbrev slR : S81 → Prop := AM.slotR S81.f0 S81.f1 S81.f2 S81.f3 S81.f4
abbrev arR : List S81 → Int → Prop := AM.Right S81.f0 S81.f1 S81.f2 S81.f3 S81.f4
theorem slotI (x : S81) : ∃ b, impl_slotOk.f x.f0 x.f1 x.f2 x.f3 x.f4 = some b ∧ (b = true ↔ slR x) := by
  unfold impl_slotOk.f slR AM.slotR
  rw [rangeI]
  simp only [Option.bind_some]
  by_cases h1 : 0 ≤ x.f0 ∧ x.f0 ≤ 41666665
  · rw [if_pos (decide_eq_true h1), keyI]
    simp only [Option.bind_some]
    cases hu : x.f1 with
    | true =>
      simp only [if_true]
      by_cases h2 : 1 ≤ (x.f2.size : Int) ∧ (x.f2.size : Int) ≤ 12
      · rw [if_pos (decide_eq_true h2)]
        by_cases h3 : (x.f3.size : Int) ≤ 20
        · rw [if_pos h3]
          exact ⟨_, rfl, by simp; omega⟩
        · rw [if_neg h3]
          exact ⟨_, rfl, by simp; omega⟩
      · rw [if_neg (show ¬ decide (1 ≤ (x.f2.size : Int) ∧ (x.f2.size : Int) ≤ 12) = true from fun e => h2 (of_decide_eq_true e))]
        exact ⟨_, rfl, by simp; omega⟩
    | false =>
      simp only [Bool.false_eq_true, if_false]
      by_cases h2 : x.f2.toList = ([] : List UInt8)
      · rw [if_pos h2]
        refine ⟨_, rfl, ?_⟩
        rw [beq_iff_eq, empty_iff]
        exact ⟨fun h => ⟨h1.1, h1.2, fun e => by simp at e, fun _ => ⟨(empty_iff _).1 h2, h⟩⟩, fun h => (h.2.2.2 trivial).2⟩
      · rw [if_neg h2]
        exact ⟨_, rfl, by simp, fun h => absurd ((empty_iff _).2 (h.2.2.2 trivial).1) h2⟩
  · rw [if_neg (show ¬ decide (0 ≤ x.f0 ∧ x.f0 ≤ 41666665) = true from fun e => h1 (of_decide_eq_true e))]
    exact ⟨_, rfl, by simp; omega⟩
/-- What the program's chain answers. -/
def chainV (n : Nat) : Option Nat → Int
  | none => -1
  | some m => ((n + m : Nat) : Int)
theorem chainI (xs : List S81) (fr : Int) (hl : xs.length ≤ 1048576) (d : Nat) : ∀ (n : Nat) (p : Int), n + d = xs.length →
    Ev (fun k => impl_Arena_chain.l0 k (n : Int) p xs fr) (chainV n (AM.chainF S81.f1 S81.f4 xs d p)) := by
  induction d with
  | zero =>
    intro n p hd
    simp only [AM.chainF]
    by_cases c : p = -1
    · rw [if_pos c]
      refine Ev.step (f := fun _ => some ((n : Int))) (fun k => ?_) (Ev.now _)
      simp only [impl_Arena_chain.l0]; rw [if_pos c]
    · rw [if_neg c]
      refine Ev.step (f := fun _ => some (-1)) (fun k => ?_) (Ev.now _)
      simp only [impl_Arena_chain.l0]
      rw [if_neg c, rangeI]
      simp only [Option.bind_some]
      have ew : wrap64 ((xs.length : Int) - 1) = (xs.length : Int) - 1 := by unfold wrap64; omega
      rw [ew]
      by_cases c2 : 0 ≤ p ∧ p ≤ (xs.length : Int) - 1
      · rw [if_pos (decide_eq_true c2), if_pos c2.1, if_pos (by omega)]
        split
        · rfl
        · rw [if_pos (by omega)]
      · rw [if_neg (show ¬ decide (0 ≤ p ∧ p ≤ (xs.length : Int) - 1) = true from fun e => c2 (of_decide_eq_true e))]
  | succ d ih =>
    intro n p hd
    simp only [AM.chainF]
    by_cases c : p = -1
    · rw [if_pos c]
      refine Ev.step (f := fun _ => some ((n : Int))) (fun k => ?_) (Ev.now _)
      simp only [impl_Arena_chain.l0]; rw [if_pos c]
    · rw [if_neg c]
      have ew : wrap64 ((xs.length : Int) - 1) = (xs.length : Int) - 1 := by unfold wrap64; omega
      by_cases c2 : 0 ≤ p ∧ p ≤ (xs.length : Int) - 1
      · obtain ⟨q, rfl⟩ := Int.eq_ofNat_of_zero_le c2.1
        have hq : q < xs.length := by omega
        rw [if_pos c2.1, Int.toNat_natCast, List.getElem?_eq_getElem hq]
        simp only
        cases hu : xs[q].f1 with
        | true =>
          simp only [if_true]
          refine Ev.step (f := fun _ => some (-1)) (fun k => ?_) (Ev.now _)
          simp only [impl_Arena_chain.l0]
          rw [if_neg c, rangeI]
          simp only [Option.bind_some]
          rw [ew, if_pos (decide_eq_true c2), if_pos c2.1, if_pos (by omega), rd_sl xs q hq, hu]
          simp
        | false =>
          simp only [Bool.false_eq_true, if_false]
          have := ih (n + 1) xs[q].f4 (by omega)
          refine Ev.step (f := fun k => impl_Arena_chain.l0 k ((n + 1 : Nat) : Int) xs[q].f4 xs fr) (fun k => ?_) (Ev.congr (fun k => rfl) (by
            cases hc : AM.chainF S81.f1 S81.f4 xs d xs[q].f4 with
            | none => rw [hc] at this; exact this
            | some m => rw [hc] at this; simpa [chainV, Nat.add_assoc, Nat.add_comm, Nat.add_left_comm] using this))
          simp only [impl_Arena_chain.l0]
          rw [if_neg c, rangeI]
          simp only [Option.bind_some]
          rw [ew, if_pos (decide_eq_true c2), if_pos c2.1, if_pos (by omega), rd_sl xs q hq, hu]
          simp only [Bool.false_eq_true, if_false]
          rw [if_neg (by omega), w64 n (by omega)]
      · have fin : Ev (fun k => impl_Arena_chain.l0 k (n : Int) p xs fr) (-1) := by
          refine Ev.step (f := fun _ => some (-1)) (fun k => ?_) (Ev.now _)
          simp only [impl_Arena_chain.l0]
          rw [if_neg c, rangeI]
          simp only [Option.bind_some]
          rw [ew, if_neg (show ¬ decide (0 ≤ p ∧ p ≤ (xs.length : Int) - 1) = true from fun e => c2 (of_decide_eq_true e))]
        by_cases c3 : 0 ≤ p
        · rw [if_pos c3, List.getElem?_eq_none (by omega)]; exact fin
        · rw [if_neg c3]; exact fin
theorem usedI_loop (xs : List S81) (hl : xs.length ≤ 1048576) (d : Nat) : ∀ (i n : Nat), xs.length = i + d → n ≤ i →
    Ev (fun k => impl_Arena_used.l0 k (n : Int) xs (xs.length : Int) (i : Int)) ((n + (xs.drop i).countP S81.f1 : Nat) : Int) := by
  induction d with
  | zero =>
    intro i n hd hn
    rw [List.drop_eq_nil_of_le (by omega)]
    refine Ev.step (f := fun _ => some ((n : Nat) : Int)) (fun k => ?_) (Ev.now _)
    simp only [impl_Arena_used.l0]; rw [if_neg (by omega)]
  | succ d ih =>
    intro i n hd hn
    have hi : i < xs.length := by omega
    rw [List.drop_eq_getElem_cons hi, List.countP_cons]
    cases hu : xs[i].f1 with
    | true =>
      simp only [if_true]
      have := ih (i + 1) (n + 1) (by omega) (by omega)
      rw [show n + (List.countP S81.f1 (List.drop (i + 1) xs) + 1) = n + 1 + List.countP S81.f1 (List.drop (i + 1) xs) by omega]
      refine Ev.step (fun k => ?_) this
      simp only [impl_Arena_used.l0]
      rw [if_pos (by omega), if_pos (by omega), if_pos (by omega), rd_sl xs i hi, hu, w64 i (by omega), w64 n (by omega)]
      simp
    | false =>
      simp only [Bool.false_eq_true, if_false, Nat.add_zero]
      refine Ev.step (fun k => ?_) (ih (i + 1) n (by omega) (by omega))
      simp only [impl_Arena_used.l0]
      rw [if_pos (by omega), if_pos (by omega), if_pos (by omega), rd_sl xs i hi, hu, w64 i (by omega)]
      simp
theorem usedI_ev (xs : List S81) (fr : Int) (hl : xs.length ≤ 1048576) : Ev (fun k => impl_Arena_used.f k xs fr) ((xs.countP S81.f1 : Nat) : Int) := by
  have := usedI_loop xs hl xs.length 0 0 (by omega) (by omega)
  rw [List.drop_zero, Nat.zero_add] at this
  exact this
theorem chain_right (xs : List S81) (fr : Int) : chainV 0 (AM.chainF S81.f1 S81.f4 xs xs.length fr) = (xs.length : Int) - (xs.countP S81.f1 : Int) ↔
    ∃ l, AM.Path S81.f1 S81.f4 xs fr l ∧ ∀ i x, xs[i]? = some x → S81.f1 x = false → i ∈ l := by
  have hc := List.countP_le_length (p := S81.f1) (l := xs)
  constructor
  · intro h
    cases hm : AM.chainF S81.f1 S81.f4 xs xs.length fr with
    | none => rw [hm] at h; simp only [chainV] at h; omega
    | some m =>
      rw [hm] at h
      simp only [chainV, Nat.zero_add] at h
      obtain ⟨l, hp, hl, _⟩ := (AM.chainF_iff S81.f1 S81.f4).1 hm
      exact ⟨l, hp, (hp.all_iff S81.f1 S81.f4).1 (by omega)⟩
  · rintro ⟨l, hp, ha⟩
    have hl := (hp.all_iff S81.f1 S81.f4).2 ha
    have hm := (AM.chainF_iff S81.f1 S81.f4 (d := xs.length) (n := l.length)).2 ⟨l, hp, rfl, by omega⟩
    rw [hm]
    simp only [chainV, Nat.zero_add]
    omega
theorem arenaI_loop (xs : List S81) (fr : Int) (hl : xs.length ≤ 1048576) (d : Nat) : ∀ (i : Nat), xs.length = i + d →
    ∃ b, Ev (fun k => impl_ArenaOk.l0 k xs (xs.length : Int) (i : Int) xs fr) b ∧ (b = true ↔ (∀ x ∈ xs.drop i, slR x) ∧ (1 ≤ xs.length ∧ xs.length ≤ 24) ∧ ∃ l, AM.Path S81.f1 S81.f4 xs fr l ∧ ∀ i x, xs[i]? = some x → S81.f1 x = false → i ∈ l) := by
  induction d with
  | zero =>
    intro i hd
    rw [List.drop_eq_nil_of_le (by omega)]
    have hch := chainI xs fr hl xs.length 0 fr (by omega)
    have hus := usedI_ev xs fr hl
    have hc := List.countP_le_length (p := S81.f1) (l := xs)
    by_cases h : 1 ≤ (xs.length : Int) ∧ (xs.length : Int) ≤ 24
    · refine ⟨(chainV 0 (AM.chainF S81.f1 S81.f4 xs xs.length fr) == (xs.length : Int) - (xs.countP S81.f1 : Int)), ?_, ?_⟩
      · refine Ev.step (f := fun k => (impl_Arena_chain.f k xs fr).bind fun t255 => ((impl_Arena_used.f k xs fr).bind fun t256 => (some (t255 == (wrap64 ((xs.length : Int) - t256)))))) (fun k => ?_) ?_
        · simp only [impl_ArenaOk.l0]
          rw [if_neg (by omega), rangeI]
          simp only [Option.bind_some]
          rw [if_pos (decide_eq_true h)]
        · refine Ev.bind (Ev.congr (fun k => rfl) hch) (Ev.bind hus ?_)
          rw [show wrap64 ((xs.length : Int) - ((xs.countP S81.f1 : Nat) : Int)) = (xs.length : Int) - (xs.countP S81.f1 : Int) by unfold wrap64; omega]
          exact Ev.now _
      · rw [beq_iff_eq, chain_right]
        simp only [List.not_mem_nil, false_imp_iff, implies_true, true_and]
        exact ⟨fun h2 => ⟨by omega, h2⟩, fun h2 => h2.2⟩
    · refine ⟨false, ?_, ?_⟩
      · refine Ev.step (f := fun _ => some false) (fun k => ?_) (Ev.now _)
        simp only [impl_ArenaOk.l0]
        rw [if_neg (by omega), rangeI]
        simp only [Option.bind_some]
        rw [if_neg (show ¬ decide (1 ≤ (xs.length : Int) ∧ (xs.length : Int) ≤ 24) = true from fun e => h (of_decide_eq_true e))]
      · simp only [Bool.false_eq_true, false_iff]
        rintro ⟨_, h2, _⟩
        omega
  | succ d ih =>
    intro i hd
    have hi : i < xs.length := by omega
    obtain ⟨b, hb, hq⟩ := ih (i + 1) (by omega)
    obtain ⟨s, hs, hsq⟩ := slotI xs[i]
    rw [List.drop_eq_getElem_cons hi]
    cases s with
    | true =>
      refine ⟨b, Ev.step (fun k => ?_) hb, ?_⟩
      · simp only [impl_ArenaOk.l0]
        rw [if_pos (by omega), if_pos (by omega), if_pos (by omega), rd_sl xs i hi, hs, w64 i (by omega)]
        simp
      · rw [hq]
        simp only [List.mem_cons, forall_eq_or_imp]
        exact ⟨fun h => ⟨⟨hsq.1 rfl, h.1⟩, h.2⟩, fun h => ⟨h.1.2, h.2⟩⟩
    | false =>
      refine ⟨false, Ev.step (f := fun _ => some false) (fun k => ?_) (Ev.now _), ?_⟩
      · simp only [impl_ArenaOk.l0]
        rw [if_pos (by omega), if_pos (by omega), if_pos (by omega), rd_sl xs i hi, hs]
        simp
      · simp only [Bool.false_eq_true, false_iff, List.mem_cons, forall_eq_or_imp]
        rintro ⟨⟨h, _⟩, _⟩
        exact absurd (hsq.2 h) (by simp)
theorem arenaI_ev (xs : List S81) (fr : Int) (hl : xs.length ≤ 1048576) : ∃ b, Ev (fun k => impl_ArenaOk.f k xs fr) b ∧ (b = true ↔ arR xs fr) := by
  obtain ⟨b, hb, hq⟩ := arenaI_loop xs fr hl xs.length 0 (by omega)
  refine ⟨b, hb, hq.trans ?_⟩
  rw [List.drop_zero]
  exact ⟨fun h => ⟨h.2.1, h.1, h.2.2⟩, fun h => ⟨h.slots, h.len, h.path⟩⟩
/-! ### The reference's ArenaOk -/
theorem rdb_at (l : List Bool) (i : Nat) : rdOf false l (i : Int) = l.getD i false := by unfold rdOf; rw [Int.toNat_natCast]
theorem slotS_step (xs : List S81) (fr : Int) (free : List Bool) (hf : free.length = xs.length) (hl : xs.length ≤ 1048576) (i : Nat) (hi : i < xs.length) (b : Bool) (hb : Ev (fun k => spec_ArenaOk.l1 k (xs.length : Int) free ((i + 1 : Nat) : Int) xs fr) b) :
    ∃ c : Bool, Ev (fun k => spec_ArenaOk.l1 k (xs.length : Int) free (i : Int) xs fr) c ∧ (c = true ↔ (slR xs[i] ∧ xs[i].f1 = !(free.getD i false)) ∧ b = true) := by
  have bad : Ev (fun k => spec_ArenaOk.l1 k (xs.length : Int) free (i : Int) xs fr) false → ¬ (slR xs[i] ∧ xs[i].f1 = !(free.getD i false)) → ∃ c : Bool, Ev (fun k => spec_ArenaOk.l1 k (xs.length : Int) free (i : Int) xs fr) c ∧ (c = true ↔ (slR xs[i] ∧ xs[i].f1 = !(free.getD i false)) ∧ b = true) := fun h hn => ⟨false, h, fun e => Bool.noConfusion e, fun e => absurd e.1 hn⟩
  by_cases h1 : 0 ≤ xs[i].f0 ∧ xs[i].f0 ≤ 41666665
  · have st : ∀ {c : Bool}, Ev (fun k => spec_ArenaOk.j2 k (xs.length : Int) free (i : Int) (xs[i].f1 == free.getD i false) xs fr xs[i].f0 xs[i].f1 xs[i].f2 xs[i].f3 xs[i].f4) c → Ev (fun k => spec_ArenaOk.l1 k (xs.length : Int) free (i : Int) xs fr) c := fun h => by
      refine Ev.step (fun k => ?_) h
      simp only [spec_ArenaOk.l1]
      rw [if_pos (by omega), if_pos (by omega), if_pos (by omega), rd_sl xs i hi, rangeS]
      simp only [Option.bind_some]
      rw [if_pos (decide_eq_true h1), if_pos (by omega), rdb_at]
    cases hm : (xs[i].f1 == free.getD i false) with
    | true =>
      refine bad (st ?_) (fun h => ?_)
      · rw [hm]
        refine Ev.step (f := fun _ => some false) (fun k => ?_) (Ev.now _)
        simp only [spec_ArenaOk.j2, if_true]
      · have := beq_iff_eq.1 hm
        rw [this] at h
        cases hq : free.getD i false <;> rw [hq] at h <;> simp at h
    | false =>
      have hne : xs[i].f1 = !(free.getD i false) := by
        have := beq_eq_false_iff_ne.1 hm
        cases h2 : xs[i].f1 <;> cases h3 : free.getD i false <;> simp_all
      rw [hm] at st
      rcases Bool.eq_false_or_eq_true xs[i].f1 with hu | hu
      · rw [hu] at st
        by_cases h2 : 1 ≤ (xs[i].f2.size : Int) ∧ (xs[i].f2.size : Int) ≤ 12
        · by_cases h3 : (xs[i].f3.size : Int) > 20
          · refine bad (st (Ev.step (f := fun _ => some false) (fun k => ?_) (Ev.now _))) (fun h => by have := (h.1.2.2.1 hu).2.2.1; omega)
            simp only [spec_ArenaOk.j2, Bool.false_eq_true, if_false, if_true]
            rw [rangeS]
            simp only [Option.bind_some]
            rw [if_pos (decide_eq_true h2), if_pos h3]
          · by_cases h4 : xs[i].f4 = 0
            · refine ⟨b, st (Ev.step (fun k => ?_) hb), ?_⟩
              · simp only [spec_ArenaOk.j2, Bool.false_eq_true, if_false, if_true]
                rw [rangeS]
                simp only [Option.bind_some]
                rw [if_pos (decide_eq_true h2), if_neg h3, if_pos h4, w64 i (by omega)]
              · exact ⟨fun h => ⟨⟨⟨h1.1, h1.2, fun _ => ⟨by omega, by omega, by omega, h4⟩, fun e => absurd (hu.symm.trans e) (by simp)⟩, hne⟩, h⟩, fun h => h.2⟩
            · refine bad (st (Ev.step (f := fun _ => some false) (fun k => ?_) (Ev.now _))) (fun h => h4 (h.1.2.2.1 hu).2.2.2)
              simp only [spec_ArenaOk.j2, Bool.false_eq_true, if_false, if_true]
              rw [rangeS]
              simp only [Option.bind_some]
              rw [if_pos (decide_eq_true h2), if_neg h3, if_neg h4]
        · refine bad (st (Ev.step (f := fun _ => some false) (fun k => ?_) (Ev.now _))) (fun h => h2 (by have := h.1.2.2.1 hu; omega))
          simp only [spec_ArenaOk.j2, Bool.false_eq_true, if_false, if_true]
          rw [rangeS]
          simp only [Option.bind_some]
          rw [if_neg (show ¬ decide (1 ≤ (xs[i].f2.size : Int) ∧ (xs[i].f2.size : Int) ≤ 12) = true from fun e => h2 (of_decide_eq_true e))]
      · rw [hu] at st
        by_cases h2 : xs[i].f2.toList = ([] : List UInt8)
        · by_cases h3 : xs[i].f3.toList = ([] : List UInt8)
          · refine ⟨b, st (Ev.step (fun k => ?_) hb), ?_⟩
            · simp only [spec_ArenaOk.j2, Bool.false_eq_true, if_false]
              rw [if_pos h2, if_pos h3, w64 i (by omega)]
            · exact ⟨fun h => ⟨⟨⟨h1.1, h1.2, fun e => absurd (hu.symm.trans e) (by simp), fun _ => ⟨(empty_iff _).1 h2, (empty_iff _).1 h3⟩⟩, hne⟩, h⟩, fun h => h.2⟩
          · refine bad (st (Ev.step (f := fun _ => some false) (fun k => ?_) (Ev.now _))) (fun h => h3 ((empty_iff _).2 (h.1.2.2.2 hu).2))
            simp only [spec_ArenaOk.j2, Bool.false_eq_true, if_false]
            rw [if_pos h2, if_neg h3]
        · refine bad (st (Ev.step (f := fun _ => some false) (fun k => ?_) (Ev.now _))) (fun h => h2 ((empty_iff _).2 (h.1.2.2.2 hu).1))
          simp only [spec_ArenaOk.j2, Bool.false_eq_true, if_false]
          rw [if_neg h2]
  · refine bad (Ev.step (f := fun k => spec_ArenaOk.j2 k (xs.length : Int) free (i : Int) true xs fr xs[i].f0 xs[i].f1 xs[i].f2 xs[i].f3 xs[i].f4) (fun k => ?_) (Ev.step (f := fun _ => some false) (fun k => ?_) (Ev.now _))) (fun h => h1 ⟨h.1.1, h.1.2.1⟩)
    · simp only [spec_ArenaOk.l1]
      rw [if_pos (by omega), if_pos (by omega), if_pos (by omega), rd_sl xs i hi, rangeS]
      simp only [Option.bind_some]
      rw [if_neg (show ¬ decide (0 ≤ xs[i].f0 ∧ xs[i].f0 ≤ 41666665) = true from fun e => h1 (of_decide_eq_true e))]
    · simp only [spec_ArenaOk.j2, if_true]
theorem slotsS_loop (xs : List S81) (fr : Int) (free : List Bool) (hf : free.length = xs.length) (hl : xs.length ≤ 1048576) (d : Nat) : ∀ i, xs.length = i + d →
    ∃ b, Ev (fun k => spec_ArenaOk.l1 k (xs.length : Int) free (i : Int) xs fr) b ∧ (b = true ↔ ∀ j x, i ≤ j → xs[j]? = some x → slR x ∧ x.f1 = !(free.getD j false)) := by
  induction d with
  | zero =>
    intro i hd
    refine ⟨true, Ev.step (f := fun _ => some true) (fun k => ?_) (Ev.now _), ?_⟩
    · simp only [spec_ArenaOk.l1]; rw [if_neg (by omega)]
    · simp only [true_iff]
      intro j x hj hx
      have := (List.getElem?_eq_some_iff.1 hx).1
      omega
  | succ d ih =>
    intro i hd
    have hi : i < xs.length := by omega
    obtain ⟨b, hb, hq⟩ := ih (i + 1) (by omega)
    obtain ⟨c, hc, hcq⟩ := slotS_step xs fr free hf hl i hi b hb
    refine ⟨c, hc, hcq.trans ?_⟩
    rw [hq]
    constructor
    · rintro ⟨h1, h2⟩ j x hj hx
      by_cases e : i = j
      · subst e
        rw [List.getElem?_eq_getElem hi] at hx
        obtain rfl := Option.some.inj hx
        exact h1
      · exact h2 j x (by omega) hx
    · exact fun h => ⟨h i _ (Nat.le_refl _) (List.getElem?_eq_getElem hi), fun j x hj hx => h j x (by omega) hx⟩
/-- Marks laid at places. -/
def marks (free : List Bool) (l : List Nat) : List Bool := l.foldl (fun f i => f.set i true) free
theorem marks_len : ∀ (l : List Nat) (free : List Bool), (marks free l).length = free.length
  | [], _ => rfl
  | i :: l, free => by show (marks (free.set i true) l).length = _; rw [marks_len l, List.length_set]
theorem marks_at : ∀ (l : List Nat) (free : List Bool) (j : Nat), j < free.length → ((marks free l).getD j false = true ↔ free.getD j false = true ∨ j ∈ l)
  | [], free, j, h => by simp [marks]
  | i :: l, free, j, h => by
    show (marks (free.set i true) l).getD j false = true ↔ _
    rw [marks_at l _ j (by rw [List.length_set]; exact h)]
    by_cases e : i = j
    · subst e
      simp [List.getD_eq_getElem?_getD, List.getElem?_set_self h]
    · rw [List.getD_eq_getElem?_getD, List.getElem?_set_ne e, ← List.getD_eq_getElem?_getD]
      simp [Ne.symm e]
theorem chainS (xs : List S81) (fr : Int) (hl : xs.length ≤ 1048576) (d : Nat) : ∀ (free : List Bool) (p : Int), free.length = xs.length → free.count false = d →
    ∃ b, Ev (fun k => spec_ArenaOk.l0 k (xs.length : Int) free p xs fr) b ∧ (b = true ↔ ∃ l, AM.Path S81.f1 S81.f4 xs p l ∧ (∀ i ∈ l, free.getD i false = false) ∧ l.Nodup ∧ ∀ j x, xs[j]? = some x → slR x ∧ x.f1 = !((marks free l).getD j false)) := by
  induction d with
  | zero =>
    intro free p hf hc
    have hall : ∀ j, j < free.length → free.getD j false = true := fun j hj => by
      rw [List.getD_eq_getElem?_getD, List.getElem?_eq_getElem hj]
      cases h : free[j] with
      | true => rfl
      | false => exact absurd (List.count_eq_zero.1 hc) (fun hn => hn (by rw [← h]; exact List.getElem_mem hj))
    by_cases c : p = -1
    · subst c
      obtain ⟨b, hb, hq⟩ := slotsS_loop xs fr free hf hl xs.length 0 (by omega)
      refine ⟨b, Ev.step (fun k => ?_) hb, hq.trans ?_⟩
      · simp only [spec_ArenaOk.l0, if_true]; rfl
      · exact ⟨fun h => ⟨[], rfl, by simp, List.nodup_nil, fun j x hx => h j x (Nat.zero_le _) hx⟩, fun ⟨l, hp, _, _, h⟩ j x _ hx => by
          cases l with
          | nil => exact h j x hx
          | cons i l => have := hp.1; omega⟩
    · refine ⟨false, Ev.step (f := fun _ => some false) (fun k => ?_) (Ev.now _), ?_⟩
      · simp only [spec_ArenaOk.l0]
        rw [if_neg c, rangeS]
        simp only [Option.bind_some]
        have ew : wrap64 ((xs.length : Int) - 1) = (xs.length : Int) - 1 := by unfold wrap64; omega
        rw [ew]
        by_cases c2 : 0 ≤ p ∧ p ≤ (xs.length : Int) - 1
        · obtain ⟨q, rfl⟩ := Int.eq_ofNat_of_zero_le c2.1
          rw [if_pos (decide_eq_true c2), if_pos c2.1, if_pos (by omega), rdb_at, if_pos (hall q (by omega))]
        · rw [if_neg (show ¬ decide (0 ≤ p ∧ p ≤ (xs.length : Int) - 1) = true from fun e => c2 (of_decide_eq_true e))]
      · simp only [Bool.false_eq_true, false_iff]
        rintro ⟨l, hp, hfr, _⟩
        cases l with
        | nil => exact c hp
        | cons i l =>
          obtain ⟨_, x, hx, _⟩ := hp
          have := (List.getElem?_eq_some_iff.1 hx).1
          have := hfr i (by simp)
          rw [hall i (by omega)] at this
          cases this
  | succ d ih =>
    intro free p hf hc
    by_cases c : p = -1
    · subst c
      obtain ⟨b, hb, hq⟩ := slotsS_loop xs fr free hf hl xs.length 0 (by omega)
      refine ⟨b, Ev.step (fun k => ?_) hb, hq.trans ?_⟩
      · simp only [spec_ArenaOk.l0, if_true]; rfl
      · exact ⟨fun h => ⟨[], rfl, by simp, List.nodup_nil, fun j x hx => h j x (Nat.zero_le _) hx⟩, fun ⟨l, hp, _, _, h⟩ j x _ hx => by
          cases l with
          | nil => exact h j x hx
          | cons i l => have := hp.1; omega⟩
    · have ew : wrap64 ((xs.length : Int) - 1) = (xs.length : Int) - 1 := by unfold wrap64; omega
      have bad : (∀ l, AM.Path S81.f1 S81.f4 xs p l → (∀ i ∈ l, free.getD i false = false) → False) → Ev (fun k => spec_ArenaOk.l0 k (xs.length : Int) free p xs fr) false → ∃ b, Ev (fun k => spec_ArenaOk.l0 k (xs.length : Int) free p xs fr) b ∧ (b = true ↔ ∃ l, AM.Path S81.f1 S81.f4 xs p l ∧ (∀ i ∈ l, free.getD i false = false) ∧ l.Nodup ∧ ∀ j x, xs[j]? = some x → slR x ∧ x.f1 = !((marks free l).getD j false)) := fun hn h => ⟨false, h, by
        simp only [Bool.false_eq_true, false_iff]
        rintro ⟨l, hp, hfr, _⟩
        exact hn l hp hfr⟩
      by_cases c2 : 0 ≤ p ∧ p ≤ (xs.length : Int) - 1
      · obtain ⟨q, rfl⟩ := Int.eq_ofNat_of_zero_le c2.1
        have hq : q < xs.length := by omega
        have hxq : xs[q]? = some xs[q] := List.getElem?_eq_getElem hq
        cases hm : free.getD q false with
        | true =>
          refine bad (fun l hp hfr => ?_) (Ev.step (f := fun _ => some false) (fun k => ?_) (Ev.now _))
          · cases l with
            | nil => exact c hp
            | cons i l =>
              have h1 := hp.1
              have : q = i := by omega
              subst this
              have := hfr q (by simp)
              rw [hm] at this; cases this
          · simp only [spec_ArenaOk.l0]
            rw [if_neg c, rangeS]
            simp only [Option.bind_some]
            rw [ew, if_pos (decide_eq_true c2), if_pos c2.1, if_pos (by omega), rdb_at, if_pos hm]
        | false =>
          cases hu : xs[q].f1 with
          | true =>
            refine bad (fun l hp _ => ?_) (Ev.step (f := fun _ => some false) (fun k => ?_) (Ev.now _))
            · cases l with
              | nil => exact c hp
              | cons i l =>
                obtain ⟨h1, x, hx, hux, _⟩ := hp
                have : q = i := by omega
                subst this
                rw [hxq] at hx
                obtain rfl := Option.some.inj hx
                rw [hu] at hux; cases hux
            · simp only [spec_ArenaOk.l0]
              rw [if_neg c, rangeS]
              simp only [Option.bind_some]
              rw [ew, if_pos (decide_eq_true c2), if_pos c2.1, if_pos (by omega), rdb_at, if_neg (by rw [hm]; simp), if_pos (by omega), rd_sl xs q hq, if_pos hu]
          | false =>
            have hcnt : (free.set q true).count false = d := by
              have h1 := List.count_set (l := free) (i := q) (a := true) (b := false) (by omega)
              have h2 : free[q] = false := by
                rw [List.getD_eq_getElem?_getD, List.getElem?_eq_getElem (by omega)] at hm
                exact hm
              rw [h1, h2, hc]; simp
            obtain ⟨b, hb, hqq⟩ := ih (free.set q true) xs[q].f4 (by rw [List.length_set]; exact hf) hcnt
            refine ⟨b, Ev.step (fun k => ?_) hb, hqq.trans ?_⟩
            · simp only [spec_ArenaOk.l0]
              rw [if_neg c, rangeS]
              simp only [Option.bind_some]
              rw [ew, if_pos (decide_eq_true c2), if_pos c2.1, if_pos (by omega), rdb_at, if_neg (by rw [hm]; simp), if_pos (by omega), rd_sl xs q hq, if_neg (by rw [hu]; simp)]
              rfl
            · have hset : ∀ i, (free.set q true).getD i false = false ↔ free.getD i false = false ∧ i ≠ q := fun i => by
                by_cases e : q = i
                · subst e
                  simp [List.getD_eq_getElem?_getD, List.getElem?_set_self (show q < free.length by omega)]
                · rw [List.getD_eq_getElem?_getD, List.getElem?_set_ne e, ← List.getD_eq_getElem?_getD]
                  exact ⟨fun h => ⟨h, fun e' => e e'.symm⟩, fun h => h.1⟩
              constructor
              · rintro ⟨l, hp, hfr, hnd, hall⟩
                refine ⟨q :: l, ⟨rfl, _, hxq, hu, hp⟩, ?_, List.nodup_cons.2 ⟨fun hi => ((hset q).1 (hfr q hi)).2 rfl, hnd⟩, hall⟩
                intro i hi
                rcases List.mem_cons.1 hi with rfl | hi
                · exact hm
                · exact ((hset i).1 (hfr i hi)).1
              · rintro ⟨l, hp, hfr, hnd, hall⟩
                cases l with
                | nil => exact absurd hp c
                | cons i l =>
                  obtain ⟨h1, x, hx, hux, hp'⟩ := hp
                  have : q = i := by omega
                  subst this
                  rw [hxq] at hx
                  obtain rfl := Option.some.inj hx
                  obtain ⟨hn1, hn2⟩ := List.nodup_cons.1 hnd
                  exact ⟨l, hp', fun i hi => (hset i).2 ⟨hfr i (List.mem_cons_of_mem _ hi), fun e => hn1 (e ▸ hi)⟩, hn2, hall⟩
      · refine bad (fun l hp _ => ?_) (Ev.step (f := fun _ => some false) (fun k => ?_) (Ev.now _))
        · cases l with
          | nil => exact c hp
          | cons i l =>
            obtain ⟨h1, x, hx, _⟩ := hp
            have := (List.getElem?_eq_some_iff.1 hx).1
            omega
        · simp only [spec_ArenaOk.l0]
          rw [if_neg c, rangeS]
          simp only [Option.bind_some]
          rw [ew, if_neg (show ¬ decide (0 ≤ p ∧ p ≤ (xs.length : Int) - 1) = true from fun e => c2 (of_decide_eq_true e))]
theorem arenaS_ev (xs : List S81) (fr : Int) (hl : xs.length ≤ 1048576) : ∃ b, Ev (fun k => spec_ArenaOk.f k xs fr) b ∧ (b = true ↔ arR xs fr) := by
  unfold spec_ArenaOk.f
  rw [rangeS]
  simp only [Option.bind_some]
  by_cases h : 1 ≤ (xs.length : Int) ∧ (xs.length : Int) ≤ 24
  · simp only [if_pos (decide_eq_true h), if_pos (show 0 ≤ (xs.length : Int) by omega), Int.toNat_natCast, if_pos (show xs.length ≤ 281474976710656 by omega)]
    obtain ⟨b, hb, hq⟩ := chainS xs fr hl _ (List.replicate xs.length false) fr (by simp) rfl
    refine ⟨b, hb, hq.trans ?_⟩
    have hrep : ∀ i, (List.replicate xs.length false).getD i false = false := fun i => by
      rw [List.getD_eq_getElem?_getD]
      by_cases hi : i < xs.length
      · rw [List.getElem?_replicate, if_pos hi]; rfl
      · rw [List.getElem?_eq_none (by simp; omega)]; rfl
    have hmk : ∀ (l : List Nat) j, j < xs.length → ((marks (List.replicate xs.length false) l).getD j false = true ↔ j ∈ l) := fun l j hj => by
      rw [marks_at l _ j (by simpa using hj), hrep]; simp
    constructor
    · rintro ⟨l, hp, _, _, hall⟩
      refine ⟨by omega, fun x hx => ?_, l, hp, fun i x hx hu => ?_⟩
      · obtain ⟨j, hj, rfl⟩ := List.getElem_of_mem hx
        exact (hall j _ (List.getElem?_eq_getElem hj)).1
      · have h1 := (hall i x hx).2
        refine (hmk l i (List.getElem?_eq_some_iff.1 hx).1).1 ?_
        rw [show x.f1 = false from hu] at h1
        cases hg : (marks (List.replicate xs.length false) l).getD i false with
        | true => rfl
        | false => rw [hg] at h1; cases h1
    · rintro ⟨_, hsl, l, hp, hall⟩
      refine ⟨l, hp, fun i _ => hrep i, hp.nodup S81.f1 S81.f4, fun j x hx => ⟨hsl x (List.mem_of_getElem? hx), ?_⟩⟩
      have hj := (List.getElem?_eq_some_iff.1 hx).1
      cases hu : x.f1 with
      | false => rw [(hmk l j hj).2 (hall j x hx hu)]; rfl
      | true =>
        cases hg : (marks (List.replicate xs.length false) l).getD j false with
        | false => rfl
        | true =>
          obtain ⟨z, hz, hzu⟩ := hp.mem S81.f1 S81.f4 j ((hmk l j hj).1 hg)
          rw [hx] at hz
          obtain rfl := Option.some.inj hz
          rw [hu] at hzu; cases hzu
  · simp only [if_neg (show ¬ decide (1 ≤ (xs.length : Int) ∧ (xs.length : Int) ≤ 24) = true from fun e => h (of_decide_eq_true e))]
    exact ⟨false, Ev.now _, by simp only [Bool.false_eq_true, false_iff]; intro hr; have := hr.len; omega⟩
/-! ### Lists of structs: told by program -/
theorem rdT126_at (x : List S126) (i : Nat) (h : i < x.length) : rd_T126 x (i : Int) = x[i] := by
  unfold rd_T126
  rw [List.getD_eq_getElem?_getD, Int.toNat_natCast, List.getElem?_eq_getElem h]
  rfl
theorem rdT81_at (x : List S81) (i : Nat) (h : i < x.length) : rd_T81 x (i : Int) = x[i] := by
  unfold rd_T81
  rw [List.getD_eq_getElem?_getD, Int.toNat_natCast, List.getElem?_eq_getElem h]
  rfl
theorem szSlot_some (s : S126) (a : Int) (h0 : 0 ≤ a) (h1 : a ≤ 1048576) (h2 : s.f2.size ≤ maxLen) (h3 : s.f3.size ≤ maxLen) : ∃ r, laws_szSlot.f s.f0 s.f1 s.f2 s.f3 s.f4 a = some r ∧ r ≤ a ∧ -1 ≤ r := by
  unfold laws_szSlot.f
  unfold maxLen at *
  have e0 : wrap64 (a - (s.f2.size : Int)) = a - (s.f2.size : Int) := by unfold wrap64; omega
  rw [e0]
  by_cases c0 : a - (s.f2.size : Int) < 0
  · rw [if_pos c0]; exact ⟨-1, rfl, by omega, by omega⟩
  · rw [if_neg c0]
    have e1 : wrap64 (a - (s.f2.size : Int) - (s.f3.size : Int)) = a - (s.f2.size : Int) - (s.f3.size : Int) := by unfold wrap64; omega
    rw [e1]
    by_cases c1 : a - (s.f2.size : Int) - (s.f3.size : Int) < 0
    · rw [if_pos c1]; exact ⟨-1, rfl, by omega, by omega⟩
    · rw [if_neg c1]
      exact ⟨_, rfl, by omega, by omega⟩
theorem szSlotS_loop (l : List S126) (hl : l.length ≤ 1048576) (hs : ∀ s ∈ l, s.f2.size ≤ maxLen ∧ s.f3.size ≤ maxLen) (d : Nat) : ∀ (i : Nat) (a : Int), 0 ≤ a → a ≤ 1048576 → l.length = i + d → ∃ r, Ev (fun k => laws_szSlotS.l0 k l a (i : Int)) r ∧ r ≤ a ∧ -1 ≤ r := by
  induction d with
  | zero =>
    intro i a h0 h1 hd
    refine ⟨a, Ev.step (f := fun _ => some a) (fun k => ?_) (Ev.now _), by omega, by omega⟩
    simp only [laws_szSlotS.l0]; rw [if_neg (by omega)]
  | succ d ih =>
    intro i a h0 h1 hd
    have hi : i < l.length := by omega
    obtain ⟨t, e, t1, t2⟩ := szSlot_some l[i] a h0 h1 (hs _ (List.getElem_mem hi)).1 (hs _ (List.getElem_mem hi)).2
    by_cases c : t < 0
    · refine ⟨-1, Ev.step (f := fun _ => some (-1)) (fun k => ?_) (Ev.now _), by omega, by omega⟩
      simp only [laws_szSlotS.l0, rdT126_at l i hi]
      rw [if_pos (by omega), if_pos (by omega), e]; simp only [Option.bind_some]
      rw [if_pos c]
    · obtain ⟨r, h, r1, r2⟩ := ih (i + 1) t (by omega) (by omega) (by omega)
      refine ⟨r, Ev.step (fun k => ?_) h, by omega, r2⟩
      simp only [laws_szSlotS.l0, rdT126_at l i hi]
      rw [if_pos (by omega), if_pos (by omega), e]; simp only [Option.bind_some]
      rw [if_neg c, w64 i (by omega)]
theorem szSlotS_ev (l : List S126) (a : Int) (hl : l.length ≤ maxLen) (hs : ∀ s ∈ l, s.f2.size ≤ maxLen ∧ s.f3.size ≤ maxLen) (h0 : 0 ≤ a) (h1 : a ≤ 1048576) : ∃ r, Ev (fun k => laws_szSlotS.f k l a) r ∧ r ≤ a ∧ -1 ≤ r ∧ (0 ≤ r → l.length ≤ 1048576) := by
  have e : wrap64 (a - (l.length : Int)) = a - (l.length : Int) := by unfold maxLen at hl; unfold wrap64; omega
  by_cases c : a - (l.length : Int) < 0
  · refine ⟨-1, Ev.congr (fun k => ?_) (Ev.now _), by omega, by omega, by omega⟩
    unfold laws_szSlotS.f; rw [e, if_pos c]
  · obtain ⟨r, h, r1, r2⟩ := szSlotS_loop l (by omega) hs l.length 0 (a - (l.length : Int)) (by omega) (by omega) (by omega)
    refine ⟨r, Ev.congr (fun k => ?_) h, by omega, r2, fun _ => by omega⟩
    unfold laws_szSlotS.f; rw [e, if_neg c]; rfl
/-- The same struct. -/
def cvSlot (s : S126) : S81 := ⟨s.f0, s.f1, s.f2, s.f3, s.f4⟩
theorem toSlotS_loop (l : List S126) (hl : l.length ≤ 1048576) (d : Nat) : ∀ (x : List S81) (i : Nat), x.length = l.length → x.take i = (l.take i).map cvSlot → l.length = i + d → Ev (fun k => laws_toSlotS.l0 k l x (i : Int)) (l.map cvSlot) := by
  induction d with
  | zero =>
    intro x i hx ht hd
    refine Ev.step (f := fun _ => some (l.map cvSlot)) (fun k => ?_) (Ev.now _)
    have e : x = l.map cvSlot := by rw [List.take_of_length_le (by omega), List.take_of_length_le (by omega)] at ht; exact ht
    simp only [laws_toSlotS.l0]
    rw [if_neg (by omega), e]
  | succ d ih =>
    intro x i hx ht hd
    have hi : i < l.length := by omega
    refine Ev.step (f := fun k => laws_toSlotS.l0 k l (x.set i (cvSlot l[i])) ((i + 1 : Nat) : Int)) (fun k => ?_) (ih (x.set i (cvSlot l[i])) (i + 1) (by simpa using hx) ?_ (by omega))
    · simp only [laws_toSlotS.l0, laws_toSlot.f, Option.bind_some, rdT126_at l i hi]
      rw [if_pos (by omega), if_pos (by omega), if_pos (by omega), w64 i (by omega), Int.toNat_natCast]
      rfl
    · rw [set_take x i _ (by omega), take_next l i hi, ht, List.map_append]
      rfl
theorem toSlotS_ev (l : List S126) (hl : l.length ≤ 1048576) : Ev (fun k => laws_toSlotS.f k l) (l.map cvSlot) := by
  refine Ev.congr (f := fun k => laws_toSlotS.l0 k l (List.replicate l.length z81) ((0 : Nat) : Int)) (fun k => ?_) (toSlotS_loop l hl l.length _ 0 (by simp) rfl (by omega))
  unfold laws_toSlotS.f
  rw [if_pos (by omega), if_pos (by rw [Int.toNat_natCast]; omega), Int.toNat_natCast]
  rfl
theorem eqSlot_some (s : S81) : laws_eqSlot.f s.f0 s.f1 s.f2 s.f3 s.f4 s.f0 s.f1 s.f2 s.f3 s.f4 = some true := by
  unfold laws_eqSlot.f
  simp
theorem eqSlotS_loop (l : List S81) (hl : l.length ≤ 1048576) (d : Nat) : ∀ (i : Nat), l.length = i + d → Ev (fun k => laws_eqSlotS.l0 k l l (i : Int)) true := by
  induction d with
  | zero =>
    intro i hd
    refine Ev.step (f := fun _ => some true) (fun k => ?_) (Ev.now _)
    simp only [laws_eqSlotS.l0]; rw [if_neg (by omega)]
  | succ d ih =>
    intro i hd
    refine Ev.step (f := fun k => laws_eqSlotS.l0 k l l ((i + 1 : Nat) : Int)) (fun k => ?_) (ih (i + 1) (by omega))
    simp only [laws_eqSlotS.l0]
    rw [if_pos (by omega), if_pos (by omega), if_pos (by omega), eqSlot_some, w64 i (by omega)]
    rfl
theorem eqSlotS_ev (l : List S81) (hl : l.length ≤ 1048576) : Ev (fun k => laws_eqSlotS.f k l l) true := by
  refine Ev.congr (f := fun k => laws_eqSlotS.l0 k l l ((0 : Nat) : Int)) (fun k => ?_) (eqSlotS_loop l hl l.length 0 (by omega))
  unfold laws_eqSlotS.f
  rw [if_pos rfl]
  rfl
/-! ### Texts that are marked -/
theorem nums_size (l : List Int) : (strOfNums l).size = l.length := by
  unfold strOfNums
  show (l.map fun n => UInt8.ofNat n.toNat).toArray.size = l.length
  simp
theorem markT_loop (N : Nat) : ∀ (n : Nat) (x : ByteArray), n ≤ N → n + x.size ≤ 1099511627776 → ∃ s, Ev (fun k => laws_markText.l0 k (n : Int) x) s := by
  induction N with
  | zero =>
    intro n x hn hx
    refine ⟨(⟨#[109]⟩ : ByteArray) ++ x, Ev.step (f := fun _ => some ((⟨#[109]⟩ : ByteArray) ++ x)) (fun k => ?_) (Ev.now _)⟩
    simp only [laws_markText.l0]
    rw [if_neg (by omega), if_pos (by omega)]
  | succ N ih =>
    intro n x hn hx
    by_cases h0 : n = 0
    · refine ⟨(⟨#[109]⟩ : ByteArray) ++ x, Ev.step (f := fun _ => some ((⟨#[109]⟩ : ByteArray) ++ x)) (fun k => ?_) (Ev.now _)⟩
      simp only [laws_markText.l0]
      rw [if_neg (by omega), if_pos (by omega)]
    · have ed : wrap64 (Int.tdiv (n : Int) 10) = ((n / 10 : Nat) : Int) := by
        rw [Int.tdiv_eq_ediv_of_nonneg (Int.natCast_nonneg _)]
        unfold wrap64; omega
      have hsz := nums_size [(wrap64 (48 + (Int.tmod (n : Int) 10))) % 256]
      have hap : (strOfNums [(wrap64 (48 + (Int.tmod (n : Int) 10))) % 256] ++ x).size = 1 + x.size := by rw [ByteArray.size_append, hsz]; rfl
      obtain ⟨s, hs⟩ := ih (n / 10) (strOfNums [(wrap64 (48 + (Int.tmod (n : Int) 10))) % 256] ++ x) (by omega) (by rw [hap]; omega)
      refine ⟨s, Ev.step (fun k => ?_) hs⟩
      simp only [laws_markText.l0, Option.bind_some]
      rw [if_pos (by omega), if_pos (by rw [hsz]; simp; omega), ed]
theorem markT_some (n : Int) (h0 : 0 ≤ n) (h1 : n ≤ 1073741824) : ∃ s, Ev (fun k => laws_markText.f k n) s := by
  by_cases c : n ≤ 0
  · refine ⟨(⟨#[109, 48]⟩ : ByteArray), Ev.congr (f := fun _ => some (⟨#[109, 48]⟩ : ByteArray)) (fun k => ?_) (Ev.now _)⟩
    unfold laws_markText.f
    rw [if_pos c]
  · obtain ⟨m, rfl⟩ := Int.eq_ofNat_of_zero_le h0
    obtain ⟨s, hs⟩ := markT_loop m m (⟨#[]⟩ : ByteArray) (Nat.le_refl _) (by show m + 0 ≤ _; omega)
    refine ⟨s, Ev.congr (fun k => ?_) hs⟩
    unfold laws_markText.f
    rw [if_neg c]
open Classical in
/-- The text of a number. -/
noncomputable def markT (n : Int) : ByteArray := if h : ∃ s, Ev (fun k => laws_markText.f k n) s then Classical.choose h else ByteArray.empty
theorem markT_ev (n : Int) (h0 : 0 ≤ n) (h1 : n ≤ 1073741824) : Ev (fun k => laws_markText.f k n) (markT n) := by
  unfold markT
  rw [dif_pos (markT_some n h0 h1)]
  exact Classical.choose_spec (markT_some n h0 h1)
/-! ### Slots that are marked -/
noncomputable def slMark (m : Int) : S81 := ⟨m, (Int.tmod (m + 1) 3 == 0), markT (m + 2), markT (m + 3), m + 4⟩
noncomputable def markedSl (n : Nat) (m : Int) : List S81 := (List.range n).map fun (i : Nat) => slMark (m + 5 * (i : Int))
theorem markedSl_len (n : Nat) (m : Int) : (markedSl n m).length = n := by simp [markedSl]
theorem markSlotS_loop (n : Nat) (m : Int) (h0 : 0 ≤ m) (h1 : m + 5 * n < 1073741824) (d : Nat) : ∀ (x : List S81) (i : Nat), x.length = n → (∀ j, j < i → x[j]? = some (slMark (m + 5 * (j : Int)))) → n = i + d →
    Ev (fun k => laws_markSlotS.l0 k x (m + 5 * (i : Int)) (i : Int)) (m + 5 * (n : Int), markedSl n m) := by
  induction d with
  | zero =>
    intro x i hx ht hd
    refine Ev.step (f := fun _ => some (m + 5 * (n : Int), markedSl n m)) (fun k => ?_) (Ev.now _)
    have e : x = markedSl n m := by
      apply List.ext_getElem?
      intro j
      by_cases hj : j < n
      · rw [ht j (by omega)]; simp [markedSl, hj]
      · rw [List.getElem?_eq_none (by omega), List.getElem?_eq_none (by rw [markedSl_len]; omega)]
    simp only [laws_markSlotS.l0]
    rw [if_neg (by omega), ← e]
    have : i = n := by omega
    subst this
    rfl
  | succ d ih =>
    intro x i hx ht hd
    have hi : i < x.length := by omega
    have h2 := markT_ev (m + 5 * (i : Int) + 2) (by omega) (by omega)
    have h3 := markT_ev (m + 5 * (i : Int) + 3) (by omega) (by omega)
    have e1 : wrap64 (m + 5 * (i : Int) + 1) = m + 5 * (i : Int) + 1 := by unfold wrap64; omega
    have e2 : wrap64 (m + 5 * (i : Int) + 1 + 1) = m + 5 * (i : Int) + 2 := by unfold wrap64; omega
    have e3 : wrap64 (m + 5 * (i : Int) + 2 + 1) = m + 5 * (i : Int) + 3 := by unfold wrap64; omega
    have e4 : wrap64 (m + 5 * (i : Int) + 3 + 1) = m + 5 * (i : Int) + 4 := by unfold wrap64; omega
    have e5 : wrap64 (m + 5 * (i : Int) + 4 + 1) = m + 5 * ((i + 1 : Nat) : Int) := by unfold wrap64; omega
    have r1 : ∀ (y : S81), rd_T81 (x.set i y) (i : Int) = y := fun y => by
      rw [rd_sl _ i (by rw [List.length_set]; exact hi), List.getElem_set_self]
    have st : Ev (fun k => (laws_markText.f k (m + 5 * (i : Int) + 2)).bind fun t2 => (laws_markText.f k (m + 5 * (i : Int) + 3)).bind fun t3 => laws_markSlotS.l0 k (x.set i ⟨m + 5 * (i : Int), (Int.tmod (m + 5 * (i : Int) + 1) 3 == 0), t2, t3, m + 5 * (i : Int) + 4⟩) (m + 5 * ((i + 1 : Nat) : Int)) ((i + 1 : Nat) : Int)) (m + 5 * (n : Int), markedSl n m) := by
      refine Ev.bind h2 (Ev.bind h3 (ih (x.set i (slMark (m + 5 * (i : Int)))) (i + 1) (by rw [List.length_set]; exact hx) ?_ (by omega)))
      intro j hj
      by_cases c : j = i
      · subst c; rw [List.getElem?_set_self hi]
      · rw [List.getElem?_set_ne (by omega)]; exact ht j (by omega)
    refine Ev.step (fun k => ?_) st
    simp only [laws_markSlotS.l0]
    rw [if_pos (by omega), if_pos (by omega)]
    simp only [Option.bind_some, Int.toNat_natCast, e1, e2, e3, e4, e5, r1, List.set_set, w64 i (by omega)]
theorem heldSlotS_loop (n : Nat) (m : Int) (h0 : 0 ≤ m) (h1 : m + 5 * n < 1073741824) (d : Nat) : ∀ (i : Nat), n = i + d →
    Ev (fun k => laws_heldSlotS.l0 k (markedSl n m) (m + 5 * (i : Int)) (i : Int)) (m + 5 * (n : Int)) := by
  induction d with
  | zero =>
    intro i hd
    refine Ev.step (f := fun _ => some (m + 5 * (n : Int))) (fun k => ?_) (Ev.now _)
    simp only [laws_heldSlotS.l0, markedSl_len]
    rw [if_neg (by omega)]
    have : i = n := by omega
    subst this
    rfl
  | succ d ih =>
    intro i hd
    have h2 := markT_ev (m + 5 * (i : Int) + 2) (by omega) (by omega)
    have h3 := markT_ev (m + 5 * (i : Int) + 3) (by omega) (by omega)
    have e1 : wrap64 (m + 5 * (i : Int) + 1) = m + 5 * (i : Int) + 1 := by unfold wrap64; omega
    have e2 : wrap64 (m + 5 * (i : Int) + 1 + 1) = m + 5 * (i : Int) + 2 := by unfold wrap64; omega
    have e3 : wrap64 (m + 5 * (i : Int) + 2 + 1) = m + 5 * (i : Int) + 3 := by unfold wrap64; omega
    have e4 : wrap64 (m + 5 * (i : Int) + 3 + 1) = m + 5 * (i : Int) + 4 := by unfold wrap64; omega
    have e5 : wrap64 (m + 5 * (i : Int) + 4 + 1) = m + 5 * ((i + 1 : Nat) : Int) := by unfold wrap64; omega
    have r1 : rd_T81 (markedSl n m) (i : Int) = slMark (m + 5 * (i : Int)) := by
      rw [rd_sl _ i (by rw [markedSl_len]; omega)]; simp [markedSl]
    have st : Ev (fun k => (laws_markText.f k (m + 5 * (i : Int) + 2)).bind fun t2 => if (markT (m + 5 * (i : Int) + 2)).toList = t2.toList then (laws_markText.f k (m + 5 * (i : Int) + 3)).bind fun t3 => if (markT (m + 5 * (i : Int) + 3)).toList = t3.toList then laws_heldSlotS.l0 k (markedSl n m) (m + 5 * ((i + 1 : Nat) : Int)) ((i + 1 : Nat) : Int) else some (-1) else some (-1)) (m + 5 * (n : Int)) := by
      refine Ev.bind h2 ?_
      simp only [if_true]
      refine Ev.bind h3 ?_
      simp only [if_true]
      exact ih (i + 1) (by omega)
    refine Ev.step (fun k => ?_) st
    simp only [laws_heldSlotS.l0, markedSl_len, r1]
    rw [if_pos (by omega), if_pos (by omega)]
    simp only [e1, e2, e3, e4, e5, w64 i (by omega), slMark, if_true, bne_self_eq_false, Bool.false_eq_true, if_false]
/-! ### Arenas: weighed, copied, compared, marked -/
theorem szArena_ev (l : List S126) (n : Int) (a : Int) (hl : l.length ≤ maxLen) (hs : ∀ s ∈ l, s.f2.size ≤ maxLen ∧ s.f3.size ≤ maxLen) (h0 : 0 ≤ a) (h1 : a ≤ 1048576) : ∃ r, Ev (fun k => laws_szArena.f k l n a) r ∧ r ≤ a ∧ -1 ≤ r ∧ (0 ≤ r → l.length ≤ 1048576) := by
  obtain ⟨r, h, r1, r2, r3⟩ := szSlotS_ev l a hl hs h0 h1
  refine ⟨r, ?_, r1, r2, r3⟩
  unfold laws_szArena.f
  refine Ev.bind h ?_
  by_cases c : r < 0
  · simp only [if_pos c]; rw [show r = -1 by omega]; exact Ev.now _
  · simp only [if_neg c]; exact Ev.now _
theorem toArena_ev (l : List S126) (n : Int) (hl : l.length ≤ 1048576) : Ev (fun k => laws_toArena.f k l n) (l.map cvSlot, n) := by
  unfold laws_toArena.f
  exact Ev.bind (toSlotS_ev l hl) (Ev.now _)
theorem eqArena_ev (l : List S81) (n : Int) (hl : l.length ≤ 1048576) : Ev (fun k => laws_eqArena.f k l n l n) true := by
  unfold laws_eqArena.f
  refine Ev.bind (eqSlotS_ev l hl) ?_
  simp only [if_true]
  exact Ev.now _
theorem markArena_ev (l : List S81) (n m : Int) (hl : l.length ≤ 1048576) (h0 : 0 ≤ m) (h1 : m ≤ 1000000000) : Ev (fun k => laws_markArena.f k l n m) (m + 5 * (l.length : Int), markedSl l.length m) := by
  unfold laws_markArena.f
  refine Ev.bind (a := (m + 5 * (l.length : Int), markedSl l.length m)) ?_ (Ev.now _)
  have := markSlotS_loop l.length m h0 (by omega) l.length l 0 rfl (fun j hj => absurd hj (by omega)) (by omega)
  simpa [laws_markSlotS.f] using this
theorem heldArena_ev (len : Nat) (n m : Int) (hl : len ≤ 1048576) (h0 : 0 ≤ m) (h1 : m ≤ 1000000000) : Ev (fun k => laws_heldArena.f k (markedSl len m) n m) (m + 5 * (len : Int)) := by
  unfold laws_heldArena.f
  have := heldSlotS_loop len m h0 (by omega) len 0 (by omega)
  refine Ev.bind (a := m + 5 * (len : Int)) (by simpa [laws_heldSlotS.f] using this) ?_
  simp only [if_neg (show ¬ (m + 5 * (len : Int) < 0) by omega)]
  exact Ev.now _
theorem copyA (l : List S81) (n : Int) (hl : l.length ≤ 1048576) : impl_copyArena.f l n = some (l, n) := by
  unfold impl_copyArena.f impl_Slot.f
  rw [if_pos (by omega)]; rfl
/-- What is left of an arena in which an entry is laid at k. -/
def layL (l : List S81) (k : Nat) (key val : ByteArray) : List S81 := l.set k ⟨(rd_T81 l (k : Int)).f0, true, key, val, 0⟩
theorem same_lay (l : List S81) (fr : Int) (key val : ByteArray) (hl : l.length ≤ 1048576) :
    ∃ r : List S81 × Int × Int × Bool, Ev (fun k => impl_Lay.f k l fr key val) r ∧ Ev (fun k => spec_Lay.f k l fr key val) r ∧ r.1.length ≤ 1048576 := by
  obtain ⟨b, hb, hq⟩ := arenaI_ev l fr hl
  obtain ⟨b', hb', hq'⟩ := arenaS_ev l fr hl
  have hbb : b' = b := by cases b <;> cases b' <;> simp_all
  subst hbb
  unfold impl_Lay.f spec_Lay.f
  rw [keyI]
  simp only [Option.bind_some, rangeS]
  have bad : ∀ {f g : Nat → Option (List S81 × Int × Int × Bool)}, Ev f ([], 0, 0, false) → Ev g ([], 0, 0, false) → ∃ r : List S81 × Int × Int × Bool, Ev f r ∧ Ev g r ∧ r.1.length ≤ 1048576 := fun h1 h2 => ⟨_, h1, h2, by simp⟩
  by_cases h1 : 1 ≤ (key.size : Int) ∧ (key.size : Int) ≤ 12
  · simp only [if_pos (decide_eq_true h1)]
    by_cases h2 : (val.size : Int) > 20
    · simp only [if_pos h2]
      refine bad (Ev.now _) (Ev.bind hb' ?_)
      cases b' <;> simp only [Bool.false_eq_true, if_false, if_true] <;> (try split) <;> exact Ev.now _
    · simp only [if_neg h2]
      cases b' with
      | false =>
        refine bad (Ev.bind hb ?_) (Ev.bind hb' ?_) <;> simp only [Bool.false_eq_true, if_false] <;> exact Ev.now _
      | true =>
        by_cases h3 : fr = -1
        · refine bad (Ev.bind hb ?_) (Ev.bind hb' ?_) <;> simp only [if_true, if_pos h3] <;> exact Ev.now _
        · obtain ⟨k, x, rfl, hx, _⟩ := (hq.1 rfl).first S81.f0 S81.f1 S81.f2 S81.f3 S81.f4 h3
          have hk := (List.getElem?_eq_some_iff.1 hx).1
          refine ⟨(layL l k key val, (rd_T81 l (k : Int)).f4, wrap64 (wrap64 (24 * (rd_T81 l (k : Int)).f0) + (k : Int)), true), Ev.bind hb ?_, Ev.bind hb' ?_, by unfold layL; rw [List.length_set]; exact hl⟩
          · simp only [if_true, if_neg h3, copyA l _ hl, Option.bind_some]
            rw [if_pos (by omega)]
            exact Ev.now _
          · simp only [if_true, if_neg h3]
            unfold spec_l03Copy.f
            simp only [Option.bind_some, List.nil_append, List.length_nil, Nat.zero_add]
            rw [if_pos (by omega)]
            simp only [Option.bind_some]
            rw [if_pos (by omega), if_pos (by omega), if_pos (by omega)]
            exact Ev.now _
  · simp only [if_neg (show ¬ decide (1 ≤ (key.size : Int) ∧ (key.size : Int) ≤ 12) = true from fun e => h1 (of_decide_eq_true e))]
    refine bad (Ev.now _) (Ev.bind hb' ?_)
    cases b' <;> simp only [Bool.false_eq_true, if_false, if_true] <;> (try split) <;> exact Ev.now _

theorem FnExactLay : laws_FnExactLay.Ask := by
  intro l0 fr key val ⟨hl, hz⟩ _ _ _
  apply Ev.rounds (r := true) (g := fun k => laws_FnExactLay.f k l0 fr key val)
  unfold laws_FnExactLay.f
  by_cases hbig : (key.size : Int) > 1048576
  · simp only [if_pos hbig]; exact Ev.now true
  simp only [if_neg hbig]
  by_cases hbig2 : (val.size : Int) > 1048576
  · simp only [if_pos hbig2]; exact Ev.now true
  simp only [if_neg hbig2]
  obtain ⟨r, h, _, _, hr⟩ := szArena_ev l0 fr 1048576 hl (fun s hs => ⟨(hz s hs).2.2.1, (hz s hs).2.2.2.1⟩) (by omega) (by omega)
  refine Ev.bind h ?_
  by_cases c : r < 0
  · simp only [if_pos c]; exact Ev.now true
  simp only [if_neg c]
  have hn := hr (by omega)
  have ht := toArena_ev l0 fr hn
  have hml : (l0.map cvSlot).length ≤ 1048576 := by rw [List.length_map]; exact hn
  obtain ⟨⟨q1, q2, q3, q4⟩, hI, hS, hlen⟩ := same_lay (l0.map cvSlot) fr key val hml
  have hlen' : q1.length ≤ 1048576 := hlen
  have he := eqArena_ev q1 q2 hlen'
  refine Ev.bind ht (Ev.bind hS (Ev.bind ht (Ev.bind hI (Ev.bind he ?_))))
  simp only [if_true, bne_self_eq_false, eq_self]
  refine Ev.step (fun k => by simp only [laws_FnExactLay.j0]; rw [if_neg (by simp)]) ?_
  refine Ev.bind ht (Ev.bind (eqArena_ev _ _ hml) ?_)
  simp only [if_true]
  refine Ev.bind (markArena_ev _ _ 1 hml (by omega) (by omega)) ?_
  simp only [if_neg (show ¬ (1 + 5 * ((l0.map cvSlot).length : Int) < 0) by omega)]
  refine Ev.bind he ?_
  simp only [if_true, bne_self_eq_false, eq_self]
  refine Ev.step (fun k => by simp only [laws_FnExactLay.j1]; rw [if_neg (by simp)]) ?_
  refine Ev.bind (markArena_ev q1 q2 1 hlen' (by omega) (by omega)) (Ev.bind (heldArena_ev q1.length q2 1 hlen' (by omega) (by omega)) ?_)
  simp only [if_neg (show ¬ (1 + 5 * (q1.length : Int) < 0) by omega), if_true]
  refine Ev.bind ht (Ev.bind hI (Ev.bind he ?_))
  simp only [if_true, bne_self_eq_false, eq_self]
  refine Ev.step (fun k => by simp only [laws_FnExactLay.j2]; rw [if_neg (by simp)]) ?_
  refine Ev.bind (heldArena_ev q1.length q2 1 hlen' (by omega) (by omega)) ?_
  simp only [if_neg (show ¬ (1 + 5 * (q1.length : Int) < 0) by omega), if_true]
  exact Ev.now true

end Go.Proofs.Ytjiekmbonmbhlaa.Pure
