/- What is lifted of a drawn place leaves all others as they were; what is laid next takes its slot. -/
import Derived.Test.YtjiekmbonmbhlaaGFnLiftsx10
namespace Go.Proofs.Ytjiekmbonmbhlaa.Pure
open Go.RowKit Go.Proofs.Ytjiekmbonmbhlaa.GFnLifts Go.Proofs.YtjiekmbonmbhlaaW.PrintWords Go.Proofs.YtjiekmbonmbhlaaW.PrintLast Go.Proofs.YtjiekmbonmbhlaaW.PrintMore
set_option linter.unusedVariables false
set_option linter.unusedSimpArgs false

/-! ### Lists that are copied, compared, marked -/
theorem w64 (i : Nat) (h : (i : Int) < 9223372036854775807) : wrap64 ((i : Int) + 1) = ((i + 1 : Nat) : Int) := by unfold wrap64; omega
theorem set_take {α : Type} (x : List α) (i : Nat) (v : α) (h : i < x.length) : (x.set i v).take (i + 1) = x.take i ++ [v] := by
  rw [List.take_add_one, List.take_set_of_le (Nat.le_refl i), List.getElem?_set_self h]
  rfl
theorem take_next {α : Type} (x : List α) (i : Nat) (h : i < x.length) : x.take (i + 1) = x.take i ++ [x[i]] := by
  rw [List.take_add_one, List.getElem?_eq_getElem h]
  rfl
theorem rd_at (x : List Int) (i : Nat) (h : i < x.length) : rd x (i : Int) = x[i] := by
  unfold rd
  rw [List.getD_eq_getElem?_getD, Int.toNat_natCast, List.getElem?_eq_getElem h]
  rfl
/-! ### Lists of texts -/
theorem str_eq {s t : ByteArray} : s.toList = t.toList ↔ s = t :=
  ⟨fun h => Go.WideShapes.bytes_inj (by rw [← ByteArray.toList_eq, ← ByteArray.toList_eq]; exact h), fun h => by rw [h]⟩
noncomputable abbrev decMem (s : ByteArray) (l : List ByteArray) : Decidable (s ∈ l) := Classical.propDecidable _
attribute [local instance] decMem
theorem rdS_at (x : List ByteArray) (i : Nat) (h : i < x.length) : rdOf ByteArray.empty x (i : Int) = x[i] := by
  unfold rdOf
  rw [List.getD_eq_getElem?_getD, Int.toNat_natCast, List.getElem?_eq_getElem h]
  rfl
/-! ### Slots and cells, read at a place -/
theorem empty_iff (s : ByteArray) : s.toList = ([] : List UInt8) ↔ s.size = 0 := by
  constructor
  · intro h
    have := str_eq.1 (h.trans (show ([] : List UInt8) = (⟨#[]⟩ : ByteArray).toList from by rw [ByteArray.toList_eq]))
    rw [this]; rfl
  · intro h
    have : s = (⟨#[]⟩ : ByteArray) := by
      apply ByteArray.ext
      exact Array.eq_empty_of_size_eq_zero h
    rw [this, ByteArray.toList_eq]
theorem rd_sl (x : List S81) (i : Nat) (h : i < x.length) : rd_T81 x (i : Int) = x[i] := by
  unfold rd_T81
  rw [List.getD_eq_getElem?_getD, Int.toNat_natCast, List.getElem?_eq_getElem h]
  rfl
/-! ### Ranges, keys -/
theorem rangeI (a b c : Int) : impl_inRange.f a b c = some (decide (b ≤ a ∧ a ≤ c)) := by
  unfold impl_inRange.f
  by_cases h : a ≥ b
  · rw [if_pos h]; congr 1; rw [Bool.eq_iff_iff]; simp; omega
  · rw [if_neg h]; congr 1; rw [Bool.eq_iff_iff]; simp; omega
theorem keyI (s : ByteArray) : impl_isKey.f s = some (decide (1 ≤ (s.size : Int) ∧ (s.size : Int) ≤ 12)) := by unfold impl_isKey.f; rw [rangeI]; rfl
theorem rangeS (a b c : Int) : spec_l01In.f a b c = some (decide (b ≤ a ∧ a ≤ c)) := by
  unfold spec_l01In.f
  by_cases h : a ≥ b
  · rw [if_pos h]; congr 1; rw [Bool.eq_iff_iff]; simp; omega
  · rw [if_neg h]; congr 1; rw [Bool.eq_iff_iff]; simp; omega
namespace AM
variable {α : Type} (G : α → Int) (U : α → Bool) (K V : α → ByteArray) (N : α → Int)

/-- The places that a chain comes to, in order. -/
def Path (xs : List α) : Int → List Nat → Prop
  | p, [] => p = -1
  | p, i :: l => p = (i : Int) ∧ ∃ x, xs[i]? = some x ∧ U x = false ∧ Path xs (N x) l

theorem Path.det {xs : List α} : ∀ {l l' : List Nat} {p : Int}, Path U N xs p l → Path U N xs p l' → l = l'
  | [], [], _, _, _ => rfl
  | [], i :: l, p, h, h' => by have h1 := h'.1; have h2 : p = -1 := h; omega
  | i :: l, [], p, h, h' => by have h1 := h.1; have h2 : p = -1 := h'; omega
  | i :: l, j :: l', p, h, h' => by
    obtain ⟨h1, x, hx, _, hp⟩ := h
    obtain ⟨h1', x', hx', _, hp'⟩ := h'
    have e : i = j := by omega
    subst e
    rw [hx] at hx'
    obtain rfl := Option.some.inj hx'
    rw [hp.det hp']
theorem Path.suffix {xs : List α} : ∀ {l : List Nat} {p : Int} {i : Nat}, Path U N xs p l → i ∈ l → ∃ t, Path U N xs (i : Int) (i :: t) ∧ (i :: t).length ≤ l.length
  | j :: l, p, i, h, hi => by
    rcases List.mem_cons.1 hi with e | hi
    · subst e
      have h1 := h.1
      exact ⟨l, by rw [← h1]; exact h, Nat.le_refl _⟩
    · obtain ⟨_, x, _, _, hp⟩ := h
      obtain ⟨t, ht, hle⟩ := hp.suffix hi
      exact ⟨t, ht, by simp only [List.length_cons] at hle ⊢; omega⟩
theorem Path.nodup {xs : List α} : ∀ {l : List Nat} {p : Int}, Path U N xs p l → l.Nodup
  | [], _, _ => List.nodup_nil
  | i :: l, p, h => by
    have h0 := h
    obtain ⟨h1, x, hx, hu, hp⟩ := h
    refine List.nodup_cons.2 ⟨fun hi => ?_, hp.nodup⟩
    obtain ⟨t, ht, hle⟩ := hp.suffix U N hi
    rw [h1] at h0
    have := h0.det U N ht
    rw [← this] at hle
    simp only [List.length_cons] at hle
    omega
theorem Path.mem {xs : List α} : ∀ {l : List Nat} {p : Int}, Path U N xs p l → ∀ i ∈ l, ∃ x, xs[i]? = some x ∧ U x = false
  | j :: l, p, h, i, hi => by
    obtain ⟨_, x, hx, hu, hp⟩ := h
    rcases List.mem_cons.1 hi with e | hi
    · subst e; exact ⟨x, hx, hu⟩
    · exact hp.mem i hi
theorem Path.set {xs : List α} {k : Nat} {y : α} : ∀ {l : List Nat} {p : Int}, Path U N xs p l → k ∉ l → Path U N (xs.set k y) p l
  | [], p, h, _ => h
  | i :: l, p, h, hk => by
    obtain ⟨h1, x, hx, hu, hp⟩ := h
    simp only [List.mem_cons, not_or] at hk
    exact ⟨h1, x, by rw [List.getElem?_set_ne hk.1]; exact hx, hu, hp.set hk.2⟩

/-- A slot that is right by itself. -/
def slotR (x : α) : Prop := 0 ≤ G x ∧ G x ≤ 41666665 ∧ (U x = true → 1 ≤ (K x).size ∧ (K x).size ≤ 12 ∧ (V x).size ≤ 20 ∧ N x = 0) ∧ (U x = false → (K x).size = 0 ∧ (V x).size = 0)
/-- A right arena. -/
structure Right (xs : List α) (free : Int) : Prop where
  len : 1 ≤ xs.length ∧ xs.length ≤ 24
  slots : ∀ x ∈ xs, slotR G U K V N x
  path : ∃ l, Path U N xs free l ∧ ∀ i x, xs[i]? = some x → U x = false → i ∈ l

theorem mem_set {xs : List α} {k : Nat} {y z : α} (h : z ∈ xs.set k y) : z ∈ xs ∨ z = y := List.mem_or_eq_of_mem_set h

theorem Right.first {xs : List α} {free : Int} (h : Right G U K V N xs free) (hf : free ≠ -1) : ∃ (k : Nat) (x : α), free = (k : Int) ∧ xs[k]? = some x ∧ U x = false := by
  obtain ⟨l, hp, _⟩ := h.path
  cases l with
  | nil => exact absurd hp hf
  | cons i l =>
    obtain ⟨h1, x, hx, hu, _⟩ := hp
    exact ⟨i, x, h1, hx, hu⟩
theorem Right.full {xs : List α} {free : Int} (h : Right G U K V N xs free) : free = -1 ↔ ∀ x ∈ xs, U x = true := by
  obtain ⟨l, hp, ha⟩ := h.path
  constructor
  · intro e x hx
    cases l with
    | nil =>
      obtain ⟨i, hi, rfl⟩ := List.getElem_of_mem hx
      cases hu : U xs[i] with
      | true => rfl
      | false => exact absurd (ha i _ (List.getElem?_eq_getElem hi) hu) (by simp)
    | cons i l => have := hp.1; omega
  · intro hall
    cases l with
    | nil => exact hp
    | cons i l =>
      obtain ⟨_, x, hx, hu, _⟩ := hp
      rw [hall x (List.mem_of_getElem? hx)] at hu
      cases hu
theorem Right.lay {xs : List α} {k : Nat} {x y : α} (h : Right G U K V N xs (k : Int)) (hx : xs[k]? = some x) (hu : U y = true) (hy : slotR G U K V N y) : Right G U K V N (xs.set k y) (N x) := by
  obtain ⟨l, hp, ha⟩ := h.path
  have hkl : k < xs.length := (List.getElem?_eq_some_iff.1 hx).1
  cases l with
  | nil => have h2 : (k : Int) = -1 := hp; omega
  | cons i l =>
    have hnd := hp.nodup
    obtain ⟨h1, x', hx', hu', hp'⟩ := hp
    have e : k = i := by omega
    subst e
    rw [hx] at hx'
    obtain rfl := Option.some.inj hx'
    refine ⟨by rw [List.length_set]; exact h.len, fun z hz => ?_, l, hp'.set U N (List.nodup_cons.1 hnd).1, fun i z hz hzu => ?_⟩
    · rcases mem_set hz with hz | rfl
      · exact h.slots z hz
      · exact hy
    · by_cases e : k = i
      · subst e
        rw [List.getElem?_set_self hkl] at hz
        obtain rfl := Option.some.inj hz
        rw [hu] at hzu; cases hzu
      · rw [List.getElem?_set_ne e] at hz
        rcases List.mem_cons.1 (ha i z hz hzu) with e' | h'
        · exact absurd e'.symm e
        · exact h'
theorem Right.lift {xs : List α} {free : Int} {k : Nat} {x y : α} (h : Right G U K V N xs free) (hx : xs[k]? = some x) (hux : U x = true) (hu : U y = false) (hn : N y = free) (hy : slotR G U K V N y) : Right G U K V N (xs.set k y) (k : Int) := by
  obtain ⟨l, hp, ha⟩ := h.path
  have hkl : k < xs.length := (List.getElem?_eq_some_iff.1 hx).1
  have hk : k ∉ l := fun hk => by
    obtain ⟨z, hz, hzu⟩ := hp.mem U N k hk
    rw [hx] at hz
    obtain rfl := Option.some.inj hz
    rw [hux] at hzu; cases hzu
  refine ⟨by rw [List.length_set]; exact h.len, fun z hz => ?_, k :: l, ⟨rfl, y, List.getElem?_set_self hkl, hu, by rw [hn]; exact hp.set U N hk⟩, fun i z hz hzu => ?_⟩
  · rcases mem_set hz with hz | rfl
    · exact h.slots z hz
    · exact hy
  · by_cases e : k = i
    · subst e; simp
    · rw [List.getElem?_set_ne e] at hz
      exact List.mem_cons_of_mem _ (ha i z hz hzu)

/-- The length of the chain, by walking it (the program's way); -1: it is none. -/
def chainF (xs : List α) : Nat → Int → Option Nat
  | 0, p => if p = -1 then some 0 else none
  | d + 1, p => if p = -1 then some 0 else if 0 ≤ p then (match xs[p.toNat]? with
    | none => none
    | some x => if U x then none else (chainF xs d (N x)).map (· + 1)) else none
theorem chainF_iff {xs : List α} : ∀ {d n : Nat} {p : Int}, chainF U N xs d p = some n ↔ ∃ l, Path U N xs p l ∧ l.length = n ∧ n ≤ d
  | 0, n, p => by
    simp only [chainF]
    constructor
    · intro h
      by_cases c : p = -1
      · rw [if_pos c] at h
        obtain rfl := Option.some.inj h
        exact ⟨[], c, rfl, Nat.le_refl _⟩
      · rw [if_neg c] at h; cases h
    · rintro ⟨l, hp, rfl, hl⟩
      obtain rfl := List.eq_nil_of_length_eq_zero (Nat.le_zero.1 hl)
      rw [if_pos (show p = -1 from hp)]; rfl
  | d + 1, n, p => by
    simp only [chainF]
    by_cases c : p = -1
    · rw [if_pos c]
      constructor
      · intro h
        obtain rfl := Option.some.inj h
        exact ⟨[], c, rfl, Nat.zero_le _⟩
      · rintro ⟨l, hp, rfl, hl⟩
        cases l with
        | nil => rfl
        | cons i l => have := hp.1; omega
    · rw [if_neg c]
      by_cases c0 : 0 ≤ p
      · rw [if_pos c0]
        cases hx : xs[p.toNat]? with
        | none =>
          simp only
          constructor
          · intro h; cases h
          · rintro ⟨l, hp, rfl, hl⟩
            cases l with
            | nil => exact absurd hp c
            | cons i l =>
              obtain ⟨e, x, h1, _⟩ := hp
              rw [e, Int.toNat_natCast, h1] at hx
              cases hx
        | some x =>
          simp only
          cases hu : U x with
          | true =>
            simp only [if_true]
            constructor
            · intro h; cases h
            · rintro ⟨l, hp, rfl, hl⟩
              cases l with
              | nil => exact absurd hp c
              | cons i l =>
                obtain ⟨e, x', h1, h2, _⟩ := hp
                rw [e, Int.toNat_natCast, h1] at hx
                rw [Option.some.inj hx, hu] at h2; cases h2
          | false =>
            simp only [Bool.false_eq_true, if_false]
            constructor
            · intro h
              obtain ⟨m, hm, rfl⟩ := Option.map_eq_some_iff.1 h
              obtain ⟨l, hp, hl, hle⟩ := chainF_iff.1 hm
              exact ⟨p.toNat :: l, ⟨by omega, x, hx, hu, hp⟩, by simp [hl], by omega⟩
            · rintro ⟨l, hp, rfl, hl⟩
              cases l with
              | nil => exact absurd hp c
              | cons i l =>
                obtain ⟨e, x', h1, h2, h3⟩ := hp
                rw [e, Int.toNat_natCast, h1] at hx
                obtain rfl := Option.some.inj hx
                exact Option.map_eq_some_iff.2 ⟨l.length, chainF_iff.2 ⟨l, h3, rfl, by simp only [List.length_cons] at hl; omega⟩, rfl⟩
      · rw [if_neg c0]
        constructor
        · intro h; cases h
        · rintro ⟨l, hp, rfl, hl⟩
          cases l with
          | nil => exact absurd hp c
          | cons i l => have := hp.1; omega
theorem nodup_le {l m : List Nat} (hl : l.Nodup) (hs : ∀ i ∈ l, i ∈ m) : l.length ≤ m.length := by
  induction l generalizing m with
  | nil => simp
  | cons a l ih =>
    obtain ⟨ha, hl⟩ := List.nodup_cons.1 hl
    have h := ih (m := m.erase a) hl (fun j hj => (List.mem_erase_of_ne (fun e => ha (by rw [← e]; exact hj))).2 (hs j (List.mem_cons_of_mem _ hj)))
    have h1 := List.length_erase_of_mem (hs a (by simp))
    have h2 : 0 < m.length := List.length_pos_of_mem (hs a (by simp))
    simp only [List.length_cons]
    omega
/-- Among different ones of a list, as many as the list: all of them. -/
theorem all_of_length {l m : List Nat} (hl : l.Nodup) (hs : ∀ i ∈ l, i ∈ m) (hlen : m.length ≤ l.length) : ∀ i ∈ m, i ∈ l := by
  intro i hi
  by_cases h : i ∈ l
  · exact h
  · have h1 := nodup_le (l := i :: l) (m := m) (List.nodup_cons.2 ⟨h, hl⟩) (fun j hj => (List.mem_cons.1 hj).elim (fun e => e ▸ hi) (hs j))
    simp only [List.length_cons] at h1
    omega
/-- The places that are not used. -/
def freeAt (xs : List α) : List Nat := (List.range xs.length).filter fun i => (xs[i]?.map fun x => !U x).getD false
theorem freeAt_mem {xs : List α} {i : Nat} : i ∈ freeAt U xs ↔ ∃ x, xs[i]? = some x ∧ U x = false := by
  unfold freeAt
  rw [List.mem_filter, List.mem_range]
  constructor
  · rintro ⟨h, hu⟩
    rw [List.getElem?_eq_getElem h] at hu
    exact ⟨xs[i], List.getElem?_eq_getElem h, by simpa using hu⟩
  · rintro ⟨x, hx, hu⟩
    refine ⟨(List.getElem?_eq_some_iff.1 hx).1, ?_⟩
    rw [hx]; simp [hu]
theorem freeAt_nodup {xs : List α} : (freeAt U xs).Nodup := (List.nodup_range (n := xs.length)).sublist List.filter_sublist
theorem freeAt_length (xs : List α) : (freeAt U xs).length + xs.countP U = xs.length := by
  unfold freeAt
  have h : ((List.range xs.length).filter fun i => (xs[i]?.map fun x => !U x).getD false).length = xs.countP (fun x => !U x) := by
    rw [← List.countP_eq_length_filter]
    have e : xs.countP (fun x => !U x) = ((List.range xs.length).map fun i => xs[i]?).countP (fun o => (o.map fun x => !U x).getD false) := by
      have : ((List.range xs.length).map fun i => xs[i]?) = xs.map some := by
        apply List.ext_getElem
        · simp
        · intro i h1 h2
          simp at h1
          simp [h1]
      rw [this, List.countP_map]
      rfl
    rw [e, List.countP_map]
    rfl
  rw [h]
  have := List.length_eq_countP_add_countP U (l := xs)
  have e : xs.countP (fun x => !U x) = xs.countP (fun x => decide ¬ U x = true) := by congr 1; funext x; cases U x <;> rfl
  rw [e]; omega
theorem Path.length_le {xs : List α} {l : List Nat} {p : Int} (h : Path U N xs p l) : l.length ≤ xs.length - xs.countP U := by
  have h1 : l.length ≤ (freeAt U xs).length := nodup_le (h.nodup U N) fun i hi => (freeAt_mem U).2 (h.mem U N i hi)
  have := freeAt_length U xs
  omega
/-- The program's test: as long a chain as there are free slots. -/
theorem Path.all_iff {xs : List α} {l : List Nat} {p : Int} (h : Path U N xs p l) : (l.length + xs.countP U = xs.length) ↔ ∀ i x, xs[i]? = some x → U x = false → i ∈ l := by
  have hf := freeAt_length U xs
  constructor
  · intro e i x hx hu
    exact all_of_length (m := freeAt U xs) (h.nodup U N) (fun j hj => (freeAt_mem U).2 (h.mem U N j hj)) (by omega) i ((freeAt_mem U).2 ⟨x, hx, hu⟩)
  · intro hall
    have h1 := h.length_le U N
    have h2 : (freeAt U xs).length ≤ l.length := nodup_le (freeAt_nodup U) fun i hi => by obtain ⟨x, hx, hu⟩ := (freeAt_mem U).1 hi; exact hall i x hx hu
    have := List.countP_le_length (p := U) (l := xs)
    omega
end AM
/-! ### The program's ArenaOk -/
abbrev slR : S81 → Prop := AM.slotR S81.f0 S81.f1 S81.f2 S81.f3 S81.f4
abbrev arR : List S81 → Int → Prop := AM.Right S81.f0 S81.f1 S81.f2 S81.f3 S81.f4
theorem slotI (x : S81) : ∃ b, impl_slotOk.f x.f0 x.f1 x.f2 x.f3 x.f4 = some b ∧ (b = true ↔ slR x) := by
  unfold impl_slotOk.f slR AM.slotR
  rw [rangeI]
  simp only [Option.bind_some]
  by_cases h1 : 0 ≤ x.f0 ∧ x.f0 ≤ 41666665
  · rw [if_pos (decide_eq_true h1), keyI]
    simp only [Option.bind_some]
    cases hu : x.f1 with
    | true =>
      simp only [if_true]
      by_cases h2 : 1 ≤ (x.f2.size : Int) ∧ (x.f2.size : Int) ≤ 12
      · rw [if_pos (decide_eq_true h2)]
        by_cases h3 : (x.f3.size : Int) ≤ 20
        · rw [if_pos h3]
          exact ⟨_, rfl, by simp; omega⟩
        · rw [if_neg h3]
          exact ⟨_, rfl, by simp; omega⟩
      · rw [if_neg (show ¬ decide (1 ≤ (x.f2.size : Int) ∧ (x.f2.size : Int) ≤ 12) = true from fun e => h2 (of_decide_eq_true e))]
        exact ⟨_, rfl, by simp; omega⟩
    | false =>
      simp only [Bool.false_eq_true, if_false]
      by_cases h2 : x.f2.toList = ([] : List UInt8)
      · rw [if_pos h2]
        refine ⟨_, rfl, ?_⟩
        rw [beq_iff_eq, empty_iff]
        exact ⟨fun h => ⟨h1.1, h1.2, fun e => by simp at e, fun _ => ⟨(empty_iff _).1 h2, h⟩⟩, fun h => (h.2.2.2 trivial).2⟩
      · rw [if_neg h2]
        exact ⟨_, rfl, by simp, fun h => absurd ((empty_iff _).2 (h.2.2.2 trivial).1) h2⟩
  · rw [if_neg (show ¬ decide (0 ≤ x.f0 ∧ x.f0 ≤ 41666665) = true from fun e => h1 (of_decide_eq_true e))]
    exact ⟨_, rfl, by simp; omega⟩
/-- What the program's chain answers. -/
def chainV (n : Nat) : Option Nat → Int
  | none => -1
  | some m => ((n + m : Nat) : Int)
theorem chainI (xs : List S81) (fr : Int) (hl : xs.length ≤ 1048576) (d : Nat) : ∀ (n : Nat) (p : Int), n + d = xs.length →
    Ev (fun k => impl_Arena_chain.l0 k (n : Int) p xs fr) (chainV n (AM.chainF S81.f1 S81.f4 xs d p)) := by
  induction d with
  | zero =>
    intro n p hd
    simp only [AM.chainF]
    by_cases c : p = -1
    · rw [if_pos c]
      refine Ev.step (f := fun _ => some ((n : Int))) (fun k => ?_) (Ev.now _)
      simp only [impl_Arena_chain.l0]; rw [if_pos c]
    · rw [if_neg c]
      refine Ev.step (f := fun _ => some (-1)) (fun k => ?_) (Ev.now _)
      simp only [impl_Arena_chain.l0]
      rw [if_neg c, rangeI]
      simp only [Option.bind_some]
      have ew : wrap64 ((xs.length : Int) - 1) = (xs.length : Int) - 1 := by unfold wrap64; omega
      rw [ew]
      by_cases c2 : 0 ≤ p ∧ p ≤ (xs.length : Int) - 1
      · rw [if_pos (decide_eq_true c2), if_pos c2.1, if_pos (by omega)]
        split
        · rfl
        · rw [if_pos (by omega)]
      · rw [if_neg (show ¬ decide (0 ≤ p ∧ p ≤ (xs.length : Int) - 1) = true from fun e => c2 (of_decide_eq_true e))]
  | succ d ih =>
    intro n p hd
    simp only [AM.chainF]
    by_cases c : p = -1
    · rw [if_pos c]
      refine Ev.step (f := fun _ => some ((n : Int))) (fun k => ?_) (Ev.now _)
      simp only [impl_Arena_chain.l0]; rw [if_pos c]
    · rw [if_neg c]
      have ew : wrap64 ((xs.length : Int) - 1) = (xs.length : Int) - 1 := by unfold wrap64; omega
      by_cases c2 : 0 ≤ p ∧ p ≤ (xs.length : Int) - 1
      · obtain ⟨q, rfl⟩ := Int.eq_ofNat_of_zero_le c2.1
        have hq : q < xs.length := by omega
        rw [if_pos c2.1, Int.toNat_natCast, List.getElem?_eq_getElem hq]
        simp only
        cases hu : xs[q].f1 with
        | true =>
          simp only [if_true]
          refine Ev.step (f := fun _ => some (-1)) (fun k => ?_) (Ev.now _)
          simp only [impl_Arena_chain.l0]
          rw [if_neg c, rangeI]
          simp only [Option.bind_some]
          rw [ew, if_pos (decide_eq_true c2), if_pos c2.1, if_pos (by omega), rd_sl xs q hq, hu]
          simp
        | false =>
          simp only [Bool.false_eq_true, if_false]
          have := ih (n + 1) xs[q].f4 (by omega)
          refine Ev.step (f := fun k => impl_Arena_chain.l0 k ((n + 1 : Nat) : Int) xs[q].f4 xs fr) (fun k => ?_) (Ev.congr (fun k => rfl) (by
            cases hc : AM.chainF S81.f1 S81.f4 xs d xs[q].f4 with
            | none => rw [hc] at this; exact this
            | some m => rw [hc] at this; simpa [chainV, Nat.add_assoc, Nat.add_comm, Nat.add_left_comm] using this))
          simp only [impl_Arena_chain.l0]
          rw [if_neg c, rangeI]
          simp only [Option.bind_some]
          rw [ew, if_pos (decide_eq_true c2), if_pos c2.1, if_pos (by omega), rd_sl xs q hq, hu]
          simp only [Bool.false_eq_true, if_false]
          rw [if_neg (by omega), w64 n (by omega)]
      · have fin : Ev (fun k => impl_Arena_chain.l0 k (n : Int) p xs fr) (-1) := by
          refine Ev.step (f := fun _ => some (-1)) (fun k => ?_) (Ev.now _)
          simp only [impl_Arena_chain.l0]
          rw [if_neg c, rangeI]
          simp only [Option.bind_some]
          rw [ew, if_neg (show ¬ decide (0 ≤ p ∧ p ≤ (xs.length : Int) - 1) = true from fun e => c2 (of_decide_eq_true e))]
        by_cases c3 : 0 ≤ p
        · rw [if_pos c3, List.getElem?_eq_none (by omega)]; exact fin
        · rw [if_neg c3]; exact fin
theorem usedI_loop (xs : List S81) (hl : xs.length ≤ 1048576) (d : Nat) : ∀ (i n : Nat), xs.length = i + d → n ≤ i →
    Ev (fun k => impl_Arena_used.l0 k (n : Int) xs (xs.length : Int) (i : Int)) ((n + (xs.drop i).countP S81.f1 : Nat) : Int) := by
  induction d with
  | zero =>
    intro i n hd hn
    rw [List.drop_eq_nil_of_le (by omega)]
    refine Ev.step (f := fun _ => some ((n : Nat) : Int)) (fun k => ?_) (Ev.now _)
    simp only [impl_Arena_used.l0]; rw [if_neg (by omega)]
  | succ d ih =>
    intro i n hd hn
    have hi : i < xs.length := by omega
    rw [List.drop_eq_getElem_cons hi, List.countP_cons]
    cases hu : xs[i].f1 with
    | true =>
      simp only [if_true]
      have := ih (i + 1) (n + 1) (by omega) (by omega)
      rw [show n + (List.countP S81.f1 (List.drop (i + 1) xs) + 1) = n + 1 + List.countP S81.f1 (List.drop (i + 1) xs) by omega]
      refine Ev.step (fun k => ?_) this
      simp only [impl_Arena_used.l0]
      rw [if_pos (by omega), if_pos (by omega), if_pos (by omega), rd_sl xs i hi, hu, w64 i (by omega), w64 n (by omega)]
      simp
    | false =>
      simp only [Bool.false_eq_true, if_false, Nat.add_zero]
      refine Ev.step (fun k => ?_) (ih (i + 1) n (by omega) (by omega))
      simp only [impl_Arena_used.l0]
      rw [if_pos (by omega), if_pos (by omega), if_pos (by omega), rd_sl xs i hi, hu, w64 i (by omega)]
      simp
theorem usedI_ev (xs : List S81) (fr : Int) (hl : xs.length ≤ 1048576) : Ev (fun k => impl_Arena_used.f k xs fr) ((xs.countP S81.f1 : Nat) : Int) := by
  have := usedI_loop xs hl xs.length 0 0 (by omega) (by omega)
  rw [List.drop_zero, Nat.zero_add] at this
  exact this
theorem chain_right (xs : List S81) (fr : Int) : chainV 0 (AM.chainF S81.f1 S81.f4 xs xs.length fr) = (xs.length : Int) - (xs.countP S81.f1 : Int) ↔
    ∃ l, AM.Path S81.f1 S81.f4 xs fr l ∧ ∀ i x, xs[i]? = some x → S81.f1 x = false → i ∈ l := by
  have hc := List.countP_le_length (p := S81.f1) (l := xs)
  constructor
  · intro h
    cases hm : AM.chainF S81.f1 S81.f4 xs xs.length fr with
    | none => rw [hm] at h; simp only [chainV] at h; omega
    | some m =>
      rw [hm] at h
      simp only [chainV, Nat.zero_add] at h
      obtain ⟨l, hp, hl, _⟩ := (AM.chainF_iff S81.f1 S81.f4).1 hm
      exact ⟨l, hp, (hp.all_iff S81.f1 S81.f4).1 (by omega)⟩
  · rintro ⟨l, hp, ha⟩
    have hl := (hp.all_iff S81.f1 S81.f4).2 ha
    have hm := (AM.chainF_iff S81.f1 S81.f4 (d := xs.length) (n := l.length)).2 ⟨l, hp, rfl, by omega⟩
    rw [hm]
    simp only [chainV, Nat.zero_add]
    omega
theorem arenaI_loop (xs : List S81) (fr : Int) (hl : xs.length ≤ 1048576) (d : Nat) : ∀ (i : Nat), xs.length = i + d →
    ∃ b, Ev (fun k => impl_ArenaOk.l0 k xs (xs.length : Int) (i : Int) xs fr) b ∧ (b = true ↔ (∀ x ∈ xs.drop i, slR x) ∧ (1 ≤ xs.length ∧ xs.length ≤ 24) ∧ ∃ l, AM.Path S81.f1 S81.f4 xs fr l ∧ ∀ i x, xs[i]? = some x → S81.f1 x = false → i ∈ l) := by
  induction d with
  | zero =>
    intro i hd
    rw [List.drop_eq_nil_of_le (by omega)]
    have hch := chainI xs fr hl xs.length 0 fr (by omega)
    have hus := usedI_ev xs fr hl
    have hc := List.countP_le_length (p := S81.f1) (l := xs)
    by_cases h : 1 ≤ (xs.length : Int) ∧ (xs.length : Int) ≤ 24
    · refine ⟨(chainV 0 (AM.chainF S81.f1 S81.f4 xs xs.length fr) == (xs.length : Int) - (xs.countP S81.f1 : Int)), ?_, ?_⟩
      · refine Ev.step (f := fun k => (impl_Arena_chain.f k xs fr).bind fun t255 => ((impl_Arena_used.f k xs fr).bind fun t256 => (some (t255 == (wrap64 ((xs.length : Int) - t256)))))) (fun k => ?_) ?_
        · simp only [impl_ArenaOk.l0]
          rw [if_neg (by omega), rangeI]
          simp only [Option.bind_some]
          rw [if_pos (decide_eq_true h)]
        · refine Ev.bind (Ev.congr (fun k => rfl) hch) (Ev.bind hus ?_)
          rw [show wrap64 ((xs.length : Int) - ((xs.countP S81.f1 : Nat) : Int)) = (xs.length : Int) - (xs.countP S81.f1 : Int) by unfold wrap64; omega]
          exact Ev.now _
      · rw [beq_iff_eq, chain_right]
        simp only [List.not_mem_nil, false_imp_iff, implies_true, true_and]
        exact ⟨fun h2 => ⟨by omega, h2⟩, fun h2 => h2.2⟩
    · refine ⟨false, ?_, ?_⟩
      · refine Ev.step (f := fun _ => some false) (fun k => ?_) (Ev.now _)
        simp only [impl_ArenaOk.l0]
        rw [if_neg (by omega), rangeI]
        simp only [Option.bind_some]
        rw [if_neg (show ¬ decide (1 ≤ (xs.length : Int) ∧ (xs.length : Int) ≤ 24) = true from fun e => h (of_decide_eq_true e))]
      · simp only [Bool.false_eq_true, false_iff]
        rintro ⟨_, h2, _⟩
        omega
  | succ d ih =>
    intro i hd
    have hi : i < xs.length := by omega
    obtain ⟨b, hb, hq⟩ := ih (i + 1) (by omega)
    obtain ⟨s, hs, hsq⟩ := slotI xs[i]
    rw [List.drop_eq_getElem_cons hi]
    cases s with
    | true =>
      refine ⟨b, Ev.step (fun k => ?_) hb, ?_⟩
      · simp only [impl_ArenaOk.l0]
        rw [if_pos (by omega), if_pos (by omega), if_pos (by omega), rd_sl xs i hi, hs, w64 i (by omega)]
        simp
      · rw [hq]
        simp only [List.mem_cons, forall_eq_or_imp]
        exact ⟨fun h => ⟨⟨hsq.1 rfl, h.1⟩, h.2⟩, fun h => ⟨h.1.2, h.2⟩⟩
    | false =>
      refine ⟨false, Ev.step (f := fun _ => some false) (fun k => ?_) (Ev.now _), ?_⟩
      · simp only [impl_ArenaOk.l0]
        rw [if_pos (by omega), if_pos (by omega), if_pos (by omega), rd_sl xs i hi, hs]
        simp
      · simp only [Bool.false_eq_true, false_iff, List.mem_cons, forall_eq_or_imp]
        rintro ⟨⟨h, _⟩, _⟩
        exact absurd (hsq.2 h) (by simp)
theorem arenaI_ev (xs : List S81) (fr : Int) (hl : xs.length ≤ 1048576) : ∃ b, Ev (fun k => impl_ArenaOk.f k xs fr) b ∧ (b = true ↔ arR xs fr) := by
  obtain ⟨b, hb, hq⟩ := arenaI_loop xs fr hl xs.length 0 (by omega)
  refine ⟨b, hb, hq.trans ?_⟩
  rw [List.drop_zero]
  exact ⟨fun h => ⟨h.2.1, h.1, h.2.2⟩, fun h => ⟨h.slots, h.len, h.path⟩⟩
/-! ### The reference's ArenaOk -/
theorem rdb_at (l : List Bool) (i : Nat) : rdOf false l (i : Int) = l.getD i false := by unfold rdOf; rw [Int.toNat_natCast]
theorem slotS_step (xs : List S81) (fr : Int) (free : List Bool) (hf : free.length = xs.length) (hl : xs.length ≤ 1048576) (i : Nat) (hi : i < xs.length) (b : Bool) (hb : Ev (fun k => spec_ArenaOk.l1 k (xs.length : Int) free ((i + 1 : Nat) : Int) xs fr) b) :
    ∃ c : Bool, Ev (fun k => spec_ArenaOk.l1 k (xs.length : Int) free (i : Int) xs fr) c ∧ (c = true ↔ (slR xs[i] ∧ xs[i].f1 = !(free.getD i false)) ∧ b = true) := by
  have bad : Ev (fun k => spec_ArenaOk.l1 k (xs.length : Int) free (i : Int) xs fr) false → ¬ (slR xs[i] ∧ xs[i].f1 = !(free.getD i false)) → ∃ c : Bool, Ev (fun k => spec_ArenaOk.l1 k (xs.length : Int) free (i : Int) xs fr) c ∧ (c = true ↔ (slR xs[i] ∧ xs[i].f1 = !(free.getD i false)) ∧ b = true) := fun h hn => ⟨false, h, fun e => Bool.noConfusion e, fun e => absurd e.1 hn⟩
  by_cases h1 : 0 ≤ xs[i].f0 ∧ xs[i].f0 ≤ 41666665
  · have st : ∀ {c : Bool}, Ev (fun k => spec_ArenaOk.j2 k (xs.length : Int) free (i : Int) (xs[i].f1 == free.getD i false) xs fr xs[i].f0 xs[i].f1 xs[i].f2 xs[i].f3 xs[i].f4) c → Ev (fun k => spec_ArenaOk.l1 k (xs.length : Int) free (i : Int) xs fr) c := fun h => by
      refine Ev.step (fun k => ?_) h
      simp only [spec_ArenaOk.l1]
      rw [if_pos (by omega), if_pos (by omega), if_pos (by omega), rd_sl xs i hi, rangeS]
      simp only [Option.bind_some]
      rw [if_pos (decide_eq_true h1), if_pos (by omega), rdb_at]
    cases hm : (xs[i].f1 == free.getD i false) with
    | true =>
      refine bad (st ?_) (fun h => ?_)
      · rw [hm]
        refine Ev.step (f := fun _ => some false) (fun k => ?_) (Ev.now _)
        simp only [spec_ArenaOk.j2, if_true]
      · have := beq_iff_eq.1 hm
        rw [this] at h
        cases hq : free.getD i false <;> rw [hq] at h <;> simp at h
    | false =>
      have hne : xs[i].f1 = !(free.getD i false) := by
        have := beq_eq_false_iff_ne.1 hm
        cases h2 : xs[i].f1 <;> cases h3 : free.getD i false <;> simp_all
      rw [hm] at st
      rcases Bool.eq_false_or_eq_true xs[i].f1 with hu | hu
      · rw [hu] at st
        by_cases h2 : 1 ≤ (xs[i].f2.size : Int) ∧ (xs[i].f2.size : Int) ≤ 12
        · by_cases h3 : (xs[i].f3.size : Int) > 20
          · refine bad (st (Ev.step (f := fun _ => some false) (fun k => ?_) (Ev.now _))) (fun h => by have := (h.1.2.2.1 hu).2.2.1; omega)
            simp only [spec_ArenaOk.j2, Bool.false_eq_true, if_false, if_true]
            rw [rangeS]
            simp only [Option.bind_some]
            rw [if_pos (decide_eq_true h2), if_pos h3]
          · by_cases h4 : xs[i].f4 = 0
            · refine ⟨b, st (Ev.step (fun k => ?_) hb), ?_⟩
              · simp only [spec_ArenaOk.j2, Bool.false_eq_true, if_false, if_true]
                rw [rangeS]
                simp only [Option.bind_some]
                rw [if_pos (decide_eq_true h2), if_neg h3, if_pos h4, w64 i (by omega)]
              · exact ⟨fun h => ⟨⟨⟨h1.1, h1.2, fun _ => ⟨by omega, by omega, by omega, h4⟩, fun e => absurd (hu.symm.trans e) (by simp)⟩, hne⟩, h⟩, fun h => h.2⟩
            · refine bad (st (Ev.step (f := fun _ => some false) (fun k => ?_) (Ev.now _))) (fun h => h4 (h.1.2.2.1 hu).2.2.2)
              simp only [spec_ArenaOk.j2, Bool.false_eq_true, if_false, if_true]
              rw [rangeS]
              simp only [Option.bind_some]
              rw [if_pos (decide_eq_true h2), if_neg h3, if_neg h4]
        · refine bad (st (Ev.step (f := fun _ => some false) (fun k => ?_) (Ev.now _))) (fun h => h2 (by have := h.1.2.2.1 hu; omega))
          simp only [spec_ArenaOk.j2, Bool.false_eq_true, if_false, if_true]
          rw [rangeS]
          simp only [Option.bind_some]
          rw [if_neg (show ¬ decide (1 ≤ (xs[i].f2.size : Int) ∧ (xs[i].f2.size : Int) ≤ 12) = true from fun e => h2 (of_decide_eq_true e))]
      · rw [hu] at st
        by_cases h2 : xs[i].f2.toList = ([] : List UInt8)
        · by_cases h3 : xs[i].f3.toList = ([] : List UInt8)
          · refine ⟨b, st (Ev.step (fun k => ?_) hb), ?_⟩
            · simp only [spec_ArenaOk.j2, Bool.false_eq_true, if_false]
              rw [if_pos h2, if_pos h3, w64 i (by omega)]
            · exact ⟨fun h => ⟨⟨⟨h1.1, h1.2, fun e => absurd (hu.symm.trans e) (by simp), fun _ => ⟨(empty_iff _).1 h2, (empty_iff _).1 h3⟩⟩, hne⟩, h⟩, fun h => h.2⟩
          · refine bad (st (Ev.step (f := fun _ => some false) (fun k => ?_) (Ev.now _))) (fun h => h3 ((empty_iff _).2 (h.1.2.2.2 hu).2))
            simp only [spec_ArenaOk.j2, Bool.false_eq_true, if_false]
            rw [if_pos h2, if_neg h3]
        · refine bad (st (Ev.step (f := fun _ => some false) (fun k => ?_) (Ev.now _))) (fun h => h2 ((empty_iff _).2 (h.1.2.2.2 hu).1))
          simp only [spec_ArenaOk.j2, Bool.false_eq_true, if_false]
          rw [if_neg h2]
  · refine bad (Ev.step (f := fun k => spec_ArenaOk.j2 k (xs.length : Int) free (i : Int) true xs fr xs[i].f0 xs[i].f1 xs[i].f2 xs[i].f3 xs[i].f4) (fun k => ?_) (Ev.step (f := fun _ => some false) (fun k => ?_) (Ev.now _))) (fun h => h1 ⟨h.1.1, h.1.2.1⟩)
    · simp only [spec_ArenaOk.l1]
      rw [if_pos (by omega), if_pos (by omega), if_pos (by omega), rd_sl xs i hi, rangeS]
      simp only [Option.bind_some]
      rw [if_neg (show ¬ decide (0 ≤ xs[i].f0 ∧ xs[i].f0 ≤ 41666665) = true from fun e => h1 (of_decide_eq_true e))]
    · simp only [spec_ArenaOk.j2, if_true]
theorem slotsS_loop (xs : List S81) (fr : Int) (free : List Bool) (hf : free.length = xs.length) (hl : xs.length ≤ 1048576) (d : Nat) : ∀ i, xs.length = i + d →
    ∃ b, Ev (fun k => spec_ArenaOk.l1 k (xs.length : Int) free (i : Int) xs fr) b ∧ (b = true ↔ ∀ j x, i ≤ j → xs[j]? = some x → slR x ∧ x.f1 = !(free.getD j false)) := by
  induction d with
  | zero =>
    intro i hd
    refine ⟨true, Ev.step (f := fun _ => some true) (fun k => ?_) (Ev.now _), ?_⟩
    · simp only [spec_ArenaOk.l1]; rw [if_neg (by omega)]
    · simp only [true_iff]
      intro j x hj hx
      have := (List.getElem?_eq_some_iff.1 hx).1
      omega
  | succ d ih =>
    intro i hd
    have hi : i < xs.length := by omega
    obtain ⟨b, hb, hq⟩ := ih (i + 1) (by omega)
    obtain ⟨c, hc, hcq⟩ := slotS_step xs fr free hf hl i hi b hb
    refine ⟨c, hc, hcq.trans ?_⟩
    rw [hq]
    constructor
    · rintro ⟨h1, h2⟩ j x hj hx
      by_cases e : i = j
      · subst e
        rw [List.getElem?_eq_getElem hi] at hx
        obtain rfl := Option.some.inj hx
        exact h1
      · exact h2 j x (by omega) hx
    · exact fun h => ⟨h i _ (Nat.le_refl _) (List.getElem?_eq_getElem hi), fun j x hj hx => h j x (by omega) hx⟩
/-- Marks laid at places. -/
def marks (free : List Bool) (l : List Nat) : List Bool := l.foldl (fun f i => f.set i true) free
theorem marks_len : ∀ (l : List Nat) (free : List Bool), (marks free l).length = free.length
  | [], _ => rfl
  | i :: l, free => by show (marks (free.set i true) l).length = _; rw [marks_len l, List.length_set]
theorem marks_at : ∀ (l : List Nat) (free : List Bool) (j : Nat), j < free.length → ((marks free l).getD j false = true ↔ free.getD j false = true ∨ j ∈ l)
  | [], free, j, h => by simp [marks]
  | i :: l, free, j, h => by
    show (marks (free.set i true) l).getD j false = true ↔ _
    rw [marks_at l _ j (by rw [List.length_set]; exact h)]
    by_cases e : i = j
    · subst e
      simp [List.getD_eq_getElem?_getD, List.getElem?_set_self h]
    · rw [List.getD_eq_getElem?_getD, List.getElem?_set_ne e, ← List.getD_eq_getElem?_getD]
      simp [Ne.symm e]
theorem chainS (xs : List S81) (fr : Int) (hl : xs.length ≤ 1048576) (d : Nat) : ∀ (free : List Bool) (p : Int), free.length = xs.length → free.count false = d →
    ∃ b, Ev (fun k => spec_ArenaOk.l0 k (xs.length : Int) free p xs fr) b ∧ (b = true ↔ ∃ l, AM.Path S81.f1 S81.f4 xs p l ∧ (∀ i ∈ l, free.getD i false = false) ∧ l.Nodup ∧ ∀ j x, xs[j]? = some x → slR x ∧ x.f1 = !((marks free l).getD j false)) := by
  induction d with
  | zero =>
    intro free p hf hc
    have hall : ∀ j, j < free.length → free.getD j false = true := fun j hj => by
      rw [List.getD_eq_getElem?_getD, List.getElem?_eq_getElem hj]
      cases h : free[j] with
      | true => rfl
      | false => exact absurd (List.count_eq_zero.1 hc) (fun hn => hn (by rw [← h]; exact List.getElem_mem hj))
    by_cases c : p = -1
    · subst c
      obtain ⟨b, hb, hq⟩ := slotsS_loop xs fr free hf hl xs.length 0 (by omega)
      refine ⟨b, Ev.step (fun k => ?_) hb, hq.trans ?_⟩
      · simp only [spec_ArenaOk.l0, if_true]; rfl
      · exact ⟨fun h => ⟨[], rfl, by simp, List.nodup_nil, fun j x hx => h j x (Nat.zero_le _) hx⟩, fun ⟨l, hp, _, _, h⟩ j x _ hx => by
          cases l with
          | nil => exact h j x hx
          | cons i l => have := hp.1; omega⟩
    · refine ⟨false, Ev.step (f := fun _ => some false) (fun k => ?_) (Ev.now _), ?_⟩
      · simp only [spec_ArenaOk.l0]
        rw [if_neg c, rangeS]
        simp only [Option.bind_some]
        have ew : wrap64 ((xs.length : Int) - 1) = (xs.length : Int) - 1 := by unfold wrap64; omega
        rw [ew]
        by_cases c2 : 0 ≤ p ∧ p ≤ (xs.length : Int) - 1
        · obtain ⟨q, rfl⟩ := Int.eq_ofNat_of_zero_le c2.1
          rw [if_pos (decide_eq_true c2), if_pos c2.1, if_pos (by omega), rdb_at, if_pos (hall q (by omega))]
        · rw [if_neg (show ¬ decide (0 ≤ p ∧ p ≤ (xs.length : Int) - 1) = true from fun e => c2 (of_decide_eq_true e))]
      · simp only [Bool.false_eq_true, false_iff]
        rintro ⟨l, hp, hfr, _⟩
        cases l with
        | nil => exact c hp
        | cons i l =>
          obtain ⟨_, x, hx, _⟩ := hp
          have := (List.getElem?_eq_some_iff.1 hx).1
          have := hfr i (by simp)
          rw [hall i (by omega)] at this
          cases this
  | succ d ih =>
    intro free p hf hc
    by_cases c : p = -1
    · subst c
      obtain ⟨b, hb, hq⟩ := slotsS_loop xs fr free hf hl xs.length 0 (by omega)
      refine ⟨b, Ev.step (fun k => ?_) hb, hq.trans ?_⟩
      · simp only [spec_ArenaOk.l0, if_true]; rfl
      · exact ⟨fun h => ⟨[], rfl, by simp, List.nodup_nil, fun j x hx => h j x (Nat.zero_le _) hx⟩, fun ⟨l, hp, _, _, h⟩ j x _ hx => by
          cases l with
          | nil => exact h j x hx
          | cons i l => have := hp.1; omega⟩
    · have ew : wrap64 ((xs.length : Int) - 1) = (xs.length : Int) - 1 := by unfold wrap64; omega
      have bad : (∀ l, AM.Path S81.f1 S81.f4 xs p l → (∀ i ∈ l, free.getD i false = false) → False) → Ev (fun k => spec_ArenaOk.l0 k (xs.length : Int) free p xs fr) false → ∃ b, Ev (fun k => spec_ArenaOk.l0 k (xs.length : Int) free p xs fr) b ∧ (b = true ↔ ∃ l, AM.Path S81.f1 S81.f4 xs p l ∧ (∀ i ∈ l, free.getD i false = false) ∧ l.Nodup ∧ ∀ j x, xs[j]? = some x → slR x ∧ x.f1 = !((marks free l).getD j false)) := fun hn h => ⟨false, h, by
        simp only [Bool.false_eq_true, false_iff]
        rintro ⟨l, hp, hfr, _⟩
        exact hn l hp hfr⟩
      by_cases c2 : 0 ≤ p ∧ p ≤ (xs.length : Int) - 1
      · obtain ⟨q, rfl⟩ := Int.eq_ofNat_of_zero_le c2.1
        have hq : q < xs.length := by omega
        have hxq : xs[q]? = some xs[q] := List.getElem?_eq_getElem hq
        cases hm : free.getD q false with
        | true =>
          refine bad (fun l hp hfr => ?_) (Ev.step (f := fun _ => some false) (fun k => ?_) (Ev.now _))
          · cases l with
            | nil => exact c hp
            | cons i l =>
              have h1 := hp.1
              have : q = i := by omega
              subst this
              have := hfr q (by simp)
              rw [hm] at this; cases this
          · simp only [spec_ArenaOk.l0]
            rw [if_neg c, rangeS]
            simp only [Option.bind_some]
            rw [ew, if_pos (decide_eq_true c2), if_pos c2.1, if_pos (by omega), rdb_at, if_pos hm]
        | false =>
          cases hu : xs[q].f1 with
          | true =>
            refine bad (fun l hp _ => ?_) (Ev.step (f := fun _ => some false) (fun k => ?_) (Ev.now _))
            · cases l with
              | nil => exact c hp
              | cons i l =>
                obtain ⟨h1, x, hx, hux, _⟩ := hp
                have : q = i := by omega
                subst this
                rw [hxq] at hx
                obtain rfl := Option.some.inj hx
                rw [hu] at hux; cases hux
            · simp only [spec_ArenaOk.l0]
              rw [if_neg c, rangeS]
              simp only [Option.bind_some]
              rw [ew, if_pos (decide_eq_true c2), if_pos c2.1, if_pos (by omega), rdb_at, if_neg (by rw [hm]; simp), if_pos (by omega), rd_sl xs q hq, if_pos hu]
          | false =>
            have hcnt : (free.set q true).count false = d := by
              have h1 := List.count_set (l := free) (i := q) (a := true) (b := false) (by omega)
              have h2 : free[q] = false := by
                rw [List.getD_eq_getElem?_getD, List.getElem?_eq_getElem (by omega)] at hm
                exact hm
              rw [h1, h2, hc]; simp
            obtain ⟨b, hb, hqq⟩ := ih (free.set q true) xs[q].f4 (by rw [List.length_set]; exact hf) hcnt
            refine ⟨b, Ev.step (fun k => ?_) hb, hqq.trans ?_⟩
            · simp only [spec_ArenaOk.l0]
              rw [if_neg c, rangeS]
              simp only [Option.bind_some]
              rw [ew, if_pos (decide_eq_true c2), if_pos c2.1, if_pos (by omega), rdb_at, if_neg (by rw [hm]; simp), if_pos (by omega), rd_sl xs q hq, if_neg (by rw [hu]; simp)]
              rfl
            · have hset : ∀ i, (free.set q true).getD i false = false ↔ free.getD i false = false ∧ i ≠ q := fun i => by
                by_cases e : q = i
                · subst e
                  simp [List.getD_eq_getElem?_getD, List.getElem?_set_self (show q < free.length by omega)]
                · rw [List.getD_eq_getElem?_getD, List.getElem?_set_ne e, ← List.getD_eq_getElem?_getD]
                  exact ⟨fun h => ⟨h, fun e' => e e'.symm⟩, fun h => h.1⟩
              constructor
              · rintro ⟨l, hp, hfr, hnd, hall⟩
                refine ⟨q :: l, ⟨rfl, _, hxq, hu, hp⟩, ?_, List.nodup_cons.2 ⟨fun hi => ((hset q).1 (hfr q hi)).2 rfl, hnd⟩, hall⟩
                intro i hi
                rcases List.mem_cons.1 hi with rfl | hi
                · exact hm
                · exact ((hset i).1 (hfr i hi)).1
              · rintro ⟨l, hp, hfr, hnd, hall⟩
                cases l with
                | nil => exact absurd hp c
                | cons i l =>
                  obtain ⟨h1, x, hx, hux, hp'⟩ := hp
                  have : q = i := by omega
                  subst this
                  rw [hxq] at hx
                  obtain rfl := Option.some.inj hx
                  obtain ⟨hn1, hn2⟩ := List.nodup_cons.1 hnd
                  exact ⟨l, hp', fun i hi => (hset i).2 ⟨hfr i (List.mem_cons_of_mem _ hi), fun e => hn1 (e ▸ hi)⟩, hn2, hall⟩
      · refine bad (fun l hp _ => ?_) (Ev.step (f := fun _ => some false) (fun k => ?_) (Ev.now _))
        · cases l with
          | nil => exact c hp
          | cons i l =>
            obtain ⟨h1, x, hx, _⟩ := hp
            have := (List.getElem?_eq_some_iff.1 hx).1
            omega
        · simp only [spec_ArenaOk.l0]
          rw [if_neg c, rangeS]
          simp only [Option.bind_some]
          rw [ew, if_neg (show ¬ decide (0 ≤ p ∧ p ≤ (xs.length : Int) - 1) = true from fun e => c2 (of_decide_eq_true e))]
theorem arenaS_ev (xs : List S81) (fr : Int) (hl : xs.length ≤ 1048576) : ∃ b, Ev (fun k => spec_ArenaOk.f k xs fr) b ∧ (b = true ↔ arR xs fr) := by
  unfold spec_ArenaOk.f
  rw [rangeS]
  simp only [Option.bind_some]
  by_cases h : 1 ≤ (xs.length : Int) ∧ (xs.length : Int) ≤ 24
  · simp only [if_pos (decide_eq_true h), if_pos (show 0 ≤ (xs.length : Int) by omega), Int.toNat_natCast, if_pos (show xs.length ≤ 281474976710656 by omega)]
    obtain ⟨b, hb, hq⟩ := chainS xs fr hl _ (List.replicate xs.length false) fr (by simp) rfl
    refine ⟨b, hb, hq.trans ?_⟩
    have hrep : ∀ i, (List.replicate xs.length false).getD i false = false := fun i => by
      rw [List.getD_eq_getElem?_getD]
      by_cases hi : i < xs.length
      · rw [List.getElem?_replicate, if_pos hi]; rfl
      · rw [List.getElem?_eq_none (by simp; omega)]; rfl
    have hmk : ∀ (l : List Nat) j, j < xs.length → ((marks (List.replicate xs.length false) l).getD j false = true ↔ j ∈ l) := fun l j hj => by
      rw [marks_at l _ j (by simpa using hj), hrep]; simp
    constructor
    · rintro ⟨l, hp, _, _, hall⟩
      refine ⟨by omega, fun x hx => ?_, l, hp, fun i x hx hu => ?_⟩
      · obtain ⟨j, hj, rfl⟩ := List.getElem_of_mem hx
        exact (hall j _ (List.getElem?_eq_getElem hj)).1
      · have h1 := (hall i x hx).2
        refine (hmk l i (List.getElem?_eq_some_iff.1 hx).1).1 ?_
        rw [show x.f1 = false from hu] at h1
        cases hg : (marks (List.replicate xs.length false) l).getD i false with
        | true => rfl
        | false => rw [hg] at h1; cases h1
    · rintro ⟨_, hsl, l, hp, hall⟩
      refine ⟨l, hp, fun i _ => hrep i, hp.nodup S81.f1 S81.f4, fun j x hx => ⟨hsl x (List.mem_of_getElem? hx), ?_⟩⟩
      have hj := (List.getElem?_eq_some_iff.1 hx).1
      cases hu : x.f1 with
      | false => rw [(hmk l j hj).2 (hall j x hx hu)]; rfl
      | true =>
        cases hg : (marks (List.replicate xs.length false) l).getD j false with
        | false => rfl
        | true =>
          obtain ⟨z, hz, hzu⟩ := hp.mem S81.f1 S81.f4 j ((hmk l j hj).1 hg)
          rw [hx] at hz
          obtain rfl := Option.some.inj hz
          rw [hu] at hzu; cases hzu
  · simp only [if_neg (show ¬ decide (1 ≤ (xs.length : Int) ∧ (xs.length : Int) ≤ 24) = true from fun e => h (of_decide_eq_true e))]
    exact ⟨false, Ev.now _, by simp only [Bool.false_eq_true, false_iff]; intro hr; have := hr.len; omega⟩
/-! ### Right arenas: handles, what is laid and lifted -/
theorem hand24 (g k : Int) (h0 : 0 ≤ g) (h1 : g ≤ 41666665) (k0 : 0 ≤ k) (k1 : k ≤ 1048576) : wrap64 (wrap64 (24 * g) + k) = 24 * g + k := by unfold wrap64; omega
def plV : Option Nat → Int
  | none => -1
  | some k => (k : Int)
theorem rd_get {xs : List S81} {k : Nat} {x : S81} (h : xs[k]? = some x) : rd_T81 xs (k : Int) = x := by
  unfold rd_T81
  rw [List.getD_eq_getElem?_getD, Int.toNat_natCast, h]; rfl
/-- The place of a handle. -/
def placeOf (xs : List S81) (h : Int) : Option Nat := if 0 ≤ h ∧ h % 24 < (xs.length : Int) ∧ (rd_T81 xs (h % 24)).f1 = true ∧ 24 * (rd_T81 xs (h % 24)).f0 + h % 24 = h then some (h % 24).toNat else none
theorem placeOf_some {xs : List S81} {fr : Int} (hr : arR xs fr) {h : Int} {k : Nat} : placeOf xs h = some k ↔ ∃ x, xs[k]? = some x ∧ x.f1 = true ∧ 24 * x.f0 + (k : Int) = h := by
  have hl := hr.len
  unfold placeOf
  constructor
  · intro e
    split at e
    · rename_i c
      have e := Option.some.inj e
      subst e
      have hk : (((h % 24).toNat : Nat) : Int) = h % 24 := by omega
      have hlt : (h % 24).toNat < xs.length := by omega
      refine ⟨xs[(h % 24).toNat], List.getElem?_eq_getElem hlt, ?_⟩
      have hg := rd_get (List.getElem?_eq_getElem hlt)
      rw [hk] at hg
      rw [← hg, hk]
      exact c.2.2
    · cases e
  · rintro ⟨x, hx, hu, rfl⟩
    have hk := (List.getElem?_eq_some_iff.1 hx).1
    have h0 := (hr.slots x (List.mem_of_getElem? hx)).1
    have em : (24 * x.f0 + (k : Int)) % 24 = (k : Int) := by omega
    rw [em, rd_get hx, if_pos ⟨by omega, by omega, hu, rfl⟩, Int.toNat_natCast]
theorem tmod24 (h : Int) (h0 : 0 ≤ h) : Int.tmod h 24 = h % 24 := Int.tmod_eq_emod_of_nonneg h0
theorem placeI (xs : List S81) (fr h : Int) (hr : arR xs fr) : impl_Arena_place.f xs fr h = some (plV (placeOf xs h)) := by
  have hl := hr.len
  unfold impl_Arena_place.f placeOf
  by_cases c0 : h < 0
  · rw [if_pos c0, if_neg (by omega)]; rfl
  rw [if_neg c0, tmod24 h (by omega)]
  by_cases c1 : h % 24 ≥ (xs.length : Int)
  · rw [if_pos c1, if_neg (by omega)]; rfl
  rw [if_neg c1, if_pos (by omega), if_pos (by omega)]
  by_cases c2 : (rd_T81 xs (h % 24)).f1 = true
  · rw [if_pos c2]
    unfold impl_Arena_handle.f
    rw [if_pos (by omega), if_pos (by omega)]
    simp only [Option.bind_some]
    have hm : rd_T81 xs (h % 24) ∈ xs := by
      have hk : (((h % 24).toNat : Nat) : Int) = h % 24 := by omega
      have hlt : (h % 24).toNat < xs.length := by omega
      have hg := rd_get (List.getElem?_eq_getElem hlt)
      rw [hk] at hg
      rw [hg]; exact List.getElem_mem hlt
    have hg := hr.slots _ hm
    rw [hand24 _ _ hg.1 hg.2.1 (by omega) (by omega)]
    by_cases c3 : 24 * (rd_T81 xs (h % 24)).f0 + h % 24 = h
    · rw [if_pos c3, if_pos ⟨by omega, by omega, c2, c3⟩]
      show some (h % 24) = some (((h % 24).toNat : Nat) : Int)
      congr 1; omega
    · rw [if_neg c3, if_neg (fun hh => c3 hh.2.2.2)]; rfl
  · rw [if_neg c2, if_neg (fun hh => c2 hh.2.2.1)]; rfl
theorem atS_ev (xs : List S81) (fr h : Int) (hr : arR xs fr) (hh : h ≤ 9223372036854775807) : Ev (fun k => spec_l03At.f k xs fr h) (plV (placeOf xs h)) := by
  have hl := hr.len
  obtain ⟨b, hb, hq⟩ := arenaS_ev xs fr (by omega)
  obtain rfl := hq.2 hr
  unfold spec_l03At.f
  refine Ev.bind hb ?_
  simp only [if_true]
  unfold placeOf
  have neg : ∀ (P : Prop) [Decidable P], ¬ P → Ev (fun k => spec_l03At.j0 k h true xs fr) (plV (if P then some (h % 24).toNat else none)) := fun P _ hp => by
    rw [if_neg hp]
    refine Ev.step (f := fun _ => some (-1)) (fun k => ?_) (Ev.now _)
    simp only [spec_l03At.j0, if_true]
  by_cases c0 : h < 0
  · simp only [if_pos c0]
    exact neg _ (by omega)
  simp only [if_neg c0]
  rw [tmod24 h (by omega)]
  by_cases c1 : h % 24 ≥ (xs.length : Int)
  · rw [decide_eq_true c1]
    exact neg _ (by omega)
  rw [decide_eq_false c1]
  have hd : wrap64 (Int.tdiv h 24) = h / 24 := by rw [Int.tdiv_eq_ediv_of_nonneg (by omega)]; unfold wrap64; omega
  by_cases c2 : (rd_T81 xs (h % 24)).f1 = true
  · by_cases c3 : 24 * (rd_T81 xs (h % 24)).f0 + h % 24 = h
    · rw [if_pos ⟨by omega, by omega, c2, c3⟩]
      refine Ev.step (f := fun _ => some (h % 24)) (fun k => ?_) ?_
      · simp only [spec_l03At.j0, Bool.false_eq_true, if_false]
        rw [tmod24 h (by omega), if_pos (by omega), if_pos (by omega), if_pos c2, hd, if_pos (by omega)]
      · rw [show plV (some (h % 24).toNat) = h % 24 by show (((h % 24).toNat : Nat) : Int) = h % 24; omega]; exact Ev.now _
    · rw [if_neg (fun hh => c3 hh.2.2.2)]
      refine Ev.step (f := fun _ => some (-1)) (fun k => ?_) (Ev.now _)
      simp only [spec_l03At.j0, Bool.false_eq_true, if_false]
      rw [tmod24 h (by omega), if_pos (by omega), if_pos (by omega), if_pos c2, hd, if_neg (by omega)]
  · rw [if_neg (fun hh => c2 hh.2.2.1)]
    refine Ev.step (f := fun _ => some (-1)) (fun k => ?_) (Ev.now _)
    simp only [spec_l03At.j0, Bool.false_eq_true, if_false]
    rw [tmod24 h (by omega), if_pos (by omega), if_pos (by omega), if_neg c2]
/-- A slot that is lifted. -/
def genUp (g : Int) : Int := if g + 1 > 41666665 then 0 else g + 1
def lifted (x : S81) (fr : Int) : S81 := ⟨genUp x.f0, false, ⟨#[]⟩, ⟨#[]⟩, fr⟩
def laid (x : S81) (key val : ByteArray) : S81 := ⟨x.f0, true, key, val, 0⟩
theorem genUp_ok {g : Int} (h : 0 ≤ g ∧ g ≤ 41666665) : 0 ≤ genUp g ∧ genUp g ≤ 41666665 ∧ genUp g ≠ g ∧ (if wrap64 (g + 1) > 41666665 then 0 else wrap64 (g + 1)) = genUp g := by
  have e : wrap64 (g + 1) = g + 1 := by unfold wrap64; omega
  rw [e]
  unfold genUp
  split <;> exact ⟨by omega, by omega, by omega, rfl⟩
theorem lift_right {xs : List S81} {fr : Int} {k : Nat} {x : S81} (hr : arR xs fr) (hx : xs[k]? = some x) (hu : x.f1 = true) : arR (xs.set k (lifted x fr)) (k : Int) := by
  have hs := hr.slots x (List.mem_of_getElem? hx)
  have hg := genUp_ok ⟨hs.1, hs.2.1⟩
  exact hr.lift S81.f0 S81.f1 S81.f2 S81.f3 S81.f4 (y := lifted x fr) hx hu rfl rfl ⟨hg.1, hg.2.1, fun e => (by cases e), fun _ => ⟨rfl, rfl⟩⟩
theorem lay_right {xs : List S81} {k : Nat} {x : S81} {key val : ByteArray} (hr : arR xs (k : Int)) (hx : xs[k]? = some x) (h1 : 1 ≤ key.size ∧ key.size ≤ 12) (h2 : val.size ≤ 20) : arR (xs.set k (laid x key val)) x.f4 := by
  have hs := hr.slots x (List.mem_of_getElem? hx)
  exact hr.lay S81.f0 S81.f1 S81.f2 S81.f3 S81.f4 (y := laid x key val) hx rfl ⟨hs.1, hs.2.1, fun _ => ⟨h1.1, h1.2, h2, rfl⟩, fun e => (by cases e)⟩
theorem okI_true {xs : List S81} {fr : Int} (hr : arR xs fr) : Ev (fun k => impl_ArenaOk.f k xs fr) true := by
  have hl := hr.len
  obtain ⟨b, hb, hq⟩ := arenaI_ev xs fr (by omega)
  obtain rfl := hq.2 hr
  exact hb
theorem okS_true {xs : List S81} {fr : Int} (hr : arR xs fr) : Ev (fun k => spec_ArenaOk.f k xs fr) true := by
  have hl := hr.len
  obtain ⟨b, hb, hq⟩ := arenaS_ev xs fr (by omega)
  obtain rfl := hq.2 hr
  exact hb
theorem copyA (l : List S81) (n : Int) (hl : l.length ≤ 1048576) : impl_copyArena.f l n = some (l, n) := by
  unfold impl_copyArena.f impl_Slot.f
  rw [if_pos (by omega)]; rfl
theorem copyAS (l : List S81) (n : Int) (hl : l.length ≤ 1048576) : spec_l03Copy.f l n = some (l, n) := by
  unfold spec_l03Copy.f
  simp only [Option.bind_some, List.nil_append, List.length_nil, Nat.zero_add]
  rw [if_pos (by omega)]
theorem layI_ev {xs : List S81} {k : Nat} {x : S81} {key val : ByteArray} (hr : arR xs (k : Int)) (hx : xs[k]? = some x) (h1 : 1 ≤ key.size ∧ key.size ≤ 12) (h2 : val.size ≤ 20) : Ev (fun r => impl_Lay.f r xs (k : Int) key val) (xs.set k (laid x key val), x.f4, 24 * x.f0 + (k : Int), true) := by
  have hl := hr.len
  have hk := (List.getElem?_eq_some_iff.1 hx).1
  have hs := hr.slots x (List.mem_of_getElem? hx)
  unfold impl_Lay.f
  rw [keyI]
  simp only [Option.bind_some, if_pos (show decide (1 ≤ (key.size : Int) ∧ (key.size : Int) ≤ 12) = true from decide_eq_true (by omega)), if_neg (show ¬ (val.size : Int) > 20 by omega)]
  refine Ev.bind (okI_true hr) ?_
  simp only [if_true, if_neg (show ¬ (k : Int) = -1 by omega), copyA xs _ (by omega), Option.bind_some]
  rw [if_pos (by omega), rd_get hx, Int.toNat_natCast, hand24 _ _ hs.1 hs.2.1 (by omega) (by omega)]
  exact Ev.now _
theorem layS_ev {xs : List S81} {k : Nat} {x : S81} {key val : ByteArray} (hr : arR xs (k : Int)) (hx : xs[k]? = some x) (h1 : 1 ≤ key.size ∧ key.size ≤ 12) (h2 : val.size ≤ 20) : Ev (fun r => spec_Lay.f r xs (k : Int) key val) (xs.set k (laid x key val), x.f4, 24 * x.f0 + (k : Int), true) := by
  have hl := hr.len
  have hk := (List.getElem?_eq_some_iff.1 hx).1
  have hs := hr.slots x (List.mem_of_getElem? hx)
  unfold spec_Lay.f
  refine Ev.bind (okS_true hr) ?_
  simp only [if_true, if_neg (show ¬ (k : Int) = -1 by omega), rangeS, Option.bind_some, if_pos (show decide (1 ≤ (key.size : Int) ∧ (key.size : Int) ≤ 12) = true from decide_eq_true (by omega)), if_neg (show ¬ (val.size : Int) > 20 by omega), copyAS xs _ (show xs.length ≤ 1048576 by omega)]
  rw [if_pos (by omega), if_pos (by omega), if_pos (by omega), rd_get hx, Int.toNat_natCast, hand24 _ _ hs.1 hs.2.1 (by omega) (by omega)]
  exact Ev.now _
theorem layI_full {xs : List S81} {key val : ByteArray} (hr : arR xs (-1)) (h1 : 1 ≤ key.size ∧ key.size ≤ 12) (h2 : val.size ≤ 20) : Ev (fun r => impl_Lay.f r xs (-1) key val) ([], 0, 0, false) := by
  unfold impl_Lay.f
  rw [keyI]
  simp only [Option.bind_some, if_pos (show decide (1 ≤ (key.size : Int) ∧ (key.size : Int) ≤ 12) = true from decide_eq_true (by omega)), if_neg (show ¬ (val.size : Int) > 20 by omega)]
  refine Ev.bind (okI_true hr) ?_
  simp only [if_true]
  exact Ev.now _
theorem layS_full {xs : List S81} {key val : ByteArray} (hr : arR xs (-1)) : Ev (fun r => spec_Lay.f r xs (-1) key val) ([], 0, 0, false) := by
  unfold spec_Lay.f
  refine Ev.bind (okS_true hr) ?_
  simp only [if_true]
  exact Ev.now _
theorem liftI_ev {xs : List S81} {fr : Int} {k : Nat} {x : S81} (hr : arR xs fr) (hx : xs[k]? = some x) (hu : x.f1 = true) : Ev (fun r => impl_Lift.f r xs fr (24 * x.f0 + (k : Int))) (xs.set k (lifted x fr), (k : Int), true) := by
  have hl := hr.len
  have hk := (List.getElem?_eq_some_iff.1 hx).1
  have hs := hr.slots x (List.mem_of_getElem? hx)
  unfold impl_Lift.f
  refine Ev.bind (okI_true hr) ?_
  simp only [if_true, placeI xs fr _ hr, (placeOf_some hr).2 ⟨x, hx, hu, rfl⟩, Option.bind_some, plV, if_neg (show ¬ (k : Int) < 0 by omega), copyA xs _ (show xs.length ≤ 1048576 by omega)]
  rw [if_pos (by omega), rd_get hx, Int.toNat_natCast, (genUp_ok ⟨hs.1, hs.2.1⟩).2.2.2]
  exact Ev.now _
theorem liftI_none {xs : List S81} {fr h : Int} (hr : arR xs fr) (hp : placeOf xs h = none) : Ev (fun r => impl_Lift.f r xs fr h) ([], 0, false) := by
  unfold impl_Lift.f
  refine Ev.bind (okI_true hr) ?_
  simp only [if_true, placeI xs fr _ hr, hp, Option.bind_some, plV, if_pos (show (-1 : Int) < 0 by omega)]
  exact Ev.now _
theorem liftS_ev {xs : List S81} {fr : Int} {k : Nat} {x : S81} (hr : arR xs fr) (hx : xs[k]? = some x) (hu : x.f1 = true) : Ev (fun r => spec_Lift.f r xs fr (24 * x.f0 + (k : Int))) (xs.set k (lifted x fr), (k : Int), true) := by
  have hl := hr.len
  have hk := (List.getElem?_eq_some_iff.1 hx).1
  have hs := hr.slots x (List.mem_of_getElem? hx)
  unfold spec_Lift.f
  have hx0 : x.f0 ≤ 41666665 := hs.2.1
  have ha : Ev (fun r => spec_l03At.f r xs fr (24 * x.f0 + (k : Int))) (k : Int) := by
    have := atS_ev xs fr (24 * x.f0 + (k : Int)) hr (by omega)
    rw [(placeOf_some hr).2 ⟨x, hx, hu, rfl⟩] at this
    exact this
  refine Ev.bind ha ?_
  simp only [if_neg (show ¬ (k : Int) < 0 by omega), copyAS xs _ (show xs.length ≤ 1048576 by omega), Option.bind_some]
  rw [if_pos (by omega), if_pos (by omega), rd_get hx, Int.toNat_natCast, (genUp_ok ⟨hs.1, hs.2.1⟩).2.2.2]
  exact Ev.now _
theorem handleS_ev {xs : List S81} {fr : Int} {k : Nat} {x : S81} (hr : arR xs fr) (hx : xs[k]? = some x) (hu : x.f1 = true) : Ev (fun r => spec_HandleOf.f r xs fr (k : Int)) (24 * x.f0 + (k : Int)) := by
  have hl := hr.len
  have hk := (List.getElem?_eq_some_iff.1 hx).1
  have hs := hr.slots x (List.mem_of_getElem? hx)
  have ew : wrap64 ((xs.length : Int) - 1) = (xs.length : Int) - 1 := by unfold wrap64; omega
  unfold spec_HandleOf.f
  refine Ev.bind (okS_true hr) ?_
  simp only [if_true, rangeS, ew, Option.bind_some, if_pos (show decide (0 ≤ (k : Int) ∧ (k : Int) ≤ (xs.length : Int) - 1) = true from decide_eq_true (by omega))]
  rw [if_pos (by omega), if_pos (by omega), rd_get hx, if_pos hu, hand24 _ _ hs.1 hs.2.1 (by omega) (by omega)]
  exact Ev.now _
/-! ### The drawn cursor: what its words come to -/
theorem and255 (n : Int) : 0 ≤ Go.bits .and .i64 n 255 ∧ Go.bits .and .i64 n 255 ≤ 255 := by
  have h255 : (BitVec.ofInt 64 255).toNat = 255 := by decide
  have key : (BitVec.ofInt 64 n &&& BitVec.ofInt 64 255).toNat ≤ 255 := by
    rw [BitVec.toNat_and, h255]
    exact Nat.and_le_right
  show 0 ≤ IntKind.i64.wrap ((BitVec.ofInt 64 n &&& BitVec.ofInt 64 255).toNat : Nat) ∧ IntKind.i64.wrap ((BitVec.ofInt 64 n &&& BitVec.ofInt 64 255).toNat : Nat) ≤ 255
  rw [IntKind.wrap_i64]
  omega

theorem byte_some (b : List Int) (i h : Int) (hb : b.length ≤ 140737488351232) (hi : 0 ≤ i) :
    ∃ r i' h', spec_l01Byte.f b i h = some (r, i', h') ∧ 0 ≤ r ∧ r ≤ 255 ∧ 0 ≤ i' := by
  unfold spec_l01Byte.f
  by_cases c : i < (b.length : Int)
  · rw [if_pos c, if_pos hi]
    exact ⟨_, _, _, rfl, (and255 _).1, (and255 _).2, by unfold wrap64; omega⟩
  · rw [if_neg c]
    exact ⟨_, _, _, rfl, (and255 _).1, (and255 _).2, hi⟩

theorem below_some (b : List Int) (i h n : Int) (hb : b.length ≤ 140737488351232) (hi : 0 ≤ i) :
    ∃ r i' h', spec_l01Below.f b i h n = some (r, i', h') ∧ 0 ≤ r ∧ (0 < n → r < n) ∧ 0 ≤ i' := by
  unfold spec_l01Below.f
  by_cases c : n ≤ 0
  · rw [if_pos c]
    exact ⟨0, i, h, rfl, by omega, by omega, hi⟩
  · rw [if_neg c]
    by_cases c2 : n ≤ 256
    · rw [if_pos c2]
      obtain ⟨r, i1, h1, e1, r0, r1, hi1⟩ := byte_some b i h hb hi
      rw [e1]
      simp only [Option.bind_some]
      rw [if_neg (by omega)]
      refine ⟨_, _, _, rfl, ?_, ?_, hi1⟩
      · rw [Int.tmod_eq_emod_of_nonneg r0]; exact Int.emod_nonneg _ (by omega)
      · intro _; rw [Int.tmod_eq_emod_of_nonneg r0]; exact Int.emod_lt_of_pos _ (by omega)
    · rw [if_neg c2]
      obtain ⟨x, i1, h1, e1, x0, x1, hi1⟩ := byte_some b i h hb hi
      obtain ⟨y, i2, h2, e2, y0, y1, hi2⟩ := byte_some b i1 h1 hb hi1
      obtain ⟨z, i3, h3, e3, z0, z1, hi3⟩ := byte_some b i2 h2 hb hi2
      obtain ⟨w, i4, h4, e4, w0, w1, hi4⟩ := byte_some b i3 h3 hb hi3
      rw [e1]; simp only [Option.bind_some]
      rw [e2]; simp only [Option.bind_some]
      rw [e3]; simp only [Option.bind_some]
      rw [e4]; simp only [Option.bind_some]
      rw [if_neg (by omega)]
      have e : wrap64 ((wrap64 ((wrap64 ((wrap64 (x * 16777216)) + (wrap64 (y * 65536)))) + (wrap64 (z * 256)))) + w) = x * 16777216 + y * 65536 + z * 256 + w := by
        unfold wrap64; omega
      rw [e]
      refine ⟨_, _, _, rfl, ?_, ?_, hi4⟩
      · rw [Int.tmod_eq_emod_of_nonneg (by omega)]; exact Int.emod_nonneg _ (by omega)
      · intro _; rw [Int.tmod_eq_emod_of_nonneg (by omega)]; exact Int.emod_lt_of_pos _ (by omega)

theorem new_loop (b : List Int) (hb : b.length ≤ 140737488351232) (d : Nat) : ∀ (h i : Int), 0 ≤ i → 4000 - i ≤ d →
    ∃ h', ∀ k, d < k → spec_l01New.l0 k b h i = some (b, 0, h') := by
  induction d with
  | zero =>
    intro h i h0 hd
    refine ⟨h, fun k hk => ?_⟩
    obtain ⟨k, rfl⟩ : ∃ m, k = m + 1 := ⟨k - 1, by omega⟩
    simp only [spec_l01New.l0]
    split
    · rw [if_neg (by omega)]
    · rfl
  | succ d ih =>
    intro h i h0 hd
    by_cases c : i < (b.length : Int)
    · by_cases c2 : i < 4000
      · have e : wrap64 (i + 1) = i + 1 := by unfold wrap64; omega
        obtain ⟨h', H⟩ := ih (Go.bits .and .i64 (wrap64 ((wrap64 ((wrap64 (h * 131)) + (wrap64 (rd b i)))) + 7)) 1073741823) (i + 1) (by omega) (by omega)
        refine ⟨h', fun k hk => ?_⟩
        obtain ⟨k, rfl⟩ : ∃ m, k = m + 1 := ⟨k - 1, by omega⟩
        simp only [spec_l01New.l0]
        rw [if_pos c, if_pos c2, if_pos h0, e]
        exact H k (by omega)
      · refine ⟨h, fun k hk => ?_⟩
        obtain ⟨k, rfl⟩ : ∃ m, k = m + 1 := ⟨k - 1, by omega⟩
        simp only [spec_l01New.l0]
        rw [if_pos c, if_neg c2]
    · refine ⟨h, fun k hk => ?_⟩
      obtain ⟨k, rfl⟩ : ∃ m, k = m + 1 := ⟨k - 1, by omega⟩
      simp only [spec_l01New.l0]
      rw [if_neg c]

theorem new_some (b : List Int) (hb : b.length ≤ 140737488351232) : ∃ h, ∀ k, 4000 < k → spec_l01New.f k b = some (b, 0, h) := by
  obtain ⟨h, H⟩ := new_loop b hb 4000 (wrap64 (14301 + (b.length : Int))) 0 (by omega) (by omega)
  exact ⟨h, fun k hk => by unfold spec_l01New.f; exact H k hk⟩
/-! ### The drawn arena is right -/
theorem pick_some (b : List Int) (i h : Int) (l : List ByteArray) (hl : 0 < l.length) (hb : b.length ≤ 140737488351232) (hi : 0 ≤ i) :
    ∃ r i' h', spec_l01Pick.f b i h l = some (r, i', h') ∧ r ∈ l ∧ 0 ≤ i' := by
  obtain ⟨r, i1, h1, e1, r0, r1, hi1⟩ := below_some b i h (l.length : Int) hb hi
  unfold spec_l01Pick.f
  rw [e1]; simp only [Option.bind_some]
  have hr := r1 (by omega)
  rw [if_pos r0, if_pos hr]
  refine ⟨_, _, _, rfl, ?_, hi1⟩
  unfold rdOf
  have : r.toNat < l.length := by omega
  rw [List.getD_eq_getElem?_getD, List.getElem?_eq_getElem this]
  exact List.getElem_mem this
theorem key_some (b : List Int) (i h : Int) (hb : b.length ≤ 140737488351232) (hi : 0 ≤ i) : ∃ s i' h', spec_l03Key.f b i h = some (s, i', h') ∧ (1 ≤ s.size ∧ s.size ≤ 3) ∧ 0 ≤ i' := by
  obtain ⟨r, i1, h1, e1, hm, hi1⟩ := pick_some b i h [(⟨#[97]⟩ : ByteArray), (⟨#[98]⟩ : ByteArray), (⟨#[99]⟩ : ByteArray), (⟨#[100]⟩ : ByteArray), (⟨#[101]⟩ : ByteArray), (⟨#[102]⟩ : ByteArray), (⟨#[103]⟩ : ByteArray), (⟨#[104]⟩ : ByteArray), (⟨#[107, 49]⟩ : ByteArray), (⟨#[107, 50]⟩ : ByteArray), (⟨#[107, 51]⟩ : ByteArray), (⟨#[107, 101, 121]⟩ : ByteArray)] (by simp) hb hi
  unfold spec_l03Key.f
  rw [e1]; simp only [Option.bind_some]
  refine ⟨_, _, _, rfl, ?_, hi1⟩
  simp only [List.mem_cons, List.not_mem_nil, or_false] at hm
  rcases hm with rfl | rfl | rfl | rfl | rfl | rfl | rfl | rfl | rfl | rfl | rfl | rfl <;> decide
theorem val_some (b : List Int) (i h : Int) (hb : b.length ≤ 140737488351232) (hi : 0 ≤ i) : ∃ s i' h', spec_l03Val.f b i h = some (s, i', h') ∧ s.size ≤ 3 ∧ 0 ≤ i' := by
  obtain ⟨r, i1, h1, e1, hm, hi1⟩ := pick_some b i h [(⟨#[]⟩ : ByteArray), (⟨#[118]⟩ : ByteArray), (⟨#[119]⟩ : ByteArray), (⟨#[120, 120]⟩ : ByteArray), (⟨#[121, 121, 121]⟩ : ByteArray)] (by simp) hb hi
  unfold spec_l03Val.f
  rw [e1]; simp only [Option.bind_some]
  refine ⟨_, _, _, rfl, ?_, hi1⟩
  simp only [List.mem_cons, List.not_mem_nil, or_false] at hm
  rcases hm with rfl | rfl | rfl | rfl | rfl <;> decide
theorem once_some (b : List Int) (i h n : Int) (hb : b.length ≤ 140737488351232) (hi : 0 ≤ i) :
    ∃ r i' h', spec_l01Once.f b i h n = some (r, i', h') ∧ 0 ≤ i' := by
  obtain ⟨r, i1, h1, e1, r0, r1, hi1⟩ := below_some b i h n hb hi
  unfold spec_l01Once.f
  rw [e1]; simp only [Option.bind_some]
  exact ⟨_, _, _, rfl, hi1⟩
/-- A new arena. -/
def freshA (n : Nat) : List S81 := (List.range n).map fun i => ⟨0, false, ⟨#[]⟩, ⟨#[]⟩, if i + 1 = n then -1 else ((i + 1 : Nat) : Int)⟩
theorem newS_loop (n : Nat) (hn : n ≤ 24) (d : Nat) : ∀ (i : Nat), n = i + d → Ev (fun k => spec_ArenaNew.l0 k (n : Int) (i : Int) ((freshA n).take i) 0) (freshA n, 0, true) := by
  induction d with
  | zero =>
    intro i hd
    rw [List.take_of_length_le (by simp [freshA]; omega)]
    refine Ev.step (f := fun _ => some (freshA n, 0, true)) (fun k => ?_) (Ev.now _)
    simp only [spec_ArenaNew.l0]; rw [if_neg (by omega)]
  | succ d ih =>
    intro i hd
    have hlen : (freshA n).length = n := by simp [freshA]
    refine Ev.step (fun k => ?_) (ih (i + 1) (by omega))
    rw [take_next _ i (by omega)]
    have hx : (freshA n)[i]'(by omega) = ⟨0, false, ⟨#[]⟩, ⟨#[]⟩, if i + 1 = n then -1 else ((i + 1 : Nat) : Int)⟩ := by simp [freshA]
    rw [hx]
    simp only [spec_ArenaNew.l0]
    rw [if_pos (by omega), w64 i (by omega)]
    have htl : ((freshA n).take i).length < 2513169434916 := by rw [List.length_take]; omega
    by_cases c : i + 1 = n
    · rw [if_pos (by omega), if_pos htl, if_pos c]
    · rw [if_neg (by omega), if_pos htl, if_neg c]
theorem newS_ev (n : Nat) (h1 : 1 ≤ n) (hn : n ≤ 24) : Ev (fun k => spec_ArenaNew.f k (n : Int)) (freshA n, 0, true) := by
  unfold spec_ArenaNew.f
  rw [rangeS]
  simp only [Option.bind_some, if_pos (show decide (1 ≤ (n : Int) ∧ (n : Int) ≤ 24) = true from decide_eq_true (by omega))]
  exact newS_loop n hn n 0 (by omega)
theorem fresh_path (n : Nat) (d : Nat) : ∀ (i : Nat), n = i + d → 0 < d → AM.Path S81.f1 S81.f4 (freshA n) (i : Int) ((List.range d).map (i + ·)) := by
  induction d with
  | zero => intro i hd h0; omega
  | succ d ih =>
    intro i hd _
    have hlen : (freshA n).length = n := by simp [freshA]
    have hi : i < (freshA n).length := by omega
    have hx : (freshA n)[i] = ⟨0, false, ⟨#[]⟩, ⟨#[]⟩, if i + 1 = n then -1 else ((i + 1 : Nat) : Int)⟩ := by simp [freshA]
    rw [List.range_succ_eq_map, List.map_cons, List.map_map]
    refine ⟨by simp, (freshA n)[i], List.getElem?_eq_getElem hi, by rw [hx], ?_⟩
    rw [hx]
    rcases Nat.eq_zero_or_pos d with h0 | h0
    · subst h0
      rw [if_pos (by omega)]
      rfl
    · rw [if_neg (by omega)]
      have := ih (i + 1) (by omega) h0
      rw [show ((i + ·) ∘ Nat.succ) = (i + 1 + ·) by funext j; simp only [Function.comp]; omega]
      exact this
theorem fresh_right (n : Nat) (h1 : 1 ≤ n) (hn : n ≤ 24) : arR (freshA n) 0 := by
  have hlen : (freshA n).length = n := by simp [freshA]
  refine ⟨by omega, fun x hx => ?_, _, fresh_path n n 0 (by omega) (by omega), fun i x hx _ => ?_⟩
  · simp only [freshA, List.mem_map] at hx
    obtain ⟨i, _, rfl⟩ := hx
    exact ⟨by simp, by simp, fun e => by simp at e, fun _ => ⟨rfl, rfl⟩⟩
  · have := (List.getElem?_eq_some_iff.1 hx).1
    simp; omega
theorem drawArena_loop (b : List Int) (hb : b.length ≤ 140737488351232) (n : Nat) (d : Nat) : ∀ (i : Nat) (c h : Int) (xs : List S81) (fr : Int), i + d = 23 → 0 ≤ c → arR xs fr → xs.length = n →
    ∃ ys gr c' h', Ev (fun k => spec_l03Arena.l0 k (i : Int) b c h xs fr) (ys, gr, c', h') ∧ arR ys gr ∧ 0 ≤ c' ∧ ys.length = n := by
  have fin : ∀ (c h : Int) (xs : List S81) (fr : Int), 0 ≤ c → arR xs fr → xs.length = n → ∃ ys gr c' h', ((spec_l01Once.f b c h 12).bind fun bt257 => (if bt257.1 = true then ((spec_l03Copy.f xs fr).bind fun bt260 => ((spec_l01Below.f b bt257.2.1 bt257.2.2 (bt260.1.length : Int)).bind fun bt264 => (if 0 ≤ bt264.1 then (if bt264.1 < (bt260.1.length : Int) then (some ((bt260.1.set (bt264.1 : Int).toNat (⟨41666665, (rd_T81 bt260.1 bt264.1).f1, (rd_T81 bt260.1 bt264.1).f2, (rd_T81 bt260.1 bt264.1).f3, (rd_T81 bt260.1 bt264.1).f4⟩ : S81)), bt260.2, bt264.2.1, bt264.2.2)) else (none)) else (none)))) else (some (xs, fr, bt257.2.1, bt257.2.2)))) = some (ys, gr, c', h') ∧ arR ys gr ∧ 0 ≤ c' ∧ ys.length = n := by
    intro c h xs fr hc hr hn
    have hl := hr.len
    obtain ⟨r, i1, h1, e1, hi1⟩ := once_some b c h 12 hb hc
    rw [e1]; simp only [Option.bind_some]
    cases r with
    | false => exact ⟨xs, fr, i1, h1, rfl, hr, hi1, hn⟩
    | true =>
      simp only [if_true]
      rw [copyAS xs fr (by omega)]
      simp only [Option.bind_some]
      obtain ⟨q, i2, h2, e2, q0, q1, hi2⟩ := below_some b i1 h1 (xs.length : Int) hb hi1
      rw [e2]; simp only [Option.bind_some]
      have hq := q1 (by omega)
      rw [if_pos q0, if_pos hq]
      obtain ⟨m, rfl⟩ := Int.eq_ofNat_of_zero_le q0
      have hm : m < xs.length := by omega
      refine ⟨_, _, _, _, rfl, ?_, hi2, by rw [List.length_set]; exact hn⟩
      have hx : xs[m]? = some xs[m] := List.getElem?_eq_getElem hm
      rw [rd_get hx, Int.toNat_natCast]
      have hs := hr.slots xs[m] (List.getElem_mem hm)
      obtain ⟨l, hp, hall⟩ := hr.path
      have hset : ∀ (j : Nat) (z : S81), (xs.set m ⟨41666665, xs[m].f1, xs[m].f2, xs[m].f3, xs[m].f4⟩)[j]? = some z → ∃ y : S81, xs[j]? = some y ∧ y.f1 = z.f1 ∧ y.f4 = z.f4 := fun j z hz => by
        by_cases e : m = j
        · subst e
          rw [List.getElem?_set_self hm] at hz
          obtain rfl := Option.some.inj hz
          exact ⟨_, hx, rfl, rfl⟩
        · rw [List.getElem?_set_ne e] at hz
          exact ⟨z, hz, rfl, rfl⟩
      have hpath : ∀ (l : List Nat) (p : Int), AM.Path S81.f1 S81.f4 xs p l → AM.Path S81.f1 S81.f4 (xs.set m ⟨41666665, xs[m].f1, xs[m].f2, xs[m].f3, xs[m].f4⟩) p l := by
        intro l
        induction l with
        | nil => exact fun p h => h
        | cons j l ih =>
          rintro p ⟨h1, y, hy, hyu, hp⟩
          have hj := (List.getElem?_eq_some_iff.1 hy).1
          have hz : (xs.set m ⟨41666665, xs[m].f1, xs[m].f2, xs[m].f3, xs[m].f4⟩)[j]? = some ((xs.set m ⟨41666665, xs[m].f1, xs[m].f2, xs[m].f3, xs[m].f4⟩)[j]'(by rw [List.length_set]; exact hj)) := List.getElem?_eq_getElem _
          obtain ⟨y', hy', eu, en⟩ := hset j _ hz
          rw [hy] at hy'
          obtain rfl := Option.some.inj hy'
          exact ⟨h1, _, hz, by rw [← eu]; exact hyu, by rw [← en]; exact ih _ hp⟩
      refine ⟨by rw [List.length_set]; exact hl, fun x hx' => ?_, l, hpath l fr hp, fun j z hz hzu => ?_⟩
      · rcases List.mem_or_eq_of_mem_set hx' with h | rfl
        · exact hr.slots x h
        · exact ⟨by simp, by simp, hs.2.2.1, hs.2.2.2⟩
      · obtain ⟨y, hy, eu, _⟩ := hset j z hz
        exact hall j y hy (eu.trans hzu)
  induction d with
  | zero =>
    intro i c h xs fr hd hc hr hn
    obtain ⟨r, i1, h1, e1, r0, r1, hi1⟩ := below_some b c h 24 hb hc
    obtain ⟨ys, gr, c', h', he, hry, hc', hny⟩ := fin i1 h1 xs fr hi1 hr hn
    refine ⟨ys, gr, c', h', Ev.step (f := fun _ => some (ys, gr, c', h')) (fun k => ?_) (Ev.now _), hry, hc', hny⟩
    simp only [spec_l03Arena.l0]
    rw [e1]; simp only [Option.bind_some]
    rw [if_neg (by have := r1 (by omega); omega)]
    exact he
  | succ d ih =>
    intro i c h xs fr hd hc hr hn
    have hl := hr.len
    obtain ⟨r, i1, h1, e1, r0, r1, hi1⟩ := below_some b c h 24 hb hc
    by_cases hlt : (i : Int) < r
    · obtain ⟨q, i2, h2, e2, q0, q1, hi2⟩ := below_some b i1 h1 (xs.length : Int) hb hi1
      have hq := q1 (by omega)
      obtain ⟨m, rfl⟩ := Int.eq_ofNat_of_zero_le q0
      have hm : m < xs.length := by omega
      have hx : xs[m]? = some xs[m] := List.getElem?_eq_getElem hm
      have layway : ∀ c2 h2, 0 ≤ c2 → ∃ ys gr c' h', Ev (fun k => spec_l03Arena.j1 k (i : Int) (m : Int) false b c2 h2 xs fr) (ys, gr, c', h') ∧ arR ys gr ∧ 0 ≤ c' ∧ ys.length = n := by
        intro c2 h2 hc2
        obtain ⟨s, i3, h3, e3, hs, hi3⟩ := key_some b c2 h2 hb hc2
        obtain ⟨v, i4, h4, e4, hv, hi4⟩ := val_some b i3 h3 hb hi3
        by_cases hf : fr = -1
        · subst hf
          obtain ⟨ys, gr, c', h', he, hry, hc', hny⟩ := ih (i + 1) i4 h4 xs (-1) (by omega) hi4 hr hn
          refine ⟨ys, gr, c', h', ?_, hry, hc', hny⟩
          refine Ev.step (f := fun k => (spec_Lay.f k xs (-1) s v).bind fun bt250 => (if bt250.2.2.2 = true then (spec_l03Arena.l0 k ((i + 1 : Nat) : Int) b i4 h4 bt250.1 bt250.2.1) else (spec_l03Arena.l0 k ((i + 1 : Nat) : Int) b i4 h4 xs (-1)))) (fun k => ?_) (Ev.bind (layS_full hr) ?_)
          · simp only [spec_l03Arena.j1, Bool.false_eq_true, if_false]
            rw [e3]; simp only [Option.bind_some]
            rw [e4]; simp only [Option.bind_some, w64 i (by omega)]
          · simp only [Bool.false_eq_true, if_false]; exact he
        · obtain ⟨k, x, rfl, hxk, hu⟩ := hr.first S81.f0 S81.f1 S81.f2 S81.f3 S81.f4 hf
          obtain ⟨ys, gr, c', h', he, hry, hc', hny⟩ := ih (i + 1) i4 h4 _ _ (by omega) hi4 (lay_right (key := s) (val := v) hr hxk (by omega) (by omega)) (by rw [List.length_set]; exact hn)
          refine ⟨ys, gr, c', h', ?_, hry, hc', hny⟩
          refine Ev.step (f := fun r => (spec_Lay.f r xs (k : Int) s v).bind fun bt250 => (if bt250.2.2.2 = true then (spec_l03Arena.l0 r ((i + 1 : Nat) : Int) b i4 h4 bt250.1 bt250.2.1) else (spec_l03Arena.l0 r ((i + 1 : Nat) : Int) b i4 h4 xs (k : Int)))) (fun k => ?_) (Ev.bind (layS_ev (key := s) (val := v) hr hxk (by omega) (by omega)) ?_)
          · simp only [spec_l03Arena.j1, Bool.false_eq_true, if_false]
            rw [e3]; simp only [Option.bind_some]
            rw [e4]; simp only [Option.bind_some, w64 i (by omega)]
          · simp only [if_true]; exact he
      rcases Bool.eq_false_or_eq_true xs[m].f1 with hu | hu
      · obtain ⟨o, i3, h3, e3, hi3⟩ := once_some b i2 h2 2 hb hi2
        cases o with
        | true =>
          obtain ⟨ys, gr, c', h', he, hry, hc', hny⟩ := ih (i + 1) i3 h3 _ _ (by omega) hi3 (lift_right hr hx hu) (by rw [List.length_set]; exact hn)
          refine ⟨ys, gr, c', h', Ev.step (f := fun k => spec_l03Arena.j1 k (i : Int) (m : Int) true b i3 h3 xs fr) (fun k => ?_) (Ev.step (f := fun k => (spec_HandleOf.f k xs fr (m : Int)).bind fun t238 => ((spec_Lift.f k xs fr t238).bind fun bt239 => (spec_l03Arena.l0 k ((i + 1 : Nat) : Int) b i3 h3 bt239.1 bt239.2.1))) (fun k => ?_) (Ev.bind (handleS_ev hr hx hu) (Ev.bind (liftS_ev hr hx hu) he))), hry, hc', hny⟩
          · simp only [spec_l03Arena.l0]
            rw [e1]; simp only [Option.bind_some]
            rw [if_pos hlt, e2]; simp only [Option.bind_some]
            rw [if_pos q0, if_pos hq, rd_get hx, if_pos hu, e3]; rfl
          · simp only [spec_l03Arena.j1, if_true, w64 i (by omega)]
        | false =>
          obtain ⟨ys, gr, c', h', he, hry⟩ := layway i3 h3 hi3
          refine ⟨ys, gr, c', h', Ev.step (fun k => ?_) he, hry⟩
          simp only [spec_l03Arena.l0]
          rw [e1]; simp only [Option.bind_some]
          rw [if_pos hlt, e2]; simp only [Option.bind_some]
          rw [if_pos q0, if_pos hq, rd_get hx, if_pos hu, e3]; rfl
      · obtain ⟨ys, gr, c', h', he, hry⟩ := layway i2 h2 hi2
        refine ⟨ys, gr, c', h', Ev.step (fun k => ?_) he, hry⟩
        simp only [spec_l03Arena.l0]
        rw [e1]; simp only [Option.bind_some]
        rw [if_pos hlt, e2]; simp only [Option.bind_some]
        rw [if_pos q0, if_pos hq, rd_get hx, if_neg (by rw [hu]; simp)]
    · obtain ⟨ys, gr, c', h', he, hry, hc', hny⟩ := fin i1 h1 xs fr hi1 hr hn
      refine ⟨ys, gr, c', h', Ev.step (f := fun _ => some (ys, gr, c', h')) (fun k => ?_) (Ev.now _), hry, hc', hny⟩
      simp only [spec_l03Arena.l0]
      rw [e1]; simp only [Option.bind_some]
      rw [if_neg hlt]
      exact he
theorem drawArena_ev (b : List Int) (hb : b.length ≤ 140737488351232) (c h : Int) (hc : 0 ≤ c) : ∃ ys gr c' h', Ev (fun k => spec_l03Arena.f k b c h) (ys, gr, c', h') ∧ arR ys gr ∧ 0 ≤ c' ∧ ys.length ≤ 9 := by
  obtain ⟨r, i1, h1, e1, r0, r1, hi1⟩ := below_some b c h 9 hb hc
  have hr := r1 (by omega)
  obtain ⟨m, rfl⟩ := Int.eq_ofNat_of_zero_le r0
  have ew : wrap64 (1 + (m : Int)) = ((m + 1 : Nat) : Int) := by unfold wrap64; omega
  obtain ⟨ys, gr, c', h', he, hry, hc', hny⟩ := drawArena_loop b hb (m + 1) 23 0 i1 h1 (freshA (m + 1)) 0 (by omega) hi1 (fresh_right (m + 1) (by omega) (by omega)) (by simp [freshA])
  have he' : Ev (fun k => spec_l03Arena.l0 k 0 b i1 h1 (freshA (m + 1)) 0) (ys, gr, c', h') := he
  have hnw := newS_ev (m + 1) (by omega) (by omega)
  have hys : ys.length ≤ 9 := by omega
  clear he
  refine ⟨ys, gr, c', h', ?_, hry, hc', hys⟩
  refine Ev.congr (f := fun k => (spec_ArenaNew.f k ((m + 1 : Nat) : Int)).bind fun bt222 => (spec_l03Arena.l0 k 0 b i1 h1 bt222.1 bt222.2.1)) (fun k => ?_) ?_
  · unfold spec_l03Arena.f
    rw [e1, Option.bind_some, ew]
  · exact Ev.bind hnw he'
theorem drawRight_ev (b : List Int) (hb : b.length ≤ 140737488351232) : ∃ ys gr key val, Ev (fun k => spec_DrawRightArena.f k b) (ys, gr, key, val) ∧ arR ys gr ∧ (1 ≤ key.size ∧ key.size ≤ 3) ∧ val.size ≤ 3 ∧ ys.length ≤ 9 := by
  obtain ⟨h0, hnew⟩ := new_some b hb
  obtain ⟨ys, gr, c', h', he, hry, hc', hny⟩ := drawArena_ev b hb 0 h0 (by omega)
  obtain ⟨s, i3, h3, e3, hs, hi3⟩ := key_some b c' h' hb hc'
  obtain ⟨v, i4, h4, e4, hv, hi4⟩ := val_some b i3 h3 hb hi3
  refine ⟨ys, gr, s, v, ?_, hry, hs, hv, hny⟩
  unfold spec_DrawRightArena.f
  refine Ev.bind (a := (b, 0, h0)) ⟨4001, fun k hk => hnew k (by omega)⟩ (Ev.bind he ?_)
  simp only [e3, Option.bind_some, e4]
  exact Ev.now _
theorem usedI_ok {xs : List S81} {fr : Int} (hr : arR xs fr) : Ev (fun k => impl_UsedOf.f k xs fr) ((xs.countP S81.f1 : Nat) : Int) := by
  have hl := hr.len
  unfold impl_UsedOf.f
  refine Ev.bind (okI_true hr) ?_
  simp only [if_true]
  exact Ev.bind (usedI_ev xs fr (by omega)) (Ev.now _)
theorem used_set {xs : List S81} {k : Nat} {x y : S81} (hx : xs[k]? = some x) : (xs.set k y).countP S81.f1 + (if x.f1 = true then 1 else 0) = xs.countP S81.f1 + (if y.f1 = true then 1 else 0) := by
  obtain ⟨hk, rfl⟩ := List.getElem?_eq_some_iff.1 hx
  rw [List.countP_set hk]
  split
  · rename_i h
    have : 0 < xs.countP S81.f1 := List.countP_pos_iff.2 ⟨_, List.getElem_mem hk, h⟩
    omega
  · omega
theorem free_used {xs : List S81} {k : Nat} {x : S81} (hx : xs[k]? = some x) (hu : x.f1 = false) : xs.countP S81.f1 < xs.length := by
  obtain ⟨hk, rfl⟩ := List.getElem?_eq_some_iff.1 hx
  rcases Nat.lt_or_ge (xs.countP S81.f1) xs.length with h | h
  · exact h
  · have := List.countP_eq_length.1 (Nat.le_antisymm List.countP_le_length h) _ (List.getElem_mem hk)
    rw [hu] at this; cases this
theorem full_used {xs : List S81} (hr : arR xs (-1)) : xs.countP S81.f1 = xs.length := List.countP_eq_length.2 ((hr.full S81.f0 S81.f1 S81.f2 S81.f3 S81.f4).1 rfl)
theorem place_none {xs : List S81} {fr h : Int} (hr : arR xs fr) (hn : ∀ (m : Nat) (z : S81), xs[m]? = some z → z.f1 = true → 24 * z.f0 + (m : Int) ≠ h) : placeOf xs h = none := by
  cases hp : placeOf xs h with
  | none => rfl
  | some m =>
    obtain ⟨z, hz, hu, e⟩ := (placeOf_some hr).1 hp
    exact absurd e (hn m z hz hu)
theorem at_set {xs : List S81} {k m : Nat} {y z : S81} (hk : k < xs.length) (hz : (xs.set k y)[m]? = some z) : (m = k ∧ z = y) ∨ (m ≠ k ∧ xs[m]? = some z) := by
  by_cases e : k = m
  · subst e
    rw [List.getElem?_set_self hk] at hz
    exact .inl ⟨rfl, (Option.some.inj hz).symm⟩
  · rw [List.getElem?_set_ne e] at hz
    exact .inr ⟨fun e' => e e'.symm, hz⟩
theorem handleI_ev {xs : List S81} {fr : Int} {k : Nat} {x : S81} (hr : arR xs fr) (hx : xs[k]? = some x) : Ev (fun r => impl_HandleOf.f r xs fr (k : Int)) (if x.f1 = true then 24 * x.f0 + (k : Int) else -1) := by
  have hl := hr.len
  have hk := (List.getElem?_eq_some_iff.1 hx).1
  have hs := hr.slots x (List.mem_of_getElem? hx)
  have ew : wrap64 ((xs.length : Int) - 1) = (xs.length : Int) - 1 := by unfold wrap64; omega
  unfold impl_HandleOf.f
  simp only [rangeI, ew, Option.bind_some, if_pos (show decide (0 ≤ (k : Int) ∧ (k : Int) ≤ (xs.length : Int) - 1) = true from decide_eq_true (by omega)), if_pos (show 0 ≤ (k : Int) by omega), if_pos (show (k : Int) < (xs.length : Int) by omega), rd_get hx]
  by_cases hu : x.f1 = true
  · simp only [if_pos hu]
    refine Ev.bind (okI_true hr) ?_
    unfold impl_Arena_handle.f
    simp only [if_true, if_pos (show 0 ≤ (k : Int) by omega), if_pos (show (k : Int) < (xs.length : Int) by omega), rd_get hx, Option.bind_some, hand24 _ _ hs.1 hs.2.1 (show 0 ≤ (k : Int) by omega) (show (k : Int) ≤ 1048576 by omega)]
    exact Ev.now _
  · simp only [if_neg hu]
    exact Ev.now _
def rawA (n : Nat) : List S81 := (List.range n).map fun i => ⟨0, false, ⟨#[]⟩, ⟨#[]⟩, ((i + 1 : Nat) : Int)⟩
theorem newI_loop (n : Nat) (h1 : 1 ≤ n) (hn : n ≤ 24) (d : Nat) : ∀ (i : Nat), n = i + d → Ev (fun k => impl_ArenaNew.l0 k (n : Int) (n : Int) (i : Int) ((rawA n).take i) 0) (freshA n, 0, true) := by
  have hlen : (rawA n).length = n := by simp [rawA]
  induction d with
  | zero =>
    intro i hd
    rw [List.take_of_length_le (by omega)]
    have ew : wrap64 ((n : Int) - 1) = ((n - 1 : Nat) : Int) := by unfold wrap64; omega
    have hx : (rawA n)[n - 1]? = some ⟨0, false, ⟨#[]⟩, ⟨#[]⟩, ((n - 1 + 1 : Nat) : Int)⟩ := by
      rw [List.getElem?_eq_getElem (by omega)]; simp [rawA]
    refine Ev.step (f := fun _ => some ((rawA n).set (n - 1) ⟨0, false, ⟨#[]⟩, ⟨#[]⟩, -1⟩, 0, true)) (fun k => ?_) ?_
    · simp only [impl_ArenaNew.l0]
      rw [if_neg (by omega), ew, if_pos (by omega), if_pos (by omega), rd_get hx, Int.toNat_natCast]
    · have e : (rawA n).set (n - 1) ⟨0, false, ⟨#[]⟩, ⟨#[]⟩, -1⟩ = freshA n := by
        apply List.ext_getElem
        · simp [rawA, freshA]
        · intro j h1 h2
          rw [List.length_set] at h1
          by_cases c : n - 1 = j
          · subst c
            rw [List.getElem_set_self]
            simp [freshA, show n - 1 + 1 = n by omega]
          · rw [List.getElem_set_ne c]
            simp [freshA, rawA, show ¬ j + 1 = n by omega]
      rw [e]; exact Ev.now _
  | succ d ih =>
    intro i hd
    refine Ev.step (fun k => ?_) (ih (i + 1) (by omega))
    rw [take_next _ i (by omega)]
    have hx : (rawA n)[i]'(by omega) = ⟨0, false, ⟨#[]⟩, ⟨#[]⟩, ((i + 1 : Nat) : Int)⟩ := by simp [rawA]
    rw [hx]
    simp only [impl_ArenaNew.l0]
    rw [if_pos (by omega), w64 i (by omega), if_pos (by rw [List.length_take]; omega)]
theorem newI_ev (n : Nat) (h1 : 1 ≤ n) (hn : n ≤ 24) : Ev (fun k => impl_ArenaNew.f k (n : Int)) (freshA n, 0, true) := by
  unfold impl_ArenaNew.f
  rw [rangeI]
  simp only [Option.bind_some, if_pos (show decide (1 ≤ (n : Int) ∧ (n : Int) ≤ 24) = true from decide_eq_true (by omega))]
  exact newI_loop n h1 hn n 0 (by omega)
theorem fresh_used (n : Nat) : (freshA n).countP S81.f1 = 0 := by
  rw [List.countP_eq_zero]
  intro x hx
  simp only [freshA, List.mem_map] at hx
  obtain ⟨i, _, rfl⟩ := hx
  simp
theorem lifts_in (xs : List S81) (fr : Int) (hr : arR xs fr) (i : Nat) (x : S81) (hx : xs[i]? = some x) (hu : x.f1 = true) (next : Ev (fun k => laws_FnLifts.l0 k ((i + 1 : Nat) : Int) xs fr) true) (d : Nat) : ∀ (j : Nat), xs.length = j + d →
    Ev (fun k => laws_FnLifts.l1 k (i : Int) (24 * x.f0 + (i : Int)) (j : Int) xs fr (xs.set i (lifted x fr)) (i : Int)) true := by
  have hl := hr.len
  have hi := (List.getElem?_eq_some_iff.1 hx).1
  have hb := lift_right hr hx hu
  have hxb : (xs.set i (lifted x fr))[i]? = some (lifted x fr) := List.getElem?_set_self hi
  have hib : i < (xs.set i (lifted x fr)).length := by rw [List.length_set]; exact hi
  have hs := hr.slots x (List.mem_of_getElem? hx)
  have hg := genUp_ok ⟨hs.1, hs.2.1⟩
  induction d with
  | zero =>
    intro j hd
    have hlay := layI_ev (key := ⟨#[113]⟩) (val := ⟨#[]⟩) hb hxb (by decide) (by decide)
    have hxc : ((xs.set i (lifted x fr)).set i (laid (lifted x fr) ⟨#[113]⟩ ⟨#[]⟩))[i]? = some (laid (lifted x fr) ⟨#[113]⟩ ⟨#[]⟩) := List.getElem?_set_self hib
    have hne : placeOf (xs.set i (lifted x fr)) (24 * x.f0 + (i : Int)) = none := place_none hb (fun m z hz hzu e => by
      rcases at_set hi hz with ⟨rfl, rfl⟩ | ⟨hne, hz⟩
      · cases hzu
      · have h1 := (List.getElem?_eq_some_iff.1 hz).1
        omega)
    have ht : Int.tmod (24 * (lifted x fr).f0 + (i : Int)) 24 = (i : Int) := by
      have h0 : 0 ≤ (lifted x fr).f0 := hg.1
      rw [Int.tmod_eq_emod_of_nonneg (by omega)]; omega
    refine Ev.step (f := fun k => (impl_Lay.f k (xs.set i (lifted x fr)) (i : Int) (⟨#[113]⟩ : ByteArray) (⟨#[]⟩ : ByteArray)).bind fun bt333 => (if bt333.2.2.2 = true then (if (Int.tmod bt333.2.2.1 24) = (i : Int) then (if 0 ≤ (i : Int) then (if (i : Int) < (bt333.1.length : Int) then (laws_FnLifts.j3 k (i : Int) (24 * x.f0 + (i : Int)) (!((rd_T81 bt333.1 (i : Int)).f1)) xs fr (xs.set i (lifted x fr)) (i : Int)) else (none)) else (none)) else (laws_FnLifts.j3 k (i : Int) (24 * x.f0 + (i : Int)) true xs fr (xs.set i (lifted x fr)) (i : Int))) else (laws_FnLifts.j3 k (i : Int) (24 * x.f0 + (i : Int)) true xs fr (xs.set i (lifted x fr)) (i : Int)))) (fun k => ?_) (Ev.bind hlay ?_)
    · simp only [laws_FnLifts.l1]
      rw [if_neg (by omega)]
    · simp only [if_true, ht, if_pos (show 0 ≤ (i : Int) by omega), if_pos (show (i : Int) < (((xs.set i (lifted x fr)).set i (laid (lifted x fr) ⟨#[113]⟩ ⟨#[]⟩)).length : Int) by rw [List.length_set]; omega), rd_get hxc]
      refine Ev.step (f := fun k => (impl_Lift.f k (xs.set i (lifted x fr)) (i : Int) (24 * x.f0 + (i : Int))).bind fun bt341 => (if bt341.2.2 = true then (some false) else (laws_FnLifts.l0 k ((i + 1 : Nat) : Int) xs fr))) (fun k => ?_) (Ev.bind (liftI_none hb hne) ?_)
      · simp only [laws_FnLifts.j3, laid, Bool.not_true, Bool.false_eq_true, if_false, w64 i (by omega)]
      · simp only [Bool.false_eq_true, if_false]
        exact next
  | succ d ih =>
    intro j hd
    have hj : j < xs.length := by omega
    have hxj : xs[j]? = some xs[j] := List.getElem?_eq_getElem hj
    have hnext := ih (j + 1) (by omega)
    by_cases e : (j : Int) = (i : Int)
    · refine Ev.step (fun k => ?_) hnext
      simp only [laws_FnLifts.l1]
      rw [if_pos (by omega), if_pos e, w64 j (by omega)]
    · have hji : i ≠ j := by omega
      have hbj : (xs.set i (lifted x fr))[j]? = some xs[j] := by rw [List.getElem?_set_ne hji]; exact hxj
      by_cases huj : xs[j].f1 = true
      · have h1 := handleI_ev hb hbj
        have h2 := handleI_ev hr hxj
        refine Ev.step (f := fun k => (impl_HandleOf.f k (xs.set i (lifted x fr)) (i : Int) (j : Int)).bind fun t331 => ((impl_HandleOf.f k xs fr (j : Int)).bind fun t332 => (if t331 = t332 then (laws_FnLifts.l1 k (i : Int) (24 * x.f0 + (i : Int)) ((j + 1 : Nat) : Int) xs fr (xs.set i (lifted x fr)) (i : Int)) else (some false)))) (fun k => ?_) (Ev.bind h1 (Ev.bind h2 ?_))
        · simp only [laws_FnLifts.l1]
          rw [if_pos (by omega), if_neg e, if_pos (by omega), rd_get hxj, if_pos huj, if_pos (by rw [List.length_set]; omega), rd_get hbj, if_neg (by simp), w64 j (by omega)]
        · simp only [if_true]
          exact hnext
      · refine Ev.step (fun k => ?_) hnext
        simp only [laws_FnLifts.l1]
        rw [if_pos (by omega), if_neg e, if_pos (by omega), rd_get hxj, if_neg huj, w64 j (by omega)]
theorem lifts_out (xs : List S81) (fr : Int) (hr : arR xs fr) (d : Nat) : ∀ (i : Nat), xs.length = i + d → Ev (fun k => laws_FnLifts.l0 k (i : Int) xs fr) true := by
  have hl := hr.len
  induction d with
  | zero =>
    intro i hd
    have hfr := fresh_right xs.length hl.1 hl.2
    refine Ev.step (f := fun k => (impl_ArenaNew.f k (xs.length : Int)).bind fun bt312 => (if bt312.2.2 = true then ((impl_UsedOf.f k bt312.1 bt312.2.1).bind fun t318 => (if t318 = 0 then ((impl_ArenaOk.f k bt312.1 bt312.2.1).bind fun t319 => (some t319)) else (some false))) else (some false))) (fun k => ?_) (Ev.bind (newI_ev xs.length hl.1 hl.2) ?_)
    · simp only [laws_FnLifts.l0]
      rw [if_neg (by omega)]
    · simp only [if_true]
      refine Ev.bind (usedI_ok hfr) ?_
      rw [fresh_used]
      simp only [Int.natCast_zero, if_true]
      exact Ev.bind (okI_true hfr) (Ev.now _)
  | succ d ih =>
    intro i hd
    have hi : i < xs.length := by omega
    have hx : xs[i]? = some xs[i] := List.getElem?_eq_getElem hi
    have hnext := ih (i + 1) (by omega)
    have hs := hr.slots _ (List.mem_of_getElem? hx)
    have hh := handleI_ev hr hx
    by_cases hu : xs[i].f1 = true
    · rw [if_pos hu] at hh
      have h0 : 0 ≤ xs[i].f0 := hs.1
      refine Ev.step (f := fun k => (impl_HandleOf.f k xs fr (i : Int)).bind fun t320 => (if t320 < 0 then (laws_FnLifts.l0 k ((i + 1 : Nat) : Int) xs fr) else ((impl_Lift.f k xs fr t320).bind fun bt321 => (if bt321.2.2 = true then (if 0 ≤ (i : Int) then (if (i : Int) < (bt321.1.length : Int) then (laws_FnLifts.j1 k (i : Int) t320 ((rd_T81 bt321.1 (i : Int)).f1) xs fr bt321.1 bt321.2.1) else (none)) else (none)) else (laws_FnLifts.j1 k (i : Int) t320 true xs fr bt321.1 bt321.2.1))))) (fun k => ?_) (Ev.bind hh ?_)
      · simp only [laws_FnLifts.l0]
        rw [if_pos (by omega), w64 i (by omega)]
      · simp only [if_neg (show ¬ 24 * xs[i].f0 + (i : Int) < 0 by omega)]
        refine Ev.bind (liftI_ev hr hx hu) ?_
        have hxb : (xs.set i (lifted xs[i] fr))[i]? = some (lifted xs[i] fr) := List.getElem?_set_self hi
        simp only [if_true, if_pos (show 0 ≤ (i : Int) by omega), if_pos (show (i : Int) < ((xs.set i (lifted xs[i] fr)).length : Int) by rw [List.length_set]; omega), rd_get hxb]
        refine Ev.step (fun k => ?_) (lifts_in xs fr hr i xs[i] hx hu hnext xs.length 0 (by omega))
        simp only [laws_FnLifts.j1, lifted, Bool.false_eq_true, if_false]
        rfl
    · rw [if_neg hu] at hh
      refine Ev.step (f := fun k => (impl_HandleOf.f k xs fr (i : Int)).bind fun t320 => (if t320 < 0 then (laws_FnLifts.l0 k ((i + 1 : Nat) : Int) xs fr) else ((impl_Lift.f k xs fr t320).bind fun bt321 => (if bt321.2.2 = true then (if 0 ≤ (i : Int) then (if (i : Int) < (bt321.1.length : Int) then (laws_FnLifts.j1 k (i : Int) t320 ((rd_T81 bt321.1 (i : Int)).f1) xs fr bt321.1 bt321.2.1) else (none)) else (none)) else (laws_FnLifts.j1 k (i : Int) t320 true xs fr bt321.1 bt321.2.1))))) (fun k => ?_) (Ev.bind hh ?_)
      · simp only [laws_FnLifts.l0]
        rw [if_pos (by omega), w64 i (by omega)]
      · simp only [if_pos (show (-1 : Int) < 0 by omega)]
        exact hnext

theorem FnLifts : laws_FnLifts.Pure := by
  intro l0 _ hl _
  apply Ev.rounds (r := true) (g := fun k => laws_FnLifts.f k l0)
  unfold laws_FnLifts.f laws_big.f
  simp only [Option.bind_some]
  by_cases hbig : (l0.length : Int) > 1048576
  · simp only [if_pos (show decide ((l0.length : Int) > 1048576) = true from decide_eq_true hbig)]; exact Ev.now true
  simp only [if_neg (show ¬ decide ((l0.length : Int) > 1048576) = true from fun e => hbig (of_decide_eq_true e))]
  obtain ⟨ys, gr, key, val, hd, hr, _, _, _⟩ := drawRight_ev l0 (by omega)
  exact Ev.bind hd (lifts_out ys gr hr ys.length 0 (by omega))

end Go.Proofs.Ytjiekmbonmbhlaa.Pure
