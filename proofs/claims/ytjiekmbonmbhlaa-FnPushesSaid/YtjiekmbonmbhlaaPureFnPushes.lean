/- A key that is pushed into a drawn queue is the first one; what is left out is the last one, when it is full. -/
import Derived.Test.YtjiekmbonmbhlaaGFnPushesx7
namespace Go.Proofs.Ytjiekmbonmbhlaa.Pure
open Go.RowKit Go.Proofs.Ytjiekmbonmbhlaa.GFnPushes Go.Proofs.YtjiekmbonmbhlaaW.PrintWords Go.Proofs.YtjiekmbonmbhlaaW.PrintLast Go.Proofs.YtjiekmbonmbhlaaW.PrintMore
set_option linter.unusedVariables false
set_option linter.unusedSimpArgs false

/-! ### Lists that are copied, compared, marked -/
theorem w64 (i : Nat) (h : (i : Int) < 9223372036854775807) : wrap64 ((i : Int) + 1) = ((i + 1 : Nat) : Int) := by unfold wrap64; omega
theorem set_take {α : Type} (x : List α) (i : Nat) (v : α) (h : i < x.length) : (x.set i v).take (i + 1) = x.take i ++ [v] := by
  rw [List.take_add_one, List.take_set_of_le (Nat.le_refl i), List.getElem?_set_self h]
  rfl
theorem take_next {α : Type} (x : List α) (i : Nat) (h : i < x.length) : x.take (i + 1) = x.take i ++ [x[i]] := by
  rw [List.take_add_one, List.getElem?_eq_getElem h]
  rfl
theorem rd_at (x : List Int) (i : Nat) (h : i < x.length) : rd x (i : Int) = x[i] := by
  unfold rd
  rw [List.getD_eq_getElem?_getD, Int.toNat_natCast, List.getElem?_eq_getElem h]
  rfl
/-! ### Lists of texts -/
theorem str_eq {s t : ByteArray} : s.toList = t.toList ↔ s = t :=
  ⟨fun h => Go.WideShapes.bytes_inj (by rw [← ByteArray.toList_eq, ← ByteArray.toList_eq]; exact h), fun h => by rw [h]⟩
noncomputable abbrev decMem (s : ByteArray) (l : List ByteArray) : Decidable (s ∈ l) := Classical.propDecidable _
attribute [local instance] decMem
theorem rdS_at (x : List ByteArray) (i : Nat) (h : i < x.length) : rdOf ByteArray.empty x (i : Int) = x[i] := by
  unfold rdOf
  rw [List.getD_eq_getElem?_getD, Int.toNat_natCast, List.getElem?_eq_getElem h]
  rfl
/-! ### The place of a text in a list -/
/-- The first place of s from place i on; -1 where it is not there. -/
def fi : List ByteArray → ByteArray → Nat → Int
  | [], _, _ => -1
  | a :: l, s, i => if s = a then (i : Int) else fi l s (i + 1)
theorem fi_neg (l : List ByteArray) (s : ByteArray) : ∀ i, s ∉ l → fi l s i = -1 := by
  induction l with
  | nil => intro i _; rfl
  | cons a l ih =>
    intro i h
    have h1 : s ≠ a := fun e => h (by rw [e]; exact List.mem_cons_self)
    unfold fi
    rw [if_neg h1]
    exact ih _ (fun h' => h (List.mem_cons_of_mem _ h'))
theorem fi_pos (l : List ByteArray) (s : ByteArray) : ∀ i, s ∈ l → ∃ j, ∃ h : j < l.length, l[j] = s ∧ s ∉ l.take j ∧ fi l s i = ((i + j : Nat) : Int) := by
  induction l with
  | nil => intro i h; cases h
  | cons a l ih =>
    intro i h
    unfold fi
    by_cases c : s = a
    · rw [if_pos c]
      exact ⟨0, by simp, by simp [c], by simp, rfl⟩
    · rw [if_neg c]
      have h' : s ∈ l := by
        rcases List.mem_cons.1 h with h | h
        · exact absurd h c
        · exact h
      obtain ⟨j, hj, e1, e2, e3⟩ := ih (i + 1) h'
      refine ⟨j + 1, by simpa using hj, by simpa using e1, ?_, by rw [e3]; congr 1; omega⟩
      rw [List.take_succ_cons]
      intro hm
      rcases List.mem_cons.1 hm with h | h
      · exact c h
      · exact e2 h
theorem drop_next {α : Type} (x : List α) (i : Nat) (h : i < x.length) : x.drop i = x[i] :: x.drop (i + 1) := List.drop_eq_getElem_cons h
theorem index_loop (l : List ByteArray) (s : ByteArray) (hl : l.length ≤ 1048576) (d : Nat) : ∀ (i : Nat), l.length = i + d → Ev (fun k => slices_Index_string_string.l0 k l s (l.length : Int) (i : Int)) (fi (l.drop i) s i) := by
  induction d with
  | zero =>
    intro i hd
    rw [List.drop_eq_nil_of_le (by omega)]
    refine Ev.step (f := fun _ => some (-1)) (fun k => ?_) (Ev.now _)
    simp only [slices_Index_string_string.l0]; rw [if_neg (by omega)]
  | succ d ih =>
    intro i hd
    have hi : i < l.length := by omega
    rw [drop_next l i hi]
    unfold fi
    by_cases c : s = l[i]
    · rw [if_pos c]
      refine Ev.step (f := fun _ => some (i : Int)) (fun k => ?_) (Ev.now _)
      simp only [slices_Index_string_string.l0, rdS_at l i hi]
      rw [if_pos (by omega), if_pos (by omega), if_pos (by omega), if_pos (str_eq.2 c)]
    · rw [if_neg c]
      refine Ev.step (fun k => ?_) (ih (i + 1) (by omega))
      simp only [slices_Index_string_string.l0, rdS_at l i hi]
      rw [if_pos (by omega), if_pos (by omega), if_pos (by omega), if_neg (fun h => c (str_eq.1 h)), w64 i (by omega)]
theorem index_ev (l : List ByteArray) (s : ByteArray) (hl : l.length ≤ 1048576) : Ev (fun k => slices_Index_string_string.f k l s) (fi l s 0) := index_loop l s hl l.length 0 (by omega)
/-! ### Right queues -/
/-- A key's length. -/
def isK (s : ByteArray) : Prop := 1 ≤ s.size ∧ s.size ≤ 12
/-- From place i on each is a key, and stands nowhere ahead. -/
def okFrom (l : List ByteArray) (i : Nat) : Prop := ∀ j, i ≤ j → ∀ h : j < l.length, isK l[j] ∧ l[j] ∉ l.take j
/-- A right queue. -/
def okQ (m : Int) (l : List ByteArray) : Prop := 0 ≤ m ∧ m ≤ 24 ∧ (l.length : Int) ≤ m ∧ okFrom l 0
theorem rangeI (a b c : Int) : impl_inRange.f a b c = some (decide (b ≤ a ∧ a ≤ c)) := by
  unfold impl_inRange.f
  by_cases h : a ≥ b
  · rw [if_pos h]; congr 1; rw [Bool.eq_iff_iff]; simp; omega
  · rw [if_neg h]; congr 1; rw [Bool.eq_iff_iff]; simp; omega
theorem keyI (s : ByteArray) : impl_isKey.f s = some (decide (1 ≤ (s.size : Int) ∧ (s.size : Int) ≤ 12)) := by unfold impl_isKey.f; rw [rangeI]; rfl
theorem okFrom_step {l : List ByteArray} {i : Nat} (hi : i < l.length) : okFrom l i ↔ (isK l[i] ∧ l[i] ∉ l.take i) ∧ okFrom l (i + 1) := by
  constructor
  · intro h
    exact ⟨h i (Nat.le_refl _) hi, fun j hj hl => h j (by omega) hl⟩
  · rintro ⟨h1, h2⟩ j hj hl
    by_cases e : i = j
    · subst e; exact h1
    · exact h2 j (by omega) hl
theorem okFrom_end {l : List ByteArray} {i : Nat} (hi : l.length ≤ i) : okFrom l i := fun j hj hl => absurd hl (by omega)
theorem fi_self (l : List ByteArray) (j : Nat) (h : j < l.length) : fi l l[j] 0 = (j : Int) ↔ l[j] ∉ l.take j := by
  obtain ⟨i, hi, e1, e2, e3⟩ := fi_pos l l[j] 0 (List.getElem_mem h)
  rw [e3]
  constructor
  · intro e
    have : i = j := by omega
    subst this
    exact e2
  · intro hn
    rcases Nat.lt_trichotomy i j with c | c | c
    · exact absurd (List.mem_take_iff_getElem.2 ⟨i, by omega, e1⟩) hn
    · subst c; simp
    · exact absurd (List.mem_take_iff_getElem.2 ⟨j, by omega, rfl⟩) e2
theorem okI_loop (m : Int) (l : List ByteArray) (hl : l.length ≤ 1048576) (d : Nat) : ∀ (i : Nat), l.length = i + d →
    ∃ b : Bool, Ev (fun k => impl_QueueOk.l0 k l (l.length : Int) (i : Int) m l) b ∧ (b = true ↔ (0 ≤ m ∧ m ≤ 24 ∧ (l.length : Int) ≤ m ∧ okFrom l i)) := by
  induction d with
  | zero =>
    intro i hd
    have ho : okFrom l i := okFrom_end (by omega)
    by_cases c : 0 ≤ m ∧ m ≤ 24
    · refine ⟨decide ((l.length : Int) ≤ m), Ev.step (f := fun _ => some (decide ((l.length : Int) ≤ m))) (fun k => ?_) (Ev.now _), by simp [c, ho]⟩
      simp only [impl_QueueOk.l0, rangeI, decide_eq_true c, Option.bind_some]
      rw [if_neg (by omega)]
      simp only [if_true]
    · refine ⟨false, Ev.step (f := fun _ => some false) (fun k => ?_) (Ev.now _), ?_⟩
      · simp only [impl_QueueOk.l0, rangeI, decide_eq_false c, Option.bind_some]
        rw [if_neg (by omega)]
        simp
      · simp only [Bool.false_eq_true, false_iff]
        rintro ⟨h1, h2, _⟩
        exact c ⟨h1, h2⟩
  | succ d ih =>
    intro i hd
    have hi : i < l.length := by omega
    obtain ⟨b, hb, hq⟩ := ih (i + 1) (by omega)
    have hx := index_ev l l[i] hl
    by_cases c : isK l[i]
    · have ck : decide (1 ≤ ((l[i].size : Nat) : Int) ∧ ((l[i].size : Nat) : Int) ≤ 12) = true := decide_eq_true (by unfold isK at c; omega)
      by_cases c2 : l[i] ∉ l.take i
      · refine ⟨b, Ev.step (f := fun k => (slices_Index_string_string.f k l l[i]).bind fun t132 => (if t132 = (i : Int) then (impl_QueueOk.l0 k l (l.length : Int) (wrap64 ((i : Int) + 1)) m l) else (some false))) (fun k => ?_) (Ev.bind hx ?_), ?_⟩
        · simp only [impl_QueueOk.l0, rdS_at l i hi, keyI, ck, Option.bind_some]
          rw [if_pos (by omega), if_pos (by omega), if_pos (by omega)]
          simp only [if_true]
        · simp only [if_pos ((fi_self l i hi).2 c2), w64 i (by omega)]
          exact hb
        · rw [hq, okFrom_step hi]
          simp only [c, c2, not_false_eq_true, and_self, true_and]
      · refine ⟨false, Ev.step (f := fun k => (slices_Index_string_string.f k l l[i]).bind fun t132 => (if t132 = (i : Int) then (impl_QueueOk.l0 k l (l.length : Int) (wrap64 ((i : Int) + 1)) m l) else (some false))) (fun k => ?_) (Ev.bind hx ?_), ?_⟩
        · simp only [impl_QueueOk.l0, rdS_at l i hi, keyI, ck, Option.bind_some]
          rw [if_pos (by omega), if_pos (by omega), if_pos (by omega)]
          simp only [if_true]
        · simp only [if_neg (fun e => c2 ((fi_self l i hi).1 e))]
          exact Ev.now _
        · simp only [Bool.false_eq_true, false_iff]
          rintro ⟨_, _, _, h⟩
          exact c2 ((okFrom_step hi).1 h).1.2
    · have ck : decide (1 ≤ ((l[i].size : Nat) : Int) ∧ ((l[i].size : Nat) : Int) ≤ 12) = false := decide_eq_false (by unfold isK at c; omega)
      refine ⟨false, Ev.step (f := fun _ => some false) (fun k => ?_) (Ev.now _), ?_⟩
      · simp only [impl_QueueOk.l0, rdS_at l i hi, keyI, ck, Option.bind_some]
        rw [if_pos (by omega), if_pos (by omega), if_pos (by omega)]
        simp
      · simp only [Bool.false_eq_true, false_iff]
        rintro ⟨_, _, _, h⟩
        exact c ((okFrom_step hi).1 h).1.1
theorem okI_ev (m : Int) (l : List ByteArray) (hl : l.length ≤ 1048576) : ∃ b : Bool, Ev (fun k => impl_QueueOk.f k m l) b ∧ (b = true ↔ okQ m l) := okI_loop m l hl l.length 0 (by omega)
theorem rangeS (a b c : Int) : spec_l01In.f a b c = some (decide (b ≤ a ∧ a ≤ c)) := rangeI a b c
theorem okS_inner (m : Int) (l : List ByteArray) (hl : l.length ≤ 1048576) (i : Nat) (hi : i < l.length) (b : Bool) (hb : Ev (fun k => spec_QueueOk.l0 k ((i + 1 : Nat) : Int) m l) b) (d : Nat) : ∀ (c : Nat), i = c + d → l[i] ∉ l.take c →
    ∃ r : Bool, Ev (fun k => spec_QueueOk.l1 k (i : Int) (c : Int) m l) r ∧ (r = true ↔ (l[i] ∉ l.take i ∧ b = true)) := by
  induction d with
  | zero =>
    intro c hd hn
    obtain rfl : i = c := by omega
    refine ⟨b, Ev.step (fun k => ?_) hb, by simp [hn]⟩
    simp only [spec_QueueOk.l1]
    rw [if_neg (by omega), w64 i (by omega)]
  | succ d ih =>
    intro c hd hn
    have hc : c < l.length := by omega
    by_cases e : l[c] = l[i]
    · refine ⟨false, Ev.step (f := fun _ => some false) (fun k => ?_) (Ev.now _), ?_⟩
      · simp only [spec_QueueOk.l1, rdS_at l i hi, rdS_at l c hc]
        rw [if_pos (by omega), if_pos (by omega), if_pos (by omega), if_pos (by omega), if_pos (by omega), if_pos (str_eq.2 e)]
      · simp only [Bool.false_eq_true, false_iff]
        rintro ⟨h, _⟩
        exact h (List.mem_take_iff_getElem.2 ⟨c, by omega, e⟩)
    · obtain ⟨r, hr, hq⟩ := ih (c + 1) (by omega) (by
        rw [take_next l c hc]
        intro h
        rcases List.mem_append.1 h with h | h
        · exact hn h
        · exact e (List.mem_singleton.1 h).symm)
      refine ⟨r, Ev.step (fun k => ?_) hr, hq⟩
      simp only [spec_QueueOk.l1, rdS_at l i hi, rdS_at l c hc]
      rw [if_pos (by omega), if_pos (by omega), if_pos (by omega), if_pos (by omega), if_pos (by omega), if_neg (fun h => e (str_eq.1 h)), w64 c (by omega)]
theorem okS_loop (m : Int) (l : List ByteArray) (hl : l.length ≤ 1048576) (d : Nat) : ∀ (i : Nat), l.length = i + d →
    ∃ b : Bool, Ev (fun k => spec_QueueOk.l0 k (i : Int) m l) b ∧ (b = true ↔ okFrom l i) := by
  induction d with
  | zero =>
    intro i hd
    refine ⟨true, Ev.step (f := fun _ => some true) (fun k => ?_) (Ev.now _), by simp [okFrom_end (show l.length ≤ i by omega)]⟩
    simp only [spec_QueueOk.l0]
    rw [if_neg (by omega)]
  | succ d ih =>
    intro i hd
    have hi : i < l.length := by omega
    obtain ⟨b, hb, hq⟩ := ih (i + 1) (by omega)
    by_cases c : isK l[i]
    · have ck : decide (1 ≤ ((l[i].size : Nat) : Int) ∧ ((l[i].size : Nat) : Int) ≤ 12) = true := decide_eq_true (by unfold isK at c; omega)
      obtain ⟨r, hr, hrq⟩ := okS_inner m l hl i hi b hb i 0 (by omega) (by simp)
      refine ⟨r, Ev.step (fun k => ?_) hr, ?_⟩
      · simp only [spec_QueueOk.l0, rdS_at l i hi, rangeS, ck, Option.bind_some]
        rw [if_pos (by omega), if_pos (by omega)]
        simp only [if_true]
        rfl
      · rw [hrq, hq, okFrom_step hi]
        simp only [c, true_and]
    · have ck : decide (1 ≤ ((l[i].size : Nat) : Int) ∧ ((l[i].size : Nat) : Int) ≤ 12) = false := decide_eq_false (by unfold isK at c; omega)
      refine ⟨false, Ev.step (f := fun _ => some false) (fun k => ?_) (Ev.now _), ?_⟩
      · simp only [spec_QueueOk.l0, rdS_at l i hi, rangeS, ck, Option.bind_some]
        rw [if_pos (by omega), if_pos (by omega)]
        simp
      · simp only [Bool.false_eq_true, false_iff]
        intro h
        exact c ((okFrom_step hi).1 h).1.1
theorem okS_ev (m : Int) (l : List ByteArray) (hl : l.length ≤ 1048576) : ∃ b : Bool, Ev (fun k => spec_QueueOk.f k m l) b ∧ (b = true ↔ okQ m l) := by
  unfold okQ
  have no : (¬ (0 ≤ m ∧ m ≤ 24 ∧ (l.length : Int) ≤ m)) → Ev (fun k => spec_QueueOk.j0 k true m l) false := by
    intro _
    refine Ev.step (f := fun _ => some false) (fun k => ?_) (Ev.now _)
    simp only [spec_QueueOk.j0, if_true]
  by_cases c : 0 ≤ m ∧ m ≤ 24
  · by_cases c2 : (l.length : Int) ≤ m
    · obtain ⟨b, hb, hq⟩ := okS_loop m l hl l.length 0 (by omega)
      refine ⟨b, Ev.congr (f := fun k => spec_QueueOk.j0 k false m l) (fun k => ?_) (Ev.step (fun k => ?_) hb), by rw [hq]; simp [c, c2]⟩
      · unfold spec_QueueOk.f
        simp only [rangeS, decide_eq_true c, Option.bind_some, if_true, decide_eq_false (show ¬ (l.length : Int) > m by omega)]
      · simp only [spec_QueueOk.j0, if_neg (show ¬ (false = true) by decide)]
        rfl
    · refine ⟨false, Ev.congr (fun k => ?_) (no (by omega)), by simp; omega⟩
      unfold spec_QueueOk.f
      simp only [rangeS, decide_eq_true c, Option.bind_some, if_true, decide_eq_true (show (l.length : Int) > m by omega)]
  · refine ⟨false, Ev.congr (fun k => ?_) (no (by omega)), by simp; omega⟩
    unfold spec_QueueOk.f
    simp only [rangeS, decide_eq_false c, Option.bind_some, if_neg (show ¬ (false = true) by decide)]
theorem okFrom_iff {l : List ByteArray} : okFrom l 0 ↔ (∀ s ∈ l, isK s) ∧ l.Nodup := by
  constructor
  · intro h
    refine ⟨fun s hs => ?_, ?_⟩
    · obtain ⟨j, hj, rfl⟩ := List.getElem_of_mem hs
      exact (h j (Nat.zero_le _) hj).1
    · unfold List.Nodup
      rw [List.pairwise_iff_getElem]
      intro i j hi hj hij e
      exact (h j (Nat.zero_le _) hj).2 (List.mem_take_iff_getElem.2 ⟨i, by omega, e⟩)
  · rintro ⟨h1, h2⟩ j _ hj
    refine ⟨h1 _ (List.getElem_mem hj), fun hm => ?_⟩
    obtain ⟨i, hi, e⟩ := List.mem_take_iff_getElem.1 hm
    unfold List.Nodup at h2
    rw [List.pairwise_iff_getElem] at h2
    exact h2 i j (by omega) hj (by omega) e
theorem hasS_loop (m : Int) (l : List ByteArray) (s : ByteArray) (hl : l.length ≤ 1048576) (d : Nat) : ∀ (i : Nat), l.length = i + d → Ev (fun k => spec_HasKey.l0 k s (i : Int) m l) (decide (s ∈ l.drop i)) := by
  induction d with
  | zero =>
    intro i hd
    rw [List.drop_eq_nil_of_le (by omega)]
    refine Ev.step (f := fun _ => some false) (fun k => ?_) (Ev.congr (fun k => ?_) (Ev.now _))
    · simp only [spec_HasKey.l0]; rw [if_neg (by omega)]
    · simp
  | succ d ih =>
    intro i hd
    have hi : i < l.length := by omega
    by_cases c : l[i] = s
    · refine Ev.step (f := fun _ => some true) (fun k => ?_) (Ev.congr (fun k => ?_) (Ev.now _))
      · simp only [spec_HasKey.l0, rdS_at l i hi]
        rw [if_pos (by omega), if_pos (by omega), if_pos (str_eq.2 c)]
      · rw [drop_next l i hi, decide_eq_true (by rw [c]; exact List.mem_cons_self)]
    · have e : decide (s ∈ l.drop i) = decide (s ∈ l.drop (i + 1)) := by
        rw [drop_next l i hi]
        congr 1
        apply propext
        constructor
        · intro h
          rcases List.mem_cons.1 h with h | h
          · exact absurd h.symm c
          · exact h
        · exact List.mem_cons_of_mem _
      rw [e]
      refine Ev.step (fun k => ?_) (ih (i + 1) (by omega))
      simp only [spec_HasKey.l0, rdS_at l i hi]
      rw [if_pos (by omega), if_pos (by omega), if_neg (fun h => c (str_eq.1 h)), w64 i (by omega)]
theorem hasS_ev (m : Int) (l : List ByteArray) (s : ByteArray) (hl : l.length ≤ 1048576) : Ev (fun k => spec_HasKey.f k m l s) (decide (s ∈ l)) := hasS_loop m l s hl l.length 0 (by omega)
theorem hasI_ev (m : Int) (l : List ByteArray) (s : ByteArray) (hl : l.length ≤ 1048576) : Ev (fun k => impl_HasKey.f k m l s) (decide (s ∈ l)) := by
  unfold impl_HasKey.f slices_Contains_string_string.f
  refine Ev.bind (Ev.bind (index_ev l s hl) (Ev.now _)) ?_
  refine Ev.congr (fun k => ?_) (Ev.now _)
  congr 1
  by_cases c : s ∈ l
  · obtain ⟨j, _, _, _, e⟩ := fi_pos l s 0 c
    rw [e, decide_eq_true c]
    simp
  · rw [fi_neg l s 0 c, decide_eq_false c]
    simp
theorem copyQ (m : Int) (l : List ByteArray) (hl : l.length ≤ 1048577) : impl_copyQueue.f m l = some (m, l) := by
  unfold impl_copyQueue.f slices_Clone_string_string.f
  rw [if_pos (by omega)]
  rfl
/-- What is left of a queue that a key is pushed into, and what is left out. -/
def pushL (m : Int) (l : List ByteArray) (s : ByteArray) : List ByteArray := if (l.length : Int) < m then s :: l else (s :: l).take l.length
def pushO (m : Int) (l : List ByteArray) (s : ByteArray) : ByteArray := if (l.length : Int) < m then ⟨#[]⟩ else (s :: l).getD l.length ByteArray.empty
theorem l01S (a b c : Int) : spec_l01In.f a b c = some (decide (b ≤ a ∧ a ≤ c)) := by
  unfold spec_l01In.f
  by_cases h : a ≥ b
  · rw [if_pos h]; congr 1; rw [Bool.eq_iff_iff]; simp; omega
  · rw [if_neg h]; congr 1; rw [Bool.eq_iff_iff]; simp; omega
theorem pushS_true (m : Int) (l : List ByteArray) (s : ByteArray) : Ev (fun k => spec_Push.j0 k s true m l) (0, [], ⟨#[]⟩, false) := by
  refine Ev.step (f := fun _ => some (0, [], ⟨#[]⟩, false)) (fun k => ?_) (Ev.now _)
  simp only [spec_Push.j0, if_true]
theorem pushS_false (m : Int) (l : List ByteArray) (s : ByteArray) (hl : l.length ≤ 1048576) (hm : (l.length : Int) ≤ m) (h0 : m ≠ 0) : Ev (fun k => spec_Push.j0 k s false m l) (m, pushL m l s, pushO m l s, true) := by
  refine Ev.step (f := fun _ => some (m, pushL m l s, pushO m l s, true)) (fun k => ?_) (Ev.now _)
  simp only [spec_Push.j0, Option.bind_some, List.singleton_append, List.nil_append, List.length_cons, List.length_nil, Bool.false_eq_true, if_false]
  have e : wrap64 (((l.length + 1 : Nat) : Int) - 1) = (l.length : Int) := by unfold wrap64; omega
  rw [if_pos (by omega), e]
  unfold pushL pushO
  by_cases c : (l.length : Int) < m
  · rw [if_pos c, if_pos c, if_neg (by omega), if_pos (by omega)]
  · rw [if_neg c, if_neg c, if_pos (by omega), if_pos (by omega), if_pos (by omega), if_pos (by omega), Int.toNat_natCast, if_pos (by simp only [List.length_take, List.length_cons]; omega)]
    rfl
/-! ### What a push answers for a right queue -/
theorem pushL_len (m : Int) (l : List ByteArray) (s : ByteArray) : (pushL m l s).length = if (l.length : Int) < m then l.length + 1 else l.length := by
  unfold pushL
  split
  · rfl
  · rw [List.length_take, List.length_cons]; omega
theorem pushL_ok {m : Int} {l : List ByteArray} {s : ByteArray} (hQ : okQ m l) (hk : isK s) (hs : s ∉ l) : okQ m (pushL m l s) := by
  obtain ⟨h1, h2, h3, h4⟩ := hQ
  obtain ⟨h5, h6⟩ := okFrom_iff.1 h4
  have hall : (∀ x ∈ s :: l, isK x) ∧ (s :: l).Nodup := ⟨fun x hx => (List.mem_cons.1 hx).elim (fun e => e ▸ hk) (h5 x), List.nodup_cons.2 ⟨hs, h6⟩⟩
  refine ⟨h1, h2, ?_, okFrom_iff.2 ?_⟩
  · rw [pushL_len]; split <;> omega
  · unfold pushL
    split
    · exact hall
    · exact ⟨fun x hx => hall.1 x (List.mem_of_mem_take hx), hall.2.sublist (List.take_sublist _ _)⟩
theorem pushI_good {m : Int} {l : List ByteArray} {s : ByteArray} (hQ : okQ m l) (hk : isK s) (hs : s ∉ l) (h0 : m ≠ 0) : Ev (fun k => impl_Push.f k m l s) (m, pushL m l s, pushO m l s, true) := by
  have hl : l.length ≤ 24 := by have := hQ.2.1; have := hQ.2.2.1; omega
  obtain ⟨b, hb, hq⟩ := okI_ev m l (by omega)
  obtain rfl := hq.2 hQ
  have hhas := hasI_ev m l s (by omega)
  rw [decide_eq_false hs] at hhas
  have hlen : (pushL m l s).length ≤ 1048577 := by rw [pushL_len]; split <;> omega
  unfold impl_Push.f
  rw [keyI]
  simp only [if_neg h0, Option.bind_some, if_pos (show decide (1 ≤ (s.size : Int) ∧ (s.size : Int) ≤ 12) = true from decide_eq_true ⟨by have := hk.1; omega, by have := hk.2; omega⟩)]
  refine Ev.bind hhas ?_
  simp only [Bool.false_eq_true, if_false]
  refine Ev.bind hb ?_
  simp only [if_true, copyQ m l (by omega), Option.bind_some]
  rw [if_pos (by omega)]
  have hc := copyQ m (pushL m l s) hlen
  unfold pushL at hc
  rw [hc]
  exact Ev.now _
theorem pushI_has {m : Int} {l : List ByteArray} {s : ByteArray} (hQ : okQ m l) (hk : isK s) (hs : s ∈ l) (h0 : m ≠ 0) : Ev (fun k => impl_Push.f k m l s) (0, [], ⟨#[]⟩, false) := by
  have hl : l.length ≤ 24 := by have := hQ.2.1; have := hQ.2.2.1; omega
  have hhas := hasI_ev m l s (by omega)
  rw [decide_eq_true hs] at hhas
  unfold impl_Push.f
  rw [keyI]
  simp only [if_neg h0, Option.bind_some, if_pos (show decide (1 ≤ (s.size : Int) ∧ (s.size : Int) ≤ 12) = true from decide_eq_true ⟨by have := hk.1; omega, by have := hk.2; omega⟩)]
  refine Ev.bind hhas ?_
  simp only [if_true]
  exact Ev.now _
theorem pushS_good {m : Int} {l : List ByteArray} {s : ByteArray} (hQ : okQ m l) (hk : isK s) (hs : s ∉ l) (h0 : m ≠ 0) : Ev (fun k => spec_Push.f k m l s) (m, pushL m l s, pushO m l s, true) := by
  have hl : l.length ≤ 24 := by have := hQ.2.1; have := hQ.2.2.1; omega
  obtain ⟨b, hb, hq⟩ := okS_ev m l (by omega)
  obtain rfl := hq.2 hQ
  have hhas := hasS_ev m l s (by omega)
  rw [decide_eq_false hs] at hhas
  unfold spec_Push.f
  refine Ev.bind hb ?_
  simp only [if_true, l01S, Option.bind_some, if_pos (show decide (1 ≤ (s.size : Int) ∧ (s.size : Int) ≤ 12) = true from decide_eq_true ⟨by have := hk.1; omega, by have := hk.2; omega⟩)]
  refine Ev.bind hhas ?_
  simp only [Bool.false_eq_true, if_false]
  rw [show (m == 0) = false by simpa using h0]
  exact pushS_false m l s (by omega) hQ.2.2.1 h0
theorem pushS_has {m : Int} {l : List ByteArray} {s : ByteArray} (hQ : okQ m l) (hk : isK s) (hs : s ∈ l) : Ev (fun k => spec_Push.f k m l s) (0, [], ⟨#[]⟩, false) := by
  have hl : l.length ≤ 24 := by have := hQ.2.1; have := hQ.2.2.1; omega
  obtain ⟨b, hb, hq⟩ := okS_ev m l (by omega)
  obtain rfl := hq.2 hQ
  have hhas := hasS_ev m l s (by omega)
  rw [decide_eq_true hs] at hhas
  unfold spec_Push.f
  refine Ev.bind hb ?_
  simp only [if_true, l01S, Option.bind_some, if_pos (show decide (1 ≤ (s.size : Int) ∧ (s.size : Int) ≤ 12) = true from decide_eq_true ⟨by have := hk.1; omega, by have := hk.2; omega⟩)]
  refine Ev.bind hhas ?_
  simp only [if_true]
  exact pushS_true m l s
/-! ### The drawn cursor: what its words come to -/
theorem and255 (n : Int) : 0 ≤ Go.bits .and .i64 n 255 ∧ Go.bits .and .i64 n 255 ≤ 255 := by
  have h255 : (BitVec.ofInt 64 255).toNat = 255 := by decide
  have key : (BitVec.ofInt 64 n &&& BitVec.ofInt 64 255).toNat ≤ 255 := by
    rw [BitVec.toNat_and, h255]
    exact Nat.and_le_right
  show 0 ≤ IntKind.i64.wrap ((BitVec.ofInt 64 n &&& BitVec.ofInt 64 255).toNat : Nat) ∧ IntKind.i64.wrap ((BitVec.ofInt 64 n &&& BitVec.ofInt 64 255).toNat : Nat) ≤ 255
  rw [IntKind.wrap_i64]
  omega

theorem byte_some (b : List Int) (i h : Int) (hb : b.length ≤ 140737488351232) (hi : 0 ≤ i) :
    ∃ r i' h', spec_l01Byte.f b i h = some (r, i', h') ∧ 0 ≤ r ∧ r ≤ 255 ∧ 0 ≤ i' := by
  unfold spec_l01Byte.f
  by_cases c : i < (b.length : Int)
  · rw [if_pos c, if_pos hi]
    exact ⟨_, _, _, rfl, (and255 _).1, (and255 _).2, by unfold wrap64; omega⟩
  · rw [if_neg c]
    exact ⟨_, _, _, rfl, (and255 _).1, (and255 _).2, hi⟩

theorem below_some (b : List Int) (i h n : Int) (hb : b.length ≤ 140737488351232) (hi : 0 ≤ i) :
    ∃ r i' h', spec_l01Below.f b i h n = some (r, i', h') ∧ 0 ≤ r ∧ (0 < n → r < n) ∧ 0 ≤ i' := by
  unfold spec_l01Below.f
  by_cases c : n ≤ 0
  · rw [if_pos c]
    exact ⟨0, i, h, rfl, by omega, by omega, hi⟩
  · rw [if_neg c]
    by_cases c2 : n ≤ 256
    · rw [if_pos c2]
      obtain ⟨r, i1, h1, e1, r0, r1, hi1⟩ := byte_some b i h hb hi
      rw [e1]
      simp only [Option.bind_some]
      rw [if_neg (by omega)]
      refine ⟨_, _, _, rfl, ?_, ?_, hi1⟩
      · rw [Int.tmod_eq_emod_of_nonneg r0]; exact Int.emod_nonneg _ (by omega)
      · intro _; rw [Int.tmod_eq_emod_of_nonneg r0]; exact Int.emod_lt_of_pos _ (by omega)
    · rw [if_neg c2]
      obtain ⟨x, i1, h1, e1, x0, x1, hi1⟩ := byte_some b i h hb hi
      obtain ⟨y, i2, h2, e2, y0, y1, hi2⟩ := byte_some b i1 h1 hb hi1
      obtain ⟨z, i3, h3, e3, z0, z1, hi3⟩ := byte_some b i2 h2 hb hi2
      obtain ⟨w, i4, h4, e4, w0, w1, hi4⟩ := byte_some b i3 h3 hb hi3
      rw [e1]; simp only [Option.bind_some]
      rw [e2]; simp only [Option.bind_some]
      rw [e3]; simp only [Option.bind_some]
      rw [e4]; simp only [Option.bind_some]
      rw [if_neg (by omega)]
      have e : wrap64 ((wrap64 ((wrap64 ((wrap64 (x * 16777216)) + (wrap64 (y * 65536)))) + (wrap64 (z * 256)))) + w) = x * 16777216 + y * 65536 + z * 256 + w := by
        unfold wrap64; omega
      rw [e]
      refine ⟨_, _, _, rfl, ?_, ?_, hi4⟩
      · rw [Int.tmod_eq_emod_of_nonneg (by omega)]; exact Int.emod_nonneg _ (by omega)
      · intro _; rw [Int.tmod_eq_emod_of_nonneg (by omega)]; exact Int.emod_lt_of_pos _ (by omega)

theorem new_loop (b : List Int) (hb : b.length ≤ 140737488351232) (d : Nat) : ∀ (h i : Int), 0 ≤ i → 4000 - i ≤ d →
    ∃ h', ∀ k, d < k → spec_l01New.l0 k b h i = some (b, 0, h') := by
  induction d with
  | zero =>
    intro h i h0 hd
    refine ⟨h, fun k hk => ?_⟩
    obtain ⟨k, rfl⟩ : ∃ m, k = m + 1 := ⟨k - 1, by omega⟩
    simp only [spec_l01New.l0]
    split
    · rw [if_neg (by omega)]
    · rfl
  | succ d ih =>
    intro h i h0 hd
    by_cases c : i < (b.length : Int)
    · by_cases c2 : i < 4000
      · have e : wrap64 (i + 1) = i + 1 := by unfold wrap64; omega
        obtain ⟨h', H⟩ := ih (Go.bits .and .i64 (wrap64 ((wrap64 ((wrap64 (h * 131)) + (wrap64 (rd b i)))) + 7)) 1073741823) (i + 1) (by omega) (by omega)
        refine ⟨h', fun k hk => ?_⟩
        obtain ⟨k, rfl⟩ : ∃ m, k = m + 1 := ⟨k - 1, by omega⟩
        simp only [spec_l01New.l0]
        rw [if_pos c, if_pos c2, if_pos h0, e]
        exact H k (by omega)
      · refine ⟨h, fun k hk => ?_⟩
        obtain ⟨k, rfl⟩ : ∃ m, k = m + 1 := ⟨k - 1, by omega⟩
        simp only [spec_l01New.l0]
        rw [if_pos c, if_neg c2]
    · refine ⟨h, fun k hk => ?_⟩
      obtain ⟨k, rfl⟩ : ∃ m, k = m + 1 := ⟨k - 1, by omega⟩
      simp only [spec_l01New.l0]
      rw [if_neg c]

theorem new_some (b : List Int) (hb : b.length ≤ 140737488351232) : ∃ h, ∀ k, 4000 < k → spec_l01New.f k b = some (b, 0, h) := by
  obtain ⟨h, H⟩ := new_loop b hb 4000 (wrap64 (14301 + (b.length : Int))) 0 (by omega) (by omega)
  exact ⟨h, fun k hk => by unfold spec_l01New.f; exact H k hk⟩
/-! ### Drawn keys -/
theorem pick_some (b : List Int) (i h : Int) (l : List ByteArray) (hl : 0 < l.length) (hb : b.length ≤ 140737488351232) (hi : 0 ≤ i) :
    ∃ r i' h', spec_l01Pick.f b i h l = some (r, i', h') ∧ r ∈ l ∧ 0 ≤ i' := by
  obtain ⟨r, i1, h1, e1, r0, r1, hi1⟩ := below_some b i h (l.length : Int) hb hi
  unfold spec_l01Pick.f
  rw [e1]; simp only [Option.bind_some]
  have hr := r1 (by omega)
  rw [if_pos r0, if_pos hr]
  refine ⟨_, _, _, rfl, ?_, hi1⟩
  unfold rdOf
  have : r.toNat < l.length := by omega
  rw [List.getD_eq_getElem?_getD, List.getElem?_eq_getElem this]
  exact List.getElem_mem this
theorem key_some (b : List Int) (i h : Int) (hb : b.length ≤ 140737488351232) (hi : 0 ≤ i) : ∃ s i' h', spec_l03Key.f b i h = some (s, i', h') ∧ (1 ≤ s.size ∧ s.size ≤ 3) ∧ 0 ≤ i' := by
  obtain ⟨r, i1, h1, e1, hm, hi1⟩ := pick_some b i h [(⟨#[97]⟩ : ByteArray), (⟨#[98]⟩ : ByteArray), (⟨#[99]⟩ : ByteArray), (⟨#[100]⟩ : ByteArray), (⟨#[101]⟩ : ByteArray), (⟨#[102]⟩ : ByteArray), (⟨#[103]⟩ : ByteArray), (⟨#[104]⟩ : ByteArray), (⟨#[107, 49]⟩ : ByteArray), (⟨#[107, 50]⟩ : ByteArray), (⟨#[107, 51]⟩ : ByteArray), (⟨#[107, 101, 121]⟩ : ByteArray)] (by simp) hb hi
  unfold spec_l03Key.f
  rw [e1]; simp only [Option.bind_some]
  refine ⟨_, _, _, rfl, ?_, hi1⟩
  simp only [List.mem_cons, List.not_mem_nil, or_false] at hm
  rcases hm with rfl | rfl | rfl | rfl | rfl | rfl | rfl | rfl | rfl | rfl | rfl | rfl <;> decide
theorem has_loop (l : List ByteArray) (s : ByteArray) (hl : l.length ≤ 1048576) (d : Nat) : ∀ (i : Nat), l.length = i + d → Ev (fun k => laws_has.l0 k l s (i : Int)) (decide (s ∈ l.drop i)) := by
  induction d with
  | zero =>
    intro i hd
    rw [List.drop_eq_nil_of_le (by omega), decide_eq_false (by simp)]
    refine Ev.step (f := fun _ => some false) (fun k => ?_) (Ev.now _)
    simp only [laws_has.l0]; rw [if_neg (by omega)]
  | succ d ih =>
    intro i hd
    have hi : i < l.length := by omega
    by_cases c : l[i] = s
    · rw [decide_eq_true (by rw [List.drop_eq_getElem_cons hi, c]; simp)]
      refine Ev.step (f := fun _ => some true) (fun k => ?_) (Ev.now _)
      simp only [laws_has.l0, rdS_at l i hi]
      rw [if_pos (by omega), if_pos (by omega), if_pos (str_eq.2 c)]
    · have e : decide (s ∈ l.drop i) = decide (s ∈ l.drop (i + 1)) := by
        congr 1
        rw [List.drop_eq_getElem_cons hi, List.mem_cons]
        exact propext ⟨fun h => h.elim (fun h => absurd h.symm c) id, Or.inr⟩
      rw [e]
      refine Ev.step (fun k => ?_) (ih (i + 1) (by omega))
      simp only [laws_has.l0, rdS_at l i hi]
      rw [if_pos (by omega), if_pos (by omega), if_neg (fun h => c (str_eq.1 h)), w64 i (by omega)]
theorem has_ev (l : List ByteArray) (s : ByteArray) (hl : l.length ≤ 1048576) : Ev (fun k => laws_has.f k l s) (decide (s ∈ l)) := has_loop l s hl l.length 0 (by omega)
theorem same_loop (l : List ByteArray) (hl : l.length ≤ 1048576) (d : Nat) : ∀ (i : Nat), l.length = i + d → Ev (fun k => laws_sameTexts.l0 k l l (i : Int)) true := by
  induction d with
  | zero =>
    intro i hd
    refine Ev.step (f := fun _ => some true) (fun k => ?_) (Ev.now _)
    simp only [laws_sameTexts.l0]; rw [if_neg (by omega)]
  | succ d ih =>
    intro i hd
    refine Ev.step (fun k => ?_) (ih (i + 1) (by omega))
    simp only [laws_sameTexts.l0, if_true]
    rw [if_pos (by omega), if_pos (by omega), if_pos (by omega), w64 i (by omega)]
theorem same_ev (l : List ByteArray) (hl : l.length ≤ 1048576) : Ev (fun k => laws_sameTexts.f k l l) true := by
  unfold laws_sameTexts.f
  simp only [if_true]
  exact same_loop l hl l.length 0 (by omega)
theorem drawQueue_loop (b : List Int) (hb : b.length ≤ 140737488351232) (m : Int) (h0 : m ≠ 0) (d : Nat) : ∀ (i : Nat) (c h : Int) (l : List ByteArray), i + d = 8 → 0 ≤ c → okQ m l →
    ∃ l' key, Ev (fun k => spec_DrawRightQueue.l0 k (i : Int) b c h m l) (m, l', key) ∧ okQ m l' ∧ isK key := by
  induction d with
  | zero =>
    intro i c h l hd hc hQ
    obtain ⟨r, i1, h1, e1, r0, r1, hi1⟩ := below_some b c h 9 hb hc
    obtain ⟨s, i2, h2, e2, hs, hi2⟩ := key_some b i1 h1 hb hi1
    refine ⟨l, s, Ev.step (f := fun _ => some (m, l, s)) (fun k => ?_) (Ev.now _), hQ, hs.1, by omega⟩
    simp only [spec_DrawRightQueue.l0]
    rw [e1]; simp only [Option.bind_some]
    rw [if_neg (by have := r1 (by omega); omega), e2]; rfl
  | succ d ih =>
    intro i c h l hd hc hQ
    obtain ⟨r, i1, h1, e1, r0, r1, hi1⟩ := below_some b c h 9 hb hc
    obtain ⟨s, i2, h2, e2, hs, hi2⟩ := key_some b i1 h1 hb hi1
    have hk : isK s := ⟨hs.1, by omega⟩
    by_cases hlt : (i : Int) < r
    · by_cases hm : s ∈ l
      · obtain ⟨l', key, he, hr⟩ := ih (i + 1) i2 h2 l (by omega) hi2 hQ
        refine ⟨l', key, Ev.step (f := fun k => (spec_Push.f k m l s).bind fun bt216 => (if bt216.2.2.2 = true then (spec_DrawRightQueue.l0 k ((i + 1 : Nat) : Int) b i2 h2 bt216.1 bt216.2.1) else (spec_DrawRightQueue.l0 k ((i + 1 : Nat) : Int) b i2 h2 m l))) (fun k => ?_) (Ev.bind (pushS_has hQ hk hm) ?_), hr⟩
        · simp only [spec_DrawRightQueue.l0]
          rw [e1]; simp only [Option.bind_some]
          rw [if_pos hlt, e2]; simp only [Option.bind_some, w64 i (by omega)]
        · simp only [Bool.false_eq_true, if_false]; exact he
      · obtain ⟨l', key, he, hr⟩ := ih (i + 1) i2 h2 (pushL m l s) (by omega) hi2 (pushL_ok hQ hk hm)
        refine ⟨l', key, Ev.step (f := fun k => (spec_Push.f k m l s).bind fun bt216 => (if bt216.2.2.2 = true then (spec_DrawRightQueue.l0 k ((i + 1 : Nat) : Int) b i2 h2 bt216.1 bt216.2.1) else (spec_DrawRightQueue.l0 k ((i + 1 : Nat) : Int) b i2 h2 m l))) (fun k => ?_) (Ev.bind (pushS_good hQ hk hm h0) ?_), hr⟩
        · simp only [spec_DrawRightQueue.l0]
          rw [e1]; simp only [Option.bind_some]
          rw [if_pos hlt, e2]; simp only [Option.bind_some, w64 i (by omega)]
        · simp only [if_true]; exact he
    · refine ⟨l, s, Ev.step (f := fun _ => some (m, l, s)) (fun k => ?_) (Ev.now _), hQ, hk⟩
      simp only [spec_DrawRightQueue.l0]
      rw [e1]; simp only [Option.bind_some]
      rw [if_neg hlt, e2]; rfl
theorem drawQueue_ev (b : List Int) (hb : b.length ≤ 140737488351232) : ∃ m l key, Ev (fun k => spec_DrawRightQueue.f k b) (m, l, key) ∧ okQ m l ∧ isK key ∧ m ≠ 0 := by
  obtain ⟨h0, hnew⟩ := new_some b hb
  obtain ⟨r, i1, h1, e1, r0, r1, hi1⟩ := below_some b 0 h0 6 hb (by omega)
  have hr := r1 (by omega)
  have ew : wrap64 (1 + r) = 1 + r := by unfold wrap64; omega
  obtain ⟨l, key, he, hQ, hk⟩ := drawQueue_loop b hb (1 + r) (by omega) 8 0 i1 h1 [] (by omega) hi1 ⟨by omega, by omega, by simp; omega, okFrom_end (by simp)⟩
  refine ⟨1 + r, l, key, ?_, hQ, hk, by omega⟩
  have he' : Ev (fun k => spec_DrawRightQueue.l0 k 0 b i1 h1 (1 + r) []) (1 + r, l, key) := he
  have hn' : Ev (fun k => spec_l01New.f k b) (b, 0, h0) := ⟨4001, fun k hk => hnew k (by omega)⟩
  have hs : Ev (fun k => (spec_l01Below.f b 0 h0 6).bind fun bt203 => spec_DrawRightQueue.l0 k 0 b bt203.2.1 bt203.2.2 (wrap64 (1 + bt203.1)) ([] : List ByteArray)) (1 + r, l, key) := by
    refine Ev.congr (fun k => ?_) he'
    rw [e1, Option.bind_some, ew]
  unfold spec_DrawRightQueue.f
  exact Ev.bind hn' hs
/-- Of several things that come true with enough rounds, all at once. -/
theorem Ev.both {α β : Type} {g : Nat → Option α} {f : Nat → Option β} {a : α} {b : β} (h : Ev g a) (k : Ev f b) : ∃ K, ∀ n, K ≤ n → g n = some a ∧ f n = some b := by
  obtain ⟨K1, h1⟩ := h
  obtain ⟨K2, h2⟩ := k
  exact ⟨K1 + K2, fun n hn => ⟨h1 n (by omega), h2 n (by omega)⟩⟩

theorem FnPushes : laws_FnPushes.Pure := by
  intro l0 _ hl _
  by_cases hbig : (l0.length : Int) > 1048576
  · exact ⟨0, .inl (by unfold laws_big.f; rw [decide_eq_true hbig])⟩
  have hb : laws_big.f l0 = some false := by unfold laws_big.f; rw [decide_eq_false hbig]
  obtain ⟨m, q, key, hd, hQ, hk, h0⟩ := drawQueue_ev l0 (by omega)
  have hlen : q.length ≤ 24 := by have := hQ.2.1; have := hQ.2.2.1; omega
  have hhas := has_ev q key (by omega)
  by_cases hs : key ∈ q
  · rw [decide_eq_true hs] at hhas
    obtain ⟨K1, h1⟩ := Ev.both hd (pushI_has hQ hk hs h0)
    obtain ⟨K2, h2⟩ := hhas
    obtain ⟨e1, e2⟩ := h1 (K1 + K2) (by omega)
    exact ⟨K1 + K2, .inr ⟨hb, m, q, key, 0, [], ⟨#[]⟩, false, e1, e2, h2 _ (by omega), .inl ⟨rfl, rfl, rfl⟩⟩⟩
  · rw [decide_eq_false hs] at hhas
    obtain ⟨K1, h1⟩ := Ev.both hd (pushI_good hQ hk hs h0)
    have hPQ := pushL_ok hQ hk hs
    have hpl : (pushL m q key).length ≤ 24 := by have := hPQ.2.1; have := hPQ.2.2.1; omega
    obtain ⟨ob, hob, hoq⟩ := okI_ev m (pushL m q key) (by omega)
    obtain rfl := hoq.2 hPQ
    obtain ⟨K2, h2⟩ := Ev.both hhas hob
    obtain ⟨K3, h3⟩ := same_ev (pushL m q key) (by omega)
    obtain ⟨e1, e2⟩ := h1 (K1 + K2 + K3) (by omega)
    obtain ⟨e3, e4⟩ := h2 (K1 + K2 + K3) (by omega)
    have e5 := h3 (K1 + K2 + K3) (by omega)
    refine ⟨K1 + K2 + K3, .inr ⟨hb, m, q, key, m, pushL m q key, pushO m q key, true, e1, e2, e3, .inr ⟨rfl, by omega, ?_⟩⟩⟩
    by_cases c : (q.length : Int) < m
    · refine .inl ⟨c, by unfold pushO; rw [if_pos c], ?_⟩
      have : pushL m q key = key :: q := by unfold pushL; rw [if_pos c]
      rw [this] at e5 ⊢
      exact e5
    · have hp : 0 < q.length := by have := hQ.1; have := hQ.2.2.1; omega
      refine .inr ⟨c, q.length - 1, by omega, ?_, ?_, e4⟩
      · unfold pushO
        rw [if_neg c]
        obtain ⟨n, hn⟩ : ∃ n, q.length = n + 1 := ⟨q.length - 1, by omega⟩
        rw [hn]
        simp
      · have : pushL m q key = key :: q.take (q.length - 1) := by
          unfold pushL
          rw [if_neg c]
          obtain ⟨n, hn⟩ : ∃ n, q.length = n + 1 := ⟨q.length - 1, by omega⟩
          rw [hn, List.take_succ_cons]; simp
        rw [this] at e5 ⊢
        exact e5

end Go.Proofs.Ytjiekmbonmbhlaa.Pure
