/- HasKey of the program and of the reference tell the same of every queue and key, and change nothing. -/
import Derived.Test.YtocgakpicmcemaaAskFnExactHasKey
namespace Go.Proofs.Ytocgakpicmcemaa.Pure
open Go.RowKit Go.Proofs.Ytocgakpicmcemaa.PFnExactHasKey Go.Proofs.YtocgakpicmcemaaW.PrintWords Go.Proofs.YtocgakpicmcemaaW.PrintLast Go.Proofs.YtocgakpicmcemaaW.PrintMore
set_option linter.unusedVariables false
set_option linter.unusedSimpArgs false

/-! ### Lists that are copied, compared, marked -/
theorem w64 (i : Nat) (h : (i : Int) < 9223372036854775807) : wrap64 ((i : Int) + 1) = ((i + 1 : Nat) : Int) := by unfold wrap64; omega
theorem set_take {α : Type} (x : List α) (i : Nat) (v : α) (h : i < x.length) : (x.set i v).take (i + 1) = x.take i ++ [v] := by
  rw [List.take_add_one, List.take_set_of_le (Nat.le_refl i), List.getElem?_set_self h]
  rfl
theorem take_next {α : Type} (x : List α) (i : Nat) (h : i < x.length) : x.take (i + 1) = x.take i ++ [x[i]] := by
  rw [List.take_add_one, List.getElem?_eq_getElem h]
  rfl
theorem rd_at (x : List Int) (i : Nat) (h : i < x.length) : rd x (i : Int) = x[i] := by
  unfold rd
  rw [List.getD_eq_getElem?_getD, Int.toNat_natCast, List.getElem?_eq_getElem h]
  rfl
/-! ### Lists of texts -/
theorem str_eq {s t : ByteArray} : s.toList = t.toList ↔ s = t :=
  ⟨fun h => Go.WideShapes.bytes_inj (by rw [← ByteArray.toList_eq, ← ByteArray.toList_eq]; exact h), fun h => by rw [h]⟩
noncomputable abbrev decMem (s : ByteArray) (l : List ByteArray) : Decidable (s ∈ l) := Classical.propDecidable _
attribute [local instance] decMem
theorem rdS_at (x : List ByteArray) (i : Nat) (h : i < x.length) : rdOf ByteArray.empty x (i : Int) = x[i] := by
  unfold rdOf
  rw [List.getD_eq_getElem?_getD, Int.toNat_natCast, List.getElem?_eq_getElem h]
  rfl
theorem szStringS_loop (l : List ByteArray) (hl : l.length ≤ 1048576) (hs : ∀ s ∈ l, s.size ≤ maxLen) (d : Nat) : ∀ (i : Nat) (a : Int), 0 ≤ a → a ≤ 1048576 → l.length = i + d →
    ∃ r, Ev (fun k => laws_szStringS.l0 k l a (i : Int)) r ∧ r ≤ a ∧ -1 ≤ r := by
  induction d with
  | zero =>
    intro i a h0 h1 hd
    refine ⟨a, Ev.step (f := fun _ => some a) (fun k => ?_) (Ev.now _), by omega, by omega⟩
    simp only [laws_szStringS.l0]; rw [if_neg (by omega)]
  | succ d ih =>
    intro i a h0 h1 hd
    have hi : i < l.length := by omega
    have hz := hs _ (List.getElem_mem hi)
    have e : wrap64 (a - (l[i].size : Int)) = a - (l[i].size : Int) := by unfold maxLen at hz; unfold wrap64; omega
    by_cases c : a - (l[i].size : Int) < 0
    · refine ⟨-1, Ev.step (f := fun _ => some (-1)) (fun k => ?_) (Ev.now _), by omega, by omega⟩
      simp only [laws_szStringS.l0, rdS_at l i hi]
      rw [if_pos (by omega), if_pos (by omega), e, if_pos c]
    · obtain ⟨r, h, r1, r2⟩ := ih (i + 1) (a - (l[i].size : Int)) (by omega) (by omega) (by omega)
      refine ⟨r, Ev.step (fun k => ?_) h, by omega, r2⟩
      simp only [laws_szStringS.l0, rdS_at l i hi]
      rw [if_pos (by omega), if_pos (by omega), e, if_neg c, w64 i (by omega)]
theorem szStringS_ev (l : List ByteArray) (a : Int) (hl : l.length ≤ maxLen) (hs : ∀ s ∈ l, s.size ≤ maxLen) (h0 : 0 ≤ a) (h1 : a ≤ 1048576) :
    ∃ r, Ev (fun k => laws_szStringS.f k l a) r ∧ r ≤ a ∧ -1 ≤ r ∧ (0 ≤ r → l.length ≤ 1048576) := by
  have e : wrap64 (a - (l.length : Int)) = a - (l.length : Int) := by unfold maxLen at hl; unfold wrap64; omega
  by_cases c : a - (l.length : Int) < 0
  · refine ⟨-1, Ev.congr (fun k => ?_) (Ev.now _), by omega, by omega, by omega⟩
    unfold laws_szStringS.f; rw [e, if_pos c]
  · obtain ⟨r, h, r1, r2⟩ := szStringS_loop l (by omega) hs l.length 0 (a - (l.length : Int)) (by omega) (by omega) (by omega)
    refine ⟨r, Ev.congr (fun k => ?_) h, by omega, r2, fun _ => by omega⟩
    unfold laws_szStringS.f; rw [e, if_neg c]; rfl
theorem toStringS_loop (l : List ByteArray) (hl : l.length ≤ 1048576) (d : Nat) : ∀ (x : List ByteArray) (i : Nat), x.length = l.length → x.take i = l.take i → l.length = i + d → Ev (fun k => laws_toStringS.l0 k l x (i : Int)) l := by
  induction d with
  | zero =>
    intro x i hx ht hd
    refine Ev.step (f := fun _ => some l) (fun k => ?_) (Ev.now _)
    have e : x = l := by rw [List.take_of_length_le (by omega), List.take_of_length_le (by omega)] at ht; exact ht
    simp only [laws_toStringS.l0]
    rw [if_neg (by omega), e]
  | succ d ih =>
    intro x i hx ht hd
    have hi : i < l.length := by omega
    refine Ev.step (f := fun k => laws_toStringS.l0 k l (x.set i l[i]) ((i + 1 : Nat) : Int)) (fun k => ?_) (ih (x.set i l[i]) (i + 1) (by simpa using hx) ?_ (by omega))
    · simp only [laws_toStringS.l0]
      rw [if_pos (by omega), if_pos (by omega), if_pos (by omega), w64 i (by omega), rdS_at l i hi, Int.toNat_natCast]
    · rw [set_take x i _ (by omega), take_next l i hi, ht]
theorem toStringS_ev (l : List ByteArray) (hl : l.length ≤ 1048576) : Ev (fun k => laws_toStringS.f k l) l := by
  refine Ev.congr (f := fun k => laws_toStringS.l0 k l (List.replicate l.length (⟨#[]⟩ : ByteArray)) ((0 : Nat) : Int)) (fun k => ?_) (toStringS_loop l hl l.length _ 0 (by simp) rfl (by omega))
  unfold laws_toStringS.f
  rw [if_pos (by omega), if_pos (by rw [Int.toNat_natCast]; omega), Int.toNat_natCast]
  rfl
theorem eqStringS_loop (a : List ByteArray) (hl : a.length ≤ 1048576) (d : Nat) : ∀ (i : Nat), a.length = i + d → Ev (fun k => laws_eqStringS.l0 k a a (i : Int)) true := by
  induction d with
  | zero =>
    intro i hd
    refine Ev.step (f := fun _ => some true) (fun k => ?_) (Ev.now _)
    simp only [laws_eqStringS.l0]
    rw [if_neg (by omega)]
  | succ d ih =>
    intro i hd
    refine Ev.step (f := fun k => laws_eqStringS.l0 k a a ((i + 1 : Nat) : Int)) (fun k => ?_) (ih (i + 1) (by omega))
    simp only [laws_eqStringS.l0]
    rw [if_pos (by omega), if_pos (by omega), if_pos (by omega), w64 i (by omega)]
    simp only [if_true]
theorem eqStringS_ev (a : List ByteArray) (hl : a.length ≤ 1048576) : Ev (fun k => laws_eqStringS.f k a a) true := by
  refine Ev.congr (f := fun k => laws_eqStringS.l0 k a a ((0 : Nat) : Int)) (fun k => ?_) (eqStringS_loop a hl a.length 0 (by omega))
  unfold laws_eqStringS.f
  rw [if_pos rfl]
  rfl
/-! ### Queues: weighed, copied, compared -/
theorem szQueue_ev (m : Int) (l : List ByteArray) (a : Int) (hl : l.length ≤ maxLen) (hs : ∀ s ∈ l, s.size ≤ maxLen) (h0 : 0 ≤ a) (h1 : a ≤ 1048576) :
    ∃ r, Ev (fun k => laws_szQueue.f k m l a) r ∧ r ≤ a ∧ -1 ≤ r ∧ (0 ≤ r → l.length ≤ 1048576) := by
  obtain ⟨r, h, r1, r2, r3⟩ := szStringS_ev l a hl hs h0 h1
  refine ⟨r, ?_, r1, r2, r3⟩
  unfold laws_szQueue.f
  refine Ev.bind h ?_
  by_cases c : r < 0
  · simp only [if_pos c]
    rw [show r = -1 by omega]
    exact Ev.now _
  · simp only [if_neg c]; exact Ev.now _
theorem toQueue_ev (m : Int) (l : List ByteArray) (hl : l.length ≤ 1048576) : Ev (fun k => laws_toQueue.f k m l) (m, l) := by
  unfold laws_toQueue.f
  exact Ev.bind (toStringS_ev l hl) (Ev.now _)
theorem eqQueue_ev (m : Int) (l : List ByteArray) (hl : l.length ≤ 1048576) : Ev (fun k => laws_eqQueue.f k m l m l) true := by
  unfold laws_eqQueue.f
  simp only [if_true]
  refine Ev.bind (eqStringS_ev l hl) ?_
  simp only [if_true]
  exact Ev.now _
/-! ### The place of a text in a list -/
/-- The first place of s from place i on; -1 where it is not there. -/
def fi : List ByteArray → ByteArray → Nat → Int
  | [], _, _ => -1
  | a :: l, s, i => if s = a then (i : Int) else fi l s (i + 1)
theorem fi_neg (l : List ByteArray) (s : ByteArray) : ∀ i, s ∉ l → fi l s i = -1 := by
  induction l with
  | nil => intro i _; rfl
  | cons a l ih =>
    intro i h
    have h1 : s ≠ a := fun e => h (by rw [e]; exact List.mem_cons_self)
    unfold fi
    rw [if_neg h1]
    exact ih _ (fun h' => h (List.mem_cons_of_mem _ h'))
theorem fi_pos (l : List ByteArray) (s : ByteArray) : ∀ i, s ∈ l → ∃ j, ∃ h : j < l.length, l[j] = s ∧ s ∉ l.take j ∧ fi l s i = ((i + j : Nat) : Int) := by
  induction l with
  | nil => intro i h; cases h
  | cons a l ih =>
    intro i h
    unfold fi
    by_cases c : s = a
    · rw [if_pos c]
      exact ⟨0, by simp, by simp [c], by simp, rfl⟩
    · rw [if_neg c]
      have h' : s ∈ l := by
        rcases List.mem_cons.1 h with h | h
        · exact absurd h c
        · exact h
      obtain ⟨j, hj, e1, e2, e3⟩ := ih (i + 1) h'
      refine ⟨j + 1, by simpa using hj, by simpa using e1, ?_, by rw [e3]; congr 1; omega⟩
      rw [List.take_succ_cons]
      intro hm
      rcases List.mem_cons.1 hm with h | h
      · exact c h
      · exact e2 h
theorem drop_next {α : Type} (x : List α) (i : Nat) (h : i < x.length) : x.drop i = x[i] :: x.drop (i + 1) := List.drop_eq_getElem_cons h
theorem index_loop (l : List ByteArray) (s : ByteArray) (hl : l.length ≤ 1048576) (d : Nat) : ∀ (i : Nat), l.length = i + d → Ev (fun k => slices_Index_string_string.l0 k l s (l.length : Int) (i : Int)) (fi (l.drop i) s i) := by
  induction d with
  | zero =>
    intro i hd
    rw [List.drop_eq_nil_of_le (by omega)]
    refine Ev.step (f := fun _ => some (-1)) (fun k => ?_) (Ev.now _)
    simp only [slices_Index_string_string.l0]; rw [if_neg (by omega)]
  | succ d ih =>
    intro i hd
    have hi : i < l.length := by omega
    rw [drop_next l i hi]
    unfold fi
    by_cases c : s = l[i]
    · rw [if_pos c]
      refine Ev.step (f := fun _ => some (i : Int)) (fun k => ?_) (Ev.now _)
      simp only [slices_Index_string_string.l0, rdS_at l i hi]
      rw [if_pos (by omega), if_pos (by omega), if_pos (by omega), if_pos (str_eq.2 c)]
    · rw [if_neg c]
      refine Ev.step (fun k => ?_) (ih (i + 1) (by omega))
      simp only [slices_Index_string_string.l0, rdS_at l i hi]
      rw [if_pos (by omega), if_pos (by omega), if_pos (by omega), if_neg (fun h => c (str_eq.1 h)), w64 i (by omega)]
theorem index_ev (l : List ByteArray) (s : ByteArray) (hl : l.length ≤ 1048576) : Ev (fun k => slices_Index_string_string.f k l s) (fi l s 0) := index_loop l s hl l.length 0 (by omega)
theorem hasI_ev (m : Int) (l : List ByteArray) (s : ByteArray) (hl : l.length ≤ 1048576) : Ev (fun k => impl_HasKey.f k m l s) (decide (s ∈ l)) := by
  unfold impl_HasKey.f slices_Contains_string_string.f
  refine Ev.bind (Ev.bind (index_ev l s hl) (Ev.now _)) ?_
  refine Ev.congr (fun k => ?_) (Ev.now _)
  congr 1
  by_cases c : s ∈ l
  · obtain ⟨j, _, _, _, e⟩ := fi_pos l s 0 c
    rw [e, decide_eq_true c]
    simp
  · rw [fi_neg l s 0 c, decide_eq_false c]
    simp
theorem hasS_loop (m : Int) (l : List ByteArray) (s : ByteArray) (hl : l.length ≤ 1048576) (d : Nat) : ∀ (i : Nat), l.length = i + d → Ev (fun k => spec_HasKey.l0 k s (i : Int) m l) (decide (s ∈ l.drop i)) := by
  induction d with
  | zero =>
    intro i hd
    rw [List.drop_eq_nil_of_le (by omega)]
    refine Ev.step (f := fun _ => some false) (fun k => ?_) (Ev.congr (fun k => ?_) (Ev.now _))
    · simp only [spec_HasKey.l0]; rw [if_neg (by omega)]
    · simp
  | succ d ih =>
    intro i hd
    have hi : i < l.length := by omega
    by_cases c : l[i] = s
    · refine Ev.step (f := fun _ => some true) (fun k => ?_) (Ev.congr (fun k => ?_) (Ev.now _))
      · simp only [spec_HasKey.l0, rdS_at l i hi]
        rw [if_pos (by omega), if_pos (by omega), if_pos (str_eq.2 c)]
      · rw [drop_next l i hi, decide_eq_true (by rw [c]; exact List.mem_cons_self)]
    · have e : decide (s ∈ l.drop i) = decide (s ∈ l.drop (i + 1)) := by
        rw [drop_next l i hi]
        congr 1
        apply propext
        constructor
        · intro h
          rcases List.mem_cons.1 h with h | h
          · exact absurd h.symm c
          · exact h
        · exact List.mem_cons_of_mem _
      rw [e]
      refine Ev.step (fun k => ?_) (ih (i + 1) (by omega))
      simp only [spec_HasKey.l0, rdS_at l i hi]
      rw [if_pos (by omega), if_pos (by omega), if_neg (fun h => c (str_eq.1 h)), w64 i (by omega)]
theorem hasS_ev (m : Int) (l : List ByteArray) (s : ByteArray) (hl : l.length ≤ 1048576) : Ev (fun k => spec_HasKey.f k m l s) (decide (s ∈ l)) := hasS_loop m l s hl l.length 0 (by omega)

theorem FnExactHasKey : laws_FnExactHasKey.Ask := by
  intro m l s _ ⟨hl, hz⟩ _
  apply Ev.rounds (r := true) (g := fun k => laws_FnExactHasKey.f k m l s)
  unfold laws_FnExactHasKey.f
  by_cases hbig : (s.size : Int) > 1048576
  · simp only [if_pos hbig]; exact Ev.now true
  · simp only [if_neg hbig]
    obtain ⟨r, h, _, _, hr⟩ := szQueue_ev m l 1048576 hl hz (by omega) (by omega)
    refine Ev.bind h ?_
    by_cases c : r < 0
    · simp only [if_pos c]; exact Ev.now true
    · simp only [if_neg c]
      have hn := hr (by omega)
      have ht := toQueue_ev m l hn
      refine Ev.bind ht (Ev.bind (hasS_ev m l s hn) (Ev.bind ht (Ev.bind (hasI_ev m l s hn) ?_)))
      simp only [bne_self_eq_false, if_neg (show ¬ (false = true) by decide)]
      refine Ev.bind ht (Ev.bind (eqQueue_ev m l hn) ?_)
      simp only [if_true]
      exact Ev.now true

end Go.Proofs.Ytocgakpicmcemaa.Pure
