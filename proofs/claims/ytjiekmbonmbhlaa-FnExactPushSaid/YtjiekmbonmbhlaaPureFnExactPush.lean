/- The program's Push returns what the reference's returns, for all queues and keys. -/
import Derived.Test.YtjiekmbonmbhlaaAskFnExactPush
namespace Go.Proofs.Ytjiekmbonmbhlaa.Pure
open Go.RowKit Go.Proofs.Ytjiekmbonmbhlaa.GFnExactPush Go.Proofs.YtjiekmbonmbhlaaW.PrintWords Go.Proofs.YtjiekmbonmbhlaaW.PrintLast Go.Proofs.YtjiekmbonmbhlaaW.PrintMore
set_option linter.unusedVariables false
set_option linter.unusedSimpArgs false

/-! ### Lists that are copied, compared, marked -/
theorem w64 (i : Nat) (h : (i : Int) < 9223372036854775807) : wrap64 ((i : Int) + 1) = ((i + 1 : Nat) : Int) := by unfold wrap64; omega
theorem set_take {α : Type} (x : List α) (i : Nat) (v : α) (h : i < x.length) : (x.set i v).take (i + 1) = x.take i ++ [v] := by
  rw [List.take_add_one, List.take_set_of_le (Nat.le_refl i), List.getElem?_set_self h]
  rfl
theorem take_next {α : Type} (x : List α) (i : Nat) (h : i < x.length) : x.take (i + 1) = x.take i ++ [x[i]] := by
  rw [List.take_add_one, List.getElem?_eq_getElem h]
  rfl
theorem rd_at (x : List Int) (i : Nat) (h : i < x.length) : rd x (i : Int) = x[i] := by
  unfold rd
  rw [List.getD_eq_getElem?_getD, Int.toNat_natCast, List.getElem?_eq_getElem h]
  rfl
/-! ### Lists of texts -/
theorem str_eq {s t : ByteArray} : s.toList = t.toList ↔ s = t :=
  ⟨fun h => Go.WideShapes.bytes_inj (by rw [← ByteArray.toList_eq, ← ByteArray.toList_eq]; exact h), fun h => by rw [h]⟩
noncomputable abbrev decMem (s : ByteArray) (l : List ByteArray) : Decidable (s ∈ l) := Classical.propDecidable _
attribute [local instance] decMem
theorem rdS_at (x : List ByteArray) (i : Nat) (h : i < x.length) : rdOf ByteArray.empty x (i : Int) = x[i] := by
  unfold rdOf
  rw [List.getD_eq_getElem?_getD, Int.toNat_natCast, List.getElem?_eq_getElem h]
  rfl
theorem szStringS_loop (l : List ByteArray) (hl : l.length ≤ 1048576) (hs : ∀ s ∈ l, s.size ≤ maxLen) (d : Nat) : ∀ (i : Nat) (a : Int), 0 ≤ a → a ≤ 1048576 → l.length = i + d →
    ∃ r, Ev (fun k => laws_szStringS.l0 k l a (i : Int)) r ∧ r ≤ a ∧ -1 ≤ r := by
  induction d with
  | zero =>
    intro i a h0 h1 hd
    refine ⟨a, Ev.step (f := fun _ => some a) (fun k => ?_) (Ev.now _), by omega, by omega⟩
    simp only [laws_szStringS.l0]; rw [if_neg (by omega)]
  | succ d ih =>
    intro i a h0 h1 hd
    have hi : i < l.length := by omega
    have hz := hs _ (List.getElem_mem hi)
    have e : wrap64 (a - (l[i].size : Int)) = a - (l[i].size : Int) := by unfold maxLen at hz; unfold wrap64; omega
    by_cases c : a - (l[i].size : Int) < 0
    · refine ⟨-1, Ev.step (f := fun _ => some (-1)) (fun k => ?_) (Ev.now _), by omega, by omega⟩
      simp only [laws_szStringS.l0, rdS_at l i hi]
      rw [if_pos (by omega), if_pos (by omega), e, if_pos c]
    · obtain ⟨r, h, r1, r2⟩ := ih (i + 1) (a - (l[i].size : Int)) (by omega) (by omega) (by omega)
      refine ⟨r, Ev.step (fun k => ?_) h, by omega, r2⟩
      simp only [laws_szStringS.l0, rdS_at l i hi]
      rw [if_pos (by omega), if_pos (by omega), e, if_neg c, w64 i (by omega)]
theorem szStringS_ev (l : List ByteArray) (a : Int) (hl : l.length ≤ maxLen) (hs : ∀ s ∈ l, s.size ≤ maxLen) (h0 : 0 ≤ a) (h1 : a ≤ 1048576) :
    ∃ r, Ev (fun k => laws_szStringS.f k l a) r ∧ r ≤ a ∧ -1 ≤ r ∧ (0 ≤ r → l.length ≤ 1048576) := by
  have e : wrap64 (a - (l.length : Int)) = a - (l.length : Int) := by unfold maxLen at hl; unfold wrap64; omega
  by_cases c : a - (l.length : Int) < 0
  · refine ⟨-1, Ev.congr (fun k => ?_) (Ev.now _), by omega, by omega, by omega⟩
    unfold laws_szStringS.f; rw [e, if_pos c]
  · obtain ⟨r, h, r1, r2⟩ := szStringS_loop l (by omega) hs l.length 0 (a - (l.length : Int)) (by omega) (by omega) (by omega)
    refine ⟨r, Ev.congr (fun k => ?_) h, by omega, r2, fun _ => by omega⟩
    unfold laws_szStringS.f; rw [e, if_neg c]; rfl
theorem toStringS_loop (l : List ByteArray) (hl : l.length ≤ 1048576) (d : Nat) : ∀ (x : List ByteArray) (i : Nat), x.length = l.length → x.take i = l.take i → l.length = i + d → Ev (fun k => laws_toStringS.l0 k l x (i : Int)) l := by
  induction d with
  | zero =>
    intro x i hx ht hd
    refine Ev.step (f := fun _ => some l) (fun k => ?_) (Ev.now _)
    have e : x = l := by rw [List.take_of_length_le (by omega), List.take_of_length_le (by omega)] at ht; exact ht
    simp only [laws_toStringS.l0]
    rw [if_neg (by omega), e]
  | succ d ih =>
    intro x i hx ht hd
    have hi : i < l.length := by omega
    refine Ev.step (f := fun k => laws_toStringS.l0 k l (x.set i l[i]) ((i + 1 : Nat) : Int)) (fun k => ?_) (ih (x.set i l[i]) (i + 1) (by simpa using hx) ?_ (by omega))
    · simp only [laws_toStringS.l0]
      rw [if_pos (by omega), if_pos (by omega), if_pos (by omega), w64 i (by omega), rdS_at l i hi, Int.toNat_natCast]
    · rw [set_take x i _ (by omega), take_next l i hi, ht]
theorem toStringS_ev (l : List ByteArray) (hl : l.length ≤ 1048576) : Ev (fun k => laws_toStringS.f k l) l := by
  refine Ev.congr (f := fun k => laws_toStringS.l0 k l (List.replicate l.length (⟨#[]⟩ : ByteArray)) ((0 : Nat) : Int)) (fun k => ?_) (toStringS_loop l hl l.length _ 0 (by simp) rfl (by omega))
  unfold laws_toStringS.f
  rw [if_pos (by omega), if_pos (by rw [Int.toNat_natCast]; omega), Int.toNat_natCast]
  rfl
theorem eqStringS_loop (a : List ByteArray) (hl : a.length ≤ 1048576) (d : Nat) : ∀ (i : Nat), a.length = i + d → Ev (fun k => laws_eqStringS.l0 k a a (i : Int)) true := by
  induction d with
  | zero =>
    intro i hd
    refine Ev.step (f := fun _ => some true) (fun k => ?_) (Ev.now _)
    simp only [laws_eqStringS.l0]
    rw [if_neg (by omega)]
  | succ d ih =>
    intro i hd
    refine Ev.step (f := fun k => laws_eqStringS.l0 k a a ((i + 1 : Nat) : Int)) (fun k => ?_) (ih (i + 1) (by omega))
    simp only [laws_eqStringS.l0]
    rw [if_pos (by omega), if_pos (by omega), if_pos (by omega), w64 i (by omega)]
    simp only [if_true]
theorem eqStringS_ev (a : List ByteArray) (hl : a.length ≤ 1048576) : Ev (fun k => laws_eqStringS.f k a a) true := by
  refine Ev.congr (f := fun k => laws_eqStringS.l0 k a a ((0 : Nat) : Int)) (fun k => ?_) (eqStringS_loop a hl a.length 0 (by omega))
  unfold laws_eqStringS.f
  rw [if_pos rfl]
  rfl
theorem eqStringS_loop2 (a : List ByteArray) (hl : a.length ≤ 1048577) (d : Nat) : ∀ (i : Nat), a.length = i + d → Ev (fun k => laws_eqStringS.l0 k a a (i : Int)) true := by
  induction d with
  | zero =>
    intro i hd
    refine Ev.step (f := fun _ => some true) (fun k => ?_) (Ev.now _)
    simp only [laws_eqStringS.l0]
    rw [if_neg (by omega)]
  | succ d ih =>
    intro i hd
    refine Ev.step (f := fun k => laws_eqStringS.l0 k a a ((i + 1 : Nat) : Int)) (fun k => ?_) (ih (i + 1) (by omega))
    simp only [laws_eqStringS.l0]
    rw [if_pos (by omega), if_pos (by omega), if_pos (by omega), w64 i (by omega)]
    simp only [if_true]
theorem eqStringS_ev2 (a : List ByteArray) (hl : a.length ≤ 1048577) : Ev (fun k => laws_eqStringS.f k a a) true := by
  refine Ev.congr (f := fun k => laws_eqStringS.l0 k a a ((0 : Nat) : Int)) (fun k => ?_) (eqStringS_loop2 a hl a.length 0 (by omega))
  unfold laws_eqStringS.f
  rw [if_pos rfl]
  rfl
theorem eqQueue_ev2 (m : Int) (l : List ByteArray) (hl : l.length ≤ 1048577) : Ev (fun k => laws_eqQueue.f k m l m l) true := by
  unfold laws_eqQueue.f
  simp only [if_true]
  refine Ev.bind (eqStringS_ev2 l hl) ?_
  simp only [if_true]
  exact Ev.now _
/-! ### Texts that are marked -/
theorem nums_size (l : List Int) : (strOfNums l).size = l.length := by
  unfold strOfNums
  show (l.map fun n => UInt8.ofNat n.toNat).toArray.size = l.length
  simp
theorem markT_loop (N : Nat) : ∀ (n : Nat) (x : ByteArray), n ≤ N → n + x.size ≤ 1099511627776 → ∃ s, Ev (fun k => laws_markText.l0 k (n : Int) x) s := by
  induction N with
  | zero =>
    intro n x hn hx
    refine ⟨(⟨#[109]⟩ : ByteArray) ++ x, Ev.step (f := fun _ => some ((⟨#[109]⟩ : ByteArray) ++ x)) (fun k => ?_) (Ev.now _)⟩
    simp only [laws_markText.l0]
    rw [if_neg (by omega), if_pos (by omega)]
  | succ N ih =>
    intro n x hn hx
    by_cases h0 : n = 0
    · refine ⟨(⟨#[109]⟩ : ByteArray) ++ x, Ev.step (f := fun _ => some ((⟨#[109]⟩ : ByteArray) ++ x)) (fun k => ?_) (Ev.now _)⟩
      simp only [laws_markText.l0]
      rw [if_neg (by omega), if_pos (by omega)]
    · have ed : wrap64 (Int.tdiv (n : Int) 10) = ((n / 10 : Nat) : Int) := by
        rw [Int.tdiv_eq_ediv_of_nonneg (Int.natCast_nonneg _)]
        unfold wrap64; omega
      have hsz := nums_size [(wrap64 (48 + (Int.tmod (n : Int) 10))) % 256]
      have hap : (strOfNums [(wrap64 (48 + (Int.tmod (n : Int) 10))) % 256] ++ x).size = 1 + x.size := by rw [ByteArray.size_append, hsz]; rfl
      obtain ⟨s, hs⟩ := ih (n / 10) (strOfNums [(wrap64 (48 + (Int.tmod (n : Int) 10))) % 256] ++ x) (by omega) (by rw [hap]; omega)
      refine ⟨s, Ev.step (fun k => ?_) hs⟩
      simp only [laws_markText.l0, Option.bind_some]
      rw [if_pos (by omega), if_pos (by rw [hsz]; simp; omega), ed]
theorem markT_some (n : Int) (h0 : 0 ≤ n) (h1 : n ≤ 1073741824) : ∃ s, Ev (fun k => laws_markText.f k n) s := by
  by_cases c : n ≤ 0
  · refine ⟨(⟨#[109, 48]⟩ : ByteArray), Ev.congr (f := fun _ => some (⟨#[109, 48]⟩ : ByteArray)) (fun k => ?_) (Ev.now _)⟩
    unfold laws_markText.f
    rw [if_pos c]
  · obtain ⟨m, rfl⟩ := Int.eq_ofNat_of_zero_le h0
    obtain ⟨s, hs⟩ := markT_loop m m (⟨#[]⟩ : ByteArray) (Nat.le_refl _) (by show m + 0 ≤ _; omega)
    refine ⟨s, Ev.congr (fun k => ?_) hs⟩
    unfold laws_markText.f
    rw [if_neg c]
open Classical in
/-- The text of a number. -/
noncomputable def markT (n : Int) : ByteArray := if h : ∃ s, Ev (fun k => laws_markText.f k n) s then Classical.choose h else ByteArray.empty
theorem markT_ev (n : Int) (h0 : 0 ≤ n) (h1 : n ≤ 1073741824) : Ev (fun k => laws_markText.f k n) (markT n) := by
  unfold markT
  rw [dif_pos (markT_some n h0 h1)]
  exact Classical.choose_spec (markT_some n h0 h1)
/-- What stands behind the marking. -/
noncomputable def markedS (l : List ByteArray) (m : Int) : List ByteArray := (List.range l.length).map fun (i : Nat) => markT (m + (i : Int))
theorem markedS_len (l : List ByteArray) (m : Int) : (markedS l m).length = l.length := by simp [markedS]
theorem markStrS_loop (n : Nat) (m : Int) (h0 : 0 ≤ m) (h1 : m + n < 1073741824) (d : Nat) : ∀ (x : List ByteArray) (i : Nat), x.length = n → (∀ j, j < i → x[j]? = some (markT (m + (j : Int)))) → n = i + d →
    Ev (fun k => laws_markStringS.l0 k x (m + (i : Int)) (i : Int)) (m + (n : Int), (List.range n).map fun (i : Nat) => markT (m + (i : Int))) := by
  induction d with
  | zero =>
    intro x i hx ht hd
    refine Ev.step (f := fun _ => some (m + (n : Int), (List.range n).map fun (i : Nat) => markT (m + (i : Int)))) (fun k => ?_) (Ev.now _)
    have e : x = (List.range n).map fun (i : Nat) => markT (m + (i : Int)) := by
      apply List.ext_getElem?
      intro j
      by_cases hj : j < n
      · rw [ht j (by omega)]; simp [hj]
      · rw [List.getElem?_eq_none (by omega), List.getElem?_eq_none (by simp; omega)]
    simp only [laws_markStringS.l0]
    rw [if_neg (by omega), ← e]
    have : i = n := by omega
    subst this
    rfl
  | succ d ih =>
    intro x i hx ht hd
    have ht' := markT_ev (m + (i : Int)) (by omega) (by omega)
    refine Ev.step (f := fun k => (laws_markText.f k (m + (i : Int))).bind fun t159 => (if 0 ≤ (i : Int) then (laws_markStringS.l0 k (x.set ((i : Int) : Int).toNat t159) (wrap64 (m + (i : Int) + 1)) (wrap64 ((i : Int) + 1))) else (none))) (fun k => ?_) (Ev.bind ht' ?_)
    · simp only [laws_markStringS.l0]
      rw [if_pos (by omega)]
    · have e : wrap64 (m + (i : Int) + 1) = m + ((i + 1 : Nat) : Int) := by unfold wrap64; omega
      simp only [if_pos (show 0 ≤ (i : Int) by omega), e, w64 i (by omega), Int.toNat_natCast]
      refine ih (x.set i (markT (m + (i : Int)))) (i + 1) (by simpa using hx) ?_ (by omega)
      intro j hj
      by_cases c : j = i
      · subst c; rw [List.getElem?_set_self (by omega)]
      · rw [List.getElem?_set_ne (by omega)]; exact ht j (by omega)
theorem markQueue_ev (q : Int) (l : List ByteArray) (hl : l.length ≤ 1048577) : Ev (fun k => laws_markQueue.f k q l 1) (1 + (l.length : Int), markedS l 1) := by
  unfold laws_markQueue.f
  refine Ev.bind (a := (1 + (l.length : Int), markedS l 1)) ?_ (Ev.now _)
  exact markStrS_loop l.length 1 (by omega) (by omega) l.length l 0 rfl (fun j hj => absurd hj (by omega)) (by omega)
theorem heldStrS_loop (l : List ByteArray) (m : Int) (h0 : 0 ≤ m) (h1 : m + l.length < 1073741824) (d : Nat) : ∀ (i : Nat), l.length = i + d →
    Ev (fun k => laws_heldStringS.l0 k (markedS l m) (m + (i : Int)) (i : Int)) (m + (l.length : Int)) := by
  induction d with
  | zero =>
    intro i hd
    refine Ev.step (f := fun _ => some (m + (l.length : Int))) (fun k => ?_) (Ev.now _)
    simp only [laws_heldStringS.l0, markedS_len]
    rw [if_neg (by omega)]
    have : i = l.length := by omega
    subst this
    rfl
  | succ d ih =>
    intro i hd
    have ht' := markT_ev (m + (i : Int)) (by omega) (by omega)
    have e2 : rdOf ByteArray.empty (markedS l m) (i : Int) = markT (m + (i : Int)) := by
      rw [rdS_at _ i (by rw [markedS_len]; omega)]
      simp [markedS]
    refine Ev.step (f := fun k => (laws_markText.f k (m + (i : Int))).bind fun t165 => (if (markT (m + (i : Int))).toList = t165.toList then (laws_heldStringS.l0 k (markedS l m) (wrap64 (m + (i : Int) + 1)) (wrap64 ((i : Int) + 1))) else (some (-1)))) (fun k => ?_) (Ev.bind ht' ?_)
    · simp only [laws_heldStringS.l0, markedS_len, e2]
      rw [if_pos (by omega), if_pos (by omega)]
    · have e : wrap64 (m + (i : Int) + 1) = m + ((i + 1 : Nat) : Int) := by unfold wrap64; omega
      simp only [if_true, e, w64 i (by omega)]
      exact ih (i + 1) (by omega)
theorem heldQueue_ev (q : Int) (l : List ByteArray) (hl : l.length ≤ 1048577) : Ev (fun k => laws_heldQueue.f k q (markedS l 1) 1) (1 + (l.length : Int)) := by
  unfold laws_heldQueue.f
  refine Ev.bind (heldStrS_loop l 1 (by omega) (by omega) l.length 0 (by omega)) ?_
  simp only [if_neg (show ¬ (1 + (l.length : Int) < 0) by omega)]
  exact Ev.now _
/-! ### Queues: weighed, copied, compared -/
theorem szQueue_ev (m : Int) (l : List ByteArray) (a : Int) (hl : l.length ≤ maxLen) (hs : ∀ s ∈ l, s.size ≤ maxLen) (h0 : 0 ≤ a) (h1 : a ≤ 1048576) :
    ∃ r, Ev (fun k => laws_szQueue.f k m l a) r ∧ r ≤ a ∧ -1 ≤ r ∧ (0 ≤ r → l.length ≤ 1048576) := by
  obtain ⟨r, h, r1, r2, r3⟩ := szStringS_ev l a hl hs h0 h1
  refine ⟨r, ?_, r1, r2, r3⟩
  unfold laws_szQueue.f
  refine Ev.bind h ?_
  by_cases c : r < 0
  · simp only [if_pos c]
    rw [show r = -1 by omega]
    exact Ev.now _
  · simp only [if_neg c]; exact Ev.now _
theorem toQueue_ev (m : Int) (l : List ByteArray) (hl : l.length ≤ 1048576) : Ev (fun k => laws_toQueue.f k m l) (m, l) := by
  unfold laws_toQueue.f
  exact Ev.bind (toStringS_ev l hl) (Ev.now _)
theorem eqQueue_ev (m : Int) (l : List ByteArray) (hl : l.length ≤ 1048576) : Ev (fun k => laws_eqQueue.f k m l m l) true := by
  unfold laws_eqQueue.f
  simp only [if_true]
  refine Ev.bind (eqStringS_ev l hl) ?_
  simp only [if_true]
  exact Ev.now _
/-! ### The place of a text in a list -/
/-- The first place of s from place i on; -1 where it is not there. -/
def fi : List ByteArray → ByteArray → Nat → Int
  | [], _, _ => -1
  | a :: l, s, i => if s = a then (i : Int) else fi l s (i + 1)
theorem fi_neg (l : List ByteArray) (s : ByteArray) : ∀ i, s ∉ l → fi l s i = -1 := by
  induction l with
  | nil => intro i _; rfl
  | cons a l ih =>
    intro i h
    have h1 : s ≠ a := fun e => h (by rw [e]; exact List.mem_cons_self)
    unfold fi
    rw [if_neg h1]
    exact ih _ (fun h' => h (List.mem_cons_of_mem _ h'))
theorem fi_pos (l : List ByteArray) (s : ByteArray) : ∀ i, s ∈ l → ∃ j, ∃ h : j < l.length, l[j] = s ∧ s ∉ l.take j ∧ fi l s i = ((i + j : Nat) : Int) := by
  induction l with
  | nil => intro i h; cases h
  | cons a l ih =>
    intro i h
    unfold fi
    by_cases c : s = a
    · rw [if_pos c]
      exact ⟨0, by simp, by simp [c], by simp, rfl⟩
    · rw [if_neg c]
      have h' : s ∈ l := by
        rcases List.mem_cons.1 h with h | h
        · exact absurd h c
        · exact h
      obtain ⟨j, hj, e1, e2, e3⟩ := ih (i + 1) h'
      refine ⟨j + 1, by simpa using hj, by simpa using e1, ?_, by rw [e3]; congr 1; omega⟩
      rw [List.take_succ_cons]
      intro hm
      rcases List.mem_cons.1 hm with h | h
      · exact c h
      · exact e2 h
theorem drop_next {α : Type} (x : List α) (i : Nat) (h : i < x.length) : x.drop i = x[i] :: x.drop (i + 1) := List.drop_eq_getElem_cons h
theorem index_loop (l : List ByteArray) (s : ByteArray) (hl : l.length ≤ 1048576) (d : Nat) : ∀ (i : Nat), l.length = i + d → Ev (fun k => slices_Index_string_string.l0 k l s (l.length : Int) (i : Int)) (fi (l.drop i) s i) := by
  induction d with
  | zero =>
    intro i hd
    rw [List.drop_eq_nil_of_le (by omega)]
    refine Ev.step (f := fun _ => some (-1)) (fun k => ?_) (Ev.now _)
    simp only [slices_Index_string_string.l0]; rw [if_neg (by omega)]
  | succ d ih =>
    intro i hd
    have hi : i < l.length := by omega
    rw [drop_next l i hi]
    unfold fi
    by_cases c : s = l[i]
    · rw [if_pos c]
      refine Ev.step (f := fun _ => some (i : Int)) (fun k => ?_) (Ev.now _)
      simp only [slices_Index_string_string.l0, rdS_at l i hi]
      rw [if_pos (by omega), if_pos (by omega), if_pos (by omega), if_pos (str_eq.2 c)]
    · rw [if_neg c]
      refine Ev.step (fun k => ?_) (ih (i + 1) (by omega))
      simp only [slices_Index_string_string.l0, rdS_at l i hi]
      rw [if_pos (by omega), if_pos (by omega), if_pos (by omega), if_neg (fun h => c (str_eq.1 h)), w64 i (by omega)]
theorem index_ev (l : List ByteArray) (s : ByteArray) (hl : l.length ≤ 1048576) : Ev (fun k => slices_Index_string_string.f k l s) (fi l s 0) := index_loop l s hl l.length 0 (by omega)
/-! ### Right queues -/
/-- A key's length. -/
def isK (s : ByteArray) : Prop := 1 ≤ s.size ∧ s.size ≤ 12
/-- From place i on each is a key, and stands nowhere ahead. -/
def okFrom (l : List ByteArray) (i : Nat) : Prop := ∀ j, i ≤ j → ∀ h : j < l.length, isK l[j] ∧ l[j] ∉ l.take j
/-- A right queue. -/
def okQ (m : Int) (l : List ByteArray) : Prop := 0 ≤ m ∧ m ≤ 24 ∧ (l.length : Int) ≤ m ∧ okFrom l 0
theorem rangeI (a b c : Int) : impl_inRange.f a b c = some (decide (b ≤ a ∧ a ≤ c)) := by
  unfold impl_inRange.f
  by_cases h : a ≥ b
  · rw [if_pos h]; congr 1; rw [Bool.eq_iff_iff]; simp; omega
  · rw [if_neg h]; congr 1; rw [Bool.eq_iff_iff]; simp; omega
theorem keyI (s : ByteArray) : impl_isKey.f s = some (decide (1 ≤ (s.size : Int) ∧ (s.size : Int) ≤ 12)) := by unfold impl_isKey.f; rw [rangeI]; rfl
theorem okFrom_step {l : List ByteArray} {i : Nat} (hi : i < l.length) : okFrom l i ↔ (isK l[i] ∧ l[i] ∉ l.take i) ∧ okFrom l (i + 1) := by
  constructor
  · intro h
    exact ⟨h i (Nat.le_refl _) hi, fun j hj hl => h j (by omega) hl⟩
  · rintro ⟨h1, h2⟩ j hj hl
    by_cases e : i = j
    · subst e; exact h1
    · exact h2 j (by omega) hl
theorem okFrom_end {l : List ByteArray} {i : Nat} (hi : l.length ≤ i) : okFrom l i := fun j hj hl => absurd hl (by omega)
theorem fi_self (l : List ByteArray) (j : Nat) (h : j < l.length) : fi l l[j] 0 = (j : Int) ↔ l[j] ∉ l.take j := by
  obtain ⟨i, hi, e1, e2, e3⟩ := fi_pos l l[j] 0 (List.getElem_mem h)
  rw [e3]
  constructor
  · intro e
    have : i = j := by omega
    subst this
    exact e2
  · intro hn
    rcases Nat.lt_trichotomy i j with c | c | c
    · exact absurd (List.mem_take_iff_getElem.2 ⟨i, by omega, e1⟩) hn
    · subst c; simp
    · exact absurd (List.mem_take_iff_getElem.2 ⟨j, by omega, rfl⟩) e2
theorem okI_loop (m : Int) (l : List ByteArray) (hl : l.length ≤ 1048576) (d : Nat) : ∀ (i : Nat), l.length = i + d →
    ∃ b : Bool, Ev (fun k => impl_QueueOk.l0 k l (l.length : Int) (i : Int) m l) b ∧ (b = true ↔ (0 ≤ m ∧ m ≤ 24 ∧ (l.length : Int) ≤ m ∧ okFrom l i)) := by
  induction d with
  | zero =>
    intro i hd
    have ho : okFrom l i := okFrom_end (by omega)
    by_cases c : 0 ≤ m ∧ m ≤ 24
    · refine ⟨decide ((l.length : Int) ≤ m), Ev.step (f := fun _ => some (decide ((l.length : Int) ≤ m))) (fun k => ?_) (Ev.now _), by simp [c, ho]⟩
      simp only [impl_QueueOk.l0, rangeI, decide_eq_true c, Option.bind_some]
      rw [if_neg (by omega)]
      simp only [if_true]
    · refine ⟨false, Ev.step (f := fun _ => some false) (fun k => ?_) (Ev.now _), ?_⟩
      · simp only [impl_QueueOk.l0, rangeI, decide_eq_false c, Option.bind_some]
        rw [if_neg (by omega)]
        simp
      · simp only [Bool.false_eq_true, false_iff]
        rintro ⟨h1, h2, _⟩
        exact c ⟨h1, h2⟩
  | succ d ih =>
    intro i hd
    have hi : i < l.length := by omega
    obtain ⟨b, hb, hq⟩ := ih (i + 1) (by omega)
    have hx := index_ev l l[i] hl
    by_cases c : isK l[i]
    · have ck : decide (1 ≤ ((l[i].size : Nat) : Int) ∧ ((l[i].size : Nat) : Int) ≤ 12) = true := decide_eq_true (by unfold isK at c; omega)
      by_cases c2 : l[i] ∉ l.take i
      · refine ⟨b, Ev.step (f := fun k => (slices_Index_string_string.f k l l[i]).bind fun t132 => (if t132 = (i : Int) then (impl_QueueOk.l0 k l (l.length : Int) (wrap64 ((i : Int) + 1)) m l) else (some false))) (fun k => ?_) (Ev.bind hx ?_), ?_⟩
        · simp only [impl_QueueOk.l0, rdS_at l i hi, keyI, ck, Option.bind_some]
          rw [if_pos (by omega), if_pos (by omega), if_pos (by omega)]
          simp only [if_true]
        · simp only [if_pos ((fi_self l i hi).2 c2), w64 i (by omega)]
          exact hb
        · rw [hq, okFrom_step hi]
          simp only [c, c2, not_false_eq_true, and_self, true_and]
      · refine ⟨false, Ev.step (f := fun k => (slices_Index_string_string.f k l l[i]).bind fun t132 => (if t132 = (i : Int) then (impl_QueueOk.l0 k l (l.length : Int) (wrap64 ((i : Int) + 1)) m l) else (some false))) (fun k => ?_) (Ev.bind hx ?_), ?_⟩
        · simp only [impl_QueueOk.l0, rdS_at l i hi, keyI, ck, Option.bind_some]
          rw [if_pos (by omega), if_pos (by omega), if_pos (by omega)]
          simp only [if_true]
        · simp only [if_neg (fun e => c2 ((fi_self l i hi).1 e))]
          exact Ev.now _
        · simp only [Bool.false_eq_true, false_iff]
          rintro ⟨_, _, _, h⟩
          exact c2 ((okFrom_step hi).1 h).1.2
    · have ck : decide (1 ≤ ((l[i].size : Nat) : Int) ∧ ((l[i].size : Nat) : Int) ≤ 12) = false := decide_eq_false (by unfold isK at c; omega)
      refine ⟨false, Ev.step (f := fun _ => some false) (fun k => ?_) (Ev.now _), ?_⟩
      · simp only [impl_QueueOk.l0, rdS_at l i hi, keyI, ck, Option.bind_some]
        rw [if_pos (by omega), if_pos (by omega), if_pos (by omega)]
        simp
      · simp only [Bool.false_eq_true, false_iff]
        rintro ⟨_, _, _, h⟩
        exact c ((okFrom_step hi).1 h).1.1
theorem okI_ev (m : Int) (l : List ByteArray) (hl : l.length ≤ 1048576) : ∃ b : Bool, Ev (fun k => impl_QueueOk.f k m l) b ∧ (b = true ↔ okQ m l) := okI_loop m l hl l.length 0 (by omega)
theorem rangeS (a b c : Int) : spec_l01In.f a b c = some (decide (b ≤ a ∧ a ≤ c)) := rangeI a b c
theorem okS_inner (m : Int) (l : List ByteArray) (hl : l.length ≤ 1048576) (i : Nat) (hi : i < l.length) (b : Bool) (hb : Ev (fun k => spec_QueueOk.l0 k ((i + 1 : Nat) : Int) m l) b) (d : Nat) : ∀ (c : Nat), i = c + d → l[i] ∉ l.take c →
    ∃ r : Bool, Ev (fun k => spec_QueueOk.l1 k (i : Int) (c : Int) m l) r ∧ (r = true ↔ (l[i] ∉ l.take i ∧ b = true)) := by
  induction d with
  | zero =>
    intro c hd hn
    obtain rfl : i = c := by omega
    refine ⟨b, Ev.step (fun k => ?_) hb, by simp [hn]⟩
    simp only [spec_QueueOk.l1]
    rw [if_neg (by omega), w64 i (by omega)]
  | succ d ih =>
    intro c hd hn
    have hc : c < l.length := by omega
    by_cases e : l[c] = l[i]
    · refine ⟨false, Ev.step (f := fun _ => some false) (fun k => ?_) (Ev.now _), ?_⟩
      · simp only [spec_QueueOk.l1, rdS_at l i hi, rdS_at l c hc]
        rw [if_pos (by omega), if_pos (by omega), if_pos (by omega), if_pos (by omega), if_pos (by omega), if_pos (str_eq.2 e)]
      · simp only [Bool.false_eq_true, false_iff]
        rintro ⟨h, _⟩
        exact h (List.mem_take_iff_getElem.2 ⟨c, by omega, e⟩)
    · obtain ⟨r, hr, hq⟩ := ih (c + 1) (by omega) (by
        rw [take_next l c hc]
        intro h
        rcases List.mem_append.1 h with h | h
        · exact hn h
        · exact e (List.mem_singleton.1 h).symm)
      refine ⟨r, Ev.step (fun k => ?_) hr, hq⟩
      simp only [spec_QueueOk.l1, rdS_at l i hi, rdS_at l c hc]
      rw [if_pos (by omega), if_pos (by omega), if_pos (by omega), if_pos (by omega), if_pos (by omega), if_neg (fun h => e (str_eq.1 h)), w64 c (by omega)]
theorem okS_loop (m : Int) (l : List ByteArray) (hl : l.length ≤ 1048576) (d : Nat) : ∀ (i : Nat), l.length = i + d →
    ∃ b : Bool, Ev (fun k => spec_QueueOk.l0 k (i : Int) m l) b ∧ (b = true ↔ okFrom l i) := by
  induction d with
  | zero =>
    intro i hd
    refine ⟨true, Ev.step (f := fun _ => some true) (fun k => ?_) (Ev.now _), by simp [okFrom_end (show l.length ≤ i by omega)]⟩
    simp only [spec_QueueOk.l0]
    rw [if_neg (by omega)]
  | succ d ih =>
    intro i hd
    have hi : i < l.length := by omega
    obtain ⟨b, hb, hq⟩ := ih (i + 1) (by omega)
    by_cases c : isK l[i]
    · have ck : decide (1 ≤ ((l[i].size : Nat) : Int) ∧ ((l[i].size : Nat) : Int) ≤ 12) = true := decide_eq_true (by unfold isK at c; omega)
      obtain ⟨r, hr, hrq⟩ := okS_inner m l hl i hi b hb i 0 (by omega) (by simp)
      refine ⟨r, Ev.step (fun k => ?_) hr, ?_⟩
      · simp only [spec_QueueOk.l0, rdS_at l i hi, rangeS, ck, Option.bind_some]
        rw [if_pos (by omega), if_pos (by omega)]
        simp only [if_true]
        rfl
      · rw [hrq, hq, okFrom_step hi]
        simp only [c, true_and]
    · have ck : decide (1 ≤ ((l[i].size : Nat) : Int) ∧ ((l[i].size : Nat) : Int) ≤ 12) = false := decide_eq_false (by unfold isK at c; omega)
      refine ⟨false, Ev.step (f := fun _ => some false) (fun k => ?_) (Ev.now _), ?_⟩
      · simp only [spec_QueueOk.l0, rdS_at l i hi, rangeS, ck, Option.bind_some]
        rw [if_pos (by omega), if_pos (by omega)]
        simp
      · simp only [Bool.false_eq_true, false_iff]
        intro h
        exact c ((okFrom_step hi).1 h).1.1
theorem okS_ev (m : Int) (l : List ByteArray) (hl : l.length ≤ 1048576) : ∃ b : Bool, Ev (fun k => spec_QueueOk.f k m l) b ∧ (b = true ↔ okQ m l) := by
  unfold okQ
  have no : (¬ (0 ≤ m ∧ m ≤ 24 ∧ (l.length : Int) ≤ m)) → Ev (fun k => spec_QueueOk.j0 k true m l) false := by
    intro _
    refine Ev.step (f := fun _ => some false) (fun k => ?_) (Ev.now _)
    simp only [spec_QueueOk.j0, if_true]
  by_cases c : 0 ≤ m ∧ m ≤ 24
  · by_cases c2 : (l.length : Int) ≤ m
    · obtain ⟨b, hb, hq⟩ := okS_loop m l hl l.length 0 (by omega)
      refine ⟨b, Ev.congr (f := fun k => spec_QueueOk.j0 k false m l) (fun k => ?_) (Ev.step (fun k => ?_) hb), by rw [hq]; simp [c, c2]⟩
      · unfold spec_QueueOk.f
        simp only [rangeS, decide_eq_true c, Option.bind_some, if_true, decide_eq_false (show ¬ (l.length : Int) > m by omega)]
      · simp only [spec_QueueOk.j0, if_neg (show ¬ (false = true) by decide)]
        rfl
    · refine ⟨false, Ev.congr (fun k => ?_) (no (by omega)), by simp; omega⟩
      unfold spec_QueueOk.f
      simp only [rangeS, decide_eq_true c, Option.bind_some, if_true, decide_eq_true (show (l.length : Int) > m by omega)]
  · refine ⟨false, Ev.congr (fun k => ?_) (no (by omega)), by simp; omega⟩
    unfold spec_QueueOk.f
    simp only [rangeS, decide_eq_false c, Option.bind_some, if_neg (show ¬ (false = true) by decide)]
theorem hasS_loop (m : Int) (l : List ByteArray) (s : ByteArray) (hl : l.length ≤ 1048576) (d : Nat) : ∀ (i : Nat), l.length = i + d → Ev (fun k => spec_HasKey.l0 k s (i : Int) m l) (decide (s ∈ l.drop i)) := by
  induction d with
  | zero =>
    intro i hd
    rw [List.drop_eq_nil_of_le (by omega)]
    refine Ev.step (f := fun _ => some false) (fun k => ?_) (Ev.congr (fun k => ?_) (Ev.now _))
    · simp only [spec_HasKey.l0]; rw [if_neg (by omega)]
    · simp
  | succ d ih =>
    intro i hd
    have hi : i < l.length := by omega
    by_cases c : l[i] = s
    · refine Ev.step (f := fun _ => some true) (fun k => ?_) (Ev.congr (fun k => ?_) (Ev.now _))
      · simp only [spec_HasKey.l0, rdS_at l i hi]
        rw [if_pos (by omega), if_pos (by omega), if_pos (str_eq.2 c)]
      · rw [drop_next l i hi, decide_eq_true (by rw [c]; exact List.mem_cons_self)]
    · have e : decide (s ∈ l.drop i) = decide (s ∈ l.drop (i + 1)) := by
        rw [drop_next l i hi]
        congr 1
        apply propext
        constructor
        · intro h
          rcases List.mem_cons.1 h with h | h
          · exact absurd h.symm c
          · exact h
        · exact List.mem_cons_of_mem _
      rw [e]
      refine Ev.step (fun k => ?_) (ih (i + 1) (by omega))
      simp only [spec_HasKey.l0, rdS_at l i hi]
      rw [if_pos (by omega), if_pos (by omega), if_neg (fun h => c (str_eq.1 h)), w64 i (by omega)]
theorem hasS_ev (m : Int) (l : List ByteArray) (s : ByteArray) (hl : l.length ≤ 1048576) : Ev (fun k => spec_HasKey.f k m l s) (decide (s ∈ l)) := hasS_loop m l s hl l.length 0 (by omega)
theorem hasI_ev (m : Int) (l : List ByteArray) (s : ByteArray) (hl : l.length ≤ 1048576) : Ev (fun k => impl_HasKey.f k m l s) (decide (s ∈ l)) := by
  unfold impl_HasKey.f slices_Contains_string_string.f
  refine Ev.bind (Ev.bind (index_ev l s hl) (Ev.now _)) ?_
  refine Ev.congr (fun k => ?_) (Ev.now _)
  congr 1
  by_cases c : s ∈ l
  · obtain ⟨j, _, _, _, e⟩ := fi_pos l s 0 c
    rw [e, decide_eq_true c]
    simp
  · rw [fi_neg l s 0 c, decide_eq_false c]
    simp
theorem copyQ (m : Int) (l : List ByteArray) (hl : l.length ≤ 1048577) : impl_copyQueue.f m l = some (m, l) := by
  unfold impl_copyQueue.f slices_Clone_string_string.f
  rw [if_pos (by omega)]
  rfl
/-- What is left of a queue that a key is pushed into, and what is left out. -/
def pushL (m : Int) (l : List ByteArray) (s : ByteArray) : List ByteArray := if (l.length : Int) < m then s :: l else (s :: l).take l.length
def pushO (m : Int) (l : List ByteArray) (s : ByteArray) : ByteArray := if (l.length : Int) < m then ⟨#[]⟩ else (s :: l).getD l.length ByteArray.empty
theorem l01S (a b c : Int) : spec_l01In.f a b c = some (decide (b ≤ a ∧ a ≤ c)) := by
  unfold spec_l01In.f
  by_cases h : a ≥ b
  · rw [if_pos h]; congr 1; rw [Bool.eq_iff_iff]; simp; omega
  · rw [if_neg h]; congr 1; rw [Bool.eq_iff_iff]; simp; omega
theorem pushS_true (m : Int) (l : List ByteArray) (s : ByteArray) : Ev (fun k => spec_Push.j0 k s true m l) (0, [], ⟨#[]⟩, false) := by
  refine Ev.step (f := fun _ => some (0, [], ⟨#[]⟩, false)) (fun k => ?_) (Ev.now _)
  simp only [spec_Push.j0, if_true]
theorem pushS_false (m : Int) (l : List ByteArray) (s : ByteArray) (hl : l.length ≤ 1048576) (hm : (l.length : Int) ≤ m) (h0 : m ≠ 0) : Ev (fun k => spec_Push.j0 k s false m l) (m, pushL m l s, pushO m l s, true) := by
  refine Ev.step (f := fun _ => some (m, pushL m l s, pushO m l s, true)) (fun k => ?_) (Ev.now _)
  simp only [spec_Push.j0, Option.bind_some, List.singleton_append, List.nil_append, List.length_cons, List.length_nil, Bool.false_eq_true, if_false]
  have e : wrap64 (((l.length + 1 : Nat) : Int) - 1) = (l.length : Int) := by unfold wrap64; omega
  rw [if_pos (by omega), e]
  unfold pushL pushO
  by_cases c : (l.length : Int) < m
  · rw [if_pos c, if_pos c, if_neg (by omega), if_pos (by omega)]
  · rw [if_neg c, if_neg c, if_pos (by omega), if_pos (by omega), if_pos (by omega), if_pos (by omega), Int.toNat_natCast, if_pos (by simp only [List.length_take, List.length_cons]; omega)]
    rfl
theorem same_res (m : Int) (l : List ByteArray) (s : ByteArray) (hl : l.length ≤ 1048576) :
    ∃ r : Int × List ByteArray × ByteArray × Bool, Ev (fun k => impl_Push.f k m l s) r ∧ Ev (fun k => spec_Push.f k m l s) r ∧ r.2.1.length ≤ 1048577 := by
  obtain ⟨b, hb, hq⟩ := okI_ev m l hl
  obtain ⟨b', hb', hq'⟩ := okS_ev m l hl
  have hbb : b' = b := by
    cases b <;> cases b' <;> simp_all
  subst hbb
  have hhasS := hasS_ev m l s hl
  have hhasI := hasI_ev m l s hl
  unfold impl_Push.f spec_Push.f
  rw [keyI]
  simp only [l01S, Option.bind_some]
  have bad : ¬ (b' = true ∧ (1 ≤ (s.size : Int) ∧ (s.size : Int) ≤ 12) ∧ s ∉ l ∧ m ≠ 0) → ∃ r : Int × List ByteArray × ByteArray × Bool,
      Ev (fun k => if m = 0 then some (0, [], ⟨#[]⟩, false) else if (decide (1 ≤ (s.size : Int) ∧ (s.size : Int) ≤ 12)) = true then ((impl_HasKey.f k m l s).bind fun b => if b = true then some (0, [], ⟨#[]⟩, false) else ((impl_QueueOk.f k m l).bind fun c => if c = true then ((impl_copyQueue.f m l).bind fun t => if t.2.length ≤ 1048575 then ((impl_copyQueue.f t.1 (if (t.2.length : Int) < t.1 then s :: t.2 else (s :: t.2).take t.2.length)).bind fun u => some (u.1, u.2, (if (t.2.length : Int) < t.1 then ⟨#[]⟩ else (s :: t.2).getD t.2.length ByteArray.empty), true)) else none) else some (0, [], ⟨#[]⟩, false))) else some (0, [], ⟨#[]⟩, false)) r ∧
      Ev (fun k => (spec_QueueOk.f k m l).bind fun t142 => (if t142 = true then (if (decide (1 ≤ (s.size : Int) ∧ (s.size : Int) ≤ 12)) = true then ((spec_HasKey.f k m l s).bind fun t144 => (if t144 = true then (spec_Push.j0 k s true m l) else (spec_Push.j0 k s (m == 0) m l))) else (spec_Push.j0 k s true m l)) else (spec_Push.j0 k s true m l))) r ∧ r.2.1.length ≤ 1048577 := by
    intro hbad
    refine ⟨(0, [], ⟨#[]⟩, false), ?_, ?_, by simp⟩
    · by_cases h0 : m = 0
      · simp only [if_pos h0]; exact Ev.now _
      · simp only [if_neg h0]
        by_cases hk : 1 ≤ (s.size : Int) ∧ (s.size : Int) ≤ 12
        · simp only [if_pos (decide_eq_true hk)]
          by_cases hs : s ∈ l
          · rw [decide_eq_true hs] at hhasI
            refine Ev.bind hhasI ?_
            simp only [if_true]; exact Ev.now _
          · rw [decide_eq_false hs] at hhasI
            refine Ev.bind hhasI ?_
            simp only [Bool.false_eq_true, if_false]
            refine Ev.bind hb ?_
            cases b' with
            | false => simp only [Bool.false_eq_true, if_false]; exact Ev.now _
            | true => exact absurd ⟨rfl, hk, hs, h0⟩ hbad
        · simp only [if_neg (show ¬ (decide (1 ≤ (s.size : Int) ∧ (s.size : Int) ≤ 12) = true) from fun e => hk (of_decide_eq_true e))]; exact Ev.now _
    · refine Ev.bind hb' ?_
      cases b' with
      | false => simp only [Bool.false_eq_true, if_false]; exact pushS_true m l s
      | true =>
        simp only [if_true]
        by_cases hk : 1 ≤ (s.size : Int) ∧ (s.size : Int) ≤ 12
        · simp only [if_pos (decide_eq_true hk)]
          by_cases hs : s ∈ l
          · rw [decide_eq_true hs] at hhasS
            refine Ev.bind hhasS ?_
            simp only [if_true]; exact pushS_true m l s
          · rw [decide_eq_false hs] at hhasS
            refine Ev.bind hhasS ?_
            simp only [Bool.false_eq_true, if_false]
            by_cases h0 : m = 0
            · rw [show (m == 0) = true by rw [h0]; rfl]; exact pushS_true m l s
            · exact absurd ⟨rfl, hk, hs, h0⟩ hbad
        · simp only [if_neg (show ¬ (decide (1 ≤ (s.size : Int) ∧ (s.size : Int) ≤ 12) = true) from fun e => hk (of_decide_eq_true e))]; exact pushS_true m l s
  by_cases good : b' = true ∧ (1 ≤ (s.size : Int) ∧ (s.size : Int) ≤ 12) ∧ s ∉ l ∧ m ≠ 0
  · obtain ⟨rfl, hk, hs, h0⟩ := good
    have hQ := hq.1 rfl
    have hm := hQ.2.2.1
    have hm24 := hQ.2.1
    rw [decide_eq_false hs] at hhasI hhasS
    have hlen : (pushL m l s).length ≤ 1048577 := by
      unfold pushL
      split
      · simp only [List.length_cons]; omega
      · simp only [List.length_take, List.length_cons]; omega
    refine ⟨(m, pushL m l s, pushO m l s, true), ?_, ?_, hlen⟩
    · simp only [if_neg h0, if_pos (decide_eq_true hk)]
      refine Ev.bind hhasI ?_
      simp only [Bool.false_eq_true, if_false]
      refine Ev.bind hb ?_
      simp only [if_true, copyQ m l (by omega), Option.bind_some]
      rw [if_pos (by omega)]
      have hc := copyQ m (pushL m l s) hlen
      unfold pushL at hc
      rw [hc]
      exact Ev.now _
    · refine Ev.bind hb' ?_
      simp only [if_true, if_pos (decide_eq_true hk)]
      refine Ev.bind hhasS ?_
      simp only [Bool.false_eq_true, if_false]
      rw [show (m == 0) = false by simpa using h0]
      exact pushS_false m l s hl hm h0
  · exact bad good

theorem FnExactPush : laws_FnExactPush.Ask := by
  intro m l s _ ⟨hl, hz⟩ _
  apply Ev.rounds (r := true) (g := fun k => laws_FnExactPush.f k m l s)
  unfold laws_FnExactPush.f
  by_cases hbig : (s.size : Int) > 1048576
  · simp only [if_pos hbig]; exact Ev.now true
  · simp only [if_neg hbig]
    obtain ⟨r, h, _, _, hr⟩ := szQueue_ev m l 1048576 hl hz (by omega) (by omega)
    refine Ev.bind h ?_
    by_cases c : r < 0
    · simp only [if_pos c]; exact Ev.now true
    · simp only [if_neg c]
      have hn := hr (by omega)
      have ht := toQueue_ev m l hn
      obtain ⟨⟨q1, q2, q3, q4⟩, hI, hS, hlen⟩ := same_res m l s hn
      have hlen' : q2.length ≤ 1048577 := hlen
      have he := eqQueue_ev2 q1 q2 hlen'
      refine Ev.bind ht (Ev.bind hS (Ev.bind ht (Ev.bind hI (Ev.bind he ?_))))
      simp only [if_true, bne_self_eq_false, eq_self]
      refine Ev.step (fun k => by simp only [laws_FnExactPush.j0]; rw [if_neg (by simp)]) ?_
      refine Ev.bind ht (Ev.bind (eqQueue_ev2 m l (by omega)) ?_)
      simp only [if_true]
      refine Ev.bind (markQueue_ev m l (by omega)) ?_
      simp only [if_neg (show ¬ (1 + (l.length : Int) < 0) by omega)]
      refine Ev.bind he ?_
      simp only [if_true, bne_self_eq_false, eq_self]
      refine Ev.step (fun k => by simp only [laws_FnExactPush.j1]; rw [if_neg (by simp)]) ?_
      refine Ev.bind (markQueue_ev q1 q2 hlen') (Ev.bind (heldQueue_ev q1 q2 hlen') ?_)
      simp only [if_neg (show ¬ (1 + (q2.length : Int) < 0) by omega), if_true]
      refine Ev.bind ht (Ev.bind hI (Ev.bind he ?_))
      simp only [if_true, bne_self_eq_false, eq_self]
      refine Ev.step (fun k => by simp only [laws_FnExactPush.j2]; rw [if_neg (by simp)]) ?_
      refine Ev.bind (heldQueue_ev q1 q2 hlen') ?_
      simp only [if_neg (show ¬ (1 + (q2.length : Int) < 0) by omega), if_true]
      exact Ev.now true

end Go.Proofs.Ytjiekmbonmbhlaa.Pure
