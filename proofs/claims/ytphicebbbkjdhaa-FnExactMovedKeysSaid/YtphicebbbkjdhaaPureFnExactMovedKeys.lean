/- The program's MovedKeys and the reference's are one list, for all arguments. -/
import Derived.Test.YtphicebbbkjdhaaAskFnExactMovedKeys
namespace Go.Proofs.Ytphicebbbkjdhaa.Pure
open Go.RowKit Go.Proofs.Ytphicebbbkjdhaa.GFnExactMovedKeys Go.Proofs.YtphicebbbkjdhaaW.PrintWords Go.Proofs.YtphicebbbkjdhaaW.PrintLast Go.Proofs.YtphicebbbkjdhaaW.PrintMore
set_option linter.unusedVariables false
set_option linter.unusedSimpArgs false

/-! ### Lists that are copied, compared, marked -/
theorem w64 (i : Nat) (h : (i : Int) < 9223372036854775807) : wrap64 ((i : Int) + 1) = ((i + 1 : Nat) : Int) := by unfold wrap64; omega
theorem set_take {α : Type} (x : List α) (i : Nat) (v : α) (h : i < x.length) : (x.set i v).take (i + 1) = x.take i ++ [v] := by
  rw [List.take_add_one, List.take_set_of_le (Nat.le_refl i), List.getElem?_set_self h]
  rfl
theorem take_next {α : Type} (x : List α) (i : Nat) (h : i < x.length) : x.take (i + 1) = x.take i ++ [x[i]] := by
  rw [List.take_add_one, List.getElem?_eq_getElem h]
  rfl
theorem rd_at (x : List Int) (i : Nat) (h : i < x.length) : rd x (i : Int) = x[i] := by
  unfold rd
  rw [List.getD_eq_getElem?_getD, Int.toNat_natCast, List.getElem?_eq_getElem h]
  rfl
/-! ### Lists of texts -/
theorem str_eq {s t : ByteArray} : s.toList = t.toList ↔ s = t :=
  ⟨fun h => Go.WideShapes.bytes_inj (by rw [← ByteArray.toList_eq, ← ByteArray.toList_eq]; exact h), fun h => by rw [h]⟩
noncomputable abbrev decMem (s : ByteArray) (l : List ByteArray) : Decidable (s ∈ l) := Classical.propDecidable _
attribute [local instance] decMem
theorem rdS_at (x : List ByteArray) (i : Nat) (h : i < x.length) : rdOf ByteArray.empty x (i : Int) = x[i] := by
  unfold rdOf
  rw [List.getD_eq_getElem?_getD, Int.toNat_natCast, List.getElem?_eq_getElem h]
  rfl
theorem szStringS_loop (l : List ByteArray) (hl : l.length ≤ 1048576) (hs : ∀ s ∈ l, s.size ≤ maxLen) (d : Nat) : ∀ (i : Nat) (a : Int), 0 ≤ a → a ≤ 1048576 → l.length = i + d →
    ∃ r, Ev (fun k => laws_szStringS.l0 k l a (i : Int)) r ∧ r ≤ a ∧ -1 ≤ r := by
  induction d with
  | zero =>
    intro i a h0 h1 hd
    refine ⟨a, Ev.step (f := fun _ => some a) (fun k => ?_) (Ev.now _), by omega, by omega⟩
    simp only [laws_szStringS.l0]; rw [if_neg (by omega)]
  | succ d ih =>
    intro i a h0 h1 hd
    have hi : i < l.length := by omega
    have hz := hs _ (List.getElem_mem hi)
    have e : wrap64 (a - (l[i].size : Int)) = a - (l[i].size : Int) := by unfold maxLen at hz; unfold wrap64; omega
    by_cases c : a - (l[i].size : Int) < 0
    · refine ⟨-1, Ev.step (f := fun _ => some (-1)) (fun k => ?_) (Ev.now _), by omega, by omega⟩
      simp only [laws_szStringS.l0, rdS_at l i hi]
      rw [if_pos (by omega), if_pos (by omega), e, if_pos c]
    · obtain ⟨r, h, r1, r2⟩ := ih (i + 1) (a - (l[i].size : Int)) (by omega) (by omega) (by omega)
      refine ⟨r, Ev.step (fun k => ?_) h, by omega, r2⟩
      simp only [laws_szStringS.l0, rdS_at l i hi]
      rw [if_pos (by omega), if_pos (by omega), e, if_neg c, w64 i (by omega)]
theorem szStringS_ev (l : List ByteArray) (a : Int) (hl : l.length ≤ maxLen) (hs : ∀ s ∈ l, s.size ≤ maxLen) (h0 : 0 ≤ a) (h1 : a ≤ 1048576) :
    ∃ r, Ev (fun k => laws_szStringS.f k l a) r ∧ r ≤ a ∧ -1 ≤ r ∧ (0 ≤ r → l.length ≤ 1048576) := by
  have e : wrap64 (a - (l.length : Int)) = a - (l.length : Int) := by unfold maxLen at hl; unfold wrap64; omega
  by_cases c : a - (l.length : Int) < 0
  · refine ⟨-1, Ev.congr (fun k => ?_) (Ev.now _), by omega, by omega, by omega⟩
    unfold laws_szStringS.f; rw [e, if_pos c]
  · obtain ⟨r, h, r1, r2⟩ := szStringS_loop l (by omega) hs l.length 0 (a - (l.length : Int)) (by omega) (by omega) (by omega)
    refine ⟨r, Ev.congr (fun k => ?_) h, by omega, r2, fun _ => by omega⟩
    unfold laws_szStringS.f; rw [e, if_neg c]; rfl
theorem toStringS_loop (l : List ByteArray) (hl : l.length ≤ 1048576) (d : Nat) : ∀ (x : List ByteArray) (i : Nat), x.length = l.length → x.take i = l.take i → l.length = i + d → Ev (fun k => laws_toStringS.l0 k l x (i : Int)) l := by
  induction d with
  | zero =>
    intro x i hx ht hd
    refine Ev.step (f := fun _ => some l) (fun k => ?_) (Ev.now _)
    have e : x = l := by rw [List.take_of_length_le (by omega), List.take_of_length_le (by omega)] at ht; exact ht
    simp only [laws_toStringS.l0]
    rw [if_neg (by omega), e]
  | succ d ih =>
    intro x i hx ht hd
    have hi : i < l.length := by omega
    refine Ev.step (f := fun k => laws_toStringS.l0 k l (x.set i l[i]) ((i + 1 : Nat) : Int)) (fun k => ?_) (ih (x.set i l[i]) (i + 1) (by simpa using hx) ?_ (by omega))
    · simp only [laws_toStringS.l0]
      rw [if_pos (by omega), if_pos (by omega), if_pos (by omega), w64 i (by omega), rdS_at l i hi, Int.toNat_natCast]
    · rw [set_take x i _ (by omega), take_next l i hi, ht]
theorem toStringS_ev (l : List ByteArray) (hl : l.length ≤ 1048576) : Ev (fun k => laws_toStringS.f k l) l := by
  refine Ev.congr (f := fun k => laws_toStringS.l0 k l (List.replicate l.length (⟨#[]⟩ : ByteArray)) ((0 : Nat) : Int)) (fun k => ?_) (toStringS_loop l hl l.length _ 0 (by simp) rfl (by omega))
  unfold laws_toStringS.f
  rw [if_pos (by omega), if_pos (by rw [Int.toNat_natCast]; omega), Int.toNat_natCast]
  rfl
theorem eqStringS_loop (a : List ByteArray) (hl : a.length ≤ 1048576) (d : Nat) : ∀ (i : Nat), a.length = i + d → Ev (fun k => laws_eqStringS.l0 k a a (i : Int)) true := by
  induction d with
  | zero =>
    intro i hd
    refine Ev.step (f := fun _ => some true) (fun k => ?_) (Ev.now _)
    simp only [laws_eqStringS.l0]
    rw [if_neg (by omega)]
  | succ d ih =>
    intro i hd
    refine Ev.step (f := fun k => laws_eqStringS.l0 k a a ((i + 1 : Nat) : Int)) (fun k => ?_) (ih (i + 1) (by omega))
    simp only [laws_eqStringS.l0]
    rw [if_pos (by omega), if_pos (by omega), if_pos (by omega), w64 i (by omega)]
    simp only [if_true]
theorem eqStringS_ev (a : List ByteArray) (hl : a.length ≤ 1048576) : Ev (fun k => laws_eqStringS.f k a a) true := by
  refine Ev.congr (f := fun k => laws_eqStringS.l0 k a a ((0 : Nat) : Int)) (fun k => ?_) (eqStringS_loop a hl a.length 0 (by omega))
  unfold laws_eqStringS.f
  rw [if_pos rfl]
  rfl
theorem szStringS3_loop (l : List ByteArray) (hl : l.length ≤ 1048576) (hs : ∀ s ∈ l, s.size ≤ maxLen) (d : Nat) : ∀ (i : Nat) (a : Int), 0 ≤ a → a ≤ 1048576 → l.length = i + d →
    ∃ r, Ev (fun k => laws_szStringS.l0 k l a (i : Int)) r ∧ r ≤ a ∧ -1 ≤ r ∧ (0 ≤ r → ∀ j, i ≤ j → ∀ h : j < l.length, l[j].size ≤ 1048576) := by
  induction d with
  | zero =>
    intro i a h0 h1 hd
    refine ⟨a, Ev.step (f := fun _ => some a) (fun k => ?_) (Ev.now _), by omega, by omega, fun _ j hj h => by omega⟩
    simp only [laws_szStringS.l0]; rw [if_neg (by omega)]
  | succ d ih =>
    intro i a h0 h1 hd
    have hi : i < l.length := by omega
    have hz := hs _ (List.getElem_mem hi)
    have e : wrap64 (a - (l[i].size : Int)) = a - (l[i].size : Int) := by unfold maxLen at hz; unfold wrap64; omega
    by_cases c : a - (l[i].size : Int) < 0
    · refine ⟨-1, Ev.step (f := fun _ => some (-1)) (fun k => ?_) (Ev.now _), by omega, by omega, fun h => by omega⟩
      simp only [laws_szStringS.l0, rdS_at l i hi]
      rw [if_pos (by omega), if_pos (by omega), e, if_pos c]
    · obtain ⟨r, h, r1, r2, r3⟩ := ih (i + 1) (a - (l[i].size : Int)) (by omega) (by omega) (by omega)
      refine ⟨r, Ev.step (fun k => ?_) h, by omega, r2, fun h0 j hj hk => by
        rcases Nat.eq_or_lt_of_le hj with rfl | hj
        · omega
        · exact r3 h0 j hj hk⟩
      simp only [laws_szStringS.l0, rdS_at l i hi]
      rw [if_pos (by omega), if_pos (by omega), e, if_neg c, w64 i (by omega)]
theorem szStringS3_ev (l : List ByteArray) (a : Int) (hl : l.length ≤ maxLen) (hs : ∀ s ∈ l, s.size ≤ maxLen) (h0 : 0 ≤ a) (h1 : a ≤ 1048576) :
    ∃ r, Ev (fun k => laws_szStringS.f k l a) r ∧ r ≤ a ∧ -1 ≤ r ∧ (0 ≤ r → l.length ≤ 1048576 ∧ ∀ s ∈ l, s.size ≤ 1048576) := by
  have e : wrap64 (a - (l.length : Int)) = a - (l.length : Int) := by unfold maxLen at hl; unfold wrap64; omega
  by_cases c : a - (l.length : Int) < 0
  · refine ⟨-1, Ev.congr (fun k => ?_) (Ev.now _), by omega, by omega, by omega⟩
    unfold laws_szStringS.f; rw [e, if_pos c]
  · obtain ⟨r, h, r1, r2, r3⟩ := szStringS3_loop l (by omega) hs l.length 0 (a - (l.length : Int)) (by omega) (by omega) (by omega)
    refine ⟨r, Ev.congr (fun k => ?_) h, by omega, r2, fun h0 => ⟨by omega, fun s hs => by
      obtain ⟨j, hj, rfl⟩ := List.getElem_of_mem hs
      exact r3 h0 j (Nat.zero_le _) hj⟩⟩
    unfold laws_szStringS.f; rw [e, if_neg c]; rfl
/-! ### Texts that are marked -/
theorem nums_size (l : List Int) : (strOfNums l).size = l.length := by
  unfold strOfNums
  show (l.map fun n => UInt8.ofNat n.toNat).toArray.size = l.length
  simp
theorem markT_loop (N : Nat) : ∀ (n : Nat) (x : ByteArray), n ≤ N → n + x.size ≤ 1099511627776 → ∃ s, Ev (fun k => laws_markText.l0 k (n : Int) x) s := by
  induction N with
  | zero =>
    intro n x hn hx
    refine ⟨(⟨#[109]⟩ : ByteArray) ++ x, Ev.step (f := fun _ => some ((⟨#[109]⟩ : ByteArray) ++ x)) (fun k => ?_) (Ev.now _)⟩
    simp only [laws_markText.l0]
    rw [if_neg (by omega), if_pos (by omega)]
  | succ N ih =>
    intro n x hn hx
    by_cases h0 : n = 0
    · refine ⟨(⟨#[109]⟩ : ByteArray) ++ x, Ev.step (f := fun _ => some ((⟨#[109]⟩ : ByteArray) ++ x)) (fun k => ?_) (Ev.now _)⟩
      simp only [laws_markText.l0]
      rw [if_neg (by omega), if_pos (by omega)]
    · have ed : wrap64 (Int.tdiv (n : Int) 10) = ((n / 10 : Nat) : Int) := by
        rw [Int.tdiv_eq_ediv_of_nonneg (Int.natCast_nonneg _)]
        unfold wrap64; omega
      have hsz := nums_size [(wrap64 (48 + (Int.tmod (n : Int) 10))) % 256]
      have hap : (strOfNums [(wrap64 (48 + (Int.tmod (n : Int) 10))) % 256] ++ x).size = 1 + x.size := by rw [ByteArray.size_append, hsz]; rfl
      obtain ⟨s, hs⟩ := ih (n / 10) (strOfNums [(wrap64 (48 + (Int.tmod (n : Int) 10))) % 256] ++ x) (by omega) (by rw [hap]; omega)
      refine ⟨s, Ev.step (fun k => ?_) hs⟩
      simp only [laws_markText.l0, Option.bind_some]
      rw [if_pos (by omega), if_pos (by rw [hsz]; simp; omega), ed]
theorem markT_some (n : Int) (h0 : 0 ≤ n) (h1 : n ≤ 1073741824) : ∃ s, Ev (fun k => laws_markText.f k n) s := by
  by_cases c : n ≤ 0
  · refine ⟨(⟨#[109, 48]⟩ : ByteArray), Ev.congr (f := fun _ => some (⟨#[109, 48]⟩ : ByteArray)) (fun k => ?_) (Ev.now _)⟩
    unfold laws_markText.f
    rw [if_pos c]
  · obtain ⟨m, rfl⟩ := Int.eq_ofNat_of_zero_le h0
    obtain ⟨s, hs⟩ := markT_loop m m (⟨#[]⟩ : ByteArray) (Nat.le_refl _) (by show m + 0 ≤ _; omega)
    refine ⟨s, Ev.congr (fun k => ?_) hs⟩
    unfold laws_markText.f
    rw [if_neg c]
open Classical in
/-- The text of a number. -/
noncomputable def markT (n : Int) : ByteArray := if h : ∃ s, Ev (fun k => laws_markText.f k n) s then Classical.choose h else ByteArray.empty
theorem markT_ev (n : Int) (h0 : 0 ≤ n) (h1 : n ≤ 1073741824) : Ev (fun k => laws_markText.f k n) (markT n) := by
  unfold markT
  rw [dif_pos (markT_some n h0 h1)]
  exact Classical.choose_spec (markT_some n h0 h1)
/-- What stands behind the marking. -/
noncomputable def markedS (l : List ByteArray) (m : Int) : List ByteArray := (List.range l.length).map fun (i : Nat) => markT (m + (i : Int))
theorem markedS_len (l : List ByteArray) (m : Int) : (markedS l m).length = l.length := by simp [markedS]
theorem markStrS_loop (n : Nat) (m : Int) (h0 : 0 ≤ m) (h1 : m + n < 1073741824) (d : Nat) : ∀ (x : List ByteArray) (i : Nat), x.length = n → (∀ j, j < i → x[j]? = some (markT (m + (j : Int)))) → n = i + d →
    Ev (fun k => laws_markStringS.l0 k x (m + (i : Int)) (i : Int)) (m + (n : Int), (List.range n).map fun (i : Nat) => markT (m + (i : Int))) := by
  induction d with
  | zero =>
    intro x i hx ht hd
    refine Ev.step (f := fun _ => some (m + (n : Int), (List.range n).map fun (i : Nat) => markT (m + (i : Int)))) (fun k => ?_) (Ev.now _)
    have e : x = (List.range n).map fun (i : Nat) => markT (m + (i : Int)) := by
      apply List.ext_getElem?
      intro j
      by_cases hj : j < n
      · rw [ht j (by omega)]; simp [hj]
      · rw [List.getElem?_eq_none (by omega), List.getElem?_eq_none (by simp; omega)]
    simp only [laws_markStringS.l0]
    rw [if_neg (by omega), ← e]
    have : i = n := by omega
    subst this
    rfl
  | succ d ih =>
    intro x i hx ht hd
    have ht' := markT_ev (m + (i : Int)) (by omega) (by omega)
    refine Ev.step (f := fun k => (laws_markText.f k (m + (i : Int))).bind fun t159 => (if 0 ≤ (i : Int) then (laws_markStringS.l0 k (x.set ((i : Int) : Int).toNat t159) (wrap64 (m + (i : Int) + 1)) (wrap64 ((i : Int) + 1))) else (none))) (fun k => ?_) (Ev.bind ht' ?_)
    · simp only [laws_markStringS.l0]
      rw [if_pos (by omega)]
    · have e : wrap64 (m + (i : Int) + 1) = m + ((i + 1 : Nat) : Int) := by unfold wrap64; omega
      simp only [if_pos (show 0 ≤ (i : Int) by omega), e, w64 i (by omega), Int.toNat_natCast]
      refine ih (x.set i (markT (m + (i : Int)))) (i + 1) (by simpa using hx) ?_ (by omega)
      intro j hj
      by_cases c : j = i
      · subst c; rw [List.getElem?_set_self (by omega)]
      · rw [List.getElem?_set_ne (by omega)]; exact ht j (by omega)
theorem markStrS_ev (l : List ByteArray) (m : Int) (h0 : 0 ≤ m) (h1 : m + l.length < 1073741824) : Ev (fun k => laws_markStringS.f k l m) (m + (l.length : Int), markedS l m) := by
  have := markStrS_loop l.length m h0 h1 l.length l 0 rfl (fun j hj => absurd hj (by omega)) (by omega)
  rwa [show m + ((0 : Nat) : Int) = m by omega] at this
theorem heldStrS_loop (l : List ByteArray) (m : Int) (h0 : 0 ≤ m) (h1 : m + l.length < 1073741824) (d : Nat) : ∀ (i : Nat), l.length = i + d →
    Ev (fun k => laws_heldStringS.l0 k (markedS l m) (m + (i : Int)) (i : Int)) (m + (l.length : Int)) := by
  induction d with
  | zero =>
    intro i hd
    refine Ev.step (f := fun _ => some (m + (l.length : Int))) (fun k => ?_) (Ev.now _)
    simp only [laws_heldStringS.l0, markedS_len]
    rw [if_neg (by omega)]
    have : i = l.length := by omega
    subst this
    rfl
  | succ d ih =>
    intro i hd
    have ht' := markT_ev (m + (i : Int)) (by omega) (by omega)
    have e2 : rdOf ByteArray.empty (markedS l m) (i : Int) = markT (m + (i : Int)) := by
      rw [rdS_at _ i (by rw [markedS_len]; omega)]
      simp [markedS]
    refine Ev.step (f := fun k => (laws_markText.f k (m + (i : Int))).bind fun t165 => (if (markT (m + (i : Int))).toList = t165.toList then (laws_heldStringS.l0 k (markedS l m) (wrap64 (m + (i : Int) + 1)) (wrap64 ((i : Int) + 1))) else (some (-1)))) (fun k => ?_) (Ev.bind ht' ?_)
    · simp only [laws_heldStringS.l0, markedS_len, e2]
      rw [if_pos (by omega), if_pos (by omega)]
    · have e : wrap64 (m + (i : Int) + 1) = m + ((i + 1 : Nat) : Int) := by unfold wrap64; omega
      simp only [if_true, e, w64 i (by omega)]
      exact ih (i + 1) (by omega)
theorem heldStrS_ev (l : List ByteArray) (m : Int) (h0 : 0 ≤ m) (h1 : m + l.length < 1073741824) : Ev (fun k => laws_heldStringS.f k (markedS l m) m) (m + (l.length : Int)) := by
  have := heldStrS_loop l m h0 h1 l.length 0 (by omega)
  rwa [show m + ((0 : Nat) : Int) = m by omega] at this
/-! ### Lists of structs: told by program -/
theorem rdT56_at (x : List S56) (i : Nat) (h : i < x.length) : rd_T56 x (i : Int) = x[i] := by
  unfold rd_T56
  rw [List.getD_eq_getElem?_getD, Int.toNat_natCast, List.getElem?_eq_getElem h]
  rfl
theorem rdT47_at (x : List S47) (i : Nat) (h : i < x.length) : rd_T47 x (i : Int) = x[i] := by
  unfold rd_T47
  rw [List.getD_eq_getElem?_getD, Int.toNat_natCast, List.getElem?_eq_getElem h]
  rfl
/-- The same struct. -/
def cvSpot (s : S56) : S47 := ⟨s.f0, s.f1⟩
theorem toSpotS_loop (l : List S56) (hl : l.length ≤ 1048576) (d : Nat) : ∀ (x : List S47) (i : Nat), x.length = l.length → x.take i = (l.take i).map cvSpot → l.length = i + d → Ev (fun k => laws_toSpotS.l0 k l x (i : Int)) (l.map cvSpot) := by
  induction d with
  | zero =>
    intro x i hx ht hd
    refine Ev.step (f := fun _ => some (l.map cvSpot)) (fun k => ?_) (Ev.now _)
    have e : x = l.map cvSpot := by rw [List.take_of_length_le (by omega), List.take_of_length_le (by omega)] at ht; exact ht
    simp only [laws_toSpotS.l0]
    rw [if_neg (by omega), e]
  | succ d ih =>
    intro x i hx ht hd
    have hi : i < l.length := by omega
    refine Ev.step (f := fun k => laws_toSpotS.l0 k l (x.set i (cvSpot l[i])) ((i + 1 : Nat) : Int)) (fun k => ?_) (ih (x.set i (cvSpot l[i])) (i + 1) (by simpa using hx) ?_ (by omega))
    · simp only [laws_toSpotS.l0, laws_toSpot.f, Option.bind_some, rdT56_at l i hi]
      rw [if_pos (by omega), if_pos (by omega), if_pos (by omega), w64 i (by omega), Int.toNat_natCast]
      rfl
    · rw [set_take x i _ (by omega), take_next l i hi, ht, List.map_append]
      rfl
theorem toSpotS_ev (l : List S56) (hl : l.length ≤ 1048576) : Ev (fun k => laws_toSpotS.f k l) (l.map cvSpot) := by
  refine Ev.congr (f := fun k => laws_toSpotS.l0 k l (List.replicate l.length z47) ((0 : Nat) : Int)) (fun k => ?_) (toSpotS_loop l hl l.length _ 0 (by simp) rfl (by omega))
  unfold laws_toSpotS.f
  rw [if_pos (by omega), if_pos (by rw [Int.toNat_natCast]; omega), Int.toNat_natCast]
  rfl
theorem eqSpot_some (s : S47) : laws_eqSpot.f s.f0 s.f1 s.f0 s.f1 = some true := by
  unfold laws_eqSpot.f
  simp
theorem eqSpotS_loop (l : List S47) (hl : l.length ≤ 1048576) (d : Nat) : ∀ (i : Nat), l.length = i + d → Ev (fun k => laws_eqSpotS.l0 k l l (i : Int)) true := by
  induction d with
  | zero =>
    intro i hd
    refine Ev.step (f := fun _ => some true) (fun k => ?_) (Ev.now _)
    simp only [laws_eqSpotS.l0]; rw [if_neg (by omega)]
  | succ d ih =>
    intro i hd
    refine Ev.step (f := fun k => laws_eqSpotS.l0 k l l ((i + 1 : Nat) : Int)) (fun k => ?_) (ih (i + 1) (by omega))
    simp only [laws_eqSpotS.l0]
    rw [if_pos (by omega), if_pos (by omega), if_pos (by omega), eqSpot_some, w64 i (by omega)]
    rfl
theorem eqSpotS_ev (l : List S47) (hl : l.length ≤ 1048576) : Ev (fun k => laws_eqSpotS.f k l l) true := by
  refine Ev.congr (f := fun k => laws_eqSpotS.l0 k l l ((0 : Nat) : Int)) (fun k => ?_) (eqSpotS_loop l hl l.length 0 (by omega))
  unfold laws_eqSpotS.f
  rw [if_pos rfl]
  rfl
/-! ### Hashes: the program's and the reference's are one number -/
theorem u32_wrap (n : Int) : IntKind.u32.wrap n = n % 4294967296 := by simp [IntKind.wrap, IntKind.bits, IntKind.signed]
theorem xor_u32 (a b : Nat) (ha : a < 4294967296) (hb : b < 4294967296) : Go.bits .xor .u32 (a : Int) (b : Int) = ((a ^^^ b : Nat) : Int) := by
  show IntKind.u32.wrap ((BitVec.ofInt 32 (a : Int) ^^^ BitVec.ofInt 32 (b : Int)).toNat : Nat) = _
  have h := Nat.xor_lt_two_pow (n := 32) ha hb
  rw [BitVec.toNat_xor, BitVec.ofInt_natCast, BitVec.ofInt_natCast, BitVec.toNat_ofNat, BitVec.toNat_ofNat, Nat.mod_eq_of_lt ha, Nat.mod_eq_of_lt hb, u32_wrap]
  omega
theorem xor_odd (c d : Nat) : (c ^^^ d) % 2 = if c % 2 = d % 2 then 0 else 1 := by
  have h := @Nat.xor_mod_two_eq_one c d
  by_cases e : c % 2 = d % 2
  · rw [if_pos e]; omega
  · rw [if_neg e]; omega
theorem xor_loop (a b : Nat) (ha : a < 4294967296) (hb : b < 4294967296) (d : Nat) : ∀ (i : Nat), i + d = 32 →
    Ev (fun k => spec_l04Xor.l0 k ((a / 2 ^ i : Nat) : Int) ((b / 2 ^ i : Nat) : Int) (((a ^^^ b) % 2 ^ i : Nat) : Int) ((2 ^ i : Nat) : Int) (i : Int)) ((a ^^^ b : Nat) : Int) := by
  have hx := Nat.xor_lt_two_pow (n := 32) ha hb
  induction d with
  | zero =>
    intro i hd
    obtain rfl : i = 32 := by omega
    refine Ev.step (f := fun _ => some ((a ^^^ b : Nat) : Int)) (fun k => ?_) (Ev.now _)
    simp only [spec_l04Xor.l0]
    rw [if_neg (by omega), Nat.mod_eq_of_lt hx]
  | succ d ih =>
    intro i hd
    have hp : 2 ^ i ≤ 2147483648 := by
      have := Nat.pow_le_pow_right (n := 2) (by omega) (show i ≤ 31 by omega)
      simpa using this
    have hp0 : 0 < 2 ^ i := Nat.two_pow_pos i
    have ea : wrap64 (Int.tdiv ((a / 2 ^ i : Nat) : Int) 2) = ((a / 2 ^ (i + 1) : Nat) : Int) := by
      rw [Int.tdiv_eq_ediv_of_nonneg (Int.natCast_nonneg _), Nat.pow_succ, ← Nat.div_div_eq_div_mul]
      have : a / 2 ^ i ≤ a := Nat.div_le_self _ _
      generalize a / 2 ^ i = q at *
      unfold wrap64; omega
    have eb : wrap64 (Int.tdiv ((b / 2 ^ i : Nat) : Int) 2) = ((b / 2 ^ (i + 1) : Nat) : Int) := by
      rw [Int.tdiv_eq_ediv_of_nonneg (Int.natCast_nonneg _), Nat.pow_succ, ← Nat.div_div_eq_div_mul]
      have : b / 2 ^ i ≤ b := Nat.div_le_self _ _
      generalize b / 2 ^ i = q at *
      unfold wrap64; omega
    have ep : wrap64 (2 * ((2 ^ i : Nat) : Int)) = ((2 ^ (i + 1) : Nat) : Int) := by
      rw [Nat.pow_succ]
      generalize 2 ^ i = q at *
      unfold wrap64; omega
    have hs : (a ^^^ b) % 2 ^ (i + 1) = (a ^^^ b) % 2 ^ i + 2 ^ i * ((a / 2 ^ i ^^^ b / 2 ^ i) % 2) := by
      rw [Nat.mod_pow_succ, Nat.xor_div_two_pow]
    have hl : (a ^^^ b) % 2 ^ i < 2 ^ i := Nat.mod_lt _ hp0
    refine Ev.step (fun k => ?_) (ih (i + 1) (by omega))
    simp only [spec_l04Xor.l0]
    rw [if_pos (by omega), ea, eb, ep, w64 i (by omega), Int.tmod_eq_emod_of_nonneg (Int.natCast_nonneg _), Int.tmod_eq_emod_of_nonneg (Int.natCast_nonneg _)]
    rw [xor_odd] at hs
    by_cases c : a / 2 ^ i % 2 = b / 2 ^ i % 2
    · rw [if_pos (by omega)]
      rw [if_pos c, Nat.mul_zero] at hs
      have hs2 : (a ^^^ b) % 2 ^ (i + 1) = (a ^^^ b) % 2 ^ i := hs.trans (Nat.add_zero _)
      rw [hs2]
    · rw [if_neg (by omega)]
      rw [if_neg c, Nat.mul_one] at hs
      have ew : wrap64 ((((a ^^^ b) % 2 ^ i : Nat) : Int) + ((2 ^ i : Nat) : Int)) = (((a ^^^ b) % 2 ^ (i + 1) : Nat) : Int) := by
        rw [hs]
        generalize (a ^^^ b) % 2 ^ i = q at *
        generalize 2 ^ i = p at *
        unfold wrap64; omega
      rw [ew]
theorem xor_ev (a b : Nat) (ha : a < 4294967296) (hb : b < 4294967296) : Ev (fun k => spec_l04Xor.f k (a : Int) (b : Int)) ((a ^^^ b : Nat) : Int) := by
  have h := xor_loop a b ha hb 32 0 rfl
  refine Ev.congr (fun k => ?_) h
  unfold spec_l04Xor.f
  simp [Nat.mod_one]
/-- The bytes of a text behind place i. -/
def tailOf (s : ByteArray) (i : Nat) : List UInt8 := s.data.toList.drop i
/-- One byte more. -/
def hstep (h : Nat) (b : UInt8) : Nat := ((h ^^^ b.toNat) * 16777619) % 4294967296
theorem hstep_lt (h : Nat) (b : UInt8) : hstep h b < 4294967296 := Nat.mod_lt _ (by omega)
/-- What the hash is at last. -/
def hlast (h : Nat) : Nat := h ^^^ (h / 65536)
/-- The hash of a text, from a seed that is in its range. -/
def hashN (s : ByteArray) (seed : Nat) : Nat := hlast ((tailOf s 0).foldl hstep (2166136261 + seed))
theorem hlast_lt (h : Nat) (hh : h < 4294967296) : hlast h < 4294967296 := Nat.xor_lt_two_pow (n := 32) hh (by omega)
theorem fold_lt (l : List UInt8) : ∀ (h : Nat), h < 4294967296 → l.foldl hstep h < 4294967296 := by
  induction l with
  | nil => intro h hh; exact hh
  | cons b l ih => intro h hh; exact ih _ (hstep_lt h b)
theorem hashN_lt (s : ByteArray) (seed : Nat) (h : seed ≤ 1000000000) : hashN s seed < 4294967296 := hlast_lt _ (fold_lt _ _ (by omega))
theorem tailOf_next (s : ByteArray) (i : Nat) (h : i < s.size) : ∃ b : UInt8, tailOf s i = b :: tailOf s (i + 1) ∧ bt s (i : Int) = (b.toNat : Int) := by
  have h' : i < s.data.toList.length := by simpa using h
  refine ⟨s[i], ?_, ?_⟩
  · unfold tailOf
    rw [List.drop_eq_getElem_cons h']
    rfl
  · unfold bt
    rw [dif_pos (by simpa using h)]
    simp
theorem hash_loop (s : ByteArray) (hs : s.size ≤ 4611686018427387904) (d : Nat) : ∀ (i h : Nat), h < 4294967296 → s.size = i + d →
    Ev (fun k => spec_HashOf.l0 k s (h : Int) (i : Int)) ((hlast ((tailOf s i).foldl hstep h) : Nat) : Int) ∧ Ev (fun k => impl_HashOf.l0 k s (h : Int) (i : Int)) ((hlast ((tailOf s i).foldl hstep h) : Nat) : Int) := by
  induction d with
  | zero =>
    intro i h hh hd
    have e : tailOf s i = [] := by unfold tailOf; exact List.drop_eq_nil_of_le (by simp; omega)
    have ed : wrap64 (Int.tdiv (h : Int) 65536) = ((h / 65536 : Nat) : Int) := by
      rw [Int.tdiv_eq_ediv_of_nonneg (by omega)]; unfold wrap64; omega
    have hl := hlast_lt h hh
    have hx := xor_ev h (h / 65536) hh (by omega)
    rw [e]
    refine ⟨Ev.step (f := fun k => (spec_l04Xor.f k (h : Int) ((h / 65536 : Nat) : Int)).bind fun t104 => (some t104)) (fun k => ?_) (Ev.bind hx (Ev.now _)), Ev.step (f := fun _ => some ((hlast h : Nat) : Int)) (fun k => ?_) (Ev.now _)⟩
    · simp only [spec_HashOf.l0]
      rw [if_neg (by omega), ed]
    · simp only [impl_HashOf.l0]
      rw [if_neg (by omega), show (h : Int) / 65536 = ((h / 65536 : Nat) : Int) by omega, xor_u32 h (h / 65536) hh (by omega)]
      show some (wrap64 ((hlast h : Nat) : Int)) = _
      congr 1
      unfold wrap64; omega
  | succ d ih =>
    intro i h hh hd
    obtain ⟨b, e, eb⟩ := tailOf_next s i (by omega)
    have hb : b.toNat < 256 := b.toNat_lt
    have hx := xor_ev h b.toNat hh (by omega)
    have hxl := Nat.xor_lt_two_pow (n := 32) hh (show b.toNat < 2 ^ 32 by omega)
    obtain ⟨h1, h2⟩ := ih (i + 1) (hstep h b) (hstep_lt h b) (by omega)
    rw [e, List.foldl_cons]
    have es : Int.tmod (wrap64 (((h ^^^ b.toNat : Nat) : Int) * 16777619)) 4294967296 = ((hstep h b : Nat) : Int) := by
      unfold hstep
      have : wrap64 (((h ^^^ b.toNat : Nat) : Int) * 16777619) = ((h ^^^ b.toNat : Nat) : Int) * 16777619 := by unfold wrap64; omega
      rw [this, Int.tmod_eq_emod_of_nonneg (by omega)]
      omega
    have ei : (((h ^^^ b.toNat : Nat) : Int) * 16777619) % 4294967296 = ((hstep h b : Nat) : Int) := by
      unfold hstep; omega
    refine ⟨Ev.step (f := fun k => (spec_l04Xor.f k (h : Int) (b.toNat : Int)).bind fun t103 => (spec_HashOf.l0 k s (Int.tmod (wrap64 (t103 * 16777619)) 4294967296) (wrap64 ((i : Int) + 1)))) (fun k => ?_) (Ev.bind hx ?_), Ev.step (fun k => ?_) h2⟩
    · simp only [spec_HashOf.l0]
      rw [if_pos (by omega), if_pos (by omega), eb, show wrap64 ((b.toNat : Nat) : Int) = (b.toNat : Int) by unfold wrap64; omega]
    · simp only [es, w64 i (by omega)]
      exact h1
    · simp only [impl_HashOf.l0]
      rw [if_pos (by omega), if_pos (by omega), eb, show ((b.toNat : Nat) : Int) % 4294967296 = (b.toNat : Int) by omega, xor_u32 h b.toNat hh (by omega), ei, w64 i (by omega)]
theorem hash_ev (s : ByteArray) (hs : s.size ≤ 4611686018427387904) (seed : Nat) (h : seed ≤ 1000000000) :
    Ev (fun k => spec_HashOf.f k s (seed : Int)) ((hashN s seed : Nat) : Int) ∧ Ev (fun k => impl_HashOf.f k s (seed : Int)) ((hashN s seed : Nat) : Int) := by
  obtain ⟨h1, h2⟩ := hash_loop s hs s.size 0 (2166136261 + seed) (by omega) (by omega)
  constructor
  · refine Ev.congr (f := fun k => spec_HashOf.j0 k s (seed : Int)) (fun k => ?_) (Ev.step (f := fun k => spec_HashOf.j1 k s (seed : Int)) (fun k => ?_) (Ev.step (fun k => ?_) h1))
    · unfold spec_HashOf.f
      rw [if_neg (by omega)]
    · simp only [spec_HashOf.j0]
      rw [if_neg (by omega)]
    · simp only [spec_HashOf.j1]
      have : Int.tmod (wrap64 (2166136261 + (seed : Int))) 4294967296 = ((2166136261 + seed : Nat) : Int) := by
        have : wrap64 (2166136261 + (seed : Int)) = 2166136261 + (seed : Int) := by unfold wrap64; omega
        rw [this, Int.tmod_eq_emod_of_nonneg (by omega)]; omega
      rw [this]
      rfl
  · refine Ev.congr (fun k => ?_) h2
    unfold impl_HashOf.f
    have : mx 0 (mn (seed : Int) 1000000000) = (seed : Int) := by unfold mx mn; split <;> split <;> omega
    rw [this]
    rfl
/-! ### Rings -/
theorem toRing_ev (l : List S56) (hl : l.length ≤ 1048576) : Ev (fun k => laws_toRing.f k l) (l.map cvSpot) := by
  unfold laws_toRing.f
  exact Ev.bind (toSpotS_ev l hl) (Ev.now _)
theorem eqRing_ev (l : List S47) (hl : l.length ≤ 1048576) : Ev (fun k => laws_eqRing.f k l l) true := by
  unfold laws_eqRing.f
  refine Ev.bind (eqSpotS_ev l hl) ?_
  simp only [if_true]
  exact Ev.now _
theorem szRing_some (l : List S56) (a : Int) (hl : l.length ≤ maxLen) (h0 : 0 ≤ a) (h1 : a ≤ 1048576) :
    ∃ r, laws_szRing.f l a = some r ∧ r ≤ a ∧ -1 ≤ r ∧ (0 ≤ r → l.length ≤ 1048576) := by
  have e : wrap64 (a - (l.length : Int)) = a - (l.length : Int) := by unfold maxLen at hl; unfold wrap64; omega
  unfold laws_szRing.f laws_szSpotS.f
  rw [e]
  by_cases c : a - (l.length : Int) < 0
  · rw [if_pos c]; exact ⟨-1, rfl, by omega, by omega, by omega⟩
  · rw [if_neg c, Option.bind_some, if_neg c]; exact ⟨_, rfl, by omega, by omega, by omega⟩
/-- The place of the first spot for a hash: none is the first of all. -/
def firstN (h : Int) (l : List S47) : Int := mx (Go.Lib.idxBy (fun _ (y : S47) => decide (h ≤ y.f0)) l default) 0
theorem bang_at (l : List S47) (i : Nat) (h : i < l.length) : l[i]! = l[i] := by simp [h]
theorem first_loop (h : Int) (l : List S47) (hl : l.length ≤ 1048576) (d : Nat) : ∀ (i : Nat), l.length = i + d → (∀ j, j < i → decide (h ≤ (l[j]!).f0) = false) →
    Ev (fun k => spec_l10From.l0 k h (i : Int) l) (firstN h l) ∧ 0 ≤ firstN h l ∧ (0 < l.length → firstN h l < (l.length : Int)) := by
  induction d with
  | zero =>
    intro i hd hA
    have e : firstN h l = 0 := by
      have := Go.Lib.idxBy_miss (fun _ (y : S47) => decide (h ≤ y.f0)) l l.length default (fun j hj => hA j (by omega))
      rw [List.take_length] at this
      unfold firstN
      rw [this]; rfl
    rw [e]
    refine ⟨Ev.step (f := fun _ => some 0) (fun k => ?_) (Ev.now _), by omega, fun hp => by omega⟩
    simp only [spec_l10From.l0]
    rw [if_neg (by omega)]
  | succ d ih =>
    intro i hd hA
    have hi : i < l.length := by omega
    by_cases c : h ≤ l[i].f0
    · have e : firstN h l = (i : Int) := by
        have := Go.Lib.idxBy_hit (fun _ (y : S47) => decide (h ≤ y.f0)) l l.length i default hi (Nat.le_refl _) (by show decide (h ≤ (l[i]!).f0) = true; rw [bang_at l i hi]; exact decide_eq_true c) (fun j hj => hA j hj)
        rw [List.take_length] at this
        unfold firstN
        rw [this]; unfold mx; split <;> omega
      rw [e]
      refine ⟨Ev.step (f := fun _ => some (i : Int)) (fun k => ?_) (Ev.now _), by omega, fun hp => by omega⟩
      simp only [spec_l10From.l0, rdT47_at l i hi]
      rw [if_pos (by omega), if_pos (by omega), if_pos c]
    · obtain ⟨h1, h2, h3⟩ := ih (i + 1) (by omega) (fun j hj => by
        rcases Nat.lt_succ_iff_lt_or_eq.1 hj with hj | rfl
        · exact hA j hj
        · rw [bang_at l j hi]; exact decide_eq_false c)
      refine ⟨Ev.step (fun k => ?_) h1, h2, h3⟩
      simp only [spec_l10From.l0, rdT47_at l i hi]
      rw [if_pos (by omega), if_pos (by omega), if_neg c, w64 i (by omega)]
/-- The place of the first spot for a key. -/
def fromN (l : List S47) (s : ByteArray) : Int := firstN (hashN s 0 : Nat) l
theorem fromS_ev (l : List S47) (s : ByteArray) (hl : l.length ≤ 1048576) (hs : s.size ≤ 4611686018427387904) :
    Ev (fun k => spec_l10From.f k l s) (fromN l s) ∧ 0 ≤ fromN l s ∧ (0 < l.length → fromN l s < (l.length : Int)) := by
  obtain ⟨h1, h2, h3⟩ := first_loop (hashN s 0 : Nat) l hl l.length 0 (by omega) (fun j hj => absurd hj (Nat.not_lt_zero _))
  refine ⟨?_, h2, h3⟩
  unfold spec_l10From.f
  exact Ev.bind (hash_ev s hs 0 (by omega)).1 h1
theorem homeI_ev (l : List S47) (s : ByteArray) (hl : l.length ≤ 1048576) (hs : s.size ≤ 4611686018427387904) :
    Ev (fun k => impl_Ring_home.f k l s) (if l.length = 0 then -1 else fromN l s) := by
  unfold impl_Ring_home.f
  simp only [if_pos (show l.length < 1099511627776 by omega)]
  by_cases c : l.length = 0
  · simp only [if_pos c]; exact Ev.now _
  · simp only [if_neg c]
    exact Ev.bind (hash_ev s hs 0 (by omega)).2 (Ev.now _)
/-- The home of a key. -/
def homeN (l : List S47) (s : ByteArray) : Int := if l.length = 0 then 0 else (rd_T47 l (fromN l s)).f1
theorem homeS_ev (l : List S47) (s : ByteArray) (hl : l.length ≤ 1048576) (hs : s.size ≤ 4611686018427387904) : Ev (fun k => spec_HomeOf.f k l s) (homeN l s) := by
  obtain ⟨h1, h2, h3⟩ := fromS_ev l s hl hs
  unfold spec_HomeOf.f homeN
  by_cases c : l.length = 0
  · simp only [if_pos c, if_pos (show (l.length : Int) = 0 by omega)]; exact Ev.now _
  · simp only [if_neg c, if_neg (show ¬ (l.length : Int) = 0 by omega)]
    refine Ev.bind h1 ?_
    simp only [if_pos h2, if_pos (h3 (by omega))]
    exact Ev.now _
theorem homeOfI_ev (l : List S47) (s : ByteArray) (hl : l.length ≤ 1048576) (hs : s.size ≤ 4611686018427387904) : Ev (fun k => impl_HomeOf.f k l s) (homeN l s) := by
  obtain ⟨h1, h2, h3⟩ := fromS_ev l s hl hs
  have h := homeI_ev l s hl hs
  unfold impl_HomeOf.f homeN
  refine Ev.bind h ?_
  by_cases c : l.length = 0
  · simp only [if_pos c, if_pos (show (-1 : Int) < 0 by omega)]; exact Ev.now _
  · simp only [if_neg c, if_neg (show ¬ fromN l s < 0 by omega), if_pos h2, if_pos (h3 (by omega))]
    exact Ev.now _
theorem markSpotS_loop (n : Nat) (hn : n ≤ 1048576) (d : Nat) : ∀ (x : List S47) (i : Nat) (m : Int), x.length = n → 0 ≤ m → m + 2 * (d : Int) < 9223372036854775807 → n = i + d →
    ∃ L : List S47, Ev (fun k => laws_markSpotS.l0 k x m (i : Int)) (m + 2 * (d : Int), L) := by
  induction d with
  | zero =>
    intro x i m hx h0 h1 hd
    refine ⟨x, Ev.step (f := fun _ => some (m, x)) (fun k => ?_) (Ev.congr (fun k => ?_) (Ev.now _))⟩
    · simp only [laws_markSpotS.l0]; rw [if_neg (by omega)]
    · simp
  | succ d ih =>
    intro x i m hx h0 h1 hd
    have e1 : wrap64 (m + 1) = m + 1 := by unfold wrap64; omega
    have e2 : wrap64 (m + 1 + 1) = m + 2 := by unfold wrap64; omega
    obtain ⟨L, hL⟩ := ih ((x.set i (⟨m, (rd_T47 x (i : Int)).f1⟩ : S47)).set i (⟨(rd_T47 (x.set i (⟨m, (rd_T47 x (i : Int)).f1⟩ : S47)) (i : Int)).f0, m + 1⟩ : S47)) (i + 1) (m + 2) (by simpa using hx) (by omega) (by omega) (by omega)
    rw [show m + 2 * ((d + 1 : Nat) : Int) = m + 2 + 2 * (d : Int) by omega]
    refine ⟨L, Ev.step (fun k => ?_) hL⟩
    simp only [laws_markSpotS.l0, Option.bind_some]
    rw [if_pos (by omega), if_pos (by omega), e1, e2, w64 i (by omega), Int.toNat_natCast]
theorem markRing_ev (l : List S47) (m : Int) (hl : l.length ≤ 1048576) (h0 : 0 ≤ m) (h1 : m ≤ 1073741824) : ∃ L : List S47, Ev (fun k => laws_markRing.f k l m) (m + 2 * (l.length : Int), L) := by
  obtain ⟨L, h⟩ := markSpotS_loop l.length hl l.length l 0 m rfl h0 (by omega) (by omega)
  refine ⟨L, ?_⟩
  unfold laws_markRing.f
  refine Ev.bind (a := (m + 2 * (l.length : Int), L)) ?_ (Ev.now _)
  exact h

/-- The keys whose homes are two. -/
def movedF (a b : List S47) (l : List ByteArray) : List ByteArray := l.filter fun s => decide (homeN a s ≠ homeN b s)
theorem drop_nextM {α : Type} (x : List α) (i : Nat) (h : i < x.length) : x.drop i = x[i] :: x.drop (i + 1) := List.drop_eq_getElem_cons h
theorem movedS_loop (a b : List S47) (l : List ByteArray) (ha : a.length ≤ 1048576) (hb : b.length ≤ 1048576) (hl : l.length ≤ 1048576) (hs : ∀ s ∈ l, s.size ≤ 1048576) (d : Nat) : ∀ (i : Nat) (out : List ByteArray), l.length = i + d → out.length ≤ i →
    Ev (fun k => spec_MovedKeys.l0 k l out (i : Int) a b) (out ++ movedF a b (l.drop i)) := by
  induction d with
  | zero =>
    intro i out hd ho
    rw [List.drop_eq_nil_of_le (by omega)]
    refine Ev.step (f := fun _ => some out) (fun k => ?_) (Ev.congr (fun k => ?_) (Ev.now _))
    · simp only [spec_MovedKeys.l0]; rw [if_neg (by omega)]
    · simp [movedF]
  | succ d ih =>
    intro i out hd ho
    have hi : i < l.length := by omega
    have hz := hs _ (List.getElem_mem hi)
    rw [drop_nextM l i hi]
    refine Ev.step (f := fun k => (spec_HomeOf.f k a l[i]).bind fun t => (spec_HomeOf.f k b l[i]).bind fun u => if t = u then spec_MovedKeys.l0 k l out ((i + 1 : Nat) : Int) a b else spec_MovedKeys.l0 k l (out ++ [l[i]]) ((i + 1 : Nat) : Int) a b) (fun k => ?_) ?_
    · simp only [spec_MovedKeys.l0, rdS_at l i hi]
      rw [if_pos (by omega), if_pos (by omega), w64 i (by omega)]
      simp only [if_pos (show out.length < 8796093022208 by omega)]
    · refine Ev.bind (homeS_ev a l[i] ha (by omega)) (Ev.bind (homeS_ev b l[i] hb (by omega)) ?_)
      by_cases c : homeN a l[i] = homeN b l[i]
      · simp only [if_pos c]
        have e : movedF a b (l[i] :: l.drop (i + 1)) = movedF a b (l.drop (i + 1)) := by unfold movedF; rw [List.filter_cons_of_neg (by simp [c])]
        rw [e]
        exact ih (i + 1) out (by omega) (by omega)
      · simp only [if_neg c]
        have e : movedF a b (l[i] :: l.drop (i + 1)) = l[i] :: movedF a b (l.drop (i + 1)) := by unfold movedF; rw [List.filter_cons_of_pos (by simp [c])]
        rw [e, show out ++ l[i] :: movedF a b (l.drop (i + 1)) = (out ++ [l[i]]) ++ movedF a b (l.drop (i + 1)) by simp]
        exact ih (i + 1) (out ++ [l[i]]) (by omega) (by rw [List.length_append, List.length_singleton]; omega)
theorem movedI_loop (a b : List S47) (l : List ByteArray) (ha : a.length ≤ 1048576) (hb : b.length ≤ 1048576) (hl : l.length ≤ 1048576) (hs : ∀ s ∈ l, s.size ≤ 1048576) (d : Nat) : ∀ (i : Nat) (out : List ByteArray), l.length = i + d → out.length ≤ i →
    Ev (fun k => impl_MovedKeys.l0 k out l (l.length : Int) (i : Int) a b) (out ++ movedF a b (l.drop i)) := by
  induction d with
  | zero =>
    intro i out hd ho
    rw [List.drop_eq_nil_of_le (by omega)]
    refine Ev.step (f := fun _ => some out) (fun k => ?_) (Ev.congr (fun k => ?_) (Ev.now _))
    · simp only [impl_MovedKeys.l0]; rw [if_neg (by omega)]
    · simp [movedF]
  | succ d ih =>
    intro i out hd ho
    have hi : i < l.length := by omega
    have hz := hs _ (List.getElem_mem hi)
    rw [drop_nextM l i hi]
    refine Ev.step (f := fun k => (impl_HomeOf.f k a l[i]).bind fun t => (impl_HomeOf.f k b l[i]).bind fun u => if t = u then impl_MovedKeys.l0 k out l (l.length : Int) ((i + 1 : Nat) : Int) a b else impl_MovedKeys.l0 k (out ++ [l[i]]) l (l.length : Int) ((i + 1 : Nat) : Int) a b) (fun k => ?_) ?_
    · simp only [impl_MovedKeys.l0, rdS_at l i hi]
      rw [if_pos (by omega), if_pos (by omega), if_pos (by omega), w64 i (by omega)]
      simp only [if_pos (show out.length < 8796093022208 by omega)]
    · refine Ev.bind (homeOfI_ev a l[i] ha (by omega)) (Ev.bind (homeOfI_ev b l[i] hb (by omega)) ?_)
      by_cases c : homeN a l[i] = homeN b l[i]
      · simp only [if_pos c]
        have e : movedF a b (l[i] :: l.drop (i + 1)) = movedF a b (l.drop (i + 1)) := by unfold movedF; rw [List.filter_cons_of_neg (by simp [c])]
        rw [e]
        exact ih (i + 1) out (by omega) (by omega)
      · simp only [if_neg c]
        have e : movedF a b (l[i] :: l.drop (i + 1)) = l[i] :: movedF a b (l.drop (i + 1)) := by unfold movedF; rw [List.filter_cons_of_pos (by simp [c])]
        rw [e, show out ++ l[i] :: movedF a b (l.drop (i + 1)) = (out ++ [l[i]]) ++ movedF a b (l.drop (i + 1)) by simp]
        exact ih (i + 1) (out ++ [l[i]]) (by omega) (by rw [List.length_append, List.length_singleton]; omega)
theorem FnExactMovedKeys : laws_FnExactMovedKeys.Ask := by
  intro a b l ⟨hal, _⟩ ⟨hbl, _⟩ ⟨hl, hz⟩
  apply Ev.rounds (r := true) (g := fun k => laws_FnExactMovedKeys.f k a b l)
  unfold laws_FnExactMovedKeys.f
  obtain ⟨r, h, hr1, _, hr⟩ := szRing_some a 1048576 hal (by omega) (by omega)
  simp only [h, Option.bind_some]
  by_cases c : r < 0
  · simp only [if_pos c]; exact Ev.now true
  simp only [if_neg c]
  obtain ⟨r', h', hr1', _, hr'⟩ := szRing_some b r hbl (by omega) (by omega)
  simp only [h', Option.bind_some]
  by_cases c' : r' < 0
  · simp only [if_pos c']; exact Ev.now true
  simp only [if_neg c']
  obtain ⟨r2, h2, _, _, hr2⟩ := szStringS3_ev l r' hl hz (by omega) (by omega)
  refine Ev.bind h2 ?_
  by_cases c2 : r2 < 0
  · simp only [if_pos c2]; exact Ev.now true
  simp only [if_neg c2]
  have hna := hr (by omega)
  have hnb := hr' (by omega)
  obtain ⟨hn, hz⟩ := hr2 (by omega)
  have hta := toRing_ev a hna
  have htb := toRing_ev b hnb
  have ht := toStringS_ev l hn
  have ha' : (a.map cvSpot).length ≤ 1048576 := by rw [List.length_map]; exact hna
  have hb' : (b.map cvSpot).length ≤ 1048576 := by rw [List.length_map]; exact hnb
  have hS : Ev (fun k => spec_MovedKeys.f k (a.map cvSpot) (b.map cvSpot) l) (movedF (a.map cvSpot) (b.map cvSpot) l) := movedS_loop _ _ l ha' hb' hn hz l.length 0 [] (by omega) (by simp)
  have hI : Ev (fun k => impl_MovedKeys.f k (a.map cvSpot) (b.map cvSpot) l) (movedF (a.map cvSpot) (b.map cvSpot) l) := movedI_loop _ _ l ha' hb' hn hz l.length 0 [] (by omega) (by simp)
  have hq : (movedF (a.map cvSpot) (b.map cvSpot) l).length ≤ 1048576 := Nat.le_trans (List.length_filter_le _ _) hn
  obtain ⟨La, hLa⟩ := markRing_ev (a.map cvSpot) 1 ha' (by omega) (by omega)
  obtain ⟨Lb, hLb⟩ := markRing_ev (b.map cvSpot) (1 + 2 * ((a.map cvSpot).length : Int)) hb' (by omega) (by omega)
  have hLk := markStrS_ev l (1 + 2 * ((a.map cvSpot).length : Int) + 2 * ((b.map cvSpot).length : Int)) (by omega) (by omega)
  generalize movedF (a.map cvSpot) (b.map cvSpot) l = q at hS hI hq
  have he := eqStringS_ev q hq
  have hm := markStrS_ev q 1 (by omega) (by omega)
  have hh := heldStrS_ev q 1 (by omega) (by omega)
  refine Ev.bind hta (Ev.bind htb (Ev.bind ht (Ev.bind hS (Ev.bind hta (Ev.bind htb (Ev.bind ht (Ev.bind hI (Ev.bind he ?_))))))))
  simp only [if_true]
  refine Ev.bind hta (Ev.bind (eqRing_ev _ ha') ?_)
  simp only [if_true]
  refine Ev.bind htb (Ev.bind (eqRing_ev _ hb') ?_)
  simp only [if_true]
  refine Ev.bind ht (Ev.bind (eqStringS_ev l hn) ?_)
  simp only [if_true]
  refine Ev.bind hLa (Ev.bind hLb (Ev.bind hLk ?_))
  simp only [if_neg (show ¬ (1 + 2 * ((a.map cvSpot).length : Int) + 2 * ((b.map cvSpot).length : Int) + (l.length : Int) < 0) by omega)]
  refine Ev.bind he ?_
  simp only [Bool.not_true]
  refine Ev.step (fun k => by simp only [laws_FnExactMovedKeys.j0]; rw [if_neg (by decide)]) ?_
  refine Ev.bind hm (Ev.bind hh ?_)
  simp only [if_neg (show ¬ (1 + (q.length : Int) < 0) by omega), if_true]
  refine Ev.bind hta (Ev.bind htb (Ev.bind ht (Ev.bind hI (Ev.bind he ?_))))
  simp only [if_true]
  refine Ev.bind hh ?_
  simp only [if_neg (show ¬ (1 + (q.length : Int) < 0) by omega), if_true]
  exact Ev.now true

end Go.Proofs.Ytphicebbbkjdhaa.Pure
