/- PickValue of the program and of the reference pick the same value of every list of notes, and change none of them. -/
import Derived.Test.YtocgakpicmcemaaAskFnExactPickValue
namespace Go.Proofs.Ytocgakpicmcemaa.Pure
open Go.RowKit Go.Proofs.Ytocgakpicmcemaa.PFnExactPickValue Go.Proofs.YtocgakpicmcemaaW.PrintWords Go.Proofs.YtocgakpicmcemaaW.PrintLast Go.Proofs.YtocgakpicmcemaaW.PrintMore
set_option linter.unusedVariables false
set_option linter.unusedSimpArgs false

/-! ### Lists that are copied, compared, marked -/
theorem w64 (i : Nat) (h : (i : Int) < 9223372036854775807) : wrap64 ((i : Int) + 1) = ((i + 1 : Nat) : Int) := by unfold wrap64; omega
theorem set_take {α : Type} (x : List α) (i : Nat) (v : α) (h : i < x.length) : (x.set i v).take (i + 1) = x.take i ++ [v] := by
  rw [List.take_add_one, List.take_set_of_le (Nat.le_refl i), List.getElem?_set_self h]
  rfl
theorem take_next {α : Type} (x : List α) (i : Nat) (h : i < x.length) : x.take (i + 1) = x.take i ++ [x[i]] := by
  rw [List.take_add_one, List.getElem?_eq_getElem h]
  rfl
theorem rd_at (x : List Int) (i : Nat) (h : i < x.length) : rd x (i : Int) = x[i] := by
  unfold rd
  rw [List.getD_eq_getElem?_getD, Int.toNat_natCast, List.getElem?_eq_getElem h]
  rfl
/-! ### Lists of structs: told by program -/
theorem rdT64_at (x : List S64) (i : Nat) (h : i < x.length) : rd_T64 x (i : Int) = x[i] := by
  unfold rd_T64
  rw [List.getD_eq_getElem?_getD, Int.toNat_natCast, List.getElem?_eq_getElem h]
  rfl
theorem rdT61_at (x : List S61) (i : Nat) (h : i < x.length) : rd_T61 x (i : Int) = x[i] := by
  unfold rd_T61
  rw [List.getD_eq_getElem?_getD, Int.toNat_natCast, List.getElem?_eq_getElem h]
  rfl
theorem szNote_some (s : S64) (a : Int) (h0 : 0 ≤ a) (h1 : a ≤ 1048576) (h5 : s.f5.size ≤ maxLen) : ∃ r, laws_szNote.f s.f0 s.f1 s.f2 s.f3 s.f4 s.f5 a = some r ∧ r ≤ a ∧ -1 ≤ r := by
  unfold laws_szNote.f
  unfold maxLen at *
  have e0 : wrap64 (a - (s.f5.size : Int)) = a - (s.f5.size : Int) := by unfold wrap64; omega
  rw [e0]
  by_cases c0 : a - (s.f5.size : Int) < 0
  · rw [if_pos c0]; exact ⟨-1, rfl, by omega, by omega⟩
  · rw [if_neg c0]
    exact ⟨_, rfl, by omega, by omega⟩
theorem szNoteS_loop (l : List S64) (hl : l.length ≤ 1048576) (hs : ∀ s ∈ l, s.f5.size ≤ maxLen) (d : Nat) : ∀ (i : Nat) (a : Int), 0 ≤ a → a ≤ 1048576 → l.length = i + d → ∃ r, Ev (fun k => laws_szNoteS.l0 k l a (i : Int)) r ∧ r ≤ a ∧ -1 ≤ r := by
  induction d with
  | zero =>
    intro i a h0 h1 hd
    refine ⟨a, Ev.step (f := fun _ => some a) (fun k => ?_) (Ev.now _), by omega, by omega⟩
    simp only [laws_szNoteS.l0]; rw [if_neg (by omega)]
  | succ d ih =>
    intro i a h0 h1 hd
    have hi : i < l.length := by omega
    obtain ⟨t, e, t1, t2⟩ := szNote_some l[i] a h0 h1 (hs _ (List.getElem_mem hi))
    by_cases c : t < 0
    · refine ⟨-1, Ev.step (f := fun _ => some (-1)) (fun k => ?_) (Ev.now _), by omega, by omega⟩
      simp only [laws_szNoteS.l0, rdT64_at l i hi]
      rw [if_pos (by omega), if_pos (by omega), e]; simp only [Option.bind_some]
      rw [if_pos c]
    · obtain ⟨r, h, r1, r2⟩ := ih (i + 1) t (by omega) (by omega) (by omega)
      refine ⟨r, Ev.step (fun k => ?_) h, by omega, r2⟩
      simp only [laws_szNoteS.l0, rdT64_at l i hi]
      rw [if_pos (by omega), if_pos (by omega), e]; simp only [Option.bind_some]
      rw [if_neg c, w64 i (by omega)]
theorem szNoteS_ev (l : List S64) (a : Int) (hl : l.length ≤ maxLen) (hs : ∀ s ∈ l, s.f5.size ≤ maxLen) (h0 : 0 ≤ a) (h1 : a ≤ 1048576) : ∃ r, Ev (fun k => laws_szNoteS.f k l a) r ∧ r ≤ a ∧ -1 ≤ r ∧ (0 ≤ r → l.length ≤ 1048576) := by
  have e : wrap64 (a - (l.length : Int)) = a - (l.length : Int) := by unfold maxLen at hl; unfold wrap64; omega
  by_cases c : a - (l.length : Int) < 0
  · refine ⟨-1, Ev.congr (fun k => ?_) (Ev.now _), by omega, by omega, by omega⟩
    unfold laws_szNoteS.f; rw [e, if_pos c]
  · obtain ⟨r, h, r1, r2⟩ := szNoteS_loop l (by omega) hs l.length 0 (a - (l.length : Int)) (by omega) (by omega) (by omega)
    refine ⟨r, Ev.congr (fun k => ?_) h, by omega, r2, fun _ => by omega⟩
    unfold laws_szNoteS.f; rw [e, if_neg c]; rfl
/-- The same struct. -/
def cvNote (s : S64) : S61 := ⟨s.f0, s.f1, s.f2, s.f3, s.f4, s.f5⟩
theorem toNoteS_loop (l : List S64) (hl : l.length ≤ 1048576) (d : Nat) : ∀ (x : List S61) (i : Nat), x.length = l.length → x.take i = (l.take i).map cvNote → l.length = i + d → Ev (fun k => laws_toNoteS.l0 k l x (i : Int)) (l.map cvNote) := by
  induction d with
  | zero =>
    intro x i hx ht hd
    refine Ev.step (f := fun _ => some (l.map cvNote)) (fun k => ?_) (Ev.now _)
    have e : x = l.map cvNote := by rw [List.take_of_length_le (by omega), List.take_of_length_le (by omega)] at ht; exact ht
    simp only [laws_toNoteS.l0]
    rw [if_neg (by omega), e]
  | succ d ih =>
    intro x i hx ht hd
    have hi : i < l.length := by omega
    refine Ev.step (f := fun k => laws_toNoteS.l0 k l (x.set i (cvNote l[i])) ((i + 1 : Nat) : Int)) (fun k => ?_) (ih (x.set i (cvNote l[i])) (i + 1) (by simpa using hx) ?_ (by omega))
    · simp only [laws_toNoteS.l0, laws_toNote.f, Option.bind_some, rdT64_at l i hi]
      rw [if_pos (by omega), if_pos (by omega), if_pos (by omega), w64 i (by omega), Int.toNat_natCast]
      rfl
    · rw [set_take x i _ (by omega), take_next l i hi, ht, List.map_append]
      rfl
theorem toNoteS_ev (l : List S64) (hl : l.length ≤ 1048576) : Ev (fun k => laws_toNoteS.f k l) (l.map cvNote) := by
  refine Ev.congr (f := fun k => laws_toNoteS.l0 k l (List.replicate l.length z61) ((0 : Nat) : Int)) (fun k => ?_) (toNoteS_loop l hl l.length _ 0 (by simp) rfl (by omega))
  unfold laws_toNoteS.f
  rw [if_pos (by omega), if_pos (by rw [Int.toNat_natCast]; omega), Int.toNat_natCast]
  rfl
theorem eqNote_some (s : S61) : laws_eqNote.f s.f0 s.f1 s.f2 s.f3 s.f4 s.f5 s.f0 s.f1 s.f2 s.f3 s.f4 s.f5 = some true := by
  unfold laws_eqNote.f
  simp
theorem eqNoteS_loop (l : List S61) (hl : l.length ≤ 1048576) (d : Nat) : ∀ (i : Nat), l.length = i + d → Ev (fun k => laws_eqNoteS.l0 k l l (i : Int)) true := by
  induction d with
  | zero =>
    intro i hd
    refine Ev.step (f := fun _ => some true) (fun k => ?_) (Ev.now _)
    simp only [laws_eqNoteS.l0]; rw [if_neg (by omega)]
  | succ d ih =>
    intro i hd
    refine Ev.step (f := fun k => laws_eqNoteS.l0 k l l ((i + 1 : Nat) : Int)) (fun k => ?_) (ih (i + 1) (by omega))
    simp only [laws_eqNoteS.l0]
    rw [if_pos (by omega), if_pos (by omega), if_pos (by omega), eqNote_some, w64 i (by omega)]
    rfl
theorem eqNoteS_ev (l : List S61) (hl : l.length ≤ 1048576) : Ev (fun k => laws_eqNoteS.f k l l) true := by
  refine Ev.congr (f := fun k => laws_eqNoteS.l0 k l l ((0 : Nat) : Int)) (fun k => ?_) (eqNoteS_loop l hl l.length 0 (by omega))
  unfold laws_eqNoteS.f
  rw [if_pos rfl]
  rfl
/-! ### What is picked -/
/-- One note more. -/
def pk (s : Int × ByteArray) (n : S61) : Int × ByteArray := if n.f0 = 2 then (if n.f4 > s.1 then (n.f4, n.f5) else s) else s
theorem drop_next {α : Type} (x : List α) (i : Nat) (h : i < x.length) : x.drop i = x[i] :: x.drop (i + 1) := List.drop_eq_getElem_cons h
theorem pick_loop (l : List S61) (hl : l.length ≤ 1048576) (d : Nat) : ∀ (i : Nat) (m : Int) (v : ByteArray), l.length = i + d →
    Ev (fun k => spec_PickValue.l0 k l m v (i : Int)) ((l.drop i).foldl pk (m, v)).2 ∧ Ev (fun k => impl_PickValue.l0 k m v l (l.length : Int) (i : Int)) ((l.drop i).foldl pk (m, v)).2 := by
  induction d with
  | zero =>
    intro i m v hd
    rw [List.drop_of_length_le (by omega)]
    refine ⟨Ev.step (f := fun _ => some v) (fun k => ?_) (Ev.now _), Ev.step (f := fun _ => some v) (fun k => ?_) (Ev.now _)⟩
    · simp only [spec_PickValue.l0]; rw [if_neg (by omega)]
    · simp only [impl_PickValue.l0]; rw [if_neg (by omega)]
  | succ d ih =>
    intro i m v hd
    have hi : i < l.length := by omega
    rw [drop_next l i hi, List.foldl_cons]
    by_cases c : l[i].f0 = 2
    · by_cases c2 : l[i].f4 > m
      · have e : pk (m, v) l[i] = (l[i].f4, l[i].f5) := by unfold pk; rw [if_pos c, if_pos c2]
        rw [e]
        obtain ⟨h1, h2⟩ := ih (i + 1) l[i].f4 l[i].f5 (by omega)
        refine ⟨Ev.step (fun k => ?_) h1, Ev.step (fun k => ?_) h2⟩
        · simp only [spec_PickValue.l0, rdT61_at l i hi]; rw [if_pos (by omega), if_pos (by omega), if_pos c, if_pos c2, w64 i (by omega)]
        · simp only [impl_PickValue.l0, rdT61_at l i hi]; rw [if_pos (by omega), if_pos (by omega), if_pos (by omega), if_pos c, if_pos c2, w64 i (by omega)]
      · have e : pk (m, v) l[i] = (m, v) := by unfold pk; rw [if_pos c, if_neg c2]
        rw [e]
        obtain ⟨h1, h2⟩ := ih (i + 1) m v (by omega)
        refine ⟨Ev.step (fun k => ?_) h1, Ev.step (fun k => ?_) h2⟩
        · simp only [spec_PickValue.l0, rdT61_at l i hi]; rw [if_pos (by omega), if_pos (by omega), if_pos c, if_neg c2, w64 i (by omega)]
        · simp only [impl_PickValue.l0, rdT61_at l i hi]; rw [if_pos (by omega), if_pos (by omega), if_pos (by omega), if_pos c, if_neg c2, w64 i (by omega)]
    · have e : pk (m, v) l[i] = (m, v) := by unfold pk; rw [if_neg c]
      rw [e]
      obtain ⟨h1, h2⟩ := ih (i + 1) m v (by omega)
      refine ⟨Ev.step (fun k => ?_) h1, Ev.step (fun k => ?_) h2⟩
      · simp only [spec_PickValue.l0, rdT61_at l i hi]; rw [if_pos (by omega), if_pos (by omega), if_neg c, w64 i (by omega)]
      · simp only [impl_PickValue.l0, rdT61_at l i hi]; rw [if_pos (by omega), if_pos (by omega), if_pos (by omega), if_neg c, w64 i (by omega)]
theorem pick_ev (l : List S61) (own : ByteArray) (hl : l.length ≤ 1048576) : Ev (fun k => spec_PickValue.f k l own) (l.foldl pk (0, own)).2 ∧ Ev (fun k => impl_PickValue.f k l own) (l.foldl pk (0, own)).2 := pick_loop l hl l.length 0 0 own (by omega)

theorem FnExactPickValue : laws_FnExactPickValue.Ask := by
  intro l own ⟨hl, hs⟩ _
  apply Ev.rounds (r := true) (g := fun k => laws_FnExactPickValue.f k l own)
  unfold laws_FnExactPickValue.f
  by_cases hbig : (own.size : Int) > 1048576
  · simp only [if_pos hbig]; exact Ev.now true
  · simp only [if_neg hbig]
    obtain ⟨r, h, _, _, hr⟩ := szNoteS_ev l 1048576 hl (fun s h => (hs s h).2.2.2.2.2) (by omega) (by omega)
    refine Ev.bind h ?_
    by_cases c : r < 0
    · simp only [if_pos c]; exact Ev.now true
    · simp only [if_neg c]
      have hn := hr (by omega)
      have ht := toNoteS_ev l hn
      have hm : (l.map cvNote).length ≤ 1048576 := by simpa using hn
      obtain ⟨p1, p2⟩ := pick_ev (l.map cvNote) own hm
      refine Ev.bind ht (Ev.bind p1 (Ev.bind ht (Ev.bind p2 ?_)))
      simp only [if_true]
      refine Ev.bind ht (Ev.bind (eqNoteS_ev _ hm) ?_)
      simp only [if_true]
      exact Ev.now true

end Go.Proofs.Ytocgakpicmcemaa.Pure
