/- Plain law of FnExactCountKey: the program's count of a key and the reference's are one. -/
import Derived.Test.YtjiekmbonmbhlaaAskFnExactCountKey
namespace Go.Proofs.Ytjiekmbonmbhlaa.Pure
open Go.RowKit Go.Proofs.Ytjiekmbonmbhlaa.GFnExactCountKey Go.Proofs.YtjiekmbonmbhlaaW.PrintWords Go.Proofs.YtjiekmbonmbhlaaW.PrintLast Go.Proofs.YtjiekmbonmbhlaaW.PrintMore
set_option linter.unusedVariables false
set_option linter.unusedSimpArgs false

/-! ### Lists that are copied, compared, marked -/
theorem w64 (i : Nat) (h : (i : Int) < 9223372036854775807) : wrap64 ((i : Int) + 1) = ((i + 1 : Nat) : Int) := by unfold wrap64; omega
theorem set_take {α : Type} (x : List α) (i : Nat) (v : α) (h : i < x.length) : (x.set i v).take (i + 1) = x.take i ++ [v] := by
  rw [List.take_add_one, List.take_set_of_le (Nat.le_refl i), List.getElem?_set_self h]
  rfl
theorem take_next {α : Type} (x : List α) (i : Nat) (h : i < x.length) : x.take (i + 1) = x.take i ++ [x[i]] := by
  rw [List.take_add_one, List.getElem?_eq_getElem h]
  rfl
theorem rd_at (x : List Int) (i : Nat) (h : i < x.length) : rd x (i : Int) = x[i] := by
  unfold rd
  rw [List.getD_eq_getElem?_getD, Int.toNat_natCast, List.getElem?_eq_getElem h]
  rfl
/-! ### Hashes: the program's and the reference's are one number -/
theorem u32_wrap (n : Int) : IntKind.u32.wrap n = n % 4294967296 := by simp [IntKind.wrap, IntKind.bits, IntKind.signed]
theorem xor_u32 (a b : Nat) (ha : a < 4294967296) (hb : b < 4294967296) : Go.bits .xor .u32 (a : Int) (b : Int) = ((a ^^^ b : Nat) : Int) := by
  show IntKind.u32.wrap ((BitVec.ofInt 32 (a : Int) ^^^ BitVec.ofInt 32 (b : Int)).toNat : Nat) = _
  have h := Nat.xor_lt_two_pow (n := 32) ha hb
  rw [BitVec.toNat_xor, BitVec.ofInt_natCast, BitVec.ofInt_natCast, BitVec.toNat_ofNat, BitVec.toNat_ofNat, Nat.mod_eq_of_lt ha, Nat.mod_eq_of_lt hb, u32_wrap]
  omega
theorem xor_odd (c d : Nat) : (c ^^^ d) % 2 = if c % 2 = d % 2 then 0 else 1 := by
  have h := @Nat.xor_mod_two_eq_one c d
  by_cases e : c % 2 = d % 2
  · rw [if_pos e]; omega
  · rw [if_neg e]; omega
theorem xor_loop (a b : Nat) (ha : a < 4294967296) (hb : b < 4294967296) (d : Nat) : ∀ (i : Nat), i + d = 32 →
    Ev (fun k => spec_l04Xor.l0 k ((a / 2 ^ i : Nat) : Int) ((b / 2 ^ i : Nat) : Int) (((a ^^^ b) % 2 ^ i : Nat) : Int) ((2 ^ i : Nat) : Int) (i : Int)) ((a ^^^ b : Nat) : Int) := by
  have hx := Nat.xor_lt_two_pow (n := 32) ha hb
  induction d with
  | zero =>
    intro i hd
    obtain rfl : i = 32 := by omega
    refine Ev.step (f := fun _ => some ((a ^^^ b : Nat) : Int)) (fun k => ?_) (Ev.now _)
    simp only [spec_l04Xor.l0]
    rw [if_neg (by omega), Nat.mod_eq_of_lt hx]
  | succ d ih =>
    intro i hd
    have hp : 2 ^ i ≤ 2147483648 := by
      have := Nat.pow_le_pow_right (n := 2) (by omega) (show i ≤ 31 by omega)
      simpa using this
    have hp0 : 0 < 2 ^ i := Nat.two_pow_pos i
    have ea : wrap64 (Int.tdiv ((a / 2 ^ i : Nat) : Int) 2) = ((a / 2 ^ (i + 1) : Nat) : Int) := by
      rw [Int.tdiv_eq_ediv_of_nonneg (Int.natCast_nonneg _), Nat.pow_succ, ← Nat.div_div_eq_div_mul]
      have : a / 2 ^ i ≤ a := Nat.div_le_self _ _
      generalize a / 2 ^ i = q at *
      unfold wrap64; omega
    have eb : wrap64 (Int.tdiv ((b / 2 ^ i : Nat) : Int) 2) = ((b / 2 ^ (i + 1) : Nat) : Int) := by
      rw [Int.tdiv_eq_ediv_of_nonneg (Int.natCast_nonneg _), Nat.pow_succ, ← Nat.div_div_eq_div_mul]
      have : b / 2 ^ i ≤ b := Nat.div_le_self _ _
      generalize b / 2 ^ i = q at *
      unfold wrap64; omega
    have ep : wrap64 (2 * ((2 ^ i : Nat) : Int)) = ((2 ^ (i + 1) : Nat) : Int) := by
      rw [Nat.pow_succ]
      generalize 2 ^ i = q at *
      unfold wrap64; omega
    have hs : (a ^^^ b) % 2 ^ (i + 1) = (a ^^^ b) % 2 ^ i + 2 ^ i * ((a / 2 ^ i ^^^ b / 2 ^ i) % 2) := by
      rw [Nat.mod_pow_succ, Nat.xor_div_two_pow]
    have hl : (a ^^^ b) % 2 ^ i < 2 ^ i := Nat.mod_lt _ hp0
    refine Ev.step (fun k => ?_) (ih (i + 1) (by omega))
    simp only [spec_l04Xor.l0]
    rw [if_pos (by omega), ea, eb, ep, w64 i (by omega), Int.tmod_eq_emod_of_nonneg (Int.natCast_nonneg _), Int.tmod_eq_emod_of_nonneg (Int.natCast_nonneg _)]
    rw [xor_odd] at hs
    by_cases c : a / 2 ^ i % 2 = b / 2 ^ i % 2
    · rw [if_pos (by omega)]
      rw [if_pos c, Nat.mul_zero] at hs
      have hs2 : (a ^^^ b) % 2 ^ (i + 1) = (a ^^^ b) % 2 ^ i := hs.trans (Nat.add_zero _)
      rw [hs2]
    · rw [if_neg (by omega)]
      rw [if_neg c, Nat.mul_one] at hs
      have ew : wrap64 ((((a ^^^ b) % 2 ^ i : Nat) : Int) + ((2 ^ i : Nat) : Int)) = (((a ^^^ b) % 2 ^ (i + 1) : Nat) : Int) := by
        rw [hs]
        generalize (a ^^^ b) % 2 ^ i = q at *
        generalize 2 ^ i = p at *
        unfold wrap64; omega
      rw [ew]
theorem xor_ev (a b : Nat) (ha : a < 4294967296) (hb : b < 4294967296) : Ev (fun k => spec_l04Xor.f k (a : Int) (b : Int)) ((a ^^^ b : Nat) : Int) := by
  have h := xor_loop a b ha hb 32 0 rfl
  refine Ev.congr (fun k => ?_) h
  unfold spec_l04Xor.f
  simp [Nat.mod_one]
/-- The bytes of a text behind place i. -/
def tailOf (s : ByteArray) (i : Nat) : List UInt8 := s.data.toList.drop i
/-- One byte more. -/
def hstep (h : Nat) (b : UInt8) : Nat := ((h ^^^ b.toNat) * 16777619) % 4294967296
theorem hstep_lt (h : Nat) (b : UInt8) : hstep h b < 4294967296 := Nat.mod_lt _ (by omega)
/-- What the hash is at last. -/
def hlast (h : Nat) : Nat := h ^^^ (h / 65536)
/-- The hash of a text, from a seed that is in its range. -/
def hashN (s : ByteArray) (seed : Nat) : Nat := hlast ((tailOf s 0).foldl hstep (2166136261 + seed))
theorem hlast_lt (h : Nat) (hh : h < 4294967296) : hlast h < 4294967296 := Nat.xor_lt_two_pow (n := 32) hh (by omega)
theorem fold_lt (l : List UInt8) : ∀ (h : Nat), h < 4294967296 → l.foldl hstep h < 4294967296 := by
  induction l with
  | nil => intro h hh; exact hh
  | cons b l ih => intro h hh; exact ih _ (hstep_lt h b)
theorem hashN_lt (s : ByteArray) (seed : Nat) (h : seed ≤ 1000000000) : hashN s seed < 4294967296 := hlast_lt _ (fold_lt _ _ (by omega))
theorem tailOf_next (s : ByteArray) (i : Nat) (h : i < s.size) : ∃ b : UInt8, tailOf s i = b :: tailOf s (i + 1) ∧ bt s (i : Int) = (b.toNat : Int) := by
  have h' : i < s.data.toList.length := by simpa using h
  refine ⟨s[i], ?_, ?_⟩
  · unfold tailOf
    rw [List.drop_eq_getElem_cons h']
    rfl
  · unfold bt
    rw [dif_pos (by simpa using h)]
    simp
theorem hash_loop (s : ByteArray) (hs : s.size ≤ 4611686018427387904) (d : Nat) : ∀ (i h : Nat), h < 4294967296 → s.size = i + d →
    Ev (fun k => spec_HashOf.l0 k s (h : Int) (i : Int)) ((hlast ((tailOf s i).foldl hstep h) : Nat) : Int) ∧ Ev (fun k => impl_HashOf.l0 k s (h : Int) (i : Int)) ((hlast ((tailOf s i).foldl hstep h) : Nat) : Int) := by
  induction d with
  | zero =>
    intro i h hh hd
    have e : tailOf s i = [] := by unfold tailOf; exact List.drop_eq_nil_of_le (by simp; omega)
    have ed : wrap64 (Int.tdiv (h : Int) 65536) = ((h / 65536 : Nat) : Int) := by
      rw [Int.tdiv_eq_ediv_of_nonneg (by omega)]; unfold wrap64; omega
    have hl := hlast_lt h hh
    have hx := xor_ev h (h / 65536) hh (by omega)
    rw [e]
    refine ⟨Ev.step (f := fun k => (spec_l04Xor.f k (h : Int) ((h / 65536 : Nat) : Int)).bind fun t104 => (some t104)) (fun k => ?_) (Ev.bind hx (Ev.now _)), Ev.step (f := fun _ => some ((hlast h : Nat) : Int)) (fun k => ?_) (Ev.now _)⟩
    · simp only [spec_HashOf.l0]
      rw [if_neg (by omega), ed]
    · simp only [impl_HashOf.l0]
      rw [if_neg (by omega), show (h : Int) / 65536 = ((h / 65536 : Nat) : Int) by omega, xor_u32 h (h / 65536) hh (by omega)]
      show some (wrap64 ((hlast h : Nat) : Int)) = _
      congr 1
      unfold wrap64; omega
  | succ d ih =>
    intro i h hh hd
    obtain ⟨b, e, eb⟩ := tailOf_next s i (by omega)
    have hb : b.toNat < 256 := b.toNat_lt
    have hx := xor_ev h b.toNat hh (by omega)
    have hxl := Nat.xor_lt_two_pow (n := 32) hh (show b.toNat < 2 ^ 32 by omega)
    obtain ⟨h1, h2⟩ := ih (i + 1) (hstep h b) (hstep_lt h b) (by omega)
    rw [e, List.foldl_cons]
    have es : Int.tmod (wrap64 (((h ^^^ b.toNat : Nat) : Int) * 16777619)) 4294967296 = ((hstep h b : Nat) : Int) := by
      unfold hstep
      have : wrap64 (((h ^^^ b.toNat : Nat) : Int) * 16777619) = ((h ^^^ b.toNat : Nat) : Int) * 16777619 := by unfold wrap64; omega
      rw [this, Int.tmod_eq_emod_of_nonneg (by omega)]
      omega
    have ei : (((h ^^^ b.toNat : Nat) : Int) * 16777619) % 4294967296 = ((hstep h b : Nat) : Int) := by
      unfold hstep; omega
    refine ⟨Ev.step (f := fun k => (spec_l04Xor.f k (h : Int) (b.toNat : Int)).bind fun t103 => (spec_HashOf.l0 k s (Int.tmod (wrap64 (t103 * 16777619)) 4294967296) (wrap64 ((i : Int) + 1)))) (fun k => ?_) (Ev.bind hx ?_), Ev.step (fun k => ?_) h2⟩
    · simp only [spec_HashOf.l0]
      rw [if_pos (by omega), if_pos (by omega), eb, show wrap64 ((b.toNat : Nat) : Int) = (b.toNat : Int) by unfold wrap64; omega]
    · simp only [es, w64 i (by omega)]
      exact h1
    · simp only [impl_HashOf.l0]
      rw [if_pos (by omega), if_pos (by omega), eb, show ((b.toNat : Nat) : Int) % 4294967296 = (b.toNat : Int) by omega, xor_u32 h b.toNat hh (by omega), ei, w64 i (by omega)]
theorem hash_ev (s : ByteArray) (hs : s.size ≤ 4611686018427387904) (seed : Nat) (h : seed ≤ 1000000000) :
    Ev (fun k => spec_HashOf.f k s (seed : Int)) ((hashN s seed : Nat) : Int) ∧ Ev (fun k => impl_HashOf.f k s (seed : Int)) ((hashN s seed : Nat) : Int) := by
  obtain ⟨h1, h2⟩ := hash_loop s hs s.size 0 (2166136261 + seed) (by omega) (by omega)
  constructor
  · refine Ev.congr (f := fun k => spec_HashOf.j0 k s (seed : Int)) (fun k => ?_) (Ev.step (f := fun k => spec_HashOf.j1 k s (seed : Int)) (fun k => ?_) (Ev.step (fun k => ?_) h1))
    · unfold spec_HashOf.f
      rw [if_neg (by omega)]
    · simp only [spec_HashOf.j0]
      rw [if_neg (by omega)]
    · simp only [spec_HashOf.j1]
      have : Int.tmod (wrap64 (2166136261 + (seed : Int))) 4294967296 = ((2166136261 + seed : Nat) : Int) := by
        have : wrap64 (2166136261 + (seed : Int)) = 2166136261 + (seed : Int) := by unfold wrap64; omega
        rw [this, Int.tmod_eq_emod_of_nonneg (by omega)]; omega
      rw [this]
      rfl
  · refine Ev.congr (fun k => ?_) h2
    unfold impl_HashOf.f
    have : mx 0 (mn (seed : Int) 1000000000) = (seed : Int) := by unfold mx mn; split <;> split <;> omega
    rw [this]
    rfl
theorem toIntS_loop (l : List Int) (hl : l.length ≤ 35184372088832) (d : Nat) : ∀ (x : List Int) (i : Nat), x.length = l.length → x.take i = l.take i → l.length = i + d → Ev (fun k => laws_toIntS.l0 k l x (i : Int)) l := by
  induction d with
  | zero =>
    intro x i hx ht hd
    refine Ev.step (f := fun _ => some l) (fun k => ?_) (Ev.now _)
    have e : x = l := by rw [List.take_of_length_le (by omega), List.take_of_length_le (by omega)] at ht; exact ht
    simp only [laws_toIntS.l0]
    rw [if_neg (by omega), e]
  | succ d ih =>
    intro x i hx ht hd
    have hi : i < l.length := by omega
    refine Ev.step (f := fun k => laws_toIntS.l0 k l (x.set i l[i]) ((i + 1 : Nat) : Int)) (fun k => ?_) (ih (x.set i l[i]) (i + 1) (by simpa using hx) ?_ (by omega))
    · simp only [laws_toIntS.l0]
      rw [if_pos (by omega), if_pos (by omega), if_pos (by omega), w64 i (by omega), rd_at l i hi, Int.toNat_natCast]
    · rw [set_take x i _ (by omega), take_next l i hi, ht]
theorem toIntS_ev (l : List Int) (hl : l.length ≤ 35184372088832) : Ev (fun k => laws_toIntS.f k l) l := by
  refine Ev.congr (f := fun k => laws_toIntS.l0 k l (List.replicate l.length 0) ((0 : Nat) : Int)) (fun k => ?_) (toIntS_loop l hl l.length _ 0 (by simp) rfl (by omega))
  unfold laws_toIntS.f
  rw [if_pos (by omega), if_pos (by rw [Int.toNat_natCast]; exact hl), Int.toNat_natCast]
  rfl
theorem eqIntS_loop (a b : List Int) (hl : a.length ≤ 35184372088832) (hab : a = b) (d : Nat) : ∀ (i : Nat), a.length = i + d → Ev (fun k => laws_eqIntS.l0 k a b (i : Int)) true := by
  subst hab
  induction d with
  | zero =>
    intro i hd
    refine Ev.step (f := fun _ => some true) (fun k => ?_) (Ev.now _)
    simp only [laws_eqIntS.l0]
    rw [if_neg (by omega)]
  | succ d ih =>
    intro i hd
    refine Ev.step (f := fun k => laws_eqIntS.l0 k a a ((i + 1 : Nat) : Int)) (fun k => ?_) (ih (i + 1) (by omega))
    simp only [laws_eqIntS.l0]
    rw [if_pos (by omega), if_pos (by omega), if_pos (by omega), w64 i (by omega)]
    simp only [if_true]
theorem eqIntS_ev (a : List Int) (hl : a.length ≤ 35184372088832) : Ev (fun k => laws_eqIntS.f k a a) true := by
  refine Ev.congr (f := fun k => laws_eqIntS.l0 k a a ((0 : Nat) : Int)) (fun k => ?_) (eqIntS_loop a a hl rfl a.length 0 (by omega))
  unfold laws_eqIntS.f
  rw [if_pos rfl]
  rfl
/-- What stands behind the marking. -/
def markedI (l : List Int) (m : Int) : List Int := (List.range l.length).map fun (i : Nat) => m + (i : Int)
theorem markedI_len (l : List Int) (m : Int) : (markedI l m).length = l.length := by simp [markedI]
theorem markIntS_loop (n : Nat) (m : Int) (h0 : 0 ≤ m) (h1 : m + n < 9223372036854775807) (d : Nat) : ∀ (x : List Int) (i : Nat), x.length = n → (∀ j, j < i → x[j]? = some (m + (j : Int))) → n = i + d →
    Ev (fun k => laws_markIntS.l0 k x (m + (i : Int)) (i : Int)) (m + (n : Int), (List.range n).map fun (i : Nat) => m + (i : Int)) := by
  induction d with
  | zero =>
    intro x i hx ht hd
    refine Ev.step (f := fun _ => some (m + (n : Int), (List.range n).map fun (i : Nat) => m + (i : Int))) (fun k => ?_) (Ev.now _)
    have e : x = (List.range n).map fun (i : Nat) => m + (i : Int) := by
      apply List.ext_getElem?
      intro j
      by_cases hj : j < n
      · rw [ht j (by omega)]; simp [hj]
      · rw [List.getElem?_eq_none (by omega), List.getElem?_eq_none (by simp; omega)]
    simp only [laws_markIntS.l0]
    rw [if_neg (by omega), ← e]
    have : i = n := by omega
    subst this
    rfl
  | succ d ih =>
    intro x i hx ht hd
    refine Ev.step (f := fun k => laws_markIntS.l0 k (x.set i (m + (i : Int))) (m + ((i + 1 : Nat) : Int)) ((i + 1 : Nat) : Int)) (fun k => ?_) (ih (x.set i (m + (i : Int))) (i + 1) (by simpa using hx) ?_ (by omega))
    · have e : wrap64 (m + (i : Int) + 1) = m + ((i + 1 : Nat) : Int) := by unfold wrap64; omega
      simp only [laws_markIntS.l0]
      rw [if_pos (by omega), if_pos (by omega), w64 i (by omega), e, Int.toNat_natCast]
    · intro j hj
      by_cases c : j = i
      · subst c; rw [List.getElem?_set_self (by omega)]
      · rw [List.getElem?_set_ne (by omega)]; exact ht j (by omega)
theorem markIntS_ev (l : List Int) (m : Int) (h0 : 0 ≤ m) (h1 : m + l.length < 9223372036854775807) : Ev (fun k => laws_markIntS.f k l m) (m + (l.length : Int), markedI l m) := by
  refine Ev.congr (f := fun k => laws_markIntS.l0 k l (m + ((0 : Nat) : Int)) ((0 : Nat) : Int)) (fun k => ?_) (markIntS_loop l.length m h0 h1 l.length l 0 rfl (fun j hj => absurd hj (by omega)) (by omega))
  unfold laws_markIntS.f
  rw [show m + ((0 : Nat) : Int) = m by omega]
  rfl
theorem heldIntS_loop (l : List Int) (m : Int) (h0 : 0 ≤ m) (h1 : m + l.length < 9223372036854775807) (d : Nat) : ∀ (i : Nat), l.length = i + d →
    Ev (fun k => laws_heldIntS.l0 k (markedI l m) (m + (i : Int)) (i : Int)) (m + (l.length : Int)) := by
  induction d with
  | zero =>
    intro i hd
    refine Ev.step (f := fun _ => some (m + (l.length : Int))) (fun k => ?_) (Ev.now _)
    simp only [laws_heldIntS.l0, markedI_len]
    rw [if_neg (by omega)]
    have : i = l.length := by omega
    subst this
    rfl
  | succ d ih =>
    intro i hd
    refine Ev.step (f := fun k => laws_heldIntS.l0 k (markedI l m) (m + ((i + 1 : Nat) : Int)) ((i + 1 : Nat) : Int)) (fun k => ?_) (ih (i + 1) (by omega))
    have e : wrap64 (m + (i : Int) + 1) = m + ((i + 1 : Nat) : Int) := by unfold wrap64; omega
    have e2 : rd (markedI l m) (i : Int) = m + (i : Int) := by
      rw [rd_at _ i (by rw [markedI_len]; omega)]
      simp [markedI]
    simp only [laws_heldIntS.l0, markedI_len]
    rw [if_pos (by omega), if_pos (by omega), e2, if_pos rfl, w64 i (by omega), e]
theorem heldIntS_ev (l : List Int) (m : Int) (h0 : 0 ≤ m) (h1 : m + l.length < 9223372036854775807) : Ev (fun k => laws_heldIntS.f k (markedI l m) m) (m + (l.length : Int)) := by
  refine Ev.congr (f := fun k => laws_heldIntS.l0 k (markedI l m) (m + ((0 : Nat) : Int)) ((0 : Nat) : Int)) (fun k => ?_) (heldIntS_loop l m h0 h1 l.length 0 (by omega))
  unfold laws_heldIntS.f
  rw [show m + ((0 : Nat) : Int) = m by omega]
  rfl
/-! ### Sketches: weighed, copied, compared, marked -/
theorem szIntS_sk (l : List Int) (a : Int) (hl : l.length ≤ maxLen) (h0 : 0 ≤ a) (h1 : a ≤ 1048576) : ∃ r, laws_szIntS.f l a = some r ∧ r ≤ a ∧ -1 ≤ r ∧ (0 ≤ r → l.length ≤ 1048576) := by
  unfold maxLen at hl
  unfold laws_szIntS.f
  have e : wrap64 (a - (l.length : Int)) = a - (l.length : Int) := by unfold wrap64; omega
  rw [e]
  by_cases c : a - (l.length : Int) < 0
  · rw [if_pos c]; exact ⟨-1, rfl, by omega, by omega, by omega⟩
  · rw [if_neg c]; exact ⟨_, rfl, by omega, by omega, by omega⟩
theorem szSketch_ev (l : List Int) (n : Int) (a : Int) (hl : l.length ≤ maxLen) (h0 : 0 ≤ a) (h1 : a ≤ 1048576) :
    ∃ r, laws_szSketch.f l n a = some r ∧ r ≤ a ∧ -1 ≤ r ∧ (0 ≤ r → l.length ≤ 1048576) := by
  obtain ⟨r, h, r1, r2, r3⟩ := szIntS_sk l a hl h0 h1
  refine ⟨r, ?_, r1, r2, r3⟩
  unfold laws_szSketch.f
  rw [h, Option.bind_some]
  by_cases c : r < 0
  · rw [if_pos c, show r = -1 by omega]
  · rw [if_neg c]
theorem toSketch_ev (l : List Int) (n : Int) (hl : l.length ≤ 1048576) : Ev (fun k => laws_toSketch.f k l n) (l, n) := by
  unfold laws_toSketch.f
  exact Ev.bind (toIntS_ev l (by omega)) (Ev.now _)
theorem eqSketch_ev (l : List Int) (n : Int) (hl : l.length ≤ 1048576) : Ev (fun k => laws_eqSketch.f k l n l n) true := by
  unfold laws_eqSketch.f
  refine Ev.bind (eqIntS_ev l (by omega)) ?_
  simp only [if_true]
  exact Ev.now _
theorem markSketch_ev (l : List Int) (n : Int) (hl : l.length ≤ 1048576) : Ev (fun k => laws_markSketch.f k l n 1) (1 + (l.length : Int), markedI l 1) := by
  unfold laws_markSketch.f
  exact Ev.bind (markIntS_ev l 1 (by omega) (by omega)) (Ev.now _)
theorem heldSketch_ev (l : List Int) (n : Int) (hl : l.length ≤ 1048576) : Ev (fun k => laws_heldSketch.f k (markedI l 1) n 1) (1 + (l.length : Int)) := by
  unfold laws_heldSketch.f
  refine Ev.bind (heldIntS_ev l 1 (by omega) (by omega)) ?_
  simp only [if_neg (show ¬ (1 + (l.length : Int) < 0) by omega)]
  exact Ev.now _
/-! ### A right sketch -/
def inD (x : Int) : Bool := decide (0 ≤ x ∧ x ≤ 15)
theorem skOk_iff {l : List Int} {n : Int} : skOk l n = true ↔ l.length = 48 ∧ (∀ x ∈ l, 0 ≤ x ∧ x ≤ 15) ∧ 0 ≤ n ∧ n ≤ 99 := by
  unfold skOk
  simp only [Bool.and_eq_true, decide_eq_true_eq, List.all_eq_true]
  constructor
  · rintro ⟨⟨h1, h2⟩, h3⟩; exact ⟨h1, h2, h3⟩
  · rintro ⟨h1, h2, h3⟩; exact ⟨⟨h1, h2⟩, h3⟩
theorem all_step {l : List Int} {i : Nat} (hi : i < l.length) (p : Int → Bool) : (l.drop i).all p = (p l[i] && (l.drop (i + 1)).all p) := by
  rw [List.drop_eq_getElem_cons hi, List.all_cons]
theorem rangeSI (x a b : Int) : impl_inRange.f x a b = some (decide (a ≤ x ∧ x ≤ b)) := by
  unfold impl_inRange.f
  by_cases c : x ≥ a
  · rw [if_pos c]; congr 1; simp; omega
  · rw [if_neg c]; congr 1; simp; omega
theorem skI_loop (l : List Int) (n : Int) (hl : l.length ≤ 1048576) (d : Nat) : ∀ (i : Nat), l.length = i + d → Ev (fun k => impl_SketchOk.l0 k l (l.length : Int) (i : Int) l n) (decide (l.length = 48) && (l.drop i).all inD && decide (0 ≤ n ∧ n ≤ 99)) := by
  induction d with
  | zero =>
    intro i hd
    refine Ev.step (f := fun _ => some _) (fun k => ?_) (Ev.now _)
    simp only [impl_SketchOk.l0, rangeSI, Option.bind_some]
    rw [if_neg (by omega), List.drop_of_length_le (by omega)]
    by_cases c : l.length = 48
    · rw [if_pos (by omega), decide_eq_true c]; simp
    · rw [if_neg (by omega), decide_eq_false c]; simp
  | succ d ih =>
    intro i hd
    have hi : i < l.length := by omega
    rw [all_step hi]
    by_cases c : inD l[i] = true
    · refine Ev.step (f := fun k => impl_SketchOk.l0 k l (l.length : Int) ((i + 1 : Nat) : Int) l n) (fun k => ?_) (by rw [c, Bool.true_and]; exact ih (i + 1) (by omega))
      simp only [impl_SketchOk.l0, rangeSI, Option.bind_some]
      rw [if_pos (by omega), if_pos (by omega), if_pos (by omega), rd_at l i hi, show decide (0 ≤ l[i] ∧ l[i] ≤ 15) = true from c, if_pos rfl, w64 i (by omega)]
    · have c' : inD l[i] = false := by simpa using c
      refine Ev.step (f := fun _ => some false) (fun k => ?_) (by rw [c']; simp; exact Ev.now _)
      simp only [impl_SketchOk.l0, rangeSI, Option.bind_some]
      rw [if_pos (by omega), if_pos (by omega), if_pos (by omega), rd_at l i hi, show decide (0 ≤ l[i] ∧ l[i] ≤ 15) = false from c', if_neg (by simp)]
theorem skI_ev (l : List Int) (n : Int) (hl : l.length ≤ 1048576) : Ev (fun k => impl_SketchOk.f k l n) (skOk l n) := skI_loop l n hl l.length 0 (by omega)
theorem rangeSS (x a b : Int) : spec_l01In.f x a b = some (decide (a ≤ x ∧ x ≤ b)) := by
  unfold spec_l01In.f
  by_cases c : x ≥ a
  · rw [if_pos c]; congr 1; simp; omega
  · rw [if_neg c]; congr 1; simp; omega
theorem skS_loop (l : List Int) (n : Int) (hl : l.length ≤ 1048576) (d : Nat) : ∀ (i : Nat), l.length = i + d → Ev (fun k => spec_SketchOk.l0 k (i : Int) l n) ((l.drop i).all inD) := by
  induction d with
  | zero =>
    intro i hd
    refine Ev.step (f := fun _ => some _) (fun k => ?_) (Ev.now _)
    simp only [spec_SketchOk.l0]
    rw [if_neg (by omega), List.drop_of_length_le (by omega)]
    rfl
  | succ d ih =>
    intro i hd
    have hi : i < l.length := by omega
    rw [all_step hi]
    by_cases c : inD l[i] = true
    · refine Ev.step (f := fun k => spec_SketchOk.l0 k ((i + 1 : Nat) : Int) l n) (fun k => ?_) (by rw [c, Bool.true_and]; exact ih (i + 1) (by omega))
      simp only [spec_SketchOk.l0, rangeSS, Option.bind_some]
      rw [if_pos (by omega), if_pos (by omega), rd_at l i hi, show decide (0 ≤ l[i] ∧ l[i] ≤ 15) = true from c, if_pos rfl, w64 i (by omega)]
    · have c' : inD l[i] = false := by simpa using c
      refine Ev.step (f := fun _ => some false) (fun k => ?_) (by rw [c']; simp; exact Ev.now _)
      simp only [spec_SketchOk.l0, rangeSS, Option.bind_some]
      rw [if_pos (by omega), if_pos (by omega), rd_at l i hi, show decide (0 ≤ l[i] ∧ l[i] ≤ 15) = false from c', if_neg (by simp)]
theorem skS_ev (l : List Int) (n : Int) (hl : l.length ≤ 1048576) : Ev (fun k => spec_SketchOk.f k l n) (skOk l n) := by
  unfold spec_SketchOk.f skOk
  by_cases c : l.length = 48
  · simp only [if_pos (show (l.length : Int) = 48 by omega), rangeSS, Option.bind_some, decide_eq_true c, Bool.true_and]
    by_cases c2 : 0 ≤ n ∧ n ≤ 99
    · simp only [decide_eq_true c2, Bool.and_true]
      refine Ev.step (f := fun k => spec_SketchOk.l0 k ((0 : Nat) : Int) l n) (fun k => ?_) (skS_loop l n hl l.length 0 (by omega))
      simp only [spec_SketchOk.j0]
      rw [if_neg (by simp)]
      rfl
    · simp only [decide_eq_false c2, Bool.and_false]
      refine Ev.step (f := fun k => some false) (fun k => ?_) (Ev.now _)
      simp only [spec_SketchOk.j0]
      rw [if_pos (by simp)]
  · simp only [if_neg (show ¬ (l.length : Int) = 48 by omega), decide_eq_false c, Bool.false_and]
    refine Ev.step (f := fun k => some false) (fun k => ?_) (Ev.now _)
    simp only [spec_SketchOk.j0]
    simp
/-! ### A sketch that counts a key -/
/-- The place of a key's count in a row. -/
def plc (s : ByteArray) (i : Nat) : Int := (i : Int) * 16 + ((hashN s i % 16 : Nat) : Int)
theorem plc_in (s : ByteArray) (i : Nat) (h : i < 3) : 0 ≤ plc s i ∧ plc s i < 48 := by
  have := Nat.mod_lt (hashN s i) (show 16 > 0 by omega)
  unfold plc; omega
theorem plc_wrap (s : ByteArray) (i : Nat) (h : i < 3) : wrap64 ((wrap64 ((i : Int) * 16)) + (Int.tmod ((hashN s i : Nat) : Int) 16)) = plc s i := by
  rw [Int.tmod_eq_emod_of_nonneg (Int.natCast_nonneg _)]
  have := Nat.mod_lt (hashN s i) (show 16 > 0 by omega)
  unfold plc wrap64; omega
theorem at_ev (s : ByteArray) (hs : s.size ≤ 4611686018427387904) (i : Nat) (h : i < 3) : Ev (fun k => impl_countAt.f k s (i : Int)) (plc s i) ∧ Ev (fun k => spec_l05At.f k s (i : Int)) (plc s i) := by
  obtain ⟨h1, h2⟩ := hash_ev s hs i (by omega)
  constructor
  · unfold impl_countAt.f
    refine Ev.bind h2 ?_
    rw [plc_wrap s i h]; exact Ev.now _
  · unfold spec_l05At.f
    refine Ev.bind h1 ?_
    rw [plc_wrap s i h]; exact Ev.now _
/-- A sketch behind one more key. -/
def cntd (l : List Int) (n : Int) (s : ByteArray) : List Int × Int :=
  if skOk l n = true then (if n = 99 then (cl l (plc s) 3).map hf else cl l (plc s) 3, if n = 99 then 0 else n + 1) else (l, n)
theorem cntd_len (l : List Int) (n : Int) (s : ByteArray) : (cntd l n s).1.length = l.length := by
  unfold cntd
  split
  · show (if n = 99 then (cl l (plc s) 3).map hf else cl l (plc s) 3).length = l.length
    split <;> simp [cl_len]
  · rfl
theorem cl_congr (l : List Int) (a b : Nat → Int) (n : Nat) (h : ∀ i, i < n → a i = b i) : cl l a n = cl l b n := by
  induction n with
  | zero => rfl
  | succ n ih =>
    show (cl l a n).set _ _ = (cl l b n).set _ _
    rw [ih (fun i hi => h i (by omega)), h n (by omega)]
theorem at3_eq (f : Nat → Int) (i : Nat) (h : i < 3) : at3 (f 0) (f 1) (f 2) i = f i := by
  unfold at3
  by_cases h0 : i = 0
  · rw [if_pos h0, h0]
  · rw [if_neg h0]
    by_cases h1 : i = 1
    · rw [if_pos h1, h1]
    · rw [if_neg h1, show i = 2 by omega]
theorem countI_ev (l : List Int) (n : Int) (s : ByteArray) (hl : l.length ≤ 1048576) (hs : s.size ≤ 4611686018427387904) : Ev (fun k => impl_CountKey.f k l n s) (cntd l n s) := by
  unfold impl_CountKey.f
  have h0 : impl_copySketch.f l n = some (l, n) := by
    unfold impl_copySketch.f slices_Clone_int_int.f
    rw [if_pos (by omega)]; rfl
  simp only [h0, Option.bind_some]
  refine Ev.bind (skI_ev l n hl) ?_
  unfold cntd
  by_cases c : skOk l n = true
  · simp only [if_pos c]
    refine Ev.bind (at_ev s hs 0 (by omega)).1 (Ev.bind (at_ev s hs 1 (by omega)).1 (Ev.bind (at_ev s hs 2 (by omega)).1 ?_))
    unfold counted
    rw [if_pos ⟨c, plc_in s 0 (by omega), plc_in s 1 (by omega), plc_in s 2 (by omega)⟩, cl_congr l (at3 (plc s 0) (plc s 1) (plc s 2)) (plc s) 3 (fun i hi => at3_eq (plc s) i hi)]
    exact Ev.now _
  · simp only [if_neg c]
    exact Ev.now _
theorem set_same (l : List Int) (i : Int) (h0 : 0 ≤ i) (v : Int) (h : i < (l.length : Int)) (e : rd l i = v) : l.set i.toNat v = l := by
  subst e
  unfold rd
  have hi : i.toNat < l.length := by omega
  rw [List.getD_eq_getElem?_getD, List.getElem?_eq_getElem hi]
  exact List.set_getElem_self hi
theorem countS_half (x : List Int) (m : Int) (hm : x.length ≤ 1048576) (d : Nat) : ∀ (i : Nat), x.length = i + d → Ev (fun k => spec_CountKey.l1 k (i : Int) (hl x i) m) (x.map hf, m) := by
  induction d with
  | zero =>
    intro i hd
    refine Ev.step (f := fun _ => some _) (fun k => ?_) (Ev.now _)
    simp only [spec_CountKey.l1]
    have hn := hl_len x i
    rw [if_neg (by omega)]
    congr 2
    unfold hl
    rw [List.take_of_length_le (by omega), List.drop_of_length_le (by omega), List.append_nil]
  | succ d ih =>
    intro i hd
    have hn := hl_len x i
    refine Ev.step (f := fun k => spec_CountKey.l1 k ((i + 1 : Nat) : Int) (hl x (i + 1)) m) (fun k => ?_) (ih (i + 1) (by omega))
    simp only [spec_CountKey.l1]
    rw [if_pos (by omega), if_pos (by omega), w64 i (by omega)]
    rw [show hl x (i + 1) = _ from (hl_next x i (by omega)).symm, Int.toNat_natCast]
    rfl
theorem countS_loop (l : List Int) (n : Int) (s : ByteArray) (hok : skOk l n = true) (hs : s.size ≤ 4611686018427387904) (d : Nat) : ∀ (i : Nat), 3 = i + d → Ev (fun k => spec_CountKey.l0 k s (i : Int) (cl l (plc s) i) n) (cntd l n s) := by
  obtain ⟨h48, hx, hn⟩ := skOk_iff.1 hok
  induction d with
  | zero =>
    intro i hd
    obtain rfl : i = 3 := by omega
    have hw : wrap64 (n + 1) = n + 1 := by unfold wrap64; omega
    unfold cntd
    rw [if_pos hok]
    by_cases c : n = 99
    · rw [if_pos c, if_pos c]
      refine Ev.step (f := fun k => spec_CountKey.l1 k ((0 : Nat) : Int) (hl (cl l (plc s) 3) 0) 0) (fun k => ?_) (countS_half _ 0 (by rw [cl_len]; omega) (cl l (plc s) 3).length 0 (by omega))
      simp only [spec_CountKey.l0]
      rw [if_neg (by omega), hw, if_pos (by omega)]
      rfl
    · rw [if_neg c, if_neg c]
      refine Ev.step (f := fun k => some _) (fun k => ?_) (Ev.now _)
      simp only [spec_CountKey.l0]
      rw [if_neg (by omega), hw, if_neg (by omega)]
  | succ d ih =>
    intro i hd
    have hlen := cl_len l (plc s) i
    have hp := plc_in s i (by omega)
    have hr := rd_bd (cl_bd l (plc s) hx i) (plc s i)
    refine Ev.step (f := fun k => (spec_l05At.f k s (i : Int)).bind fun t126 => (if 0 ≤ t126 then (if t126 < ((cl l (plc s) i).length : Int) then (if (rd (cl l (plc s) i) t126) < 15 then (spec_CountKey.l0 k s (wrap64 ((i : Int) + 1)) ((cl l (plc s) i).set (t126 : Int).toNat (wrap64 ((rd (cl l (plc s) i) t126) + 1))) n) else (spec_CountKey.l0 k s (wrap64 ((i : Int) + 1)) (cl l (plc s) i) n)) else (none)) else (none))) (fun k => ?_) (Ev.bind (at_ev s hs i (by omega)).2 ?_)
    · simp only [spec_CountKey.l0]
      rw [if_pos (by omega)]
    · have e : (cl l (plc s) (i + 1)) = (cl l (plc s) i).set (plc s i).toNat (mn (rd (cl l (plc s) i) (plc s i) + 1) 15) := rfl
      have ih' := ih (i + 1) (by omega)
      simp only [if_pos hp.1, if_pos (show plc s i < ((cl l (plc s) i).length : Int) by omega), w64 i (by omega)]
      by_cases c : rd (cl l (plc s) i) (plc s i) < 15
      · simp only [if_pos c]
        rw [show wrap64 (rd (cl l (plc s) i) (plc s i) + 1) = mn (rd (cl l (plc s) i) (plc s i) + 1) 15 by unfold mn wrap64; split <;> omega, ← e]
        exact ih'
      · simp only [if_neg c]
        rw [show mn (rd (cl l (plc s) i) (plc s i) + 1) 15 = 15 by unfold mn; split <;> omega, set_same _ _ hp.1 15 (by omega) (by omega)] at e
        rw [← e]
        exact ih'
theorem countS_ev (l : List Int) (n : Int) (s : ByteArray) (hl : l.length ≤ 1048576) (hs : s.size ≤ 4611686018427387904) : Ev (fun k => spec_CountKey.f k l n s) (cntd l n s) := by
  unfold spec_CountKey.f
  have h0 : spec_l05Copy.f l n = some (l, n) := by
    unfold spec_l05Copy.f
    simp only [Option.bind_some, List.length_nil, List.nil_append]
    rw [if_pos (by omega)]
  simp only [h0, Option.bind_some]
  refine Ev.bind (skS_ev l n hl) ?_
  by_cases c : skOk l n = true
  · simp only [if_pos c]
    exact countS_loop l n s c hs 3 0 rfl
  · simp only [if_neg c]
    unfold cntd
    rw [if_neg c]
    exact Ev.now _

theorem FnExactCountKey : laws_FnExactCountKey.Ask := by
  intro l n s hl0 _ hs
  apply Ev.rounds (r := true) (g := fun k => laws_FnExactCountKey.f k l n s)
  unfold laws_FnExactCountKey.f
  by_cases hbig : (s.size : Int) > 1048576
  · simp only [if_pos hbig]; exact Ev.now true
  · have hs' : s.size ≤ 4611686018427387904 := by omega
    simp only [if_neg hbig]
    obtain ⟨r, h, _, _, hr⟩ := szSketch_ev l n 1048576 hl0.1 (by omega) (by omega)
    simp only [h, Option.bind_some]
    by_cases c : r < 0
    · simp only [if_pos c]; exact Ev.now true
    · simp only [if_neg c]
      have hn := hr (by omega)
      have ht := toSketch_ev l n hn
      have hcl := cntd_len l n s
      have hI := countI_ev l n s hn hs'
      have he := eqSketch_ev (cntd l n s).1 (cntd l n s).2 (by omega)
      refine Ev.bind ht (Ev.bind (countS_ev l n s hn hs') (Ev.bind ht (Ev.bind hI (Ev.bind he ?_))))
      simp only [if_true]
      refine Ev.bind ht (Ev.bind (eqSketch_ev l n hn) ?_)
      simp only [if_true]
      refine Ev.bind (markSketch_ev l n hn) ?_
      simp only [if_neg (show ¬ (1 + (l.length : Int) < 0) by omega)]
      refine Ev.bind he ?_
      refine Ev.step (fun k => by simp only [laws_FnExactCountKey.j0]; rw [if_neg (by simp)]) ?_
      refine Ev.bind (markSketch_ev _ _ (by omega)) ?_
      refine Ev.bind (heldSketch_ev _ _ (by omega)) ?_
      simp only [if_neg (show ¬ (1 + ((cntd l n s).1.length : Int) < 0) by omega), if_true]
      refine Ev.bind ht (Ev.bind hI (Ev.bind he ?_))
      simp only [if_true]
      refine Ev.bind (heldSketch_ev _ _ (by omega)) ?_
      simp only [if_neg (show ¬ (1 + ((cntd l n s).1.length : Int) < 0) by omega), if_true]
      exact Ev.now true

end Go.Proofs.Ytjiekmbonmbhlaa.Pure
