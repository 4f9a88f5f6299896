/- Plain law of FnCounts: one more count lifts the key's own guess by one, and no guess falls, until all are halved. -/
import Derived.Test.YtjiekmbonmbhlaaGFnCountsx6
namespace Go.Proofs.Ytjiekmbonmbhlaa.Pure
open Go.RowKit Go.Proofs.Ytjiekmbonmbhlaa.GFnCounts Go.Proofs.YtjiekmbonmbhlaaW.PrintWords Go.Proofs.YtjiekmbonmbhlaaW.PrintLast Go.Proofs.YtjiekmbonmbhlaaW.PrintMore
set_option linter.unusedVariables false
set_option linter.unusedSimpArgs false

/-! ### Lists that are copied, compared, marked -/
theorem w64 (i : Nat) (h : (i : Int) < 9223372036854775807) : wrap64 ((i : Int) + 1) = ((i + 1 : Nat) : Int) := by unfold wrap64; omega
theorem set_take {α : Type} (x : List α) (i : Nat) (v : α) (h : i < x.length) : (x.set i v).take (i + 1) = x.take i ++ [v] := by
  rw [List.take_add_one, List.take_set_of_le (Nat.le_refl i), List.getElem?_set_self h]
  rfl
theorem take_next {α : Type} (x : List α) (i : Nat) (h : i < x.length) : x.take (i + 1) = x.take i ++ [x[i]] := by
  rw [List.take_add_one, List.getElem?_eq_getElem h]
  rfl
theorem rd_at (x : List Int) (i : Nat) (h : i < x.length) : rd x (i : Int) = x[i] := by
  unfold rd
  rw [List.getD_eq_getElem?_getD, Int.toNat_natCast, List.getElem?_eq_getElem h]
  rfl
/-! ### Lists of texts -/
theorem str_eq {s t : ByteArray} : s.toList = t.toList ↔ s = t :=
  ⟨fun h => Go.WideShapes.bytes_inj (by rw [← ByteArray.toList_eq, ← ByteArray.toList_eq]; exact h), fun h => by rw [h]⟩
noncomputable abbrev decMem (s : ByteArray) (l : List ByteArray) : Decidable (s ∈ l) := Classical.propDecidable _
attribute [local instance] decMem
theorem rdS_at (x : List ByteArray) (i : Nat) (h : i < x.length) : rdOf ByteArray.empty x (i : Int) = x[i] := by
  unfold rdOf
  rw [List.getD_eq_getElem?_getD, Int.toNat_natCast, List.getElem?_eq_getElem h]
  rfl
/-! ### Hashes: the program's and the reference's are one number -/
theorem u32_wrap (n : Int) : IntKind.u32.wrap n = n % 4294967296 := by simp [IntKind.wrap, IntKind.bits, IntKind.signed]
theorem xor_u32 (a b : Nat) (ha : a < 4294967296) (hb : b < 4294967296) : Go.bits .xor .u32 (a : Int) (b : Int) = ((a ^^^ b : Nat) : Int) := by
  show IntKind.u32.wrap ((BitVec.ofInt 32 (a : Int) ^^^ BitVec.ofInt 32 (b : Int)).toNat : Nat) = _
  have h := Nat.xor_lt_two_pow (n := 32) ha hb
  rw [BitVec.toNat_xor, BitVec.ofInt_natCast, BitVec.ofInt_natCast, BitVec.toNat_ofNat, BitVec.toNat_ofNat, Nat.mod_eq_of_lt ha, Nat.mod_eq_of_lt hb, u32_wrap]
  omega
theorem xor_odd (c d : Nat) : (c ^^^ d) % 2 = if c % 2 = d % 2 then 0 else 1 := by
  have h := @Nat.xor_mod_two_eq_one c d
  by_cases e : c % 2 = d % 2
  · rw [if_pos e]; omega
  · rw [if_neg e]; omega
theorem xor_loop (a b : Nat) (ha : a < 4294967296) (hb : b < 4294967296) (d : Nat) : ∀ (i : Nat), i + d = 32 →
    Ev (fun k => spec_l04Xor.l0 k ((a / 2 ^ i : Nat) : Int) ((b / 2 ^ i : Nat) : Int) (((a ^^^ b) % 2 ^ i : Nat) : Int) ((2 ^ i : Nat) : Int) (i : Int)) ((a ^^^ b : Nat) : Int) := by
  have hx := Nat.xor_lt_two_pow (n := 32) ha hb
  induction d with
  | zero =>
    intro i hd
    obtain rfl : i = 32 := by omega
    refine Ev.step (f := fun _ => some ((a ^^^ b : Nat) : Int)) (fun k => ?_) (Ev.now _)
    simp only [spec_l04Xor.l0]
    rw [if_neg (by omega), Nat.mod_eq_of_lt hx]
  | succ d ih =>
    intro i hd
    have hp : 2 ^ i ≤ 2147483648 := by
      have := Nat.pow_le_pow_right (n := 2) (by omega) (show i ≤ 31 by omega)
      simpa using this
    have hp0 : 0 < 2 ^ i := Nat.two_pow_pos i
    have ea : wrap64 (Int.tdiv ((a / 2 ^ i : Nat) : Int) 2) = ((a / 2 ^ (i + 1) : Nat) : Int) := by
      rw [Int.tdiv_eq_ediv_of_nonneg (Int.natCast_nonneg _), Nat.pow_succ, ← Nat.div_div_eq_div_mul]
      have : a / 2 ^ i ≤ a := Nat.div_le_self _ _
      generalize a / 2 ^ i = q at *
      unfold wrap64; omega
    have eb : wrap64 (Int.tdiv ((b / 2 ^ i : Nat) : Int) 2) = ((b / 2 ^ (i + 1) : Nat) : Int) := by
      rw [Int.tdiv_eq_ediv_of_nonneg (Int.natCast_nonneg _), Nat.pow_succ, ← Nat.div_div_eq_div_mul]
      have : b / 2 ^ i ≤ b := Nat.div_le_self _ _
      generalize b / 2 ^ i = q at *
      unfold wrap64; omega
    have ep : wrap64 (2 * ((2 ^ i : Nat) : Int)) = ((2 ^ (i + 1) : Nat) : Int) := by
      rw [Nat.pow_succ]
      generalize 2 ^ i = q at *
      unfold wrap64; omega
    have hs : (a ^^^ b) % 2 ^ (i + 1) = (a ^^^ b) % 2 ^ i + 2 ^ i * ((a / 2 ^ i ^^^ b / 2 ^ i) % 2) := by
      rw [Nat.mod_pow_succ, Nat.xor_div_two_pow]
    have hl : (a ^^^ b) % 2 ^ i < 2 ^ i := Nat.mod_lt _ hp0
    refine Ev.step (fun k => ?_) (ih (i + 1) (by omega))
    simp only [spec_l04Xor.l0]
    rw [if_pos (by omega), ea, eb, ep, w64 i (by omega), Int.tmod_eq_emod_of_nonneg (Int.natCast_nonneg _), Int.tmod_eq_emod_of_nonneg (Int.natCast_nonneg _)]
    rw [xor_odd] at hs
    by_cases c : a / 2 ^ i % 2 = b / 2 ^ i % 2
    · rw [if_pos (by omega)]
      rw [if_pos c, Nat.mul_zero] at hs
      have hs2 : (a ^^^ b) % 2 ^ (i + 1) = (a ^^^ b) % 2 ^ i := hs.trans (Nat.add_zero _)
      rw [hs2]
    · rw [if_neg (by omega)]
      rw [if_neg c, Nat.mul_one] at hs
      have ew : wrap64 ((((a ^^^ b) % 2 ^ i : Nat) : Int) + ((2 ^ i : Nat) : Int)) = (((a ^^^ b) % 2 ^ (i + 1) : Nat) : Int) := by
        rw [hs]
        generalize (a ^^^ b) % 2 ^ i = q at *
        generalize 2 ^ i = p at *
        unfold wrap64; omega
      rw [ew]
theorem xor_ev (a b : Nat) (ha : a < 4294967296) (hb : b < 4294967296) : Ev (fun k => spec_l04Xor.f k (a : Int) (b : Int)) ((a ^^^ b : Nat) : Int) := by
  have h := xor_loop a b ha hb 32 0 rfl
  refine Ev.congr (fun k => ?_) h
  unfold spec_l04Xor.f
  simp [Nat.mod_one]
/-- The bytes of a text behind place i. -/
def tailOf (s : ByteArray) (i : Nat) : List UInt8 := s.data.toList.drop i
/-- One byte more. -/
def hstep (h : Nat) (b : UInt8) : Nat := ((h ^^^ b.toNat) * 16777619) % 4294967296
theorem hstep_lt (h : Nat) (b : UInt8) : hstep h b < 4294967296 := Nat.mod_lt _ (by omega)
/-- What the hash is at last. -/
def hlast (h : Nat) : Nat := h ^^^ (h / 65536)
/-- The hash of a text, from a seed that is in its range. -/
def hashN (s : ByteArray) (seed : Nat) : Nat := hlast ((tailOf s 0).foldl hstep (2166136261 + seed))
theorem hlast_lt (h : Nat) (hh : h < 4294967296) : hlast h < 4294967296 := Nat.xor_lt_two_pow (n := 32) hh (by omega)
theorem fold_lt (l : List UInt8) : ∀ (h : Nat), h < 4294967296 → l.foldl hstep h < 4294967296 := by
  induction l with
  | nil => intro h hh; exact hh
  | cons b l ih => intro h hh; exact ih _ (hstep_lt h b)
theorem hashN_lt (s : ByteArray) (seed : Nat) (h : seed ≤ 1000000000) : hashN s seed < 4294967296 := hlast_lt _ (fold_lt _ _ (by omega))
theorem tailOf_next (s : ByteArray) (i : Nat) (h : i < s.size) : ∃ b : UInt8, tailOf s i = b :: tailOf s (i + 1) ∧ bt s (i : Int) = (b.toNat : Int) := by
  have h' : i < s.data.toList.length := by simpa using h
  refine ⟨s[i], ?_, ?_⟩
  · unfold tailOf
    rw [List.drop_eq_getElem_cons h']
    rfl
  · unfold bt
    rw [dif_pos (by simpa using h)]
    simp
theorem hash_loop (s : ByteArray) (hs : s.size ≤ 4611686018427387904) (d : Nat) : ∀ (i h : Nat), h < 4294967296 → s.size = i + d →
    Ev (fun k => spec_HashOf.l0 k s (h : Int) (i : Int)) ((hlast ((tailOf s i).foldl hstep h) : Nat) : Int) ∧ Ev (fun k => impl_HashOf.l0 k s (h : Int) (i : Int)) ((hlast ((tailOf s i).foldl hstep h) : Nat) : Int) := by
  induction d with
  | zero =>
    intro i h hh hd
    have e : tailOf s i = [] := by unfold tailOf; exact List.drop_eq_nil_of_le (by simp; omega)
    have ed : wrap64 (Int.tdiv (h : Int) 65536) = ((h / 65536 : Nat) : Int) := by
      rw [Int.tdiv_eq_ediv_of_nonneg (by omega)]; unfold wrap64; omega
    have hl := hlast_lt h hh
    have hx := xor_ev h (h / 65536) hh (by omega)
    rw [e]
    refine ⟨Ev.step (f := fun k => (spec_l04Xor.f k (h : Int) ((h / 65536 : Nat) : Int)).bind fun t104 => (some t104)) (fun k => ?_) (Ev.bind hx (Ev.now _)), Ev.step (f := fun _ => some ((hlast h : Nat) : Int)) (fun k => ?_) (Ev.now _)⟩
    · simp only [spec_HashOf.l0]
      rw [if_neg (by omega), ed]
    · simp only [impl_HashOf.l0]
      rw [if_neg (by omega), show (h : Int) / 65536 = ((h / 65536 : Nat) : Int) by omega, xor_u32 h (h / 65536) hh (by omega)]
      show some (wrap64 ((hlast h : Nat) : Int)) = _
      congr 1
      unfold wrap64; omega
  | succ d ih =>
    intro i h hh hd
    obtain ⟨b, e, eb⟩ := tailOf_next s i (by omega)
    have hb : b.toNat < 256 := b.toNat_lt
    have hx := xor_ev h b.toNat hh (by omega)
    have hxl := Nat.xor_lt_two_pow (n := 32) hh (show b.toNat < 2 ^ 32 by omega)
    obtain ⟨h1, h2⟩ := ih (i + 1) (hstep h b) (hstep_lt h b) (by omega)
    rw [e, List.foldl_cons]
    have es : Int.tmod (wrap64 (((h ^^^ b.toNat : Nat) : Int) * 16777619)) 4294967296 = ((hstep h b : Nat) : Int) := by
      unfold hstep
      have : wrap64 (((h ^^^ b.toNat : Nat) : Int) * 16777619) = ((h ^^^ b.toNat : Nat) : Int) * 16777619 := by unfold wrap64; omega
      rw [this, Int.tmod_eq_emod_of_nonneg (by omega)]
      omega
    have ei : (((h ^^^ b.toNat : Nat) : Int) * 16777619) % 4294967296 = ((hstep h b : Nat) : Int) := by
      unfold hstep; omega
    refine ⟨Ev.step (f := fun k => (spec_l04Xor.f k (h : Int) (b.toNat : Int)).bind fun t103 => (spec_HashOf.l0 k s (Int.tmod (wrap64 (t103 * 16777619)) 4294967296) (wrap64 ((i : Int) + 1)))) (fun k => ?_) (Ev.bind hx ?_), Ev.step (fun k => ?_) h2⟩
    · simp only [spec_HashOf.l0]
      rw [if_pos (by omega), if_pos (by omega), eb, show wrap64 ((b.toNat : Nat) : Int) = (b.toNat : Int) by unfold wrap64; omega]
    · simp only [es, w64 i (by omega)]
      exact h1
    · simp only [impl_HashOf.l0]
      rw [if_pos (by omega), if_pos (by omega), eb, show ((b.toNat : Nat) : Int) % 4294967296 = (b.toNat : Int) by omega, xor_u32 h b.toNat hh (by omega), ei, w64 i (by omega)]
theorem hash_ev (s : ByteArray) (hs : s.size ≤ 4611686018427387904) (seed : Nat) (h : seed ≤ 1000000000) :
    Ev (fun k => spec_HashOf.f k s (seed : Int)) ((hashN s seed : Nat) : Int) ∧ Ev (fun k => impl_HashOf.f k s (seed : Int)) ((hashN s seed : Nat) : Int) := by
  obtain ⟨h1, h2⟩ := hash_loop s hs s.size 0 (2166136261 + seed) (by omega) (by omega)
  constructor
  · refine Ev.congr (f := fun k => spec_HashOf.j0 k s (seed : Int)) (fun k => ?_) (Ev.step (f := fun k => spec_HashOf.j1 k s (seed : Int)) (fun k => ?_) (Ev.step (fun k => ?_) h1))
    · unfold spec_HashOf.f
      rw [if_neg (by omega)]
    · simp only [spec_HashOf.j0]
      rw [if_neg (by omega)]
    · simp only [spec_HashOf.j1]
      have : Int.tmod (wrap64 (2166136261 + (seed : Int))) 4294967296 = ((2166136261 + seed : Nat) : Int) := by
        have : wrap64 (2166136261 + (seed : Int)) = 2166136261 + (seed : Int) := by unfold wrap64; omega
        rw [this, Int.tmod_eq_emod_of_nonneg (by omega)]; omega
      rw [this]
      rfl
  · refine Ev.congr (fun k => ?_) h2
    unfold impl_HashOf.f
    have : mx 0 (mn (seed : Int) 1000000000) = (seed : Int) := by unfold mx mn; split <;> split <;> omega
    rw [this]
    rfl
/-! ### A right sketch -/
def inD (x : Int) : Bool := decide (0 ≤ x ∧ x ≤ 15)
theorem skOk_iff {l : List Int} {n : Int} : skOk l n = true ↔ l.length = 48 ∧ (∀ x ∈ l, 0 ≤ x ∧ x ≤ 15) ∧ 0 ≤ n ∧ n ≤ 99 := by
  unfold skOk
  simp only [Bool.and_eq_true, decide_eq_true_eq, List.all_eq_true]
  constructor
  · rintro ⟨⟨h1, h2⟩, h3⟩; exact ⟨h1, h2, h3⟩
  · rintro ⟨h1, h2, h3⟩; exact ⟨⟨h1, h2⟩, h3⟩
theorem all_step {l : List Int} {i : Nat} (hi : i < l.length) (p : Int → Bool) : (l.drop i).all p = (p l[i] && (l.drop (i + 1)).all p) := by
  rw [List.drop_eq_getElem_cons hi, List.all_cons]
theorem rangeSI (x a b : Int) : impl_inRange.f x a b = some (decide (a ≤ x ∧ x ≤ b)) := by
  unfold impl_inRange.f
  by_cases c : x ≥ a
  · rw [if_pos c]; congr 1; simp; omega
  · rw [if_neg c]; congr 1; simp; omega
theorem skI_loop (l : List Int) (n : Int) (hl : l.length ≤ 1048576) (d : Nat) : ∀ (i : Nat), l.length = i + d → Ev (fun k => impl_SketchOk.l0 k l (l.length : Int) (i : Int) l n) (decide (l.length = 48) && (l.drop i).all inD && decide (0 ≤ n ∧ n ≤ 99)) := by
  induction d with
  | zero =>
    intro i hd
    refine Ev.step (f := fun _ => some _) (fun k => ?_) (Ev.now _)
    simp only [impl_SketchOk.l0, rangeSI, Option.bind_some]
    rw [if_neg (by omega), List.drop_of_length_le (by omega)]
    by_cases c : l.length = 48
    · rw [if_pos (by omega), decide_eq_true c]; simp
    · rw [if_neg (by omega), decide_eq_false c]; simp
  | succ d ih =>
    intro i hd
    have hi : i < l.length := by omega
    rw [all_step hi]
    by_cases c : inD l[i] = true
    · refine Ev.step (f := fun k => impl_SketchOk.l0 k l (l.length : Int) ((i + 1 : Nat) : Int) l n) (fun k => ?_) (by rw [c, Bool.true_and]; exact ih (i + 1) (by omega))
      simp only [impl_SketchOk.l0, rangeSI, Option.bind_some]
      rw [if_pos (by omega), if_pos (by omega), if_pos (by omega), rd_at l i hi, show decide (0 ≤ l[i] ∧ l[i] ≤ 15) = true from c, if_pos rfl, w64 i (by omega)]
    · have c' : inD l[i] = false := by simpa using c
      refine Ev.step (f := fun _ => some false) (fun k => ?_) (by rw [c']; simp; exact Ev.now _)
      simp only [impl_SketchOk.l0, rangeSI, Option.bind_some]
      rw [if_pos (by omega), if_pos (by omega), if_pos (by omega), rd_at l i hi, show decide (0 ≤ l[i] ∧ l[i] ≤ 15) = false from c', if_neg (by simp)]
theorem skI_ev (l : List Int) (n : Int) (hl : l.length ≤ 1048576) : Ev (fun k => impl_SketchOk.f k l n) (skOk l n) := skI_loop l n hl l.length 0 (by omega)
theorem rangeSS (x a b : Int) : spec_l01In.f x a b = some (decide (a ≤ x ∧ x ≤ b)) := by
  unfold spec_l01In.f
  by_cases c : x ≥ a
  · rw [if_pos c]; congr 1; simp; omega
  · rw [if_neg c]; congr 1; simp; omega
theorem skS_loop (l : List Int) (n : Int) (hl : l.length ≤ 1048576) (d : Nat) : ∀ (i : Nat), l.length = i + d → Ev (fun k => spec_SketchOk.l0 k (i : Int) l n) ((l.drop i).all inD) := by
  induction d with
  | zero =>
    intro i hd
    refine Ev.step (f := fun _ => some _) (fun k => ?_) (Ev.now _)
    simp only [spec_SketchOk.l0]
    rw [if_neg (by omega), List.drop_of_length_le (by omega)]
    rfl
  | succ d ih =>
    intro i hd
    have hi : i < l.length := by omega
    rw [all_step hi]
    by_cases c : inD l[i] = true
    · refine Ev.step (f := fun k => spec_SketchOk.l0 k ((i + 1 : Nat) : Int) l n) (fun k => ?_) (by rw [c, Bool.true_and]; exact ih (i + 1) (by omega))
      simp only [spec_SketchOk.l0, rangeSS, Option.bind_some]
      rw [if_pos (by omega), if_pos (by omega), rd_at l i hi, show decide (0 ≤ l[i] ∧ l[i] ≤ 15) = true from c, if_pos rfl, w64 i (by omega)]
    · have c' : inD l[i] = false := by simpa using c
      refine Ev.step (f := fun _ => some false) (fun k => ?_) (by rw [c']; simp; exact Ev.now _)
      simp only [spec_SketchOk.l0, rangeSS, Option.bind_some]
      rw [if_pos (by omega), if_pos (by omega), rd_at l i hi, show decide (0 ≤ l[i] ∧ l[i] ≤ 15) = false from c', if_neg (by simp)]
theorem skS_ev (l : List Int) (n : Int) (hl : l.length ≤ 1048576) : Ev (fun k => spec_SketchOk.f k l n) (skOk l n) := by
  unfold spec_SketchOk.f skOk
  by_cases c : l.length = 48
  · simp only [if_pos (show (l.length : Int) = 48 by omega), rangeSS, Option.bind_some, decide_eq_true c, Bool.true_and]
    by_cases c2 : 0 ≤ n ∧ n ≤ 99
    · simp only [decide_eq_true c2, Bool.and_true]
      refine Ev.step (f := fun k => spec_SketchOk.l0 k ((0 : Nat) : Int) l n) (fun k => ?_) (skS_loop l n hl l.length 0 (by omega))
      simp only [spec_SketchOk.j0]
      rw [if_neg (by simp)]
      rfl
    · simp only [decide_eq_false c2, Bool.and_false]
      refine Ev.step (f := fun k => some false) (fun k => ?_) (Ev.now _)
      simp only [spec_SketchOk.j0]
      rw [if_pos (by simp)]
  · simp only [if_neg (show ¬ (l.length : Int) = 48 by omega), decide_eq_false c, Bool.false_and]
    refine Ev.step (f := fun k => some false) (fun k => ?_) (Ev.now _)
    simp only [spec_SketchOk.j0]
    simp
/-! ### A sketch that counts a key -/
/-- The place of a key's count in a row. -/
def plc (s : ByteArray) (i : Nat) : Int := (i : Int) * 16 + ((hashN s i % 16 : Nat) : Int)
theorem plc_in (s : ByteArray) (i : Nat) (h : i < 3) : 0 ≤ plc s i ∧ plc s i < 48 := by
  have := Nat.mod_lt (hashN s i) (show 16 > 0 by omega)
  unfold plc; omega
theorem plc_wrap (s : ByteArray) (i : Nat) (h : i < 3) : wrap64 ((wrap64 ((i : Int) * 16)) + (Int.tmod ((hashN s i : Nat) : Int) 16)) = plc s i := by
  rw [Int.tmod_eq_emod_of_nonneg (Int.natCast_nonneg _)]
  have := Nat.mod_lt (hashN s i) (show 16 > 0 by omega)
  unfold plc wrap64; omega
theorem at_ev (s : ByteArray) (hs : s.size ≤ 4611686018427387904) (i : Nat) (h : i < 3) : Ev (fun k => impl_countAt.f k s (i : Int)) (plc s i) ∧ Ev (fun k => spec_l05At.f k s (i : Int)) (plc s i) := by
  obtain ⟨h1, h2⟩ := hash_ev s hs i (by omega)
  constructor
  · unfold impl_countAt.f
    refine Ev.bind h2 ?_
    rw [plc_wrap s i h]; exact Ev.now _
  · unfold spec_l05At.f
    refine Ev.bind h1 ?_
    rw [plc_wrap s i h]; exact Ev.now _
/-- A sketch behind one more key. -/
def cntd (l : List Int) (n : Int) (s : ByteArray) : List Int × Int :=
  if skOk l n = true then (if n = 99 then (cl l (plc s) 3).map hf else cl l (plc s) 3, if n = 99 then 0 else n + 1) else (l, n)
theorem cntd_len (l : List Int) (n : Int) (s : ByteArray) : (cntd l n s).1.length = l.length := by
  unfold cntd
  split
  · show (if n = 99 then (cl l (plc s) 3).map hf else cl l (plc s) 3).length = l.length
    split <;> simp [cl_len]
  · rfl
theorem cl_congr (l : List Int) (a b : Nat → Int) (n : Nat) (h : ∀ i, i < n → a i = b i) : cl l a n = cl l b n := by
  induction n with
  | zero => rfl
  | succ n ih =>
    show (cl l a n).set _ _ = (cl l b n).set _ _
    rw [ih (fun i hi => h i (by omega)), h n (by omega)]
theorem at3_eq (f : Nat → Int) (i : Nat) (h : i < 3) : at3 (f 0) (f 1) (f 2) i = f i := by
  unfold at3
  by_cases h0 : i = 0
  · rw [if_pos h0, h0]
  · rw [if_neg h0]
    by_cases h1 : i = 1
    · rw [if_pos h1, h1]
    · rw [if_neg h1, show i = 2 by omega]
theorem countI_ev (l : List Int) (n : Int) (s : ByteArray) (hl : l.length ≤ 1048576) (hs : s.size ≤ 4611686018427387904) : Ev (fun k => impl_CountKey.f k l n s) (cntd l n s) := by
  unfold impl_CountKey.f
  have h0 : impl_copySketch.f l n = some (l, n) := by
    unfold impl_copySketch.f slices_Clone_int_int.f
    rw [if_pos (by omega)]; rfl
  simp only [h0, Option.bind_some]
  refine Ev.bind (skI_ev l n hl) ?_
  unfold cntd
  by_cases c : skOk l n = true
  · simp only [if_pos c]
    refine Ev.bind (at_ev s hs 0 (by omega)).1 (Ev.bind (at_ev s hs 1 (by omega)).1 (Ev.bind (at_ev s hs 2 (by omega)).1 ?_))
    unfold counted
    rw [if_pos ⟨c, plc_in s 0 (by omega), plc_in s 1 (by omega), plc_in s 2 (by omega)⟩, cl_congr l (at3 (plc s 0) (plc s 1) (plc s 2)) (plc s) 3 (fun i hi => at3_eq (plc s) i hi)]
    exact Ev.now _
  · simp only [if_neg c]
    exact Ev.now _
theorem set_same (l : List Int) (i : Int) (h0 : 0 ≤ i) (v : Int) (h : i < (l.length : Int)) (e : rd l i = v) : l.set i.toNat v = l := by
  subst e
  unfold rd
  have hi : i.toNat < l.length := by omega
  rw [List.getD_eq_getElem?_getD, List.getElem?_eq_getElem hi]
  exact List.set_getElem_self hi
theorem countS_half (x : List Int) (m : Int) (hm : x.length ≤ 1048576) (d : Nat) : ∀ (i : Nat), x.length = i + d → Ev (fun k => spec_CountKey.l1 k (i : Int) (hl x i) m) (x.map hf, m) := by
  induction d with
  | zero =>
    intro i hd
    refine Ev.step (f := fun _ => some _) (fun k => ?_) (Ev.now _)
    simp only [spec_CountKey.l1]
    have hn := hl_len x i
    rw [if_neg (by omega)]
    congr 2
    unfold hl
    rw [List.take_of_length_le (by omega), List.drop_of_length_le (by omega), List.append_nil]
  | succ d ih =>
    intro i hd
    have hn := hl_len x i
    refine Ev.step (f := fun k => spec_CountKey.l1 k ((i + 1 : Nat) : Int) (hl x (i + 1)) m) (fun k => ?_) (ih (i + 1) (by omega))
    simp only [spec_CountKey.l1]
    rw [if_pos (by omega), if_pos (by omega), w64 i (by omega)]
    rw [show hl x (i + 1) = _ from (hl_next x i (by omega)).symm, Int.toNat_natCast]
    rfl
theorem countS_loop (l : List Int) (n : Int) (s : ByteArray) (hok : skOk l n = true) (hs : s.size ≤ 4611686018427387904) (d : Nat) : ∀ (i : Nat), 3 = i + d → Ev (fun k => spec_CountKey.l0 k s (i : Int) (cl l (plc s) i) n) (cntd l n s) := by
  obtain ⟨h48, hx, hn⟩ := skOk_iff.1 hok
  induction d with
  | zero =>
    intro i hd
    obtain rfl : i = 3 := by omega
    have hw : wrap64 (n + 1) = n + 1 := by unfold wrap64; omega
    unfold cntd
    rw [if_pos hok]
    by_cases c : n = 99
    · rw [if_pos c, if_pos c]
      refine Ev.step (f := fun k => spec_CountKey.l1 k ((0 : Nat) : Int) (hl (cl l (plc s) 3) 0) 0) (fun k => ?_) (countS_half _ 0 (by rw [cl_len]; omega) (cl l (plc s) 3).length 0 (by omega))
      simp only [spec_CountKey.l0]
      rw [if_neg (by omega), hw, if_pos (by omega)]
      rfl
    · rw [if_neg c, if_neg c]
      refine Ev.step (f := fun k => some _) (fun k => ?_) (Ev.now _)
      simp only [spec_CountKey.l0]
      rw [if_neg (by omega), hw, if_neg (by omega)]
  | succ d ih =>
    intro i hd
    have hlen := cl_len l (plc s) i
    have hp := plc_in s i (by omega)
    have hr := rd_bd (cl_bd l (plc s) hx i) (plc s i)
    refine Ev.step (f := fun k => (spec_l05At.f k s (i : Int)).bind fun t126 => (if 0 ≤ t126 then (if t126 < ((cl l (plc s) i).length : Int) then (if (rd (cl l (plc s) i) t126) < 15 then (spec_CountKey.l0 k s (wrap64 ((i : Int) + 1)) ((cl l (plc s) i).set (t126 : Int).toNat (wrap64 ((rd (cl l (plc s) i) t126) + 1))) n) else (spec_CountKey.l0 k s (wrap64 ((i : Int) + 1)) (cl l (plc s) i) n)) else (none)) else (none))) (fun k => ?_) (Ev.bind (at_ev s hs i (by omega)).2 ?_)
    · simp only [spec_CountKey.l0]
      rw [if_pos (by omega)]
    · have e : (cl l (plc s) (i + 1)) = (cl l (plc s) i).set (plc s i).toNat (mn (rd (cl l (plc s) i) (plc s i) + 1) 15) := rfl
      have ih' := ih (i + 1) (by omega)
      simp only [if_pos hp.1, if_pos (show plc s i < ((cl l (plc s) i).length : Int) by omega), w64 i (by omega)]
      by_cases c : rd (cl l (plc s) i) (plc s i) < 15
      · simp only [if_pos c]
        rw [show wrap64 (rd (cl l (plc s) i) (plc s i) + 1) = mn (rd (cl l (plc s) i) (plc s i) + 1) 15 by unfold mn wrap64; split <;> omega, ← e]
        exact ih'
      · simp only [if_neg c]
        rw [show mn (rd (cl l (plc s) i) (plc s i) + 1) 15 = 15 by unfold mn; split <;> omega, set_same _ _ hp.1 15 (by omega) (by omega)] at e
        rw [← e]
        exact ih'
theorem countS_ev (l : List Int) (n : Int) (s : ByteArray) (hl : l.length ≤ 1048576) (hs : s.size ≤ 4611686018427387904) : Ev (fun k => spec_CountKey.f k l n s) (cntd l n s) := by
  unfold spec_CountKey.f
  have h0 : spec_l05Copy.f l n = some (l, n) := by
    unfold spec_l05Copy.f
    simp only [Option.bind_some, List.length_nil, List.nil_append]
    rw [if_pos (by omega)]
  simp only [h0, Option.bind_some]
  refine Ev.bind (skS_ev l n hl) ?_
  by_cases c : skOk l n = true
  · simp only [if_pos c]
    exact countS_loop l n s c hs 3 0 rfl
  · simp only [if_neg c]
    unfold cntd
    rw [if_neg c]
    exact Ev.now _
/-! ### Guesses -/
theorem rd_set (l : List Int) (i j v : Int) (h0 : 0 ≤ i) (h1 : i < (l.length : Int)) (hj : 0 ≤ j) : rd (l.set i.toNat v) j = if i = j then v else rd l j := by
  unfold rd
  rw [List.getD_eq_getElem?_getD, List.getD_eq_getElem?_getD, List.getElem?_set]
  by_cases c : i = j
  · rw [if_pos c, if_pos (by omega), if_pos (by omega)]; rfl
  · rw [if_neg c, if_neg (by omega)]
theorem mn_le (a b : Int) : mn a b ≤ a ∧ mn a b ≤ b ∧ (∀ m : Int, m ≤ mn a b ↔ m ≤ a ∧ m ≤ b) := by
  unfold mn
  by_cases c : b < a
  · rw [if_pos c]; exact ⟨by omega, by omega, fun m => ⟨fun h => ⟨by omega, h⟩, fun h => h.2⟩⟩
  · rw [if_neg c]; exact ⟨by omega, by omega, fun m => ⟨fun h => ⟨h, by omega⟩, fun h => h.1⟩⟩
/-- The least count of a key, of the first rows. -/
def gs (l : List Int) (s : ByteArray) : Nat → Int
  | 0 => 15
  | i + 1 => mn (gs l s i) (rd l (plc s i))
theorem gs_le (l : List Int) (s : ByteArray) (m : Int) (n : Nat) : m ≤ gs l s n ↔ m ≤ 15 ∧ ∀ i, i < n → m ≤ rd l (plc s i) := by
  induction n with
  | zero => exact ⟨fun h => ⟨h, fun i hi => absurd hi (by omega)⟩, fun h => h.1⟩
  | succ n ih =>
    show m ≤ mn (gs l s n) (rd l (plc s n)) ↔ _
    rw [(mn_le _ _).2.2, ih]
    constructor
    · rintro ⟨⟨h1, h2⟩, h3⟩
      refine ⟨h1, fun i hi => ?_⟩
      by_cases c : i = n
      · rw [c]; exact h3
      · exact h2 i (by omega)
    · rintro ⟨h1, h2⟩
      exact ⟨⟨h1, fun i hi => h2 i (by omega)⟩, h2 n (by omega)⟩
/-- The guess of a key. -/
def guess (l : List Int) (n : Int) (s : ByteArray) : Int := if skOk l n = true then gs l s 3 else 0
theorem guessI_loop (l : List Int) (n : Int) (s : ByteArray) (h48 : l.length = 48) (hs : s.size ≤ 4611686018427387904) (d : Nat) : ∀ (i : Nat), 3 = i + d → Ev (fun k => impl_GuessKey.l0 k s (gs l s i) (i : Int) l n) (gs l s 3) := by
  induction d with
  | zero =>
    intro i hd
    obtain rfl : i = 3 := by omega
    refine Ev.step (f := fun _ => some _) (fun k => ?_) (Ev.now _)
    simp only [impl_GuessKey.l0]
    rw [if_neg (by omega)]
  | succ d ih =>
    intro i hd
    have hp := plc_in s i (by omega)
    refine Ev.step (f := fun k => (impl_countAt.f k s (i : Int)).bind fun t168 => (if 0 ≤ t168 then (if t168 < (l.length : Int) then (impl_GuessKey.l0 k s (mn (gs l s i) (rd l t168)) (wrap64 ((i : Int) + 1)) l n) else (none)) else (none))) (fun k => ?_) (Ev.bind (at_ev s hs i (by omega)).1 ?_)
    · simp only [impl_GuessKey.l0]
      rw [if_pos (by omega)]
    · simp only [if_pos hp.1, if_pos (show plc s i < (l.length : Int) by omega), w64 i (by omega)]
      exact ih (i + 1) (by omega)
theorem guessI_ev (l : List Int) (n : Int) (s : ByteArray) (hl : l.length ≤ 1048576) (hs : s.size ≤ 4611686018427387904) : Ev (fun k => impl_GuessKey.f k l n s) (guess l n s) := by
  unfold impl_GuessKey.f guess
  refine Ev.bind (skI_ev l n hl) ?_
  by_cases c : skOk l n = true
  · simp only [if_pos c]
    exact guessI_loop l n s (skOk_iff.1 c).1 hs 3 0 rfl
  · simp only [if_neg c]
    exact Ev.now _
theorem guessS_loop (l : List Int) (n : Int) (s : ByteArray) (h48 : l.length = 48) (hs : s.size ≤ 4611686018427387904) (d : Nat) : ∀ (i : Nat), 3 = i + d → Ev (fun k => spec_GuessKey.l0 k s (gs l s i) (i : Int) l n) (gs l s 3) := by
  induction d with
  | zero =>
    intro i hd
    obtain rfl : i = 3 := by omega
    refine Ev.step (f := fun _ => some _) (fun k => ?_) (Ev.now _)
    simp only [spec_GuessKey.l0]
    rw [if_neg (by omega)]
  | succ d ih =>
    intro i hd
    have hp := plc_in s i (by omega)
    have hat := (at_ev s hs i (by omega)).2
    refine Ev.step (f := fun k => (spec_l05At.f k s (i : Int)).bind fun t179 => (if 0 ≤ t179 then (if t179 < (l.length : Int) then (if (rd l t179) < gs l s i then ((spec_l05At.f k s (i : Int)).bind fun t181 => (if 0 ≤ t181 then (if t181 < (l.length : Int) then (spec_GuessKey.l0 k s (rd l t181) (wrap64 ((i : Int) + 1)) l n) else (none)) else (none))) else (spec_GuessKey.l0 k s (gs l s i) (wrap64 ((i : Int) + 1)) l n)) else (none)) else (none))) (fun k => ?_) (Ev.bind hat ?_)
    · simp only [spec_GuessKey.l0]
      rw [if_pos (by omega)]
    · simp only [if_pos hp.1, if_pos (show plc s i < (l.length : Int) by omega)]
      have e : gs l s (i + 1) = mn (gs l s i) (rd l (plc s i)) := rfl
      have ih' := ih (i + 1) (by omega)
      unfold mn at e
      by_cases c : rd l (plc s i) < gs l s i
      · simp only [if_pos c]
        rw [if_pos c] at e
        refine Ev.bind hat ?_
        simp only [if_pos hp.1, if_pos (show plc s i < (l.length : Int) by omega), w64 i (by omega)]
        rw [e] at ih'
        exact ih'
      · simp only [if_neg c, w64 i (by omega)]
        rw [if_neg c] at e
        rw [e] at ih'
        exact ih'
theorem guessS_ev (l : List Int) (n : Int) (s : ByteArray) (hl : l.length ≤ 1048576) (hs : s.size ≤ 4611686018427387904) : Ev (fun k => spec_GuessKey.f k l n s) (guess l n s) := by
  unfold spec_GuessKey.f guess
  refine Ev.bind (skS_ev l n hl) ?_
  by_cases c : skOk l n = true
  · simp only [if_pos c]
    exact guessS_loop l n s (skOk_iff.1 c).1 hs 3 0 rfl
  · simp only [if_neg c]
    exact Ev.now _
/-! What a count does to the counts. -/
theorem cl_more (l : List Int) (s : ByteArray) (hl : l.length = 48) (hx : ∀ x ∈ l, 0 ≤ x ∧ x ≤ 15) (p : Int) (hp : 0 ≤ p) (n : Nat) (hn : n ≤ 3) : rd l p ≤ rd (cl l (plc s) n) p := by
  induction n with
  | zero => exact Int.le_refl _
  | succ n ih =>
    have hq := plc_in s n (by omega)
    have hlen := cl_len l (plc s) n
    have hr := rd_bd (cl_bd l (plc s) hx n) (plc s n)
    have ih' := ih (by omega)
    show _ ≤ rd ((cl l (plc s) n).set (plc s n).toNat (mn (rd (cl l (plc s) n) (plc s n) + 1) 15)) p
    rw [rd_set _ _ _ _ hq.1 (by omega) hp]
    by_cases c : plc s n = p
    · rw [if_pos c]
      subst c
      unfold mn; split <;> omega
    · rw [if_neg c]; exact ih'
theorem plc_ne (s : ByteArray) (i j : Nat) (h : i ≠ j) : plc s i ≠ plc s j := by
  have h1 := Nat.mod_lt (hashN s i) (show 16 > 0 by omega)
  have h2 := Nat.mod_lt (hashN s j) (show 16 > 0 by omega)
  unfold plc; omega
theorem cl_own (l : List Int) (s : ByteArray) (hl : l.length = 48) (j : Nat) (hj : j < 3) (n : Nat) (hn : n ≤ 3) : rd (cl l (plc s) n) (plc s j) = if j < n then mn (rd l (plc s j) + 1) 15 else rd l (plc s j) := by
  induction n with
  | zero => rfl
  | succ n ih =>
    have hq := plc_in s n (by omega)
    have hp := plc_in s j hj
    have hlen := cl_len l (plc s) n
    have ih' := ih (by omega)
    show rd ((cl l (plc s) n).set (plc s n).toNat (mn (rd (cl l (plc s) n) (plc s n) + 1) 15)) (plc s j) = _
    rw [rd_set _ _ _ _ hq.1 (by omega) hp.1]
    by_cases c : n = j
    · subst c
      rw [if_pos rfl, if_pos (by omega), ih', if_neg (by omega)]
    · rw [if_neg (plc_ne s n j c), ih']
      by_cases c2 : j < n
      · rw [if_pos c2, if_pos (by omega)]
      · rw [if_neg c2, if_neg (by omega)]
theorem hf_in (x : Int) (h : 0 ≤ x ∧ x ≤ 15) : 0 ≤ hf x ∧ hf x ≤ 7 := by
  unfold hf
  rw [Int.tdiv_eq_ediv_of_nonneg h.1]
  unfold wrap64; omega
theorem cntd_ok (l : List Int) (n : Int) (s : ByteArray) (h : skOk l n = true) : skOk (cntd l n s).1 (cntd l n s).2 = true := by
  obtain ⟨h48, hx, hn⟩ := skOk_iff.1 h
  have hb := cl_bd l (plc s) hx 3
  unfold cntd
  rw [if_pos h]
  refine skOk_iff.2 ⟨?_, ?_, ?_⟩
  · show (if n = 99 then (cl l (plc s) 3).map hf else cl l (plc s) 3).length = 48
    split <;> simp [cl_len, h48]
  · show ∀ x ∈ (if n = 99 then (cl l (plc s) 3).map hf else cl l (plc s) 3), _
    split
    · intro x hx'
      obtain ⟨y, hy, rfl⟩ := List.mem_map.1 hx'
      have := hf_in y (hb y hy)
      omega
    · exact hb
  · show 0 ≤ (if n = 99 then 0 else n + 1) ∧ (if n = 99 then 0 else n + 1) ≤ 99
    split <;> omega
theorem new_ok : skOk (List.replicate 48 0) 0 = true := by decide
/-! ### The drawn cursor: what its words come to -/
theorem and255 (n : Int) : 0 ≤ Go.bits .and .i64 n 255 ∧ Go.bits .and .i64 n 255 ≤ 255 := by
  have h255 : (BitVec.ofInt 64 255).toNat = 255 := by decide
  have key : (BitVec.ofInt 64 n &&& BitVec.ofInt 64 255).toNat ≤ 255 := by
    rw [BitVec.toNat_and, h255]
    exact Nat.and_le_right
  show 0 ≤ IntKind.i64.wrap ((BitVec.ofInt 64 n &&& BitVec.ofInt 64 255).toNat : Nat) ∧ IntKind.i64.wrap ((BitVec.ofInt 64 n &&& BitVec.ofInt 64 255).toNat : Nat) ≤ 255
  rw [IntKind.wrap_i64]
  omega

theorem byte_some (b : List Int) (i h : Int) (hb : b.length ≤ 140737488351232) (hi : 0 ≤ i) :
    ∃ r i' h', spec_l01Byte.f b i h = some (r, i', h') ∧ 0 ≤ r ∧ r ≤ 255 ∧ 0 ≤ i' := by
  unfold spec_l01Byte.f
  by_cases c : i < (b.length : Int)
  · rw [if_pos c, if_pos hi]
    exact ⟨_, _, _, rfl, (and255 _).1, (and255 _).2, by unfold wrap64; omega⟩
  · rw [if_neg c]
    exact ⟨_, _, _, rfl, (and255 _).1, (and255 _).2, hi⟩

theorem below_some (b : List Int) (i h n : Int) (hb : b.length ≤ 140737488351232) (hi : 0 ≤ i) :
    ∃ r i' h', spec_l01Below.f b i h n = some (r, i', h') ∧ 0 ≤ r ∧ (0 < n → r < n) ∧ 0 ≤ i' := by
  unfold spec_l01Below.f
  by_cases c : n ≤ 0
  · rw [if_pos c]
    exact ⟨0, i, h, rfl, by omega, by omega, hi⟩
  · rw [if_neg c]
    by_cases c2 : n ≤ 256
    · rw [if_pos c2]
      obtain ⟨r, i1, h1, e1, r0, r1, hi1⟩ := byte_some b i h hb hi
      rw [e1]
      simp only [Option.bind_some]
      rw [if_neg (by omega)]
      refine ⟨_, _, _, rfl, ?_, ?_, hi1⟩
      · rw [Int.tmod_eq_emod_of_nonneg r0]; exact Int.emod_nonneg _ (by omega)
      · intro _; rw [Int.tmod_eq_emod_of_nonneg r0]; exact Int.emod_lt_of_pos _ (by omega)
    · rw [if_neg c2]
      obtain ⟨x, i1, h1, e1, x0, x1, hi1⟩ := byte_some b i h hb hi
      obtain ⟨y, i2, h2, e2, y0, y1, hi2⟩ := byte_some b i1 h1 hb hi1
      obtain ⟨z, i3, h3, e3, z0, z1, hi3⟩ := byte_some b i2 h2 hb hi2
      obtain ⟨w, i4, h4, e4, w0, w1, hi4⟩ := byte_some b i3 h3 hb hi3
      rw [e1]; simp only [Option.bind_some]
      rw [e2]; simp only [Option.bind_some]
      rw [e3]; simp only [Option.bind_some]
      rw [e4]; simp only [Option.bind_some]
      rw [if_neg (by omega)]
      have e : wrap64 ((wrap64 ((wrap64 ((wrap64 (x * 16777216)) + (wrap64 (y * 65536)))) + (wrap64 (z * 256)))) + w) = x * 16777216 + y * 65536 + z * 256 + w := by
        unfold wrap64; omega
      rw [e]
      refine ⟨_, _, _, rfl, ?_, ?_, hi4⟩
      · rw [Int.tmod_eq_emod_of_nonneg (by omega)]; exact Int.emod_nonneg _ (by omega)
      · intro _; rw [Int.tmod_eq_emod_of_nonneg (by omega)]; exact Int.emod_lt_of_pos _ (by omega)

theorem new_loop (b : List Int) (hb : b.length ≤ 140737488351232) (d : Nat) : ∀ (h i : Int), 0 ≤ i → 4000 - i ≤ d →
    ∃ h', ∀ k, d < k → spec_l01New.l0 k b h i = some (b, 0, h') := by
  induction d with
  | zero =>
    intro h i h0 hd
    refine ⟨h, fun k hk => ?_⟩
    obtain ⟨k, rfl⟩ : ∃ m, k = m + 1 := ⟨k - 1, by omega⟩
    simp only [spec_l01New.l0]
    split
    · rw [if_neg (by omega)]
    · rfl
  | succ d ih =>
    intro h i h0 hd
    by_cases c : i < (b.length : Int)
    · by_cases c2 : i < 4000
      · have e : wrap64 (i + 1) = i + 1 := by unfold wrap64; omega
        obtain ⟨h', H⟩ := ih (Go.bits .and .i64 (wrap64 ((wrap64 ((wrap64 (h * 131)) + (wrap64 (rd b i)))) + 7)) 1073741823) (i + 1) (by omega) (by omega)
        refine ⟨h', fun k hk => ?_⟩
        obtain ⟨k, rfl⟩ : ∃ m, k = m + 1 := ⟨k - 1, by omega⟩
        simp only [spec_l01New.l0]
        rw [if_pos c, if_pos c2, if_pos h0, e]
        exact H k (by omega)
      · refine ⟨h, fun k hk => ?_⟩
        obtain ⟨k, rfl⟩ : ∃ m, k = m + 1 := ⟨k - 1, by omega⟩
        simp only [spec_l01New.l0]
        rw [if_pos c, if_neg c2]
    · refine ⟨h, fun k hk => ?_⟩
      obtain ⟨k, rfl⟩ : ∃ m, k = m + 1 := ⟨k - 1, by omega⟩
      simp only [spec_l01New.l0]
      rw [if_neg c]

theorem new_some (b : List Int) (hb : b.length ≤ 140737488351232) : ∃ h, ∀ k, 4000 < k → spec_l01New.f k b = some (b, 0, h) := by
  obtain ⟨h, H⟩ := new_loop b hb 4000 (wrap64 (14301 + (b.length : Int))) 0 (by omega) (by omega)
  exact ⟨h, fun k hk => by unfold spec_l01New.f; exact H k hk⟩
theorem pick_some (b : List Int) (i h : Int) (l : List ByteArray) (hl : 0 < l.length) (hb : b.length ≤ 140737488351232) (hi : 0 ≤ i) :
    ∃ r i' h', spec_l01Pick.f b i h l = some (r, i', h') ∧ r ∈ l ∧ 0 ≤ i' := by
  obtain ⟨r, i1, h1, e1, r0, r1, hi1⟩ := below_some b i h (l.length : Int) hb hi
  unfold spec_l01Pick.f
  rw [e1]; simp only [Option.bind_some]
  have hr := r1 (by omega)
  rw [if_pos r0, if_pos hr]
  refine ⟨_, _, _, rfl, ?_, hi1⟩
  unfold rdOf
  have : r.toNat < l.length := by omega
  rw [List.getD_eq_getElem?_getD, List.getElem?_eq_getElem this]
  exact List.getElem_mem this
/-- The keys that are drawn. -/
def nameList : List ByteArray := [(⟨#[97]⟩ : ByteArray), (⟨#[98]⟩ : ByteArray), (⟨#[99]⟩ : ByteArray), (⟨#[100]⟩ : ByteArray), (⟨#[101]⟩ : ByteArray), (⟨#[102]⟩ : ByteArray), (⟨#[103]⟩ : ByteArray), (⟨#[104]⟩ : ByteArray), (⟨#[107, 49]⟩ : ByteArray), (⟨#[107, 50]⟩ : ByteArray), (⟨#[107, 51]⟩ : ByteArray), (⟨#[107, 101, 121]⟩ : ByteArray)]
theorem name_size : ∀ s ∈ nameList, 1 ≤ s.size ∧ s.size ≤ 3 := by decide
theorem new_ev (b : List Int) (hb : b.length ≤ 140737488351232) : ∃ h, Ev (fun k => spec_l01New.f k b) (b, 0, h) := by
  obtain ⟨h, H⟩ := new_some b hb
  exact ⟨h, 4001, fun k hk => H k (by omega)⟩
theorem key_some (b : List Int) (i h : Int) (hb : b.length ≤ 140737488351232) (hi : 0 ≤ i) : ∃ r i' h', spec_l03Key.f b i h = some (r, i', h') ∧ r ∈ nameList ∧ 0 ≤ i' := by
  obtain ⟨r, i1, h1, e1, hr, hi1⟩ := pick_some b i h nameList (by simp [nameList]) hb hi
  refine ⟨r, i1, h1, ?_, hr, hi1⟩
  unfold spec_l03Key.f
  show (spec_l01Pick.f b i h nameList).bind _ = _
  rw [e1]
  rfl
theorem once_some (b : List Int) (i h n : Int) (hb : b.length ≤ 140737488351232) (hi : 0 ≤ i) :
    ∃ r i' h', spec_l01Once.f b i h n = some (r, i', h') ∧ 0 ≤ i' := by
  obtain ⟨r, i1, h1, e1, r0, r1, hi1⟩ := below_some b i h n hb hi
  unfold spec_l01Once.f
  rw [e1]; simp only [Option.bind_some]
  exact ⟨_, _, _, rfl, hi1⟩
theorem pickInt_some (b : List Int) (i h : Int) (l : List Int) (hl : 0 < l.length) (hb : b.length ≤ 140737488351232) (hi : 0 ≤ i) :
    ∃ r i' h', spec_l01PickInt.f b i h l = some (r, i', h') ∧ r ∈ l ∧ 0 ≤ i' := by
  obtain ⟨r, i1, h1, e1, r0, r1, hi1⟩ := below_some b i h (l.length : Int) hb hi
  unfold spec_l01PickInt.f
  rw [e1]; simp only [Option.bind_some]
  have hr := r1 (by omega)
  rw [if_pos r0, if_pos hr]
  refine ⟨_, _, _, rfl, ?_, hi1⟩
  unfold rd
  have : r.toNat < l.length := by omega
  rw [List.getD_eq_getElem?_getD, List.getElem?_eq_getElem this]
  exact List.getElem_mem this
/-! ### A right sketch is drawn -/
theorem newS : spec_SketchNew.f = some (List.replicate 48 0, 0) := by
  unfold spec_SketchNew.f
  rw [if_pos (by omega)]
theorem skOk_adds {l : List Int} {n m : Int} (h : skOk l n = true) (hm : 0 ≤ m ∧ m ≤ 99) : skOk l m = true := by
  obtain ⟨h1, h2, _⟩ := skOk_iff.1 h
  exact skOk_iff.2 ⟨h1, h2, hm⟩
theorem drawSketch_loop (b : List Int) (hb : b.length ≤ 140737488351232) (d : Nat) : ∀ (i : Nat) (c h : Int) (l : List Int) (n : Int), i + d = 59 → 0 ≤ c → skOk l n = true →
    ∃ l' n' c' h', Ev (fun k => spec_l05Sketch.l0 k (i : Int) b c h l n) (l', n', c', h') ∧ skOk l' n' = true ∧ 0 ≤ c' := by
  have fin : ∀ (i : Nat) (c h : Int) (l : List Int) (n r i1 h1 : Int), spec_l01Below.f b c h 60 = some (r, i1, h1) → ¬ (i : Int) < r → 0 ≤ i1 → skOk l n = true →
      ∃ l' n' c' h', Ev (fun k => spec_l05Sketch.l0 k (i : Int) b c h l n) (l', n', c', h') ∧ skOk l' n' = true ∧ 0 ≤ c' := by
    intro i c h l n r i1 h1 e1 hr hi1 hok
    obtain ⟨o, i2, h2, e2, hi2⟩ := once_some b i1 h1 4 hb hi1
    obtain ⟨v, i3, h3, e3, hv, hi3⟩ := pickInt_some b i2 h2 [0, 98, 99] (by simp) hb hi2
    by_cases co : o = true
    · refine ⟨l, v, i3, h3, Ev.step (f := fun _ => some (l, v, i3, h3)) (fun k => ?_) (Ev.now _), skOk_adds hok (by simp at hv; omega), hi3⟩
      simp only [spec_l05Sketch.l0, e1, Option.bind_some]
      rw [if_neg hr, e2]; simp only [Option.bind_some]
      rw [if_pos co, e3]; rfl
    · refine ⟨l, n, i2, h2, Ev.step (f := fun _ => some (l, n, i2, h2)) (fun k => ?_) (Ev.now _), hok, hi2⟩
      simp only [spec_l05Sketch.l0, e1, Option.bind_some]
      rw [if_neg hr, e2]; simp only [Option.bind_some]
      rw [if_neg co]
  induction d with
  | zero =>
    intro i c h l n hd hc hok
    obtain ⟨r, i1, h1, e1, r0, r1, hi1⟩ := below_some b c h 60 hb hc
    exact fin i c h l n r i1 h1 e1 (by have := r1 (by omega); omega) hi1 hok
  | succ d ih =>
    intro i c h l n hd hc hok
    obtain ⟨r, i1, h1, e1, r0, r1, hi1⟩ := below_some b c h 60 hb hc
    by_cases hlt : (i : Int) < r
    · obtain ⟨v, i2, h2, e2, hv, hi2⟩ := key_some b i1 h1 hb hi1
      have hk := cntd_ok l n v hok
      obtain ⟨h48, _, _⟩ := skOk_iff.1 hok
      have hsz := (name_size v hv).2
      obtain ⟨l', n', c', h', H, h1', h2'⟩ := ih (i + 1) i2 h2 _ _ (by omega) hi2 hk
      refine ⟨l', n', c', h', ?_, h1', h2'⟩
      refine Ev.step (f := fun k => (spec_CountKey.f k l n v).bind fun bt208 => (spec_l05Sketch.l0 k (wrap64 ((i : Int) + 1)) b i2 h2 bt208.1 bt208.2)) (fun k => ?_) (Ev.bind (countS_ev l n v (by omega) (by omega)) ?_)
      · simp only [spec_l05Sketch.l0, e1, Option.bind_some]
        rw [if_pos hlt, e2]; rfl
      · rw [w64 i (by omega)]
        exact H
    · exact fin i c h l n r i1 h1 e1 hlt hi1 hok
theorem drawSketch_ev (b : List Int) (hb : b.length ≤ 140737488351232) : ∃ l n s, Ev (fun k => spec_DrawRightSketch.f k b) (l, n, s) ∧ skOk l n = true ∧ s ∈ nameList := by
  obtain ⟨h, hn⟩ := new_ev b hb
  obtain ⟨l, n, c, h2, H, hok, hc⟩ := drawSketch_loop b hb 59 0 0 h (List.replicate 48 0) 0 rfl (by omega) new_ok
  obtain ⟨v, i3, h3, e3, hv, hi3⟩ := key_some b c h2 hb hc
  refine ⟨l, n, v, ?_, hok, hv⟩
  unfold spec_DrawRightSketch.f
  refine Ev.bind hn ?_
  unfold spec_l05Sketch.f
  simp only [newS, Option.bind_some]
  refine Ev.bind H ?_
  simp only [e3, Option.bind_some]
  exact Ev.now _
theorem rd_half (l : List Int) (h : ∀ x ∈ l, 0 ≤ x ∧ x ≤ 15) (i : Int) : rd (l.map hf) i ≤ 7 := by
  unfold rd
  rw [List.getD_eq_getElem?_getD]
  cases e : (l.map hf)[i.toNat]? with
  | none => simp
  | some v =>
    obtain ⟨y, hy, rfl⟩ := List.mem_map.1 (List.mem_of_getElem? e)
    exact (hf_in y (h y hy)).2
theorem guess_up (l : List Int) (s : ByteArray) (h48 : l.length = 48) (m : Int) : m ≤ gs (cl l (plc s) 3) s 3 ↔ m ≤ 15 ∧ m ≤ gs l s 3 + 1 := by
  rw [gs_le]
  have h := gs_le l s (m - 1) 3
  constructor
  · rintro ⟨h1, h2⟩
    refine ⟨h1, ?_⟩
    have : m - 1 ≤ gs l s 3 := h.2 ⟨by omega, fun i hi => by
      have := h2 i hi
      rw [cl_own l s h48 i hi 3 (by omega), if_pos hi, (mn_le _ _).2.2] at this
      omega⟩
    omega
  · rintro ⟨h1, h2⟩
    refine ⟨h1, fun i hi => ?_⟩
    have := (h.1 (by omega)).2 i hi
    rw [cl_own l s h48 i hi 3 (by omega), if_pos hi, (mn_le _ _).2.2]
    omega
theorem counts_names (nm : List ByteArray) (hnm : nm.length ≤ 1000) (hsz : ∀ s ∈ nm, s.size ≤ 3) (l : List Int) (n : Int) (s : ByteArray) (hok : skOk l n = true) (h99 : n ≠ 99) (d : Nat) : ∀ (i : Nat), nm.length = i + d →
    Ev (fun k => laws_FnCounts.l0 k (guess l n s) (guess (cl l (plc s) 3) (n + 1) s) nm (i : Int) l n (cl l (plc s) 3) (n + 1)) true := by
  obtain ⟨h48, hx, hn⟩ := skOk_iff.1 hok
  have hok2 := cntd_ok l n s hok
  have e : cntd l n s = (cl l (plc s) 3, n + 1) := by
    unfold cntd
    rw [if_pos hok, if_neg h99, if_neg h99]
  rw [e] at hok2
  have hlen := cl_len l (plc s) 3
  have hw : wrap64 (n + 1) = n + 1 := by unfold wrap64; omega
  induction d with
  | zero =>
    intro i hd
    have ga : guess l n s = gs l s 3 := by unfold guess; rw [if_pos hok]
    have gb : guess (cl l (plc s) 3) (n + 1) s = gs (cl l (plc s) 3) s 3 := by unfold guess; rw [if_pos hok2]
    have b1 := (guess_up l s h48 (gs (cl l (plc s) 3) s 3)).1 (Int.le_refl _)
    have b2 := guess_up l s h48 (gs l s 3 + 1)
    have b3 := guess_up l s h48 15
    have a1 := ((gs_le l s (gs l s 3) 3).1 (Int.le_refl _)).1
    have a0 := (gs_le l s 0 3).2 ⟨by omega, fun j hj => (rd_bd hx (plc s j)).1⟩
    rw [ga, gb]
    generalize gs l s 3 = a at *
    generalize gs (cl l (plc s) 3) s 3 = b at *
    refine Ev.step (f := fun _ => some true) (fun k => ?_) (Ev.now _)
    simp only [laws_FnCounts.l0]
    rw [if_neg (by omega), hw, if_pos rfl]
    by_cases c : a = 15
    · rw [if_pos c, if_pos (by omega)]
    · rw [if_neg c, if_pos (by omega)]
      have : wrap64 (a + 1) = b := by unfold wrap64; omega
      rw [this, beq_self_eq_true]
  | succ d ih =>
    intro i hd
    have hi : i < nm.length := by omega
    have hs3 := hsz _ (List.getElem_mem hi)
    refine Ev.step (f := fun k => (impl_GuessKey.f k (cl l (plc s) 3) (n + 1) nm[i]).bind fun t254 => ((spec_GuessKey.f k l n nm[i]).bind fun t256 => (if t254 < t256 then (some false) else (laws_FnCounts.l0 k (guess l n s) (guess (cl l (plc s) 3) (n + 1) s) nm (wrap64 ((i : Int) + 1)) l n (cl l (plc s) 3) (n + 1))))) (fun k => ?_) (Ev.bind (guessI_ev _ _ nm[i] (by omega) (by omega)) (Ev.bind (guessS_ev _ _ nm[i] (by omega) (by omega)) ?_))
    · simp only [laws_FnCounts.l0, rdS_at nm i hi]
      rw [if_pos (by omega), if_pos (by omega)]
    · have h1 : guess l n nm[i] ≤ guess (cl l (plc s) 3) (n + 1) nm[i] := by
        unfold guess
        rw [if_pos hok, if_pos hok2]
        have := (gs_le l nm[i] (gs l nm[i] 3) 3).1 (Int.le_refl _)
        exact (gs_le _ _ _ 3).2 ⟨this.1, fun j hj => Int.le_trans (this.2 j hj) (cl_more l s h48 hx _ (plc_in nm[i] j hj).1 3 (by omega))⟩
      simp only [if_neg (show ¬ guess (cl l (plc s) 3) (n + 1) nm[i] < guess l n nm[i] by omega), w64 i (by omega)]
      exact ih (i + 1) (by omega)
theorem FnCounts : laws_FnCounts.Pure := by
  intro b _ hb _
  have hb' : b.length ≤ 140737488351232 := by omega
  obtain ⟨l, n, s, hd, hok, hs⟩ := drawSketch_ev b hb'
  obtain ⟨h48, hx, hn⟩ := skOk_iff.1 hok
  have hs3 := (name_size s hs).2
  apply Ev.rounds (r := true) (g := fun k => laws_FnCounts.f k b)
  unfold laws_FnCounts.f laws_big.f laws_names.f
  simp only [Option.bind_some]
  by_cases c : (b.length : Int) > 1048576
  · simp only [decide_eq_true c, if_true]; exact Ev.now true
  · simp only [decide_eq_false c, if_neg (show ¬ (false = true) by decide)]
    have hok2 := cntd_ok l n s hok
    have hlen := cntd_len l n s
    refine Ev.bind hd (Ev.bind (countI_ev l n s (by omega) (by omega)) (Ev.bind (guessI_ev l n s (by omega) (by omega)) (Ev.bind (guessI_ev _ _ s (by omega) (by omega)) (Ev.bind (skI_ev _ _ (by omega)) ?_))))
    rw [hok2]
    simp only [if_true]
    by_cases h99 : n = 99
    · simp only [if_pos h99]
      have e : cntd l n s = ((cl l (plc s) 3).map hf, 0) := by
        unfold cntd
        rw [if_pos hok, if_pos h99, if_pos h99]
      rw [e] at hok2 ⊢
      simp only [if_true]
      have hg : guess ((cl l (plc s) 3).map hf) 0 s ≤ 7 := by
        unfold guess
        rw [if_pos hok2]
        exact Int.le_trans (((gs_le _ _ _ 3).1 (Int.le_refl _)).2 0 (by omega)) (rd_half _ (cl_bd l (plc s) hx 3) _)
      rw [decide_eq_true hg]
      exact Ev.now true
    · simp only [if_neg h99]
      have e : cntd l n s = (cl l (plc s) 3, n + 1) := by
        unfold cntd
        rw [if_pos hok, if_neg h99, if_neg h99]
      rw [e]
      exact counts_names nameList (by simp [nameList]) (fun s hs => (name_size s hs).2) l n s hok h99 nameList.length 0 (by omega)

end Go.Proofs.Ytjiekmbonmbhlaa.Pure
