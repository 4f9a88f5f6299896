/- MarkKey of the program and of the reference set the same two bits, so the law over them answers true for every door and key. -/
import Derived.Test.YtocgakpicmcemaaAskFnExactMarkKey
namespace Go.Proofs.Ytocgakpicmcemaa.Pure
open Go.RowKit Go.Proofs.Ytocgakpicmcemaa.PFnExactMarkKey Go.Proofs.YtocgakpicmcemaaW.PrintWords Go.Proofs.YtocgakpicmcemaaW.PrintLast Go.Proofs.YtocgakpicmcemaaW.PrintMore
set_option linter.unusedVariables false
set_option linter.unusedSimpArgs false

/-! ### Lists that are copied, compared, marked -/
theorem w64 (i : Nat) (h : (i : Int) < 9223372036854775807) : wrap64 ((i : Int) + 1) = ((i + 1 : Nat) : Int) := by unfold wrap64; omega
theorem set_take {α : Type} (x : List α) (i : Nat) (v : α) (h : i < x.length) : (x.set i v).take (i + 1) = x.take i ++ [v] := by
  rw [List.take_add_one, List.take_set_of_le (Nat.le_refl i), List.getElem?_set_self h]
  rfl
theorem take_next {α : Type} (x : List α) (i : Nat) (h : i < x.length) : x.take (i + 1) = x.take i ++ [x[i]] := by
  rw [List.take_add_one, List.getElem?_eq_getElem h]
  rfl
theorem rd_at (x : List Int) (i : Nat) (h : i < x.length) : rd x (i : Int) = x[i] := by
  unfold rd
  rw [List.getD_eq_getElem?_getD, Int.toNat_natCast, List.getElem?_eq_getElem h]
  rfl
/-! ### Hashes: the program's and the reference's are one number -/
theorem u32_wrap (n : Int) : IntKind.u32.wrap n = n % 4294967296 := by simp [IntKind.wrap, IntKind.bits, IntKind.signed]
theorem xor_u32 (a b : Nat) (ha : a < 4294967296) (hb : b < 4294967296) : Go.bits .xor .u32 (a : Int) (b : Int) = ((a ^^^ b : Nat) : Int) := by
  show IntKind.u32.wrap ((BitVec.ofInt 32 (a : Int) ^^^ BitVec.ofInt 32 (b : Int)).toNat : Nat) = _
  have h := Nat.xor_lt_two_pow (n := 32) ha hb
  rw [BitVec.toNat_xor, BitVec.ofInt_natCast, BitVec.ofInt_natCast, BitVec.toNat_ofNat, BitVec.toNat_ofNat, Nat.mod_eq_of_lt ha, Nat.mod_eq_of_lt hb, u32_wrap]
  omega
theorem xor_odd (c d : Nat) : (c ^^^ d) % 2 = if c % 2 = d % 2 then 0 else 1 := by
  have h := @Nat.xor_mod_two_eq_one c d
  by_cases e : c % 2 = d % 2
  · rw [if_pos e]; omega
  · rw [if_neg e]; omega
theorem xor_loop (a b : Nat) (ha : a < 4294967296) (hb : b < 4294967296) (d : Nat) : ∀ (i : Nat), i + d = 32 →
    Ev (fun k => spec_l04Xor.l0 k ((a / 2 ^ i : Nat) : Int) ((b / 2 ^ i : Nat) : Int) (((a ^^^ b) % 2 ^ i : Nat) : Int) ((2 ^ i : Nat) : Int) (i : Int)) ((a ^^^ b : Nat) : Int) := by
  have hx := Nat.xor_lt_two_pow (n := 32) ha hb
  induction d with
  | zero =>
    intro i hd
    obtain rfl : i = 32 := by omega
    refine Ev.step (f := fun _ => some ((a ^^^ b : Nat) : Int)) (fun k => ?_) (Ev.now _)
    simp only [spec_l04Xor.l0]
    rw [if_neg (by omega), Nat.mod_eq_of_lt hx]
  | succ d ih =>
    intro i hd
    have hp : 2 ^ i ≤ 2147483648 := by
      have := Nat.pow_le_pow_right (n := 2) (by omega) (show i ≤ 31 by omega)
      simpa using this
    have hp0 : 0 < 2 ^ i := Nat.two_pow_pos i
    have ea : wrap64 (Int.tdiv ((a / 2 ^ i : Nat) : Int) 2) = ((a / 2 ^ (i + 1) : Nat) : Int) := by
      rw [Int.tdiv_eq_ediv_of_nonneg (Int.natCast_nonneg _), Nat.pow_succ, ← Nat.div_div_eq_div_mul]
      have : a / 2 ^ i ≤ a := Nat.div_le_self _ _
      generalize a / 2 ^ i = q at *
      unfold wrap64; omega
    have eb : wrap64 (Int.tdiv ((b / 2 ^ i : Nat) : Int) 2) = ((b / 2 ^ (i + 1) : Nat) : Int) := by
      rw [Int.tdiv_eq_ediv_of_nonneg (Int.natCast_nonneg _), Nat.pow_succ, ← Nat.div_div_eq_div_mul]
      have : b / 2 ^ i ≤ b := Nat.div_le_self _ _
      generalize b / 2 ^ i = q at *
      unfold wrap64; omega
    have ep : wrap64 (2 * ((2 ^ i : Nat) : Int)) = ((2 ^ (i + 1) : Nat) : Int) := by
      rw [Nat.pow_succ]
      generalize 2 ^ i = q at *
      unfold wrap64; omega
    have hs : (a ^^^ b) % 2 ^ (i + 1) = (a ^^^ b) % 2 ^ i + 2 ^ i * ((a / 2 ^ i ^^^ b / 2 ^ i) % 2) := by
      rw [Nat.mod_pow_succ, Nat.xor_div_two_pow]
    have hl : (a ^^^ b) % 2 ^ i < 2 ^ i := Nat.mod_lt _ hp0
    refine Ev.step (fun k => ?_) (ih (i + 1) (by omega))
    simp only [spec_l04Xor.l0]
    rw [if_pos (by omega), ea, eb, ep, w64 i (by omega), Int.tmod_eq_emod_of_nonneg (Int.natCast_nonneg _), Int.tmod_eq_emod_of_nonneg (Int.natCast_nonneg _)]
    rw [xor_odd] at hs
    by_cases c : a / 2 ^ i % 2 = b / 2 ^ i % 2
    · rw [if_pos (by omega)]
      rw [if_pos c, Nat.mul_zero] at hs
      have hs2 : (a ^^^ b) % 2 ^ (i + 1) = (a ^^^ b) % 2 ^ i := hs.trans (Nat.add_zero _)
      rw [hs2]
    · rw [if_neg (by omega)]
      rw [if_neg c, Nat.mul_one] at hs
      have ew : wrap64 ((((a ^^^ b) % 2 ^ i : Nat) : Int) + ((2 ^ i : Nat) : Int)) = (((a ^^^ b) % 2 ^ (i + 1) : Nat) : Int) := by
        rw [hs]
        generalize (a ^^^ b) % 2 ^ i = q at *
        generalize 2 ^ i = p at *
        unfold wrap64; omega
      rw [ew]
theorem xor_ev (a b : Nat) (ha : a < 4294967296) (hb : b < 4294967296) : Ev (fun k => spec_l04Xor.f k (a : Int) (b : Int)) ((a ^^^ b : Nat) : Int) := by
  have h := xor_loop a b ha hb 32 0 rfl
  refine Ev.congr (fun k => ?_) h
  unfold spec_l04Xor.f
  simp [Nat.mod_one]
/-- The bytes of a text behind place i. -/
def tailOf (s : ByteArray) (i : Nat) : List UInt8 := s.data.toList.drop i
/-- One byte more. -/
def hstep (h : Nat) (b : UInt8) : Nat := ((h ^^^ b.toNat) * 16777619) % 4294967296
theorem hstep_lt (h : Nat) (b : UInt8) : hstep h b < 4294967296 := Nat.mod_lt _ (by omega)
/-- What the hash is at last. -/
def hlast (h : Nat) : Nat := h ^^^ (h / 65536)
/-- The hash of a text, from a seed that is in its range. -/
def hashN (s : ByteArray) (seed : Nat) : Nat := hlast ((tailOf s 0).foldl hstep (2166136261 + seed))
theorem hlast_lt (h : Nat) (hh : h < 4294967296) : hlast h < 4294967296 := Nat.xor_lt_two_pow (n := 32) hh (by omega)
theorem fold_lt (l : List UInt8) : ∀ (h : Nat), h < 4294967296 → l.foldl hstep h < 4294967296 := by
  induction l with
  | nil => intro h hh; exact hh
  | cons b l ih => intro h hh; exact ih _ (hstep_lt h b)
theorem hashN_lt (s : ByteArray) (seed : Nat) (h : seed ≤ 1000000000) : hashN s seed < 4294967296 := hlast_lt _ (fold_lt _ _ (by omega))
theorem tailOf_next (s : ByteArray) (i : Nat) (h : i < s.size) : ∃ b : UInt8, tailOf s i = b :: tailOf s (i + 1) ∧ bt s (i : Int) = (b.toNat : Int) := by
  have h' : i < s.data.toList.length := by simpa using h
  refine ⟨s[i], ?_, ?_⟩
  · unfold tailOf
    rw [List.drop_eq_getElem_cons h']
    rfl
  · unfold bt
    rw [dif_pos (by simpa using h)]
    simp
theorem hash_loop (s : ByteArray) (hs : s.size ≤ 4611686018427387904) (d : Nat) : ∀ (i h : Nat), h < 4294967296 → s.size = i + d →
    Ev (fun k => spec_HashOf.l0 k s (h : Int) (i : Int)) ((hlast ((tailOf s i).foldl hstep h) : Nat) : Int) ∧ Ev (fun k => impl_HashOf.l0 k s (h : Int) (i : Int)) ((hlast ((tailOf s i).foldl hstep h) : Nat) : Int) := by
  induction d with
  | zero =>
    intro i h hh hd
    have e : tailOf s i = [] := by unfold tailOf; exact List.drop_eq_nil_of_le (by simp; omega)
    have ed : wrap64 (Int.tdiv (h : Int) 65536) = ((h / 65536 : Nat) : Int) := by
      rw [Int.tdiv_eq_ediv_of_nonneg (by omega)]; unfold wrap64; omega
    have hl := hlast_lt h hh
    have hx := xor_ev h (h / 65536) hh (by omega)
    rw [e]
    refine ⟨Ev.step (f := fun k => (spec_l04Xor.f k (h : Int) ((h / 65536 : Nat) : Int)).bind fun t104 => (some t104)) (fun k => ?_) (Ev.bind hx (Ev.now _)), Ev.step (f := fun _ => some ((hlast h : Nat) : Int)) (fun k => ?_) (Ev.now _)⟩
    · simp only [spec_HashOf.l0]
      rw [if_neg (by omega), ed]
    · simp only [impl_HashOf.l0]
      rw [if_neg (by omega), show (h : Int) / 65536 = ((h / 65536 : Nat) : Int) by omega, xor_u32 h (h / 65536) hh (by omega)]
      show some (wrap64 ((hlast h : Nat) : Int)) = _
      congr 1
      unfold wrap64; omega
  | succ d ih =>
    intro i h hh hd
    obtain ⟨b, e, eb⟩ := tailOf_next s i (by omega)
    have hb : b.toNat < 256 := b.toNat_lt
    have hx := xor_ev h b.toNat hh (by omega)
    have hxl := Nat.xor_lt_two_pow (n := 32) hh (show b.toNat < 2 ^ 32 by omega)
    obtain ⟨h1, h2⟩ := ih (i + 1) (hstep h b) (hstep_lt h b) (by omega)
    rw [e, List.foldl_cons]
    have es : Int.tmod (wrap64 (((h ^^^ b.toNat : Nat) : Int) * 16777619)) 4294967296 = ((hstep h b : Nat) : Int) := by
      unfold hstep
      have : wrap64 (((h ^^^ b.toNat : Nat) : Int) * 16777619) = ((h ^^^ b.toNat : Nat) : Int) * 16777619 := by unfold wrap64; omega
      rw [this, Int.tmod_eq_emod_of_nonneg (by omega)]
      omega
    have ei : (((h ^^^ b.toNat : Nat) : Int) * 16777619) % 4294967296 = ((hstep h b : Nat) : Int) := by
      unfold hstep; omega
    refine ⟨Ev.step (f := fun k => (spec_l04Xor.f k (h : Int) (b.toNat : Int)).bind fun t103 => (spec_HashOf.l0 k s (Int.tmod (wrap64 (t103 * 16777619)) 4294967296) (wrap64 ((i : Int) + 1)))) (fun k => ?_) (Ev.bind hx ?_), Ev.step (fun k => ?_) h2⟩
    · simp only [spec_HashOf.l0]
      rw [if_pos (by omega), if_pos (by omega), eb, show wrap64 ((b.toNat : Nat) : Int) = (b.toNat : Int) by unfold wrap64; omega]
    · simp only [es, w64 i (by omega)]
      exact h1
    · simp only [impl_HashOf.l0]
      rw [if_pos (by omega), if_pos (by omega), eb, show ((b.toNat : Nat) : Int) % 4294967296 = (b.toNat : Int) by omega, xor_u32 h b.toNat hh (by omega), ei, w64 i (by omega)]
theorem hash_ev (s : ByteArray) (hs : s.size ≤ 4611686018427387904) (seed : Nat) (h : seed ≤ 1000000000) :
    Ev (fun k => spec_HashOf.f k s (seed : Int)) ((hashN s seed : Nat) : Int) ∧ Ev (fun k => impl_HashOf.f k s (seed : Int)) ((hashN s seed : Nat) : Int) := by
  obtain ⟨h1, h2⟩ := hash_loop s hs s.size 0 (2166136261 + seed) (by omega) (by omega)
  constructor
  · refine Ev.congr (f := fun k => spec_HashOf.j0 k s (seed : Int)) (fun k => ?_) (Ev.step (f := fun k => spec_HashOf.j1 k s (seed : Int)) (fun k => ?_) (Ev.step (fun k => ?_) h1))
    · unfold spec_HashOf.f
      rw [if_neg (by omega)]
    · simp only [spec_HashOf.j0]
      rw [if_neg (by omega)]
    · simp only [spec_HashOf.j1]
      have : Int.tmod (wrap64 (2166136261 + (seed : Int))) 4294967296 = ((2166136261 + seed : Nat) : Int) := by
        have : wrap64 (2166136261 + (seed : Int)) = 2166136261 + (seed : Int) := by unfold wrap64; omega
        rw [this, Int.tmod_eq_emod_of_nonneg (by omega)]; omega
      rw [this]
      rfl
  · refine Ev.congr (fun k => ?_) h2
    unfold impl_HashOf.f
    have : mx 0 (mn (seed : Int) 1000000000) = (seed : Int) := by unfold mx mn; split <;> split <;> omega
    rw [this]
    rfl
/-! ### Doors -/
theorem and_i64 (a b : Nat) (ha : a < 9223372036854775808) (hb : b < 9223372036854775808) : Go.bits .and .i64 (a : Int) (b : Int) = ((a &&& b : Nat) : Int) :=
  (bits_nat .i64 63 (by decide) (fun n h0 h1 => by rw [IntKind.wrap_i64]; omega) a b ha hb).1
theorem or_i64 (a b : Nat) (ha : a < 9223372036854775808) (hb : b < 9223372036854775808) : Go.bits .or .i64 (a : Int) (b : Int) = ((a ||| b : Nat) : Int) :=
  (bits_nat .i64 63 (by decide) (fun n h0 h1 => by rw [IntKind.wrap_i64]; omega) a b ha hb).2
/-- The bit of a key by a seed. -/
def bitN (s : ByteArray) (seed : Nat) : Nat := hashN s seed % 32
theorem bitN_lt (s : ByteArray) (seed : Nat) : bitN s seed < 32 := Nat.mod_lt _ (by omega)
theorem pow_small (m : Nat) (h : m < 32) : 2 ^ m ≤ 2147483648 := by
  have := Nat.pow_le_pow_right (n := 2) (by omega) (show m ≤ 31 by omega)
  simpa using this
theorem bit_loop (s : ByteArray) (hs : s.size ≤ 4611686018427387904) (seed : Nat) (h : seed ≤ 1000000000) (d : Nat) : ∀ (i : Nat), i + d = bitN s seed →
    Ev (fun k => spec_l06Bit.l0 k s (seed : Int) ((2 ^ i : Nat) : Int) (i : Int)) ((2 ^ bitN s seed : Nat) : Int) := by
  have hh := (hash_ev s hs seed h).1
  have hm := bitN_lt s seed
  have et : Int.tmod ((hashN s seed : Nat) : Int) 32 = ((bitN s seed : Nat) : Int) := by
    rw [Int.tmod_eq_emod_of_nonneg (by omega)]; unfold bitN; omega
  induction d with
  | zero =>
    intro i hd
    refine Ev.step (f := fun k => (spec_HashOf.f k s (seed : Int)).bind fun t105 => (if (i : Int) < (Int.tmod t105 32) then (spec_l06Bit.l0 k s (seed : Int) (wrap64 (2 * ((2 ^ i : Nat) : Int))) (wrap64 ((i : Int) + 1))) else (some ((2 ^ i : Nat) : Int)))) (fun k => ?_) (Ev.bind hh ?_)
    · simp only [spec_l06Bit.l0]
    · simp only [et, if_neg (show ¬ ((i : Int) < ((bitN s seed : Nat) : Int)) by omega)]
      rw [show bitN s seed = i by omega]
      exact Ev.now _
  | succ d ih =>
    intro i hd
    have hp := pow_small i (by omega)
    have ep : wrap64 (2 * ((2 ^ i : Nat) : Int)) = ((2 ^ (i + 1) : Nat) : Int) := by
      rw [Nat.pow_succ]
      generalize 2 ^ i = q at *
      unfold wrap64; omega
    refine Ev.step (f := fun k => (spec_HashOf.f k s (seed : Int)).bind fun t105 => (if (i : Int) < (Int.tmod t105 32) then (spec_l06Bit.l0 k s (seed : Int) (wrap64 (2 * ((2 ^ i : Nat) : Int))) (wrap64 ((i : Int) + 1))) else (some ((2 ^ i : Nat) : Int)))) (fun k => ?_) (Ev.bind hh ?_)
    · simp only [spec_l06Bit.l0]
    · simp only [et, if_pos (show ((i : Int) < ((bitN s seed : Nat) : Int)) by omega), ep, w64 i (by omega)]
      exact ih (i + 1) (by omega)
theorem bit_ev (s : ByteArray) (hs : s.size ≤ 4611686018427387904) (seed : Nat) (h : seed ≤ 1000000000) : Ev (fun k => spec_l06Bit.f k s (seed : Int)) ((2 ^ bitN s seed : Nat) : Int) :=
  bit_loop s hs seed h (bitN s seed) 0 (by omega)
theorem has_some (D m : Nat) (hD : D < 4294967296) (hm : m < 32) : spec_l06Has.f (D : Int) ((2 ^ m : Nat) : Int) = some (D.testBit m) := by
  have hp0 : 0 < 2 ^ m := Nat.two_pow_pos m
  unfold spec_l06Has.f
  rw [if_neg (by omega), Int.tdiv_eq_ediv_of_nonneg (by omega)]
  have e : ((D : Int) / ((2 ^ m : Nat) : Int)) = ((D / 2 ^ m : Nat) : Int) := by rw [Int.natCast_ediv]
  have hle : D / 2 ^ m ≤ D := Nat.div_le_self _ _
  have ew : wrap64 ((D : Int) / ((2 ^ m : Nat) : Int)) = ((D / 2 ^ m : Nat) : Int) := by
    rw [e]
    generalize D / 2 ^ m = q at *
    unfold wrap64; omega
  rw [ew, Int.tmod_eq_emod_of_nonneg (Int.natCast_nonneg _), Nat.testBit_eq_decide_div_mod_eq]
  congr 1
  generalize D / 2 ^ m = q
  by_cases c : q % 2 = 1
  · rw [decide_eq_true c]; simp; omega
  · rw [decide_eq_false c]; simp; omega
/-- Both bits of a key. -/
def bitsN (s : ByteArray) : Nat := 2 ^ bitN s 7 ||| 2 ^ bitN s 8
theorem bitsN_lt (s : ByteArray) : bitsN s < 4294967296 :=
  Nat.or_lt_two_pow (n := 32) (by have := pow_small _ (bitN_lt s 7); omega) (by have := pow_small _ (bitN_lt s 8); omega)
theorem shl_one (m : Nat) (h : m < 32) : shl .i64 1 (m : Int) = ((2 ^ m : Nat) : Int) := by
  unfold shl
  have e : min ((m : Int).toNat) (IntKind.bits .i64) = m := by simp [IntKind.bits]; omega
  have hp := pow_small m h
  rw [e, IntKind.wrap_i64, Int.one_mul]
  have : ((2 : Int) ^ m) = ((2 ^ m : Nat) : Int) := by simp
  rw [this]
  generalize 2 ^ m = q at *
  omega
theorem bits_ev (s : ByteArray) (hs : s.size ≤ 4611686018427387904) : Ev (fun k => impl_bitsOf.f k s) ((bitsN s : Nat) : Int) := by
  have h7 := (hash_ev s hs 7 (by omega)).2
  have h8 := (hash_ev s hs 8 (by omega)).2
  have e7 : IntKind.u64.wrap (Int.tmod ((hashN s 7 : Nat) : Int) 32) = ((bitN s 7 : Nat) : Int) := by
    rw [Int.tmod_eq_emod_of_nonneg (by omega)]; unfold bitN; simp [IntKind.wrap, IntKind.bits, IntKind.signed]; omega
  have e8 : IntKind.u64.wrap (Int.tmod ((hashN s 8 : Nat) : Int) 32) = ((bitN s 8 : Nat) : Int) := by
    rw [Int.tmod_eq_emod_of_nonneg (by omega)]; unfold bitN; simp [IntKind.wrap, IntKind.bits, IntKind.signed]; omega
  unfold impl_bitsOf.f
  refine Ev.bind h7 (Ev.bind h8 ?_)
  have p7 := pow_small _ (bitN_lt s 7)
  have p8 := pow_small _ (bitN_lt s 8)
  simp only [e7, e8, if_pos (show (0 : Int) ≤ ((bitN s 7 : Nat) : Int) by omega), if_pos (show (0 : Int) ≤ ((bitN s 8 : Nat) : Int) by omega), shl_one _ (bitN_lt s 7), shl_one _ (bitN_lt s 8)]
  rw [or_i64 _ _ (by omega) (by omega)]
  exact Ev.now _
theorem okI (D : Int) : impl_DoorOk.f D = some (decide (0 ≤ D ∧ D < 4294967296)) := by
  unfold impl_DoorOk.f impl_inRange.f
  by_cases c : D ≥ 0
  · rw [if_pos c]; simp only [Option.bind_some]; congr 1; rw [Bool.eq_iff_iff]; simp; omega
  · rw [if_neg c]; simp only [Option.bind_some]; congr 1; rw [Bool.eq_iff_iff]; simp; omega
theorem okS (D : Int) : spec_DoorOk.f D = some (decide (0 ≤ D ∧ D < 4294967296)) := okI D
/-- Both bits are set. -/
def seenN (D : Nat) (s : ByteArray) : Bool := D.testBit (bitN s 7) && D.testBit (bitN s 8)
theorem seen_bits (D : Nat) (s : ByteArray) : (D &&& bitsN s = bitsN s) ↔ seenN D s = true := by
  unfold seenN bitsN
  rw [Bool.and_eq_true]
  constructor
  · intro h
    have g : ∀ i, (D.testBit i && ((2 ^ bitN s 7).testBit i || (2 ^ bitN s 8).testBit i)) = ((2 ^ bitN s 7).testBit i || (2 ^ bitN s 8).testBit i) := by
      intro i
      have := congrArg (fun x => Nat.testBit x i) h
      simpa [Nat.testBit_and, Nat.testBit_or] using this
    constructor
    · have := g (bitN s 7); simpa [Nat.testBit_two_pow] using this
    · have := g (bitN s 8); simpa [Nat.testBit_two_pow] using this
  · rintro ⟨h7, h8⟩
    apply Nat.eq_of_testBit_eq
    intro i
    rw [Nat.testBit_and, Nat.testBit_or, Nat.testBit_two_pow, Nat.testBit_two_pow]
    by_cases c7 : bitN s 7 = i
    · subst c7; simp [h7]
    · by_cases c8 : bitN s 8 = i
      · subst c8; simp [h8]
      · simp [c7, c8]
theorem or_bit (D m : Nat) (hD : D < 4294967296) (hm : m < 32) : D ||| 2 ^ m = if D.testBit m then D else D + 2 ^ m := by
  have hp := pow_small m hm
  by_cases c : D.testBit m = true
  · rw [if_pos c]
    apply Nat.eq_of_testBit_eq
    intro i
    rw [Nat.testBit_or, Nat.testBit_two_pow]
    by_cases e : m = i
    · subst e; simp [c]
    · simp [e]
  · rw [if_neg c]
    have c' : D.testBit m = false := by simpa using c
    have h0 : D &&& 2 ^ m = 0 := by
      apply Nat.eq_of_testBit_eq
      intro i
      rw [Nat.testBit_and, Nat.testBit_two_pow, Nat.zero_testBit]
      by_cases e : m = i
      · subst e; simp [c']
      · simp [e]
    have hz : BitVec.ofNat 33 D &&& BitVec.ofNat 33 (2 ^ m) = 0#33 := by
      apply BitVec.eq_of_toNat_eq
      rw [BitVec.toNat_and, BitVec.toNat_ofNat, BitVec.toNat_ofNat, Nat.mod_eq_of_lt (by omega), Nat.mod_eq_of_lt (by omega), h0]
      rfl
    have h := congrArg BitVec.toNat (BitVec.add_eq_or_of_and_eq_zero _ _ hz)
    rw [BitVec.toNat_add, BitVec.toNat_or, BitVec.toNat_ofNat, BitVec.toNat_ofNat, Nat.mod_eq_of_lt (show D < 2 ^ 33 by omega), Nat.mod_eq_of_lt (show 2 ^ m < 2 ^ 33 by omega), Nat.mod_eq_of_lt (by omega)] at h
    exact h.symm
theorem or_lt (D b : Nat) (hD : D < 4294967296) (hb : b < 4294967296) : D ||| b < 4294967296 := Nat.or_lt_two_pow (n := 32) hD hb
theorem markI_ev (D : Nat) (s : ByteArray) (hD : D < 4294967296) (hs : s.size ≤ 4611686018427387904) : Ev (fun k => impl_MarkKey.f k (D : Int) s) ((D ||| bitsN s : Nat) : Int) := by
  have hb := bitsN_lt s
  unfold impl_MarkKey.f
  simp only [okI, Option.bind_some, decide_eq_true (show 0 ≤ (D : Int) ∧ (D : Int) < 4294967296 by omega), if_true]
  refine Ev.bind (bits_ev s hs) ?_
  rw [or_i64 D (bitsN s) (by omega) (by omega)]
  exact Ev.now _
theorem markI_no (D : Int) (s : ByteArray) (hD : ¬ (0 ≤ D ∧ D < 4294967296)) : Ev (fun k => impl_MarkKey.f k D s) D := by
  unfold impl_MarkKey.f
  simp only [okI, Option.bind_some, decide_eq_false hD, if_neg (show ¬ (false = true) by decide)]
  exact Ev.now _
theorem markS_no (D : Int) (s : ByteArray) (hD : ¬ (0 ≤ D ∧ D < 4294967296)) : Ev (fun k => spec_MarkKey.f k D s) D := by
  unfold spec_MarkKey.f
  simp only [okS, Option.bind_some, decide_eq_false hD, if_neg (show ¬ (false = true) by decide)]
  exact Ev.now _
theorem markS_step (D seed : Nat) (s : ByteArray) (r : Int) (hD : D < 4294967296) (hs : s.size ≤ 4611686018427387904) (h7 : seed ≤ 8)
    (h : Ev (fun k => spec_MarkKey.l0 k s ((seed + 1 : Nat) : Int) ((D ||| 2 ^ bitN s seed : Nat) : Int)) r) : Ev (fun k => spec_MarkKey.l0 k s (seed : Int) (D : Int)) r := by
  have hm := bitN_lt s seed
  have hp := pow_small _ hm
  refine Ev.step (f := fun k => (spec_l06Bit.f k s (seed : Int)).bind fun t112 => ((spec_l06Has.f (D : Int) t112).bind fun t113 => (if t113 = true then (spec_MarkKey.l0 k s (wrap64 ((seed : Int) + 1)) (D : Int)) else (spec_MarkKey.l0 k s (wrap64 ((seed : Int) + 1)) (wrap64 ((D : Int) + t112)))))) (fun k => ?_) (Ev.bind (bit_ev s hs seed (by omega)) ?_)
  · simp only [spec_MarkKey.l0]
    rw [if_pos (by omega)]
  · simp only [has_some D _ hD hm, Option.bind_some, w64 seed (by omega)]
    rw [or_bit D _ hD hm] at h
    by_cases c : D.testBit (bitN s seed) = true
    · simp only [c, if_true] at h ⊢
      exact h
    · have c' : D.testBit (bitN s seed) = false := by simpa using c
      simp only [c', if_neg (show ¬ (false = true) by decide)] at h ⊢
      have ew : wrap64 ((D : Int) + ((2 ^ bitN s seed : Nat) : Int)) = ((D + 2 ^ bitN s seed : Nat) : Int) := by
        generalize 2 ^ bitN s seed = q at *
        unfold wrap64; omega
      rw [ew]
      exact h
theorem markS_ev (D : Nat) (s : ByteArray) (hD : D < 4294967296) (hs : s.size ≤ 4611686018427387904) : Ev (fun k => spec_MarkKey.f k (D : Int) s) ((D ||| bitsN s : Nat) : Int) := by
  have p7 := pow_small _ (bitN_lt s 7)
  have h1 := or_lt D (2 ^ bitN s 7) hD (by omega)
  unfold spec_MarkKey.f
  simp only [okS, Option.bind_some, decide_eq_true (show 0 ≤ (D : Int) ∧ (D : Int) < 4294967296 by omega), if_true]
  refine markS_step D 7 s _ hD hs (by omega) (markS_step _ 8 s _ h1 hs (by omega) ?_)
  refine Ev.step (f := fun _ => some ((D ||| bitsN s : Nat) : Int)) (fun k => ?_) (Ev.now _)
  simp only [spec_MarkKey.l0]
  rw [if_neg (by omega)]
  unfold bitsN
  rw [Nat.or_assoc]

theorem eq_self (D : Int) : laws_eqDoor.f D D = some true := by unfold laws_eqDoor.f; simp
theorem FnExactMarkKey : laws_FnExactMarkKey.Ask := by
  intro D s _ _
  apply Ev.rounds (r := true) (g := fun k => laws_FnExactMarkKey.f k D s)
  unfold laws_FnExactMarkKey.f laws_toDoor.f
  by_cases hbig : (s.size : Int) > 1048576
  · simp only [if_pos hbig]; exact Ev.now true
  · simp only [if_neg hbig, Option.bind_some]
    have key : ∃ r, Ev (fun k => spec_MarkKey.f k D s) r ∧ Ev (fun k => impl_MarkKey.f k D s) r := by
      by_cases c : 0 ≤ D ∧ D < 4294967296
      · obtain ⟨n, rfl⟩ := Int.eq_ofNat_of_zero_le c.1
        exact ⟨_, markS_ev n s (by omega) (by omega), markI_ev n s (by omega) (by omega)⟩
      · exact ⟨D, markS_no D s c, markI_no D s c⟩
    obtain ⟨r, h1, h2⟩ := key
    refine Ev.bind h1 (Ev.bind h2 ?_)
    simp only [eq_self, Option.bind_some, if_true]
    exact Ev.now true

end Go.Proofs.Ytocgakpicmcemaa.Pure
