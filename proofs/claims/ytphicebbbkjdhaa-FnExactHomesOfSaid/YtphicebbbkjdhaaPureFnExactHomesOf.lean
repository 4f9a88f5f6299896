/- The program's HomesOf and the reference's are one list, for all arguments. -/
import Derived.Test.YtphicebbbkjdhaaAskFnExactHomesOf
namespace Go.Proofs.Ytphicebbbkjdhaa.Pure
open Go.RowKit Go.Proofs.Ytphicebbbkjdhaa.GFnExactHomesOf Go.Proofs.YtphicebbbkjdhaaW.PrintWords Go.Proofs.YtphicebbbkjdhaaW.PrintLast Go.Proofs.YtphicebbbkjdhaaW.PrintMore
set_option linter.unusedVariables false
set_option linter.unusedSimpArgs false

/-! ### Lists that are copied, compared, marked -/
theorem w64 (i : Nat) (h : (i : Int) < 9223372036854775807) : wrap64 ((i : Int) + 1) = ((i + 1 : Nat) : Int) := by unfold wrap64; omega
theorem set_take {α : Type} (x : List α) (i : Nat) (v : α) (h : i < x.length) : (x.set i v).take (i + 1) = x.take i ++ [v] := by
  rw [List.take_add_one, List.take_set_of_le (Nat.le_refl i), List.getElem?_set_self h]
  rfl
theorem take_next {α : Type} (x : List α) (i : Nat) (h : i < x.length) : x.take (i + 1) = x.take i ++ [x[i]] := by
  rw [List.take_add_one, List.getElem?_eq_getElem h]
  rfl
theorem rd_at (x : List Int) (i : Nat) (h : i < x.length) : rd x (i : Int) = x[i] := by
  unfold rd
  rw [List.getD_eq_getElem?_getD, Int.toNat_natCast, List.getElem?_eq_getElem h]
  rfl
/-! ### Lists of structs: told by program -/
theorem rdT56_at (x : List S56) (i : Nat) (h : i < x.length) : rd_T56 x (i : Int) = x[i] := by
  unfold rd_T56
  rw [List.getD_eq_getElem?_getD, Int.toNat_natCast, List.getElem?_eq_getElem h]
  rfl
theorem rdT47_at (x : List S47) (i : Nat) (h : i < x.length) : rd_T47 x (i : Int) = x[i] := by
  unfold rd_T47
  rw [List.getD_eq_getElem?_getD, Int.toNat_natCast, List.getElem?_eq_getElem h]
  rfl
/-- The same struct. -/
def cvSpot (s : S56) : S47 := ⟨s.f0, s.f1⟩
theorem toSpotS_loop (l : List S56) (hl : l.length ≤ 1048576) (d : Nat) : ∀ (x : List S47) (i : Nat), x.length = l.length → x.take i = (l.take i).map cvSpot → l.length = i + d → Ev (fun k => laws_toSpotS.l0 k l x (i : Int)) (l.map cvSpot) := by
  induction d with
  | zero =>
    intro x i hx ht hd
    refine Ev.step (f := fun _ => some (l.map cvSpot)) (fun k => ?_) (Ev.now _)
    have e : x = l.map cvSpot := by rw [List.take_of_length_le (by omega), List.take_of_length_le (by omega)] at ht; exact ht
    simp only [laws_toSpotS.l0]
    rw [if_neg (by omega), e]
  | succ d ih =>
    intro x i hx ht hd
    have hi : i < l.length := by omega
    refine Ev.step (f := fun k => laws_toSpotS.l0 k l (x.set i (cvSpot l[i])) ((i + 1 : Nat) : Int)) (fun k => ?_) (ih (x.set i (cvSpot l[i])) (i + 1) (by simpa using hx) ?_ (by omega))
    · simp only [laws_toSpotS.l0, laws_toSpot.f, Option.bind_some, rdT56_at l i hi]
      rw [if_pos (by omega), if_pos (by omega), if_pos (by omega), w64 i (by omega), Int.toNat_natCast]
      rfl
    · rw [set_take x i _ (by omega), take_next l i hi, ht, List.map_append]
      rfl
theorem toSpotS_ev (l : List S56) (hl : l.length ≤ 1048576) : Ev (fun k => laws_toSpotS.f k l) (l.map cvSpot) := by
  refine Ev.congr (f := fun k => laws_toSpotS.l0 k l (List.replicate l.length z47) ((0 : Nat) : Int)) (fun k => ?_) (toSpotS_loop l hl l.length _ 0 (by simp) rfl (by omega))
  unfold laws_toSpotS.f
  rw [if_pos (by omega), if_pos (by rw [Int.toNat_natCast]; omega), Int.toNat_natCast]
  rfl
theorem eqSpot_some (s : S47) : laws_eqSpot.f s.f0 s.f1 s.f0 s.f1 = some true := by
  unfold laws_eqSpot.f
  simp
theorem eqSpotS_loop (l : List S47) (hl : l.length ≤ 1048576) (d : Nat) : ∀ (i : Nat), l.length = i + d → Ev (fun k => laws_eqSpotS.l0 k l l (i : Int)) true := by
  induction d with
  | zero =>
    intro i hd
    refine Ev.step (f := fun _ => some true) (fun k => ?_) (Ev.now _)
    simp only [laws_eqSpotS.l0]; rw [if_neg (by omega)]
  | succ d ih =>
    intro i hd
    refine Ev.step (f := fun k => laws_eqSpotS.l0 k l l ((i + 1 : Nat) : Int)) (fun k => ?_) (ih (i + 1) (by omega))
    simp only [laws_eqSpotS.l0]
    rw [if_pos (by omega), if_pos (by omega), if_pos (by omega), eqSpot_some, w64 i (by omega)]
    rfl
theorem eqSpotS_ev (l : List S47) (hl : l.length ≤ 1048576) : Ev (fun k => laws_eqSpotS.f k l l) true := by
  refine Ev.congr (f := fun k => laws_eqSpotS.l0 k l l ((0 : Nat) : Int)) (fun k => ?_) (eqSpotS_loop l hl l.length 0 (by omega))
  unfold laws_eqSpotS.f
  rw [if_pos rfl]
  rfl
/-! ### Hashes: the program's and the reference's are one number -/
theorem u32_wrap (n : Int) : IntKind.u32.wrap n = n % 4294967296 := by simp [IntKind.wrap, IntKind.bits, IntKind.signed]
theorem xor_u32 (a b : Nat) (ha : a < 4294967296) (hb : b < 4294967296) : Go.bits .xor .u32 (a : Int) (b : Int) = ((a ^^^ b : Nat) : Int) := by
  show IntKind.u32.wrap ((BitVec.ofInt 32 (a : Int) ^^^ BitVec.ofInt 32 (b : Int)).toNat : Nat) = _
  have h := Nat.xor_lt_two_pow (n := 32) ha hb
  rw [BitVec.toNat_xor, BitVec.ofInt_natCast, BitVec.ofInt_natCast, BitVec.toNat_ofNat, BitVec.toNat_ofNat, Nat.mod_eq_of_lt ha, Nat.mod_eq_of_lt hb, u32_wrap]
  omega
theorem xor_odd (c d : Nat) : (c ^^^ d) % 2 = if c % 2 = d % 2 then 0 else 1 := by
  have h := @Nat.xor_mod_two_eq_one c d
  by_cases e : c % 2 = d % 2
  · rw [if_pos e]; omega
  · rw [if_neg e]; omega
theorem xor_loop (a b : Nat) (ha : a < 4294967296) (hb : b < 4294967296) (d : Nat) : ∀ (i : Nat), i + d = 32 →
    Ev (fun k => spec_l04Xor.l0 k ((a / 2 ^ i : Nat) : Int) ((b / 2 ^ i : Nat) : Int) (((a ^^^ b) % 2 ^ i : Nat) : Int) ((2 ^ i : Nat) : Int) (i : Int)) ((a ^^^ b : Nat) : Int) := by
  have hx := Nat.xor_lt_two_pow (n := 32) ha hb
  induction d with
  | zero =>
    intro i hd
    obtain rfl : i = 32 := by omega
    refine Ev.step (f := fun _ => some ((a ^^^ b : Nat) : Int)) (fun k => ?_) (Ev.now _)
    simp only [spec_l04Xor.l0]
    rw [if_neg (by omega), Nat.mod_eq_of_lt hx]
  | succ d ih =>
    intro i hd
    have hp : 2 ^ i ≤ 2147483648 := by
      have := Nat.pow_le_pow_right (n := 2) (by omega) (show i ≤ 31 by omega)
      simpa using this
    have hp0 : 0 < 2 ^ i := Nat.two_pow_pos i
    have ea : wrap64 (Int.tdiv ((a / 2 ^ i : Nat) : Int) 2) = ((a / 2 ^ (i + 1) : Nat) : Int) := by
      rw [Int.tdiv_eq_ediv_of_nonneg (Int.natCast_nonneg _), Nat.pow_succ, ← Nat.div_div_eq_div_mul]
      have : a / 2 ^ i ≤ a := Nat.div_le_self _ _
      generalize a / 2 ^ i = q at *
      unfold wrap64; omega
    have eb : wrap64 (Int.tdiv ((b / 2 ^ i : Nat) : Int) 2) = ((b / 2 ^ (i + 1) : Nat) : Int) := by
      rw [Int.tdiv_eq_ediv_of_nonneg (Int.natCast_nonneg _), Nat.pow_succ, ← Nat.div_div_eq_div_mul]
      have : b / 2 ^ i ≤ b := Nat.div_le_self _ _
      generalize b / 2 ^ i = q at *
      unfold wrap64; omega
    have ep : wrap64 (2 * ((2 ^ i : Nat) : Int)) = ((2 ^ (i + 1) : Nat) : Int) := by
      rw [Nat.pow_succ]
      generalize 2 ^ i = q at *
      unfold wrap64; omega
    have hs : (a ^^^ b) % 2 ^ (i + 1) = (a ^^^ b) % 2 ^ i + 2 ^ i * ((a / 2 ^ i ^^^ b / 2 ^ i) % 2) := by
      rw [Nat.mod_pow_succ, Nat.xor_div_two_pow]
    have hl : (a ^^^ b) % 2 ^ i < 2 ^ i := Nat.mod_lt _ hp0
    refine Ev.step (fun k => ?_) (ih (i + 1) (by omega))
    simp only [spec_l04Xor.l0]
    rw [if_pos (by omega), ea, eb, ep, w64 i (by omega), Int.tmod_eq_emod_of_nonneg (Int.natCast_nonneg _), Int.tmod_eq_emod_of_nonneg (Int.natCast_nonneg _)]
    rw [xor_odd] at hs
    by_cases c : a / 2 ^ i % 2 = b / 2 ^ i % 2
    · rw [if_pos (by omega)]
      rw [if_pos c, Nat.mul_zero] at hs
      have hs2 : (a ^^^ b) % 2 ^ (i + 1) = (a ^^^ b) % 2 ^ i := hs.trans (Nat.add_zero _)
      rw [hs2]
    · rw [if_neg (by omega)]
      rw [if_neg c, Nat.mul_one] at hs
      have ew : wrap64 ((((a ^^^ b) % 2 ^ i : Nat) : Int) + ((2 ^ i : Nat) : Int)) = (((a ^^^ b) % 2 ^ (i + 1) : Nat) : Int) := by
        rw [hs]
        generalize (a ^^^ b) % 2 ^ i = q at *
        generalize 2 ^ i = p at *
        unfold wrap64; omega
      rw [ew]
theorem xor_ev (a b : Nat) (ha : a < 4294967296) (hb : b < 4294967296) : Ev (fun k => spec_l04Xor.f k (a : Int) (b : Int)) ((a ^^^ b : Nat) : Int) := by
  have h := xor_loop a b ha hb 32 0 rfl
  refine Ev.congr (fun k => ?_) h
  unfold spec_l04Xor.f
  simp [Nat.mod_one]
/-- The bytes of a text behind place i. -/
def tailOf (s : ByteArray) (i : Nat) : List UInt8 := s.data.toList.drop i
/-- One byte more. -/
def hstep (h : Nat) (b : UInt8) : Nat := ((h ^^^ b.toNat) * 16777619) % 4294967296
theorem hstep_lt (h : Nat) (b : UInt8) : hstep h b < 4294967296 := Nat.mod_lt _ (by omega)
/-- What the hash is at last. -/
def hlast (h : Nat) : Nat := h ^^^ (h / 65536)
/-- The hash of a text, from a seed that is in its range. -/
def hashN (s : ByteArray) (seed : Nat) : Nat := hlast ((tailOf s 0).foldl hstep (2166136261 + seed))
theorem hlast_lt (h : Nat) (hh : h < 4294967296) : hlast h < 4294967296 := Nat.xor_lt_two_pow (n := 32) hh (by omega)
theorem fold_lt (l : List UInt8) : ∀ (h : Nat), h < 4294967296 → l.foldl hstep h < 4294967296 := by
  induction l with
  | nil => intro h hh; exact hh
  | cons b l ih => intro h hh; exact ih _ (hstep_lt h b)
theorem hashN_lt (s : ByteArray) (seed : Nat) (h : seed ≤ 1000000000) : hashN s seed < 4294967296 := hlast_lt _ (fold_lt _ _ (by omega))
theorem tailOf_next (s : ByteArray) (i : Nat) (h : i < s.size) : ∃ b : UInt8, tailOf s i = b :: tailOf s (i + 1) ∧ bt s (i : Int) = (b.toNat : Int) := by
  have h' : i < s.data.toList.length := by simpa using h
  refine ⟨s[i], ?_, ?_⟩
  · unfold tailOf
    rw [List.drop_eq_getElem_cons h']
    rfl
  · unfold bt
    rw [dif_pos (by simpa using h)]
    simp
theorem hash_loop (s : ByteArray) (hs : s.size ≤ 4611686018427387904) (d : Nat) : ∀ (i h : Nat), h < 4294967296 → s.size = i + d →
    Ev (fun k => spec_HashOf.l0 k s (h : Int) (i : Int)) ((hlast ((tailOf s i).foldl hstep h) : Nat) : Int) ∧ Ev (fun k => impl_HashOf.l0 k s (h : Int) (i : Int)) ((hlast ((tailOf s i).foldl hstep h) : Nat) : Int) := by
  induction d with
  | zero =>
    intro i h hh hd
    have e : tailOf s i = [] := by unfold tailOf; exact List.drop_eq_nil_of_le (by simp; omega)
    have ed : wrap64 (Int.tdiv (h : Int) 65536) = ((h / 65536 : Nat) : Int) := by
      rw [Int.tdiv_eq_ediv_of_nonneg (by omega)]; unfold wrap64; omega
    have hl := hlast_lt h hh
    have hx := xor_ev h (h / 65536) hh (by omega)
    rw [e]
    refine ⟨Ev.step (f := fun k => (spec_l04Xor.f k (h : Int) ((h / 65536 : Nat) : Int)).bind fun t104 => (some t104)) (fun k => ?_) (Ev.bind hx (Ev.now _)), Ev.step (f := fun _ => some ((hlast h : Nat) : Int)) (fun k => ?_) (Ev.now _)⟩
    · simp only [spec_HashOf.l0]
      rw [if_neg (by omega), ed]
    · simp only [impl_HashOf.l0]
      rw [if_neg (by omega), show (h : Int) / 65536 = ((h / 65536 : Nat) : Int) by omega, xor_u32 h (h / 65536) hh (by omega)]
      show some (wrap64 ((hlast h : Nat) : Int)) = _
      congr 1
      unfold wrap64; omega
  | succ d ih =>
    intro i h hh hd
    obtain ⟨b, e, eb⟩ := tailOf_next s i (by omega)
    have hb : b.toNat < 256 := b.toNat_lt
    have hx := xor_ev h b.toNat hh (by omega)
    have hxl := Nat.xor_lt_two_pow (n := 32) hh (show b.toNat < 2 ^ 32 by omega)
    obtain ⟨h1, h2⟩ := ih (i + 1) (hstep h b) (hstep_lt h b) (by omega)
    rw [e, List.foldl_cons]
    have es : Int.tmod (wrap64 (((h ^^^ b.toNat : Nat) : Int) * 16777619)) 4294967296 = ((hstep h b : Nat) : Int) := by
      unfold hstep
      have : wrap64 (((h ^^^ b.toNat : Nat) : Int) * 16777619) = ((h ^^^ b.toNat : Nat) : Int) * 16777619 := by unfold wrap64; omega
      rw [this, Int.tmod_eq_emod_of_nonneg (by omega)]
      omega
    have ei : (((h ^^^ b.toNat : Nat) : Int) * 16777619) % 4294967296 = ((hstep h b : Nat) : Int) := by
      unfold hstep; omega
    refine ⟨Ev.step (f := fun k => (spec_l04Xor.f k (h : Int) (b.toNat : Int)).bind fun t103 => (spec_HashOf.l0 k s (Int.tmod (wrap64 (t103 * 16777619)) 4294967296) (wrap64 ((i : Int) + 1)))) (fun k => ?_) (Ev.bind hx ?_), Ev.step (fun k => ?_) h2⟩
    · simp only [spec_HashOf.l0]
      rw [if_pos (by omega), if_pos (by omega), eb, show wrap64 ((b.toNat : Nat) : Int) = (b.toNat : Int) by unfold wrap64; omega]
    · simp only [es, w64 i (by omega)]
      exact h1
    · simp only [impl_HashOf.l0]
      rw [if_pos (by omega), if_pos (by omega), eb, show ((b.toNat : Nat) : Int) % 4294967296 = (b.toNat : Int) by omega, xor_u32 h b.toNat hh (by omega), ei, w64 i (by omega)]
theorem hash_ev (s : ByteArray) (hs : s.size ≤ 4611686018427387904) (seed : Nat) (h : seed ≤ 1000000000) :
    Ev (fun k => spec_HashOf.f k s (seed : Int)) ((hashN s seed : Nat) : Int) ∧ Ev (fun k => impl_HashOf.f k s (seed : Int)) ((hashN s seed : Nat) : Int) := by
  obtain ⟨h1, h2⟩ := hash_loop s hs s.size 0 (2166136261 + seed) (by omega) (by omega)
  constructor
  · refine Ev.congr (f := fun k => spec_HashOf.j0 k s (seed : Int)) (fun k => ?_) (Ev.step (f := fun k => spec_HashOf.j1 k s (seed : Int)) (fun k => ?_) (Ev.step (fun k => ?_) h1))
    · unfold spec_HashOf.f
      rw [if_neg (by omega)]
    · simp only [spec_HashOf.j0]
      rw [if_neg (by omega)]
    · simp only [spec_HashOf.j1]
      have : Int.tmod (wrap64 (2166136261 + (seed : Int))) 4294967296 = ((2166136261 + seed : Nat) : Int) := by
        have : wrap64 (2166136261 + (seed : Int)) = 2166136261 + (seed : Int) := by unfold wrap64; omega
        rw [this, Int.tmod_eq_emod_of_nonneg (by omega)]; omega
      rw [this]
      rfl
  · refine Ev.congr (fun k => ?_) h2
    unfold impl_HashOf.f
    have : mx 0 (mn (seed : Int) 1000000000) = (seed : Int) := by unfold mx mn; split <;> split <;> omega
    rw [this]
    rfl
/-! ### Rings -/
theorem toRing_ev (l : List S56) (hl : l.length ≤ 1048576) : Ev (fun k => laws_toRing.f k l) (l.map cvSpot) := by
  unfold laws_toRing.f
  exact Ev.bind (toSpotS_ev l hl) (Ev.now _)
theorem eqRing_ev (l : List S47) (hl : l.length ≤ 1048576) : Ev (fun k => laws_eqRing.f k l l) true := by
  unfold laws_eqRing.f
  refine Ev.bind (eqSpotS_ev l hl) ?_
  simp only [if_true]
  exact Ev.now _
theorem szRing_some (l : List S56) (a : Int) (hl : l.length ≤ maxLen) (h0 : 0 ≤ a) (h1 : a ≤ 1048576) :
    ∃ r, laws_szRing.f l a = some r ∧ r ≤ a ∧ -1 ≤ r ∧ (0 ≤ r → l.length ≤ 1048576) := by
  have e : wrap64 (a - (l.length : Int)) = a - (l.length : Int) := by unfold maxLen at hl; unfold wrap64; omega
  unfold laws_szRing.f laws_szSpotS.f
  rw [e]
  by_cases c : a - (l.length : Int) < 0
  · rw [if_pos c]; exact ⟨-1, rfl, by omega, by omega, by omega⟩
  · rw [if_neg c, Option.bind_some, if_neg c]; exact ⟨_, rfl, by omega, by omega, by omega⟩
/-- The place of the first spot for a hash: none is the first of all. -/
def firstN (h : Int) (l : List S47) : Int := mx (Go.Lib.idxBy (fun _ (y : S47) => decide (h ≤ y.f0)) l default) 0
theorem bang_at (l : List S47) (i : Nat) (h : i < l.length) : l[i]! = l[i] := by simp [h]
theorem first_loop (h : Int) (l : List S47) (hl : l.length ≤ 1048576) (d : Nat) : ∀ (i : Nat), l.length = i + d → (∀ j, j < i → decide (h ≤ (l[j]!).f0) = false) →
    Ev (fun k => spec_l10From.l0 k h (i : Int) l) (firstN h l) ∧ 0 ≤ firstN h l ∧ (0 < l.length → firstN h l < (l.length : Int)) := by
  induction d with
  | zero =>
    intro i hd hA
    have e : firstN h l = 0 := by
      have := Go.Lib.idxBy_miss (fun _ (y : S47) => decide (h ≤ y.f0)) l l.length default (fun j hj => hA j (by omega))
      rw [List.take_length] at this
      unfold firstN
      rw [this]; rfl
    rw [e]
    refine ⟨Ev.step (f := fun _ => some 0) (fun k => ?_) (Ev.now _), by omega, fun hp => by omega⟩
    simp only [spec_l10From.l0]
    rw [if_neg (by omega)]
  | succ d ih =>
    intro i hd hA
    have hi : i < l.length := by omega
    by_cases c : h ≤ l[i].f0
    · have e : firstN h l = (i : Int) := by
        have := Go.Lib.idxBy_hit (fun _ (y : S47) => decide (h ≤ y.f0)) l l.length i default hi (Nat.le_refl _) (by show decide (h ≤ (l[i]!).f0) = true; rw [bang_at l i hi]; exact decide_eq_true c) (fun j hj => hA j hj)
        rw [List.take_length] at this
        unfold firstN
        rw [this]; unfold mx; split <;> omega
      rw [e]
      refine ⟨Ev.step (f := fun _ => some (i : Int)) (fun k => ?_) (Ev.now _), by omega, fun hp => by omega⟩
      simp only [spec_l10From.l0, rdT47_at l i hi]
      rw [if_pos (by omega), if_pos (by omega), if_pos c]
    · obtain ⟨h1, h2, h3⟩ := ih (i + 1) (by omega) (fun j hj => by
        rcases Nat.lt_succ_iff_lt_or_eq.1 hj with hj | rfl
        · exact hA j hj
        · rw [bang_at l j hi]; exact decide_eq_false c)
      refine ⟨Ev.step (fun k => ?_) h1, h2, h3⟩
      simp only [spec_l10From.l0, rdT47_at l i hi]
      rw [if_pos (by omega), if_pos (by omega), if_neg c, w64 i (by omega)]
/-- The place of the first spot for a key. -/
def fromN (l : List S47) (s : ByteArray) : Int := firstN (hashN s 0 : Nat) l
theorem fromS_ev (l : List S47) (s : ByteArray) (hl : l.length ≤ 1048576) (hs : s.size ≤ 4611686018427387904) :
    Ev (fun k => spec_l10From.f k l s) (fromN l s) ∧ 0 ≤ fromN l s ∧ (0 < l.length → fromN l s < (l.length : Int)) := by
  obtain ⟨h1, h2, h3⟩ := first_loop (hashN s 0 : Nat) l hl l.length 0 (by omega) (fun j hj => absurd hj (Nat.not_lt_zero _))
  refine ⟨?_, h2, h3⟩
  unfold spec_l10From.f
  exact Ev.bind (hash_ev s hs 0 (by omega)).1 h1
theorem homeI_ev (l : List S47) (s : ByteArray) (hl : l.length ≤ 1048576) (hs : s.size ≤ 4611686018427387904) :
    Ev (fun k => impl_Ring_home.f k l s) (if l.length = 0 then -1 else fromN l s) := by
  unfold impl_Ring_home.f
  simp only [if_pos (show l.length < 1099511627776 by omega)]
  by_cases c : l.length = 0
  · simp only [if_pos c]; exact Ev.now _
  · simp only [if_neg c]
    exact Ev.bind (hash_ev s hs 0 (by omega)).2 (Ev.now _)
theorem eqIntS_loop (a b : List Int) (hl : a.length ≤ 35184372088832) (hab : a = b) (d : Nat) : ∀ (i : Nat), a.length = i + d → Ev (fun k => laws_eqIntS.l0 k a b (i : Int)) true := by
  subst hab
  induction d with
  | zero =>
    intro i hd
    refine Ev.step (f := fun _ => some true) (fun k => ?_) (Ev.now _)
    simp only [laws_eqIntS.l0]
    rw [if_neg (by omega)]
  | succ d ih =>
    intro i hd
    refine Ev.step (f := fun k => laws_eqIntS.l0 k a a ((i + 1 : Nat) : Int)) (fun k => ?_) (ih (i + 1) (by omega))
    simp only [laws_eqIntS.l0]
    rw [if_pos (by omega), if_pos (by omega), if_pos (by omega), w64 i (by omega)]
    simp only [if_true]
theorem eqIntS_ev (a : List Int) (hl : a.length ≤ 35184372088832) : Ev (fun k => laws_eqIntS.f k a a) true := by
  refine Ev.congr (f := fun k => laws_eqIntS.l0 k a a ((0 : Nat) : Int)) (fun k => ?_) (eqIntS_loop a a hl rfl a.length 0 (by omega))
  unfold laws_eqIntS.f
  rw [if_pos rfl]
  rfl
/-- What stands behind the marking. -/
def markedI (l : List Int) (m : Int) : List Int := (List.range l.length).map fun (i : Nat) => m + (i : Int)
theorem markedI_len (l : List Int) (m : Int) : (markedI l m).length = l.length := by simp [markedI]
theorem markIntS_loop (n : Nat) (m : Int) (h0 : 0 ≤ m) (h1 : m + n < 9223372036854775807) (d : Nat) : ∀ (x : List Int) (i : Nat), x.length = n → (∀ j, j < i → x[j]? = some (m + (j : Int))) → n = i + d →
    Ev (fun k => laws_markIntS.l0 k x (m + (i : Int)) (i : Int)) (m + (n : Int), (List.range n).map fun (i : Nat) => m + (i : Int)) := by
  induction d with
  | zero =>
    intro x i hx ht hd
    refine Ev.step (f := fun _ => some (m + (n : Int), (List.range n).map fun (i : Nat) => m + (i : Int))) (fun k => ?_) (Ev.now _)
    have e : x = (List.range n).map fun (i : Nat) => m + (i : Int) := by
      apply List.ext_getElem?
      intro j
      by_cases hj : j < n
      · rw [ht j (by omega)]; simp [hj]
      · rw [List.getElem?_eq_none (by omega), List.getElem?_eq_none (by simp; omega)]
    simp only [laws_markIntS.l0]
    rw [if_neg (by omega), ← e]
    have : i = n := by omega
    subst this
    rfl
  | succ d ih =>
    intro x i hx ht hd
    refine Ev.step (f := fun k => laws_markIntS.l0 k (x.set i (m + (i : Int))) (m + ((i + 1 : Nat) : Int)) ((i + 1 : Nat) : Int)) (fun k => ?_) (ih (x.set i (m + (i : Int))) (i + 1) (by simpa using hx) ?_ (by omega))
    · have e : wrap64 (m + (i : Int) + 1) = m + ((i + 1 : Nat) : Int) := by unfold wrap64; omega
      simp only [laws_markIntS.l0]
      rw [if_pos (by omega), if_pos (by omega), w64 i (by omega), e, Int.toNat_natCast]
    · intro j hj
      by_cases c : j = i
      · subst c; rw [List.getElem?_set_self (by omega)]
      · rw [List.getElem?_set_ne (by omega)]; exact ht j (by omega)
theorem markIntS_ev (l : List Int) (m : Int) (h0 : 0 ≤ m) (h1 : m + l.length < 9223372036854775807) : Ev (fun k => laws_markIntS.f k l m) (m + (l.length : Int), markedI l m) := by
  refine Ev.congr (f := fun k => laws_markIntS.l0 k l (m + ((0 : Nat) : Int)) ((0 : Nat) : Int)) (fun k => ?_) (markIntS_loop l.length m h0 h1 l.length l 0 rfl (fun j hj => absurd hj (by omega)) (by omega))
  unfold laws_markIntS.f
  rw [show m + ((0 : Nat) : Int) = m by omega]
  rfl
theorem heldIntS_loop (l : List Int) (m : Int) (h0 : 0 ≤ m) (h1 : m + l.length < 9223372036854775807) (d : Nat) : ∀ (i : Nat), l.length = i + d →
    Ev (fun k => laws_heldIntS.l0 k (markedI l m) (m + (i : Int)) (i : Int)) (m + (l.length : Int)) := by
  induction d with
  | zero =>
    intro i hd
    refine Ev.step (f := fun _ => some (m + (l.length : Int))) (fun k => ?_) (Ev.now _)
    simp only [laws_heldIntS.l0, markedI_len]
    rw [if_neg (by omega)]
    have : i = l.length := by omega
    subst this
    rfl
  | succ d ih =>
    intro i hd
    refine Ev.step (f := fun k => laws_heldIntS.l0 k (markedI l m) (m + ((i + 1 : Nat) : Int)) ((i + 1 : Nat) : Int)) (fun k => ?_) (ih (i + 1) (by omega))
    have e : wrap64 (m + (i : Int) + 1) = m + ((i + 1 : Nat) : Int) := by unfold wrap64; omega
    have e2 : rd (markedI l m) (i : Int) = m + (i : Int) := by
      rw [rd_at _ i (by rw [markedI_len]; omega)]
      simp [markedI]
    simp only [laws_heldIntS.l0, markedI_len]
    rw [if_pos (by omega), if_pos (by omega), e2, if_pos rfl, w64 i (by omega), e]
theorem heldIntS_ev (l : List Int) (m : Int) (h0 : 0 ≤ m) (h1 : m + l.length < 9223372036854775807) : Ev (fun k => laws_heldIntS.f k (markedI l m) m) (m + (l.length : Int)) := by
  refine Ev.congr (f := fun k => laws_heldIntS.l0 k (markedI l m) (m + ((0 : Nat) : Int)) ((0 : Nat) : Int)) (fun k => ?_) (heldIntS_loop l m h0 h1 l.length 0 (by omega))
  unfold laws_heldIntS.f
  rw [show m + ((0 : Nat) : Int) = m by omega]
  rfl
theorem markSpotS_loop (n : Nat) (hn : n ≤ 1048576) (d : Nat) : ∀ (x : List S47) (i : Nat) (m : Int), x.length = n → 0 ≤ m → m + 2 * (d : Int) < 9223372036854775807 → n = i + d →
    ∃ L : List S47, Ev (fun k => laws_markSpotS.l0 k x m (i : Int)) (m + 2 * (d : Int), L) := by
  induction d with
  | zero =>
    intro x i m hx h0 h1 hd
    refine ⟨x, Ev.step (f := fun _ => some (m, x)) (fun k => ?_) (Ev.congr (fun k => ?_) (Ev.now _))⟩
    · simp only [laws_markSpotS.l0]; rw [if_neg (by omega)]
    · simp
  | succ d ih =>
    intro x i m hx h0 h1 hd
    have e1 : wrap64 (m + 1) = m + 1 := by unfold wrap64; omega
    have e2 : wrap64 (m + 1 + 1) = m + 2 := by unfold wrap64; omega
    obtain ⟨L, hL⟩ := ih ((x.set i (⟨m, (rd_T47 x (i : Int)).f1⟩ : S47)).set i (⟨(rd_T47 (x.set i (⟨m, (rd_T47 x (i : Int)).f1⟩ : S47)) (i : Int)).f0, m + 1⟩ : S47)) (i + 1) (m + 2) (by simpa using hx) (by omega) (by omega) (by omega)
    rw [show m + 2 * ((d + 1 : Nat) : Int) = m + 2 + 2 * (d : Int) by omega]
    refine ⟨L, Ev.step (fun k => ?_) hL⟩
    simp only [laws_markSpotS.l0, Option.bind_some]
    rw [if_pos (by omega), if_pos (by omega), e1, e2, w64 i (by omega), Int.toNat_natCast]
theorem markRing_ev (l : List S47) (m : Int) (hl : l.length ≤ 1048576) (h0 : 0 ≤ m) (h1 : m ≤ 1073741824) : ∃ L : List S47, Ev (fun k => laws_markRing.f k l m) (m + 2 * (l.length : Int), L) := by
  obtain ⟨L, h⟩ := markSpotS_loop l.length hl l.length l 0 m rfl h0 (by omega) (by omega)
  refine ⟨L, ?_⟩
  unfold laws_markRing.f
  refine Ev.bind (a := (m + 2 * (l.length : Int), L)) ?_ (Ev.now _)
  exact h
/-! ### The homes of a key -/
theorem dropn {α : Type} (x : List α) (i : Nat) (h : i < x.length) : x.drop i = x[i] :: x.drop (i + 1) := List.drop_eq_getElem_cons h
theorem mem_dropn (l : List Int) (v : Int) (i : Nat) (h : i < l.length) (c : ¬ l[i] = v) : decide (v ∈ l.drop i) = decide (v ∈ l.drop (i + 1)) := by
  rw [dropn l i h, decide_eq_decide, List.mem_cons]
  exact ⟨fun h => h.resolve_left (fun e => c e.symm), .inr⟩
theorem inS_loop (l : List Int) (v : Int) (hl : l.length ≤ 1048576) (d : Nat) : ∀ (i : Nat), l.length = i + d → Ev (fun k => spec_l10In.l0 k l v (i : Int)) (decide (v ∈ l.drop i)) := by
  induction d with
  | zero =>
    intro i hd
    rw [List.drop_eq_nil_of_le (by omega)]
    refine Ev.step (f := fun _ => some false) (fun k => ?_) (Ev.congr (fun k => ?_) (Ev.now _))
    · simp only [spec_l10In.l0]; rw [if_neg (by omega)]
    · simp
  | succ d ih =>
    intro i hd
    have hi : i < l.length := by omega
    by_cases c : l[i] = v
    · refine Ev.step (f := fun _ => some true) (fun k => ?_) (Ev.congr (fun k => ?_) (Ev.now _))
      · simp only [spec_l10In.l0, rd_at l i hi]
        rw [if_pos (by omega), if_pos (by omega), if_pos c]
      · rw [dropn l i hi, decide_eq_true (by rw [c]; exact List.mem_cons_self)]
    · rw [mem_dropn l v i hi c]
      refine Ev.step (fun k => ?_) (ih (i + 1) (by omega))
      simp only [spec_l10In.l0, rd_at l i hi]
      rw [if_pos (by omega), if_pos (by omega), if_neg c, w64 i (by omega)]
theorem inS_ev (l : List Int) (v : Int) (hl : l.length ≤ 1048576) : Ev (fun k => spec_l10In.f k l v) (decide (v ∈ l)) := inS_loop l v hl l.length 0 (by omega)
theorem ixI_loop (l : List Int) (v : Int) (hl : l.length ≤ 1048576) (d : Nat) : ∀ (i : Nat), l.length = i + d → ∃ j : Int, Ev (fun k => slices_Index_int_int.l0 k l v (l.length : Int) (i : Int)) j ∧ decide (j ≥ 0) = decide (v ∈ l.drop i) := by
  induction d with
  | zero =>
    intro i hd
    rw [List.drop_eq_nil_of_le (by omega)]
    refine ⟨-1, Ev.step (f := fun _ => some (-1)) (fun k => ?_) (Ev.now _), by simp⟩
    simp only [slices_Index_int_int.l0]; rw [if_neg (by omega)]
  | succ d ih =>
    intro i hd
    have hi : i < l.length := by omega
    by_cases c : v = l[i]
    · refine ⟨(i : Int), Ev.step (f := fun _ => some (i : Int)) (fun k => ?_) (Ev.now _), ?_⟩
      · simp only [slices_Index_int_int.l0, rd_at l i hi]
        rw [if_pos (by omega), if_pos (by omega), if_pos (by omega), if_pos c]
      · rw [dropn l i hi, decide_eq_true (show (i : Int) ≥ 0 by omega), decide_eq_true (by rw [c]; exact List.mem_cons_self)]
    · rw [mem_dropn l v i hi (fun e => c e.symm)]
      obtain ⟨j, hj, hd'⟩ := ih (i + 1) (by omega)
      refine ⟨j, Ev.step (fun k => ?_) hj, hd'⟩
      simp only [slices_Index_int_int.l0, rd_at l i hi]
      rw [if_pos (by omega), if_pos (by omega), if_pos (by omega), if_neg c, w64 i (by omega)]
theorem hasInt_ev (l : List Int) (v : Int) (hl : l.length ≤ 1048576) : Ev (fun k => slices_Contains_int_int.f k l v) (decide (v ∈ l)) := by
  obtain ⟨j, h, e⟩ := ixI_loop l v hl l.length 0 (by omega)
  unfold slices_Contains_int_int.f
  rw [show l = l.drop 0 from rfl, ← e]
  exact Ev.bind h (Ev.now _)
/-- The node at a place, counted round and round. -/
def nodeAt (l : List S47) (z : Int) : Int := (rd_T47 l (Int.tmod z (l.length : Int))).f1
/-- The homes that are found from a place on. -/
def homesF (l : List S47) (n z : Int) : Nat → Nat → List Int → List Int
  | 0, _, out => out
  | d + 1, i, out => homesF l n z d (i + 1) (if (out.length : Int) < n ∧ nodeAt l (z + (i : Int)) ∉ out then out ++ [nodeAt l (z + (i : Int))] else out)
theorem homes_full (l : List S47) (n z : Int) : ∀ (d i : Nat) (out : List Int), ¬ (out.length : Int) < n → homesF l n z d i out = out
  | 0, _, _, _ => rfl
  | d + 1, i, out, h => by
    rw [homesF, if_neg (fun c => h c.1)]
    exact homes_full l n z d (i + 1) out h
theorem homes_len (l : List S47) (n z : Int) : ∀ (d i : Nat) (out : List Int), (homesF l n z d i out).length ≤ out.length + d
  | 0, _, _ => Nat.le_refl _
  | d + 1, i, out => by
    rw [homesF]
    refine Nat.le_trans (homes_len l n z d (i + 1) _) ?_
    split
    · rw [List.length_append, List.length_singleton]; omega
    · omega
theorem homesS_loop (l : List S47) (n z : Int) (hl : l.length ≤ 1048576) (h0 : 0 ≤ z) (h1 : z < (l.length : Int)) (d : Nat) : ∀ (i : Nat) (out : List Int), l.length = i + d → out.length ≤ i →
    Ev (fun k => spec_HomesOf.l0 k n out z (i : Int) l) (homesF l n z d i out) := by
  induction d with
  | zero =>
    intro i out hd ho
    refine Ev.step (f := fun k => spec_HomesOf.j1 k n out z (i : Int) false l) (fun k => ?_) (Ev.step (f := fun _ => some out) (fun k => ?_) (Ev.now _))
    · simp only [spec_HomesOf.l0]; rw [if_neg (by omega)]
    · simp only [spec_HomesOf.j1]; rw [if_neg (by decide)]
  | succ d ih =>
    intro i out hd ho
    refine Ev.step (f := fun k => spec_HomesOf.j1 k n out z (i : Int) (decide ((out.length : Int) < n)) l) (fun k => ?_) ?_
    · simp only [spec_HomesOf.l0]; rw [if_pos (by omega)]
    · by_cases c : (out.length : Int) < n
      · rw [decide_eq_true c]
        have e : wrap64 (z + (i : Int)) = z + (i : Int) := by unfold wrap64; omega
        have t0 : 0 ≤ Int.tmod (z + (i : Int)) (l.length : Int) := Int.tmod_nonneg _ (by omega)
        have t1 : Int.tmod (z + (i : Int)) (l.length : Int) < (l.length : Int) := Int.tmod_lt_of_pos _ (by omega)
        refine Ev.step (f := fun k => (spec_l10In.f k out (nodeAt l (z + (i : Int)))).bind fun t => (if t = true then (spec_HomesOf.l0 k n out z ((i + 1 : Nat) : Int) l) else (spec_HomesOf.l0 k n (out ++ [nodeAt l (z + (i : Int))]) z ((i + 1 : Nat) : Int) l))) (fun k => ?_) ?_
        · simp only [spec_HomesOf.j1, if_true]
          rw [if_neg (by omega), e, if_pos t0, if_pos t1, w64 i (by omega)]
          simp only [if_pos (show out.length < 17592186044416 by omega)]
          rfl
        · refine Ev.bind (inS_ev out (nodeAt l (z + (i : Int))) (by omega)) ?_
          rw [homesF]
          by_cases m : nodeAt l (z + (i : Int)) ∈ out
          · rw [if_neg (fun q => q.2 m), decide_eq_true m]
            simp only [if_true]
            exact ih (i + 1) out (by omega) (by omega)
          · rw [if_pos ⟨c, m⟩, decide_eq_false m]
            simp only [Bool.false_eq_true, if_false]
            exact ih (i + 1) _ (by omega) (by rw [List.length_append, List.length_singleton]; omega)
      · rw [homes_full l n z (d + 1) i out c, decide_eq_false c]
        refine Ev.step (f := fun _ => some out) (fun k => ?_) (Ev.now _)
        simp only [spec_HomesOf.j1]; rw [if_neg (by decide)]
theorem homesI_loop (l : List S47) (n z : Int) (hl : l.length ≤ 1048576) (h0 : 0 ≤ z) (h1 : z < (l.length : Int)) (d : Nat) : ∀ (i : Nat) (out : List Int), l.length = i + d → out.length ≤ i →
    Ev (fun k => impl_HomesOf.l0 k n out z (l.length : Int) (i : Int) l) (homesF l n z d i out) := by
  induction d with
  | zero =>
    intro i out hd ho
    refine Ev.step (f := fun _ => some out) (fun k => ?_) (Ev.now _)
    simp only [impl_HomesOf.l0]; rw [if_neg (by omega)]
  | succ d ih =>
    intro i out hd ho
    have e : wrap64 (z + (i : Int)) = z + (i : Int) := by unfold wrap64; omega
    have t0 : 0 ≤ Int.tmod (z + (i : Int)) (l.length : Int) := Int.tmod_nonneg _ (by omega)
    have t1 : Int.tmod (z + (i : Int)) (l.length : Int) < (l.length : Int) := Int.tmod_lt_of_pos _ (by omega)
    rw [homesF]
    by_cases c : (out.length : Int) < n
    · refine Ev.step (f := fun k => (slices_Contains_int_int.f k out (nodeAt l (z + (i : Int)))).bind fun t => (if t = true then (impl_HomesOf.l0 k n out z (l.length : Int) ((i + 1 : Nat) : Int) l) else (impl_HomesOf.l0 k n (out ++ [nodeAt l (z + (i : Int))]) z (l.length : Int) ((i + 1 : Nat) : Int) l))) (fun k => ?_) ?_
      · simp only [impl_HomesOf.l0]
        rw [if_pos (by omega), if_neg (by omega), e, if_pos t0, if_pos t1, if_pos c, w64 i (by omega)]
        simp only [if_pos (show out.length < 17592186044416 by omega)]
        rfl
      · refine Ev.bind (hasInt_ev out (nodeAt l (z + (i : Int))) (by omega)) ?_
        by_cases m : nodeAt l (z + (i : Int)) ∈ out
        · rw [if_neg (fun q => q.2 m), decide_eq_true m]
          simp only [if_true]
          exact ih (i + 1) out (by omega) (by omega)
        · rw [if_pos ⟨c, m⟩, decide_eq_false m]
          simp only [Bool.false_eq_true, if_false]
          exact ih (i + 1) _ (by omega) (by rw [List.length_append, List.length_singleton]; omega)
    · rw [if_neg (fun q => c q.1)]
      refine Ev.step (fun k => ?_) (ih (i + 1) out (by omega) (by omega))
      simp only [impl_HomesOf.l0]
      rw [if_pos (by omega), if_neg (by omega), e, if_pos t0, if_pos t1, if_neg c, w64 i (by omega)]
/-- The homes of a key. -/
def homesN (l : List S47) (s : ByteArray) (n : Int) : List Int := homesF l n (fromN l s) l.length 0 []
theorem homesN_len (l : List S47) (s : ByteArray) (n : Int) : (homesN l s n).length ≤ l.length := by
  have := homes_len l n (fromN l s) l.length 0 []
  unfold homesN
  simpa using this
theorem homesS_ev (l : List S47) (s : ByteArray) (n : Int) (hl : l.length ≤ 1048576) (hs : s.size ≤ 4611686018427387904) : Ev (fun k => spec_HomesOf.f k l s n) (homesN l s n) := by
  obtain ⟨h1, h2, h3⟩ := fromS_ev l s hl hs
  unfold spec_HomesOf.f
  refine Ev.bind h1 ?_
  by_cases c : l.length = 0
  · have e : homesN l s n = [] := by unfold homesN; rw [c]; rfl
    rw [e]
    refine Ev.step (f := fun k => spec_HomesOf.j1 k n [] (fromN l s) 0 false l) (fun k => ?_) (Ev.step (f := fun _ => some []) (fun k => ?_) (Ev.now _))
    · simp only [spec_HomesOf.l0]; rw [if_neg (by omega)]
    · simp only [spec_HomesOf.j1]; rw [if_neg (by decide)]
  · exact homesS_loop l n (fromN l s) hl h2 (h3 (by omega)) l.length 0 [] (by omega) (by simp)
theorem homesI_ev (l : List S47) (s : ByteArray) (n : Int) (hl : l.length ≤ 1048576) (hs : s.size ≤ 4611686018427387904) : Ev (fun k => impl_HomesOf.f k l s n) (homesN l s n) := by
  obtain ⟨h1, h2, h3⟩ := fromS_ev l s hl hs
  unfold impl_HomesOf.f
  refine Ev.bind (homeI_ev l s hl hs) ?_
  by_cases c : l.length = 0
  · have e : homesN l s n = [] := by unfold homesN; rw [c]; rfl
    rw [e]
    refine Ev.step (f := fun _ => some []) (fun k => ?_) (Ev.now _)
    simp only [impl_HomesOf.l0]; rw [if_neg (by omega)]
  · rw [if_neg c]
    exact homesI_loop l n (fromN l s) hl h2 (h3 (by omega)) l.length 0 [] (by omega) (by simp)

theorem FnExactHomesOf : laws_FnExactHomesOf.Ask := by
  intro l s n ⟨hl, _⟩ hs _
  apply Ev.rounds (r := true) (g := fun k => laws_FnExactHomesOf.f k l s n)
  unfold laws_FnExactHomesOf.f
  by_cases hbig : (s.size : Int) > 1048576
  · simp only [if_pos hbig]; exact Ev.now true
  · simp only [if_neg hbig]
    obtain ⟨r, h, _, _, hr⟩ := szRing_some l 1048576 hl (by omega) (by omega)
    simp only [h, Option.bind_some]
    by_cases c : r < 0
    · simp only [if_pos c]; exact Ev.now true
    · simp only [if_neg c]
      have hn := hr (by omega)
      have ht := toRing_ev l hn
      have hn' : (l.map cvSpot).length ≤ 1048576 := by rw [List.length_map]; exact hn
      have hS := homesS_ev (l.map cvSpot) s n hn' (by omega)
      have hI := homesI_ev (l.map cvSpot) s n hn' (by omega)
      have hq : (homesN (l.map cvSpot) s n).length ≤ 1048576 := Nat.le_trans (homesN_len _ _ _) hn'
      have he := eqIntS_ev (homesN (l.map cvSpot) s n) (by omega)
      obtain ⟨L, hL⟩ := markRing_ev (l.map cvSpot) 1 hn' (by omega) (by omega)
      generalize homesN (l.map cvSpot) s n = q at hS hI hq he
      have hm := markIntS_ev q 1 (by omega) (by omega)
      have hh := heldIntS_ev q 1 (by omega) (by omega)
      refine Ev.bind ht (Ev.bind hS (Ev.bind ht (Ev.bind hI (Ev.bind he ?_))))
      simp only [if_true]
      refine Ev.bind ht (Ev.bind (eqRing_ev _ hn') ?_)
      simp only [if_true]
      refine Ev.bind hL ?_
      simp only [if_neg (show ¬ (1 + 2 * ((l.map cvSpot).length : Int) < 0) by omega)]
      refine Ev.bind he ?_
      simp only [Bool.not_true]
      refine Ev.step (fun k => by simp only [laws_FnExactHomesOf.j0]; rw [if_neg (by decide)]) ?_
      refine Ev.bind hm (Ev.bind hh ?_)
      simp only [if_neg (show ¬ (1 + (q.length : Int) < 0) by omega), if_true]
      refine Ev.bind ht (Ev.bind hI (Ev.bind he ?_))
      simp only [if_true]
      refine Ev.bind hh ?_
      simp only [if_neg (show ¬ (1 + (q.length : Int) < 0) by omega), if_true]
      exact Ev.now true

end Go.Proofs.Ytphicebbbkjdhaa.Pure
