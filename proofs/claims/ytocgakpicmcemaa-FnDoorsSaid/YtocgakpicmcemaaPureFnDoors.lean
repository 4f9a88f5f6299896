/- Keys that were marked are seen, all of them, marked again nothing changes, and by an empty door none is seen: for every draw. -/
import Derived.Test.YtocgakpicmcemaaQFnDoorsx4
namespace Go.Proofs.Ytocgakpicmcemaa.Pure
open Go.RowKit Go.Proofs.Ytocgakpicmcemaa.PFnDoors Go.Proofs.YtocgakpicmcemaaW.PrintWords Go.Proofs.YtocgakpicmcemaaW.PrintLast Go.Proofs.YtocgakpicmcemaaW.PrintMore
set_option linter.unusedVariables false
set_option linter.unusedSimpArgs false

/-! ### The drawn cursor: what its words come to -/
theorem and255 (n : Int) : 0 ≤ Go.bits .and .i64 n 255 ∧ Go.bits .and .i64 n 255 ≤ 255 := by
  have h255 : (BitVec.ofInt 64 255).toNat = 255 := by decide
  have key : (BitVec.ofInt 64 n &&& BitVec.ofInt 64 255).toNat ≤ 255 := by
    rw [BitVec.toNat_and, h255]
    exact Nat.and_le_right
  show 0 ≤ IntKind.i64.wrap ((BitVec.ofInt 64 n &&& BitVec.ofInt 64 255).toNat : Nat) ∧ IntKind.i64.wrap ((BitVec.ofInt 64 n &&& BitVec.ofInt 64 255).toNat : Nat) ≤ 255
  rw [IntKind.wrap_i64]
  omega

theorem byte_some (b : List Int) (i h : Int) (hb : b.length ≤ 140737488351232) (hi : 0 ≤ i) :
    ∃ r i' h', spec_l01Byte.f b i h = some (r, i', h') ∧ 0 ≤ r ∧ r ≤ 255 ∧ 0 ≤ i' := by
  unfold spec_l01Byte.f
  by_cases c : i < (b.length : Int)
  · rw [if_pos c, if_pos hi]
    exact ⟨_, _, _, rfl, (and255 _).1, (and255 _).2, by unfold wrap64; omega⟩
  · rw [if_neg c]
    exact ⟨_, _, _, rfl, (and255 _).1, (and255 _).2, hi⟩

theorem below_some (b : List Int) (i h n : Int) (hb : b.length ≤ 140737488351232) (hi : 0 ≤ i) :
    ∃ r i' h', spec_l01Below.f b i h n = some (r, i', h') ∧ 0 ≤ r ∧ (0 < n → r < n) ∧ 0 ≤ i' := by
  unfold spec_l01Below.f
  by_cases c : n ≤ 0
  · rw [if_pos c]
    exact ⟨0, i, h, rfl, by omega, by omega, hi⟩
  · rw [if_neg c]
    by_cases c2 : n ≤ 256
    · rw [if_pos c2]
      obtain ⟨r, i1, h1, e1, r0, r1, hi1⟩ := byte_some b i h hb hi
      rw [e1]
      simp only [Option.bind_some]
      rw [if_neg (by omega)]
      refine ⟨_, _, _, rfl, ?_, ?_, hi1⟩
      · rw [Int.tmod_eq_emod_of_nonneg r0]; exact Int.emod_nonneg _ (by omega)
      · intro _; rw [Int.tmod_eq_emod_of_nonneg r0]; exact Int.emod_lt_of_pos _ (by omega)
    · rw [if_neg c2]
      obtain ⟨x, i1, h1, e1, x0, x1, hi1⟩ := byte_some b i h hb hi
      obtain ⟨y, i2, h2, e2, y0, y1, hi2⟩ := byte_some b i1 h1 hb hi1
      obtain ⟨z, i3, h3, e3, z0, z1, hi3⟩ := byte_some b i2 h2 hb hi2
      obtain ⟨w, i4, h4, e4, w0, w1, hi4⟩ := byte_some b i3 h3 hb hi3
      rw [e1]; simp only [Option.bind_some]
      rw [e2]; simp only [Option.bind_some]
      rw [e3]; simp only [Option.bind_some]
      rw [e4]; simp only [Option.bind_some]
      rw [if_neg (by omega)]
      have e : wrap64 ((wrap64 ((wrap64 ((wrap64 (x * 16777216)) + (wrap64 (y * 65536)))) + (wrap64 (z * 256)))) + w) = x * 16777216 + y * 65536 + z * 256 + w := by
        unfold wrap64; omega
      rw [e]
      refine ⟨_, _, _, rfl, ?_, ?_, hi4⟩
      · rw [Int.tmod_eq_emod_of_nonneg (by omega)]; exact Int.emod_nonneg _ (by omega)
      · intro _; rw [Int.tmod_eq_emod_of_nonneg (by omega)]; exact Int.emod_lt_of_pos _ (by omega)

theorem new_loop (b : List Int) (hb : b.length ≤ 140737488351232) (d : Nat) : ∀ (h i : Int), 0 ≤ i → 4000 - i ≤ d →
    ∃ h', ∀ k, d < k → spec_l01New.l0 k b h i = some (b, 0, h') := by
  induction d with
  | zero =>
    intro h i h0 hd
    refine ⟨h, fun k hk => ?_⟩
    obtain ⟨k, rfl⟩ : ∃ m, k = m + 1 := ⟨k - 1, by omega⟩
    simp only [spec_l01New.l0]
    split
    · rw [if_neg (by omega)]
    · rfl
  | succ d ih =>
    intro h i h0 hd
    by_cases c : i < (b.length : Int)
    · by_cases c2 : i < 4000
      · have e : wrap64 (i + 1) = i + 1 := by unfold wrap64; omega
        obtain ⟨h', H⟩ := ih (Go.bits .and .i64 (wrap64 ((wrap64 ((wrap64 (h * 131)) + (wrap64 (rd b i)))) + 7)) 1073741823) (i + 1) (by omega) (by omega)
        refine ⟨h', fun k hk => ?_⟩
        obtain ⟨k, rfl⟩ : ∃ m, k = m + 1 := ⟨k - 1, by omega⟩
        simp only [spec_l01New.l0]
        rw [if_pos c, if_pos c2, if_pos h0, e]
        exact H k (by omega)
      · refine ⟨h, fun k hk => ?_⟩
        obtain ⟨k, rfl⟩ : ∃ m, k = m + 1 := ⟨k - 1, by omega⟩
        simp only [spec_l01New.l0]
        rw [if_pos c, if_neg c2]
    · refine ⟨h, fun k hk => ?_⟩
      obtain ⟨k, rfl⟩ : ∃ m, k = m + 1 := ⟨k - 1, by omega⟩
      simp only [spec_l01New.l0]
      rw [if_neg c]

theorem new_some (b : List Int) (hb : b.length ≤ 140737488351232) : ∃ h, ∀ k, 4000 < k → spec_l01New.f k b = some (b, 0, h) := by
  obtain ⟨h, H⟩ := new_loop b hb 4000 (wrap64 (14301 + (b.length : Int))) 0 (by omega) (by omega)
  exact ⟨h, fun k hk => by unfold spec_l01New.f; exact H k hk⟩
/-! ### Lists that are copied, compared, marked -/
theorem w64 (i : Nat) (h : (i : Int) < 9223372036854775807) : wrap64 ((i : Int) + 1) = ((i + 1 : Nat) : Int) := by unfold wrap64; omega
theorem set_take {α : Type} (x : List α) (i : Nat) (v : α) (h : i < x.length) : (x.set i v).take (i + 1) = x.take i ++ [v] := by
  rw [List.take_add_one, List.take_set_of_le (Nat.le_refl i), List.getElem?_set_self h]
  rfl
theorem take_next {α : Type} (x : List α) (i : Nat) (h : i < x.length) : x.take (i + 1) = x.take i ++ [x[i]] := by
  rw [List.take_add_one, List.getElem?_eq_getElem h]
  rfl
theorem rd_at (x : List Int) (i : Nat) (h : i < x.length) : rd x (i : Int) = x[i] := by
  unfold rd
  rw [List.getD_eq_getElem?_getD, Int.toNat_natCast, List.getElem?_eq_getElem h]
  rfl
theorem pick_some (b : List Int) (i h : Int) (l : List ByteArray) (hl : 0 < l.length) (hb : b.length ≤ 140737488351232) (hi : 0 ≤ i) :
    ∃ r i' h', spec_l01Pick.f b i h l = some (r, i', h') ∧ r ∈ l ∧ 0 ≤ i' := by
  obtain ⟨r, i1, h1, e1, r0, r1, hi1⟩ := below_some b i h (l.length : Int) hb hi
  unfold spec_l01Pick.f
  rw [e1]; simp only [Option.bind_some]
  have hr := r1 (by omega)
  rw [if_pos r0, if_pos hr]
  refine ⟨_, _, _, rfl, ?_, hi1⟩
  unfold rdOf
  have : r.toNat < l.length := by omega
  rw [List.getD_eq_getElem?_getD, List.getElem?_eq_getElem this]
  exact List.getElem_mem this
/-- The keys that are drawn. -/
def nameList : List ByteArray := [(⟨#[97]⟩ : ByteArray), (⟨#[98]⟩ : ByteArray), (⟨#[99]⟩ : ByteArray), (⟨#[100]⟩ : ByteArray), (⟨#[101]⟩ : ByteArray), (⟨#[102]⟩ : ByteArray), (⟨#[103]⟩ : ByteArray), (⟨#[104]⟩ : ByteArray), (⟨#[107, 49]⟩ : ByteArray), (⟨#[107, 50]⟩ : ByteArray), (⟨#[107, 51]⟩ : ByteArray), (⟨#[107, 101, 121]⟩ : ByteArray)]
theorem name_size : ∀ s ∈ nameList, 1 ≤ s.size ∧ s.size ≤ 3 := by decide
theorem new_ev (b : List Int) (hb : b.length ≤ 140737488351232) : ∃ h, Ev (fun k => spec_l01New.f k b) (b, 0, h) := by
  obtain ⟨h, H⟩ := new_some b hb
  exact ⟨h, 4001, fun k hk => H k (by omega)⟩
theorem key_some (b : List Int) (i h : Int) (hb : b.length ≤ 140737488351232) (hi : 0 ≤ i) : ∃ r i' h', spec_l03Key.f b i h = some (r, i', h') ∧ r ∈ nameList ∧ 0 ≤ i' := by
  obtain ⟨r, i1, h1, e1, hr, hi1⟩ := pick_some b i h nameList (by simp [nameList]) hb hi
  refine ⟨r, i1, h1, ?_, hr, hi1⟩
  unfold spec_l03Key.f
  show (spec_l01Pick.f b i h nameList).bind _ = _
  rw [e1]
  rfl
theorem drawWords_loop (b : List Int) (hb : b.length ≤ 140737488351232) (d : Nat) : ∀ (x : List ByteArray) (i : Nat) (c h : Int), x.length = i → i + d = 29 → 0 ≤ c → (∀ s ∈ x, s ∈ nameList) →
    ∃ l : List ByteArray, Ev (fun k => spec_DrawWords.l0 k x (i : Int) b c h) l ∧ l.length ≤ 29 ∧ ∀ s ∈ l, s ∈ nameList := by
  induction d with
  | zero =>
    intro x i c h hx hd hc hm
    obtain ⟨r, i1, h1, e1, r0, r1, hi1⟩ := below_some b c h 30 hb hc
    refine ⟨x, Ev.step (f := fun _ => some x) (fun k => ?_) (Ev.now _), by omega, hm⟩
    simp only [spec_DrawWords.l0]
    rw [e1]; simp only [Option.bind_some]
    rw [if_neg (by have := r1 (by omega); omega)]
  | succ d ih =>
    intro x i c h hx hd hc hm
    obtain ⟨r, i1, h1, e1, r0, r1, hi1⟩ := below_some b c h 30 hb hc
    by_cases hlt : (i : Int) < r
    · obtain ⟨v, i2, h2, e2, hv, hi2⟩ := key_some b i1 h1 hb hi1
      obtain ⟨l, hl, hn, hml⟩ := ih (x ++ [v]) (i + 1) i2 h2 (by simp [hx]) (by omega) hi2 (by
        intro s hs
        rcases List.mem_append.1 hs with h' | h'
        · exact hm s h'
        · rw [List.mem_singleton.1 h']; exact hv)
      refine ⟨l, Ev.step (fun k => ?_) hl, hn, hml⟩
      simp only [spec_DrawWords.l0]
      rw [e1]; simp only [Option.bind_some]
      rw [if_pos hlt, e2]; simp only [Option.bind_some]
      rw [if_pos (by omega), w64 i (by omega)]
    · refine ⟨x, Ev.step (f := fun _ => some x) (fun k => ?_) (Ev.now _), by omega, hm⟩
      simp only [spec_DrawWords.l0]
      rw [e1]; simp only [Option.bind_some]
      rw [if_neg hlt]
theorem drawWords_ev (b : List Int) (hb : b.length ≤ 140737488351232) : ∃ l : List ByteArray, Ev (fun k => spec_DrawWords.f k b) l ∧ l.length ≤ 29 ∧ ∀ s ∈ l, s ∈ nameList := by
  obtain ⟨h, hn⟩ := new_ev b hb
  obtain ⟨l, hl, hlen, hm⟩ := drawWords_loop b hb 29 [] 0 0 h rfl rfl (by omega) (fun s hs => by cases hs)
  refine ⟨l, ?_, hlen, hm⟩
  unfold spec_DrawWords.f
  exact Ev.bind hn hl
/-! ### Hashes: the program's and the reference's are one number -/
theorem u32_wrap (n : Int) : IntKind.u32.wrap n = n % 4294967296 := by simp [IntKind.wrap, IntKind.bits, IntKind.signed]
theorem xor_u32 (a b : Nat) (ha : a < 4294967296) (hb : b < 4294967296) : Go.bits .xor .u32 (a : Int) (b : Int) = ((a ^^^ b : Nat) : Int) := by
  show IntKind.u32.wrap ((BitVec.ofInt 32 (a : Int) ^^^ BitVec.ofInt 32 (b : Int)).toNat : Nat) = _
  have h := Nat.xor_lt_two_pow (n := 32) ha hb
  rw [BitVec.toNat_xor, BitVec.ofInt_natCast, BitVec.ofInt_natCast, BitVec.toNat_ofNat, BitVec.toNat_ofNat, Nat.mod_eq_of_lt ha, Nat.mod_eq_of_lt hb, u32_wrap]
  omega
theorem xor_odd (c d : Nat) : (c ^^^ d) % 2 = if c % 2 = d % 2 then 0 else 1 := by
  have h := @Nat.xor_mod_two_eq_one c d
  by_cases e : c % 2 = d % 2
  · rw [if_pos e]; omega
  · rw [if_neg e]; omega
theorem xor_loop (a b : Nat) (ha : a < 4294967296) (hb : b < 4294967296) (d : Nat) : ∀ (i : Nat), i + d = 32 →
    Ev (fun k => spec_l04Xor.l0 k ((a / 2 ^ i : Nat) : Int) ((b / 2 ^ i : Nat) : Int) (((a ^^^ b) % 2 ^ i : Nat) : Int) ((2 ^ i : Nat) : Int) (i : Int)) ((a ^^^ b : Nat) : Int) := by
  have hx := Nat.xor_lt_two_pow (n := 32) ha hb
  induction d with
  | zero =>
    intro i hd
    obtain rfl : i = 32 := by omega
    refine Ev.step (f := fun _ => some ((a ^^^ b : Nat) : Int)) (fun k => ?_) (Ev.now _)
    simp only [spec_l04Xor.l0]
    rw [if_neg (by omega), Nat.mod_eq_of_lt hx]
  | succ d ih =>
    intro i hd
    have hp : 2 ^ i ≤ 2147483648 := by
      have := Nat.pow_le_pow_right (n := 2) (by omega) (show i ≤ 31 by omega)
      simpa using this
    have hp0 : 0 < 2 ^ i := Nat.two_pow_pos i
    have ea : wrap64 (Int.tdiv ((a / 2 ^ i : Nat) : Int) 2) = ((a / 2 ^ (i + 1) : Nat) : Int) := by
      rw [Int.tdiv_eq_ediv_of_nonneg (Int.natCast_nonneg _), Nat.pow_succ, ← Nat.div_div_eq_div_mul]
      have : a / 2 ^ i ≤ a := Nat.div_le_self _ _
      generalize a / 2 ^ i = q at *
      unfold wrap64; omega
    have eb : wrap64 (Int.tdiv ((b / 2 ^ i : Nat) : Int) 2) = ((b / 2 ^ (i + 1) : Nat) : Int) := by
      rw [Int.tdiv_eq_ediv_of_nonneg (Int.natCast_nonneg _), Nat.pow_succ, ← Nat.div_div_eq_div_mul]
      have : b / 2 ^ i ≤ b := Nat.div_le_self _ _
      generalize b / 2 ^ i = q at *
      unfold wrap64; omega
    have ep : wrap64 (2 * ((2 ^ i : Nat) : Int)) = ((2 ^ (i + 1) : Nat) : Int) := by
      rw [Nat.pow_succ]
      generalize 2 ^ i = q at *
      unfold wrap64; omega
    have hs : (a ^^^ b) % 2 ^ (i + 1) = (a ^^^ b) % 2 ^ i + 2 ^ i * ((a / 2 ^ i ^^^ b / 2 ^ i) % 2) := by
      rw [Nat.mod_pow_succ, Nat.xor_div_two_pow]
    have hl : (a ^^^ b) % 2 ^ i < 2 ^ i := Nat.mod_lt _ hp0
    refine Ev.step (fun k => ?_) (ih (i + 1) (by omega))
    simp only [spec_l04Xor.l0]
    rw [if_pos (by omega), ea, eb, ep, w64 i (by omega), Int.tmod_eq_emod_of_nonneg (Int.natCast_nonneg _), Int.tmod_eq_emod_of_nonneg (Int.natCast_nonneg _)]
    rw [xor_odd] at hs
    by_cases c : a / 2 ^ i % 2 = b / 2 ^ i % 2
    · rw [if_pos (by omega)]
      rw [if_pos c, Nat.mul_zero] at hs
      have hs2 : (a ^^^ b) % 2 ^ (i + 1) = (a ^^^ b) % 2 ^ i := hs.trans (Nat.add_zero _)
      rw [hs2]
    · rw [if_neg (by omega)]
      rw [if_neg c, Nat.mul_one] at hs
      have ew : wrap64 ((((a ^^^ b) % 2 ^ i : Nat) : Int) + ((2 ^ i : Nat) : Int)) = (((a ^^^ b) % 2 ^ (i + 1) : Nat) : Int) := by
        rw [hs]
        generalize (a ^^^ b) % 2 ^ i = q at *
        generalize 2 ^ i = p at *
        unfold wrap64; omega
      rw [ew]
theorem xor_ev (a b : Nat) (ha : a < 4294967296) (hb : b < 4294967296) : Ev (fun k => spec_l04Xor.f k (a : Int) (b : Int)) ((a ^^^ b : Nat) : Int) := by
  have h := xor_loop a b ha hb 32 0 rfl
  refine Ev.congr (fun k => ?_) h
  unfold spec_l04Xor.f
  simp [Nat.mod_one]
/-- The bytes of a text behind place i. -/
def tailOf (s : ByteArray) (i : Nat) : List UInt8 := s.data.toList.drop i
/-- One byte more. -/
def hstep (h : Nat) (b : UInt8) : Nat := ((h ^^^ b.toNat) * 16777619) % 4294967296
theorem hstep_lt (h : Nat) (b : UInt8) : hstep h b < 4294967296 := Nat.mod_lt _ (by omega)
/-- What the hash is at last. -/
def hlast (h : Nat) : Nat := h ^^^ (h / 65536)
/-- The hash of a text, from a seed that is in its range. -/
def hashN (s : ByteArray) (seed : Nat) : Nat := hlast ((tailOf s 0).foldl hstep (2166136261 + seed))
theorem hlast_lt (h : Nat) (hh : h < 4294967296) : hlast h < 4294967296 := Nat.xor_lt_two_pow (n := 32) hh (by omega)
theorem fold_lt (l : List UInt8) : ∀ (h : Nat), h < 4294967296 → l.foldl hstep h < 4294967296 := by
  induction l with
  | nil => intro h hh; exact hh
  | cons b l ih => intro h hh; exact ih _ (hstep_lt h b)
theorem hashN_lt (s : ByteArray) (seed : Nat) (h : seed ≤ 1000000000) : hashN s seed < 4294967296 := hlast_lt _ (fold_lt _ _ (by omega))
theorem tailOf_next (s : ByteArray) (i : Nat) (h : i < s.size) : ∃ b : UInt8, tailOf s i = b :: tailOf s (i + 1) ∧ bt s (i : Int) = (b.toNat : Int) := by
  have h' : i < s.data.toList.length := by simpa using h
  refine ⟨s[i], ?_, ?_⟩
  · unfold tailOf
    rw [List.drop_eq_getElem_cons h']
    rfl
  · unfold bt
    rw [dif_pos (by simpa using h)]
    simp
theorem hash_loop (s : ByteArray) (hs : s.size ≤ 4611686018427387904) (d : Nat) : ∀ (i h : Nat), h < 4294967296 → s.size = i + d →
    Ev (fun k => spec_HashOf.l0 k s (h : Int) (i : Int)) ((hlast ((tailOf s i).foldl hstep h) : Nat) : Int) ∧ Ev (fun k => impl_HashOf.l0 k s (h : Int) (i : Int)) ((hlast ((tailOf s i).foldl hstep h) : Nat) : Int) := by
  induction d with
  | zero =>
    intro i h hh hd
    have e : tailOf s i = [] := by unfold tailOf; exact List.drop_eq_nil_of_le (by simp; omega)
    have ed : wrap64 (Int.tdiv (h : Int) 65536) = ((h / 65536 : Nat) : Int) := by
      rw [Int.tdiv_eq_ediv_of_nonneg (by omega)]; unfold wrap64; omega
    have hl := hlast_lt h hh
    have hx := xor_ev h (h / 65536) hh (by omega)
    rw [e]
    refine ⟨Ev.step (f := fun k => (spec_l04Xor.f k (h : Int) ((h / 65536 : Nat) : Int)).bind fun t104 => (some t104)) (fun k => ?_) (Ev.bind hx (Ev.now _)), Ev.step (f := fun _ => some ((hlast h : Nat) : Int)) (fun k => ?_) (Ev.now _)⟩
    · simp only [spec_HashOf.l0]
      rw [if_neg (by omega), ed]
    · simp only [impl_HashOf.l0]
      rw [if_neg (by omega), show (h : Int) / 65536 = ((h / 65536 : Nat) : Int) by omega, xor_u32 h (h / 65536) hh (by omega)]
      show some (wrap64 ((hlast h : Nat) : Int)) = _
      congr 1
      unfold wrap64; omega
  | succ d ih =>
    intro i h hh hd
    obtain ⟨b, e, eb⟩ := tailOf_next s i (by omega)
    have hb : b.toNat < 256 := b.toNat_lt
    have hx := xor_ev h b.toNat hh (by omega)
    have hxl := Nat.xor_lt_two_pow (n := 32) hh (show b.toNat < 2 ^ 32 by omega)
    obtain ⟨h1, h2⟩ := ih (i + 1) (hstep h b) (hstep_lt h b) (by omega)
    rw [e, List.foldl_cons]
    have es : Int.tmod (wrap64 (((h ^^^ b.toNat : Nat) : Int) * 16777619)) 4294967296 = ((hstep h b : Nat) : Int) := by
      unfold hstep
      have : wrap64 (((h ^^^ b.toNat : Nat) : Int) * 16777619) = ((h ^^^ b.toNat : Nat) : Int) * 16777619 := by unfold wrap64; omega
      rw [this, Int.tmod_eq_emod_of_nonneg (by omega)]
      omega
    have ei : (((h ^^^ b.toNat : Nat) : Int) * 16777619) % 4294967296 = ((hstep h b : Nat) : Int) := by
      unfold hstep; omega
    refine ⟨Ev.step (f := fun k => (spec_l04Xor.f k (h : Int) (b.toNat : Int)).bind fun t103 => (spec_HashOf.l0 k s (Int.tmod (wrap64 (t103 * 16777619)) 4294967296) (wrap64 ((i : Int) + 1)))) (fun k => ?_) (Ev.bind hx ?_), Ev.step (fun k => ?_) h2⟩
    · simp only [spec_HashOf.l0]
      rw [if_pos (by omega), if_pos (by omega), eb, show wrap64 ((b.toNat : Nat) : Int) = (b.toNat : Int) by unfold wrap64; omega]
    · simp only [es, w64 i (by omega)]
      exact h1
    · simp only [impl_HashOf.l0]
      rw [if_pos (by omega), if_pos (by omega), eb, show ((b.toNat : Nat) : Int) % 4294967296 = (b.toNat : Int) by omega, xor_u32 h b.toNat hh (by omega), ei, w64 i (by omega)]
theorem hash_ev (s : ByteArray) (hs : s.size ≤ 4611686018427387904) (seed : Nat) (h : seed ≤ 1000000000) :
    Ev (fun k => spec_HashOf.f k s (seed : Int)) ((hashN s seed : Nat) : Int) ∧ Ev (fun k => impl_HashOf.f k s (seed : Int)) ((hashN s seed : Nat) : Int) := by
  obtain ⟨h1, h2⟩ := hash_loop s hs s.size 0 (2166136261 + seed) (by omega) (by omega)
  constructor
  · refine Ev.congr (f := fun k => spec_HashOf.j0 k s (seed : Int)) (fun k => ?_) (Ev.step (f := fun k => spec_HashOf.j1 k s (seed : Int)) (fun k => ?_) (Ev.step (fun k => ?_) h1))
    · unfold spec_HashOf.f
      rw [if_neg (by omega)]
    · simp only [spec_HashOf.j0]
      rw [if_neg (by omega)]
    · simp only [spec_HashOf.j1]
      have : Int.tmod (wrap64 (2166136261 + (seed : Int))) 4294967296 = ((2166136261 + seed : Nat) : Int) := by
        have : wrap64 (2166136261 + (seed : Int)) = 2166136261 + (seed : Int) := by unfold wrap64; omega
        rw [this, Int.tmod_eq_emod_of_nonneg (by omega)]; omega
      rw [this]
      rfl
  · refine Ev.congr (fun k => ?_) h2
    unfold impl_HashOf.f
    have : mx 0 (mn (seed : Int) 1000000000) = (seed : Int) := by unfold mx mn; split <;> split <;> omega
    rw [this]
    rfl
/-! ### Doors -/
theorem and_i64 (a b : Nat) (ha : a < 9223372036854775808) (hb : b < 9223372036854775808) : Go.bits .and .i64 (a : Int) (b : Int) = ((a &&& b : Nat) : Int) :=
  (bits_nat .i64 63 (by decide) (fun n h0 h1 => by rw [IntKind.wrap_i64]; omega) a b ha hb).1
theorem or_i64 (a b : Nat) (ha : a < 9223372036854775808) (hb : b < 9223372036854775808) : Go.bits .or .i64 (a : Int) (b : Int) = ((a ||| b : Nat) : Int) :=
  (bits_nat .i64 63 (by decide) (fun n h0 h1 => by rw [IntKind.wrap_i64]; omega) a b ha hb).2
/-- The bit of a key by a seed. -/
def bitN (s : ByteArray) (seed : Nat) : Nat := hashN s seed % 32
theorem bitN_lt (s : ByteArray) (seed : Nat) : bitN s seed < 32 := Nat.mod_lt _ (by omega)
theorem pow_small (m : Nat) (h : m < 32) : 2 ^ m ≤ 2147483648 := by
  have := Nat.pow_le_pow_right (n := 2) (by omega) (show m ≤ 31 by omega)
  simpa using this
theorem bit_loop (s : ByteArray) (hs : s.size ≤ 4611686018427387904) (seed : Nat) (h : seed ≤ 1000000000) (d : Nat) : ∀ (i : Nat), i + d = bitN s seed →
    Ev (fun k => spec_l06Bit.l0 k s (seed : Int) ((2 ^ i : Nat) : Int) (i : Int)) ((2 ^ bitN s seed : Nat) : Int) := by
  have hh := (hash_ev s hs seed h).1
  have hm := bitN_lt s seed
  have et : Int.tmod ((hashN s seed : Nat) : Int) 32 = ((bitN s seed : Nat) : Int) := by
    rw [Int.tmod_eq_emod_of_nonneg (by omega)]; unfold bitN; omega
  induction d with
  | zero =>
    intro i hd
    refine Ev.step (f := fun k => (spec_HashOf.f k s (seed : Int)).bind fun t105 => (if (i : Int) < (Int.tmod t105 32) then (spec_l06Bit.l0 k s (seed : Int) (wrap64 (2 * ((2 ^ i : Nat) : Int))) (wrap64 ((i : Int) + 1))) else (some ((2 ^ i : Nat) : Int)))) (fun k => ?_) (Ev.bind hh ?_)
    · simp only [spec_l06Bit.l0]
    · simp only [et, if_neg (show ¬ ((i : Int) < ((bitN s seed : Nat) : Int)) by omega)]
      rw [show bitN s seed = i by omega]
      exact Ev.now _
  | succ d ih =>
    intro i hd
    have hp := pow_small i (by omega)
    have ep : wrap64 (2 * ((2 ^ i : Nat) : Int)) = ((2 ^ (i + 1) : Nat) : Int) := by
      rw [Nat.pow_succ]
      generalize 2 ^ i = q at *
      unfold wrap64; omega
    refine Ev.step (f := fun k => (spec_HashOf.f k s (seed : Int)).bind fun t105 => (if (i : Int) < (Int.tmod t105 32) then (spec_l06Bit.l0 k s (seed : Int) (wrap64 (2 * ((2 ^ i : Nat) : Int))) (wrap64 ((i : Int) + 1))) else (some ((2 ^ i : Nat) : Int)))) (fun k => ?_) (Ev.bind hh ?_)
    · simp only [spec_l06Bit.l0]
    · simp only [et, if_pos (show ((i : Int) < ((bitN s seed : Nat) : Int)) by omega), ep, w64 i (by omega)]
      exact ih (i + 1) (by omega)
theorem bit_ev (s : ByteArray) (hs : s.size ≤ 4611686018427387904) (seed : Nat) (h : seed ≤ 1000000000) : Ev (fun k => spec_l06Bit.f k s (seed : Int)) ((2 ^ bitN s seed : Nat) : Int) :=
  bit_loop s hs seed h (bitN s seed) 0 (by omega)
theorem has_some (D m : Nat) (hD : D < 4294967296) (hm : m < 32) : spec_l06Has.f (D : Int) ((2 ^ m : Nat) : Int) = some (D.testBit m) := by
  have hp0 : 0 < 2 ^ m := Nat.two_pow_pos m
  unfold spec_l06Has.f
  rw [if_neg (by omega), Int.tdiv_eq_ediv_of_nonneg (by omega)]
  have e : ((D : Int) / ((2 ^ m : Nat) : Int)) = ((D / 2 ^ m : Nat) : Int) := by rw [Int.natCast_ediv]
  have hle : D / 2 ^ m ≤ D := Nat.div_le_self _ _
  have ew : wrap64 ((D : Int) / ((2 ^ m : Nat) : Int)) = ((D / 2 ^ m : Nat) : Int) := by
    rw [e]
    generalize D / 2 ^ m = q at *
    unfold wrap64; omega
  rw [ew, Int.tmod_eq_emod_of_nonneg (Int.natCast_nonneg _), Nat.testBit_eq_decide_div_mod_eq]
  congr 1
  generalize D / 2 ^ m = q
  by_cases c : q % 2 = 1
  · rw [decide_eq_true c]; simp; omega
  · rw [decide_eq_false c]; simp; omega
/-- Both bits of a key. -/
def bitsN (s : ByteArray) : Nat := 2 ^ bitN s 7 ||| 2 ^ bitN s 8
theorem bitsN_lt (s : ByteArray) : bitsN s < 4294967296 :=
  Nat.or_lt_two_pow (n := 32) (by have := pow_small _ (bitN_lt s 7); omega) (by have := pow_small _ (bitN_lt s 8); omega)
theorem shl_one (m : Nat) (h : m < 32) : shl .i64 1 (m : Int) = ((2 ^ m : Nat) : Int) := by
  unfold shl
  have e : min ((m : Int).toNat) (IntKind.bits .i64) = m := by simp [IntKind.bits]; omega
  have hp := pow_small m h
  rw [e, IntKind.wrap_i64, Int.one_mul]
  have : ((2 : Int) ^ m) = ((2 ^ m : Nat) : Int) := by simp
  rw [this]
  generalize 2 ^ m = q at *
  omega
theorem bits_ev (s : ByteArray) (hs : s.size ≤ 4611686018427387904) : Ev (fun k => impl_bitsOf.f k s) ((bitsN s : Nat) : Int) := by
  have h7 := (hash_ev s hs 7 (by omega)).2
  have h8 := (hash_ev s hs 8 (by omega)).2
  have e7 : IntKind.u64.wrap (Int.tmod ((hashN s 7 : Nat) : Int) 32) = ((bitN s 7 : Nat) : Int) := by
    rw [Int.tmod_eq_emod_of_nonneg (by omega)]; unfold bitN; simp [IntKind.wrap, IntKind.bits, IntKind.signed]; omega
  have e8 : IntKind.u64.wrap (Int.tmod ((hashN s 8 : Nat) : Int) 32) = ((bitN s 8 : Nat) : Int) := by
    rw [Int.tmod_eq_emod_of_nonneg (by omega)]; unfold bitN; simp [IntKind.wrap, IntKind.bits, IntKind.signed]; omega
  unfold impl_bitsOf.f
  refine Ev.bind h7 (Ev.bind h8 ?_)
  have p7 := pow_small _ (bitN_lt s 7)
  have p8 := pow_small _ (bitN_lt s 8)
  simp only [e7, e8, if_pos (show (0 : Int) ≤ ((bitN s 7 : Nat) : Int) by omega), if_pos (show (0 : Int) ≤ ((bitN s 8 : Nat) : Int) by omega), shl_one _ (bitN_lt s 7), shl_one _ (bitN_lt s 8)]
  rw [or_i64 _ _ (by omega) (by omega)]
  exact Ev.now _
theorem okI (D : Int) : impl_DoorOk.f D = some (decide (0 ≤ D ∧ D < 4294967296)) := by
  unfold impl_DoorOk.f impl_inRange.f
  by_cases c : D ≥ 0
  · rw [if_pos c]; simp only [Option.bind_some]; congr 1; rw [Bool.eq_iff_iff]; simp; omega
  · rw [if_neg c]; simp only [Option.bind_some]; congr 1; rw [Bool.eq_iff_iff]; simp; omega
theorem okS (D : Int) : spec_DoorOk.f D = some (decide (0 ≤ D ∧ D < 4294967296)) := okI D
/-- Both bits are set. -/
def seenN (D : Nat) (s : ByteArray) : Bool := D.testBit (bitN s 7) && D.testBit (bitN s 8)
theorem seen_bits (D : Nat) (s : ByteArray) : (D &&& bitsN s = bitsN s) ↔ seenN D s = true := by
  unfold seenN bitsN
  rw [Bool.and_eq_true]
  constructor
  · intro h
    have g : ∀ i, (D.testBit i && ((2 ^ bitN s 7).testBit i || (2 ^ bitN s 8).testBit i)) = ((2 ^ bitN s 7).testBit i || (2 ^ bitN s 8).testBit i) := by
      intro i
      have := congrArg (fun x => Nat.testBit x i) h
      simpa [Nat.testBit_and, Nat.testBit_or] using this
    constructor
    · have := g (bitN s 7); simpa [Nat.testBit_two_pow] using this
    · have := g (bitN s 8); simpa [Nat.testBit_two_pow] using this
  · rintro ⟨h7, h8⟩
    apply Nat.eq_of_testBit_eq
    intro i
    rw [Nat.testBit_and, Nat.testBit_or, Nat.testBit_two_pow, Nat.testBit_two_pow]
    by_cases c7 : bitN s 7 = i
    · subst c7; simp [h7]
    · by_cases c8 : bitN s 8 = i
      · subst c8; simp [h8]
      · simp [c7, c8]
theorem seenI_ev (D : Int) (s : ByteArray) (hs : s.size ≤ 4611686018427387904) : Ev (fun k => impl_SeenKey.f k D s) (decide (0 ≤ D ∧ D < 4294967296) && seenN D.toNat s) := by
  unfold impl_SeenKey.f
  refine Ev.bind (bits_ev s hs) ?_
  simp only [okI, Option.bind_some]
  by_cases c : 0 ≤ D ∧ D < 4294967296
  · simp only [decide_eq_true c, if_true, Bool.true_and]
    obtain ⟨n, rfl⟩ := Int.eq_ofNat_of_zero_le c.1
    have hb := bitsN_lt s
    rw [and_i64 n (bitsN s) (by omega) (by omega), Int.toNat_natCast]
    have e : ((((n &&& bitsN s : Nat) : Int)) == ((bitsN s : Nat) : Int)) = seenN n s := by
      rw [Bool.eq_iff_iff, ← seen_bits, beq_iff_eq]
      omega
    rw [e]
    exact Ev.now _
  · simp only [decide_eq_false c, Bool.false_and, if_neg (show ¬ (false = true) by decide)]
    exact Ev.now _
theorem or_bit (D m : Nat) (hD : D < 4294967296) (hm : m < 32) : D ||| 2 ^ m = if D.testBit m then D else D + 2 ^ m := by
  have hp := pow_small m hm
  by_cases c : D.testBit m = true
  · rw [if_pos c]
    apply Nat.eq_of_testBit_eq
    intro i
    rw [Nat.testBit_or, Nat.testBit_two_pow]
    by_cases e : m = i
    · subst e; simp [c]
    · simp [e]
  · rw [if_neg c]
    have c' : D.testBit m = false := by simpa using c
    have h0 : D &&& 2 ^ m = 0 := by
      apply Nat.eq_of_testBit_eq
      intro i
      rw [Nat.testBit_and, Nat.testBit_two_pow, Nat.zero_testBit]
      by_cases e : m = i
      · subst e; simp [c']
      · simp [e]
    have hz : BitVec.ofNat 33 D &&& BitVec.ofNat 33 (2 ^ m) = 0#33 := by
      apply BitVec.eq_of_toNat_eq
      rw [BitVec.toNat_and, BitVec.toNat_ofNat, BitVec.toNat_ofNat, Nat.mod_eq_of_lt (by omega), Nat.mod_eq_of_lt (by omega), h0]
      rfl
    have h := congrArg BitVec.toNat (BitVec.add_eq_or_of_and_eq_zero _ _ hz)
    rw [BitVec.toNat_add, BitVec.toNat_or, BitVec.toNat_ofNat, BitVec.toNat_ofNat, Nat.mod_eq_of_lt (show D < 2 ^ 33 by omega), Nat.mod_eq_of_lt (show 2 ^ m < 2 ^ 33 by omega), Nat.mod_eq_of_lt (by omega)] at h
    exact h.symm
theorem or_lt (D b : Nat) (hD : D < 4294967296) (hb : b < 4294967296) : D ||| b < 4294967296 := Nat.or_lt_two_pow (n := 32) hD hb
theorem markI_ev (D : Nat) (s : ByteArray) (hD : D < 4294967296) (hs : s.size ≤ 4611686018427387904) : Ev (fun k => impl_MarkKey.f k (D : Int) s) ((D ||| bitsN s : Nat) : Int) := by
  have hb := bitsN_lt s
  unfold impl_MarkKey.f
  simp only [okI, Option.bind_some, decide_eq_true (show 0 ≤ (D : Int) ∧ (D : Int) < 4294967296 by omega), if_true]
  refine Ev.bind (bits_ev s hs) ?_
  rw [or_i64 D (bitsN s) (by omega) (by omega)]
  exact Ev.now _
theorem markI_no (D : Int) (s : ByteArray) (hD : ¬ (0 ≤ D ∧ D < 4294967296)) : Ev (fun k => impl_MarkKey.f k D s) D := by
  unfold impl_MarkKey.f
  simp only [okI, Option.bind_some, decide_eq_false hD, if_neg (show ¬ (false = true) by decide)]
  exact Ev.now _
theorem markS_no (D : Int) (s : ByteArray) (hD : ¬ (0 ≤ D ∧ D < 4294967296)) : Ev (fun k => spec_MarkKey.f k D s) D := by
  unfold spec_MarkKey.f
  simp only [okS, Option.bind_some, decide_eq_false hD, if_neg (show ¬ (false = true) by decide)]
  exact Ev.now _
theorem markS_step (D seed : Nat) (s : ByteArray) (r : Int) (hD : D < 4294967296) (hs : s.size ≤ 4611686018427387904) (h7 : seed ≤ 8)
    (h : Ev (fun k => spec_MarkKey.l0 k s ((seed + 1 : Nat) : Int) ((D ||| 2 ^ bitN s seed : Nat) : Int)) r) : Ev (fun k => spec_MarkKey.l0 k s (seed : Int) (D : Int)) r := by
  have hm := bitN_lt s seed
  have hp := pow_small _ hm
  refine Ev.step (f := fun k => (spec_l06Bit.f k s (seed : Int)).bind fun t112 => ((spec_l06Has.f (D : Int) t112).bind fun t113 => (if t113 = true then (spec_MarkKey.l0 k s (wrap64 ((seed : Int) + 1)) (D : Int)) else (spec_MarkKey.l0 k s (wrap64 ((seed : Int) + 1)) (wrap64 ((D : Int) + t112)))))) (fun k => ?_) (Ev.bind (bit_ev s hs seed (by omega)) ?_)
  · simp only [spec_MarkKey.l0]
    rw [if_pos (by omega)]
  · simp only [has_some D _ hD hm, Option.bind_some, w64 seed (by omega)]
    rw [or_bit D _ hD hm] at h
    by_cases c : D.testBit (bitN s seed) = true
    · simp only [c, if_true] at h ⊢
      exact h
    · have c' : D.testBit (bitN s seed) = false := by simpa using c
      simp only [c', if_neg (show ¬ (false = true) by decide)] at h ⊢
      have ew : wrap64 ((D : Int) + ((2 ^ bitN s seed : Nat) : Int)) = ((D + 2 ^ bitN s seed : Nat) : Int) := by
        generalize 2 ^ bitN s seed = q at *
        unfold wrap64; omega
      rw [ew]
      exact h
theorem markS_ev (D : Nat) (s : ByteArray) (hD : D < 4294967296) (hs : s.size ≤ 4611686018427387904) : Ev (fun k => spec_MarkKey.f k (D : Int) s) ((D ||| bitsN s : Nat) : Int) := by
  have p7 := pow_small _ (bitN_lt s 7)
  have h1 := or_lt D (2 ^ bitN s 7) hD (by omega)
  unfold spec_MarkKey.f
  simp only [okS, Option.bind_some, decide_eq_true (show 0 ≤ (D : Int) ∧ (D : Int) < 4294967296 by omega), if_true]
  refine markS_step D 7 s _ hD hs (by omega) (markS_step _ 8 s _ h1 hs (by omega) ?_)
  refine Ev.step (f := fun _ => some ((D ||| bitsN s : Nat) : Int)) (fun k => ?_) (Ev.now _)
  simp only [spec_MarkKey.l0]
  rw [if_neg (by omega)]
  unfold bitsN
  rw [Nat.or_assoc]

theorem rdS_at (x : List ByteArray) (i : Nat) (h : i < x.length) : rdOf ByteArray.empty x (i : Int) = x[i] := by
  unfold rdOf
  rw [List.getD_eq_getElem?_getD, Int.toNat_natCast, List.getElem?_eq_getElem h]
  rfl
/-- All bits of the key are set. -/
def Covers (D : Nat) (s : ByteArray) : Prop := D ||| bitsN s = D
theorem covers_seen {D : Nat} {s : ByteArray} (h : Covers D s) : seenN D s = true := by
  rw [← seen_bits]
  unfold Covers at h
  apply Nat.eq_of_testBit_eq
  intro i
  have := congrArg (fun x => Nat.testBit x i) h
  simp only [Nat.testBit_or] at this
  rw [Nat.testBit_and]
  cases hd : D.testBit i <;> cases hb : (bitsN s).testBit i <;> simp [hd, hb] at this ⊢
theorem covers_more {D : Nat} {s : ByteArray} (h : Covers D s) (b : Nat) : Covers (D ||| b) s := by
  unfold Covers at *
  rw [Nat.or_assoc, Nat.or_comm b, ← Nat.or_assoc, h]
theorem covers_mark (D : Nat) (s : ByteArray) : Covers (D ||| bitsN s) s := by
  unfold Covers
  rw [Nat.or_assoc, Nat.or_self]
theorem doors_two (l : List ByteArray) (hl : l.length ≤ 29) (hm : ∀ s ∈ l, s ∈ nameList) (D : Nat) (hD : D < 4294967296) (hc : ∀ s ∈ l, Covers D s) (d : Nat) : ∀ (i : Nat), l.length = i + d →
    Ev (fun k => laws_FnDoors.l1 k l (i : Int) (D : Int)) true := by
  induction d with
  | zero =>
    intro i hd
    have hs : Ev (fun k => impl_SeenKey.f k ((0 : Nat) : Int) (⟨#[97]⟩ : ByteArray)) false := by
      have h := seenI_ev ((0 : Nat) : Int) (⟨#[97]⟩ : ByteArray) (by decide)
      simpa [seenN] using h
    have h1 := markI_ev 0 (⟨#[97]⟩ : ByteArray) (by omega) (by decide)
    have h2 := markS_ev 0 (⟨#[97]⟩ : ByteArray) (by omega) (by decide)
    refine Ev.step (f := fun k => (impl_SeenKey.f k ((0 : Nat) : Int) (⟨#[97]⟩ : ByteArray)).bind fun t177 => (if t177 = true then (some false) else ((impl_MarkKey.f k ((0 : Nat) : Int) (⟨#[97]⟩ : ByteArray)).bind fun t178 => ((spec_MarkKey.f k ((0 : Nat) : Int) (⟨#[97]⟩ : ByteArray)).bind fun t179 => (some (t178 == t179)))))) (fun k => ?_) (Ev.bind hs ?_)
    · simp only [laws_FnDoors.l1]
      rw [if_neg (by omega)]
      rfl
    · simp only [if_neg (show ¬ (false = true) by decide)]
      refine Ev.bind h1 (Ev.bind h2 ?_)
      simp only [BEq.rfl]
      exact Ev.now true
  | succ d ih =>
    intro i hd
    have hi : i < l.length := by omega
    have hn := (name_size _ (hm _ (List.getElem_mem hi))).2
    have hcv := hc _ (List.getElem_mem hi)
    have hs : Ev (fun k => impl_SeenKey.f k (D : Int) l[i]) true := by
      have h := seenI_ev (D : Int) l[i] (by omega)
      rw [Int.toNat_natCast, covers_seen hcv, decide_eq_true (by omega)] at h
      exact h
    have hk := markI_ev D l[i] hD (by omega)
    rw [show D ||| bitsN l[i] = D from hcv] at hk
    refine Ev.step (f := fun k => (impl_SeenKey.f k (D : Int) l[i]).bind fun t181 => (if t181 = true then ((impl_MarkKey.f k (D : Int) l[i]).bind fun t183 => (if (!(t183 == (D : Int))) = true then (some false) else (laws_FnDoors.l1 k l (wrap64 ((i : Int) + 1)) (D : Int)))) else (some false))) (fun k => ?_) (Ev.bind hs ?_)
    · simp only [laws_FnDoors.l1, rdS_at l i hi]
      rw [if_pos (by omega), if_pos (by omega)]
    · simp only [if_true]
      refine Ev.bind hk ?_
      simp only [BEq.rfl, Bool.not_true, if_neg (show ¬ (false = true) by decide), w64 i (by omega)]
      exact ih (i + 1) (by omega)
theorem doors_one (l : List ByteArray) (hl : l.length ≤ 29) (hm : ∀ s ∈ l, s ∈ nameList) (d : Nat) : ∀ (i D : Nat), D < 4294967296 → (∀ s ∈ l.take i, Covers D s) → l.length = i + d →
    Ev (fun k => laws_FnDoors.l0 k l (i : Int) (D : Int)) true := by
  induction d with
  | zero =>
    intro i D hD hc hd
    rw [List.take_of_length_le (by omega)] at hc
    refine Ev.step (fun k => ?_) (doors_two l hl hm D hD hc l.length 0 (by omega))
    simp only [laws_FnDoors.l0]
    rw [if_neg (by omega)]
    rfl
  | succ d ih =>
    intro i D hD hc hd
    have hi : i < l.length := by omega
    have hn := (name_size _ (hm _ (List.getElem_mem hi))).2
    have hD2 := or_lt D (bitsN l[i]) hD (bitsN_lt _)
    have hcv := covers_mark D l[i]
    have hk := markI_ev D l[i] hD (by omega)
    have hs : Ev (fun k => impl_SeenKey.f k ((D ||| bitsN l[i] : Nat) : Int) l[i]) true := by
      have h := seenI_ev ((D ||| bitsN l[i] : Nat) : Int) l[i] (by omega)
      rw [Int.toNat_natCast, covers_seen hcv, decide_eq_true (by omega)] at h
      exact h
    refine Ev.step (f := fun k => (impl_MarkKey.f k (D : Int) l[i]).bind fun t173 => ((impl_SeenKey.f k t173 l[i]).bind fun t175 => (if t175 = true then ((impl_DoorOk.f t173).bind fun t176 => (if t176 = true then (laws_FnDoors.l0 k l (wrap64 ((i : Int) + 1)) t173) else (some false))) else (some false)))) (fun k => ?_) (Ev.bind hk (Ev.bind hs ?_))
    · simp only [laws_FnDoors.l0, rdS_at l i hi]
      rw [if_pos (by omega), if_pos (by omega)]
    · simp only [if_true, okI, Option.bind_some, decide_eq_true (show 0 ≤ ((D ||| bitsN l[i] : Nat) : Int) ∧ ((D ||| bitsN l[i] : Nat) : Int) < 4294967296 by omega), w64 i (by omega)]
      refine ih (i + 1) _ hD2 (fun s hs => ?_) (by omega)
      rw [take_next l i hi] at hs
      rcases List.mem_append.1 hs with h' | h'
      · exact covers_more (hc s h') _
      · rw [List.mem_singleton.1 h']; exact hcv

theorem FnDoors : laws_FnDoors.Pure := by
  intro b _ hb' _
  have hb : b.length ≤ 140737488351232 := by omega
  apply Ev.rounds (r := true) (g := fun k => laws_FnDoors.f k b)
  unfold laws_FnDoors.f laws_big.f
  simp only [Option.bind_some]
  by_cases hbig : (b.length : Int) > 1048576
  · simp only [decide_eq_true hbig, if_true]
    exact Ev.now true
  · simp only [decide_eq_false hbig, if_neg (show ¬ (false = true) by decide)]
    obtain ⟨l, e1, hl, hm⟩ := drawWords_ev b hb
    refine Ev.bind e1 ?_
    exact doors_one l hl hm l.length 0 0 (by omega) (fun s hs => by simp at hs) (by omega)

end Go.Proofs.Ytocgakpicmcemaa.Pure
