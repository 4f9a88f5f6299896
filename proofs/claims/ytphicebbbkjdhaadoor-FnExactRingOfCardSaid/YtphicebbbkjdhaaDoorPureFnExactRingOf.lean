/- The program's RingOf answers as the reference's: proved in plain Lean over the functions that the walks tell. -/
import Derived.Test.YtphicebbbkjdhaaDoorGFnExactRingOfx7
namespace Go.Proofs.YtphicebbbkjdhaaDoor.Pure
open Go.RowKit Go.Proofs.YtphicebbbkjdhaaDoor.GFnExactRingOf Go.Proofs.YtphicebbbkjdhaaDoorW.PrintWords Go.Proofs.YtphicebbbkjdhaaDoorW.PrintLast Go.Proofs.YtphicebbbkjdhaaDoorW.PrintMore
set_option linter.unusedVariables false
set_option linter.unusedSimpArgs false

/-! ### The reference's hash -/
theorem xor_odd (c d : Nat) : (c ^^^ d) % 2 = if c % 2 = d % 2 then 0 else 1 := by
  have h := @Nat.xor_mod_two_eq_one c d
  by_cases e : c % 2 = d % 2
  · rw [if_pos e]; omega
  · rw [if_neg e]; omega
theorem xor_loop (a b : Nat) (ha : a < 4294967296) (hb : b < 4294967296) (d : Nat) : ∀ (i : Nat), i + d = 32 →
    Ev (fun k => spec_l04Xor.l0 k ((a / 2 ^ i : Nat) : Int) ((b / 2 ^ i : Nat) : Int) (((a ^^^ b) % 2 ^ i : Nat) : Int) ((2 ^ i : Nat) : Int) (i : Int)) ((a ^^^ b : Nat) : Int) := by
  have hx := Nat.xor_lt_two_pow (n := 32) ha hb
  induction d with
  | zero =>
    intro i hd
    obtain rfl : i = 32 := by omega
    refine Ev.step (f := fun _ => some ((a ^^^ b : Nat) : Int)) (fun k => ?_) (Ev.now _)
    simp only [spec_l04Xor.l0]
    rw [if_neg (by omega), Nat.mod_eq_of_lt hx]
  | succ d ih =>
    intro i hd
    have hp : 2 ^ i ≤ 2147483648 := by
      have := Nat.pow_le_pow_right (n := 2) (by omega) (show i ≤ 31 by omega)
      simpa using this
    have hp0 : 0 < 2 ^ i := Nat.two_pow_pos i
    have ea : wrap64 (Int.tdiv ((a / 2 ^ i : Nat) : Int) 2) = ((a / 2 ^ (i + 1) : Nat) : Int) := by
      rw [Int.tdiv_eq_ediv_of_nonneg (Int.natCast_nonneg _), Nat.pow_succ, ← Nat.div_div_eq_div_mul]
      have : a / 2 ^ i ≤ a := Nat.div_le_self _ _
      generalize a / 2 ^ i = q at *
      unfold wrap64; omega
    have eb : wrap64 (Int.tdiv ((b / 2 ^ i : Nat) : Int) 2) = ((b / 2 ^ (i + 1) : Nat) : Int) := by
      rw [Int.tdiv_eq_ediv_of_nonneg (Int.natCast_nonneg _), Nat.pow_succ, ← Nat.div_div_eq_div_mul]
      have : b / 2 ^ i ≤ b := Nat.div_le_self _ _
      generalize b / 2 ^ i = q at *
      unfold wrap64; omega
    have ep : wrap64 (2 * ((2 ^ i : Nat) : Int)) = ((2 ^ (i + 1) : Nat) : Int) := by
      rw [Nat.pow_succ]
      generalize 2 ^ i = q at *
      unfold wrap64; omega
    have hs : (a ^^^ b) % 2 ^ (i + 1) = (a ^^^ b) % 2 ^ i + 2 ^ i * ((a / 2 ^ i ^^^ b / 2 ^ i) % 2) := by
      rw [Nat.mod_pow_succ, Nat.xor_div_two_pow]
    have hl : (a ^^^ b) % 2 ^ i < 2 ^ i := Nat.mod_lt _ hp0
    refine Ev.step (fun k => ?_) (ih (i + 1) (by omega))
    simp only [spec_l04Xor.l0]
    rw [if_pos (by omega), ea, eb, ep, w64 i (by omega), Int.tmod_eq_emod_of_nonneg (Int.natCast_nonneg _), Int.tmod_eq_emod_of_nonneg (Int.natCast_nonneg _)]
    rw [xor_odd] at hs
    by_cases c : a / 2 ^ i % 2 = b / 2 ^ i % 2
    · rw [if_pos (by omega)]
      rw [if_pos c, Nat.mul_zero] at hs
      have hs2 : (a ^^^ b) % 2 ^ (i + 1) = (a ^^^ b) % 2 ^ i := hs.trans (Nat.add_zero _)
      rw [hs2]
    · rw [if_neg (by omega)]
      rw [if_neg c, Nat.mul_one] at hs
      have ew : wrap64 ((((a ^^^ b) % 2 ^ i : Nat) : Int) + ((2 ^ i : Nat) : Int)) = (((a ^^^ b) % 2 ^ (i + 1) : Nat) : Int) := by
        rw [hs]
        generalize (a ^^^ b) % 2 ^ i = q at *
        generalize 2 ^ i = p at *
        unfold wrap64; omega
      rw [ew]
theorem xor_ev (a b : Nat) (ha : a < 4294967296) (hb : b < 4294967296) : Ev (fun k => spec_l04Xor.f k (a : Int) (b : Int)) ((a ^^^ b : Nat) : Int) := by
  have h := xor_loop a b ha hb 32 0 rfl
  refine Ev.congr (fun k => ?_) h
  unfold spec_l04Xor.f
  simp [Nat.mod_one]
/-- The bytes of a text behind place i. -/
theorem hash_loop (s : ByteArray) (hs : s.size ≤ 4611686018427387904) (d : Nat) : ∀ (i h : Nat), h < 4294967296 → s.size = i + d →
    Ev (fun k => spec_HashOf.l0 k s (h : Int) (i : Int)) ((hlast ((tailOf s i).foldl hstep h) : Nat) : Int) ∧ Ev (fun k => impl_HashOf.l0 k s (h : Int) (i : Int)) ((hlast ((tailOf s i).foldl hstep h) : Nat) : Int) := by
  induction d with
  | zero =>
    intro i h hh hd
    have e : tailOf s i = [] := by unfold tailOf; exact List.drop_eq_nil_of_le (by simp; omega)
    have ed : wrap64 (Int.tdiv (h : Int) 65536) = ((h / 65536 : Nat) : Int) := by
      rw [Int.tdiv_eq_ediv_of_nonneg (by omega)]; unfold wrap64; omega
    have hl := hlast_lt h hh
    have hx := xor_ev h (h / 65536) hh (by omega)
    rw [e]
    refine ⟨Ev.step (f := fun k => (spec_l04Xor.f k (h : Int) ((h / 65536 : Nat) : Int)).bind fun t104 => (some t104)) (fun k => ?_) (Ev.bind hx (Ev.now _)), Ev.step (f := fun _ => some ((hlast h : Nat) : Int)) (fun k => ?_) (Ev.now _)⟩
    · simp only [spec_HashOf.l0]
      rw [if_neg (by omega), ed]
    · simp only [impl_HashOf.l0]
      rw [if_neg (by omega), show (h : Int) / 65536 = ((h / 65536 : Nat) : Int) by omega, xor_u32 h (h / 65536) hh (by omega)]
      show some (wrap64 ((hlast h : Nat) : Int)) = _
      congr 1
      unfold wrap64; omega
  | succ d ih =>
    intro i h hh hd
    obtain ⟨b, e, eb⟩ := tailOf_next s i (by omega)
    have hb : b.toNat < 256 := b.toNat_lt
    have hx := xor_ev h b.toNat hh (by omega)
    have hxl := Nat.xor_lt_two_pow (n := 32) hh (show b.toNat < 2 ^ 32 by omega)
    obtain ⟨h1, h2⟩ := ih (i + 1) (hstep h b) (hstep_lt h b) (by omega)
    rw [e, List.foldl_cons]
    have es : Int.tmod (wrap64 (((h ^^^ b.toNat : Nat) : Int) * 16777619)) 4294967296 = ((hstep h b : Nat) : Int) := by
      unfold hstep
      have : wrap64 (((h ^^^ b.toNat : Nat) : Int) * 16777619) = ((h ^^^ b.toNat : Nat) : Int) * 16777619 := by unfold wrap64; omega
      rw [this, Int.tmod_eq_emod_of_nonneg (by omega)]
      omega
    have ei : (((h ^^^ b.toNat : Nat) : Int) * 16777619) % 4294967296 = ((hstep h b : Nat) : Int) := by
      unfold hstep; omega
    refine ⟨Ev.step (f := fun k => (spec_l04Xor.f k (h : Int) (b.toNat : Int)).bind fun t103 => (spec_HashOf.l0 k s (Int.tmod (wrap64 (t103 * 16777619)) 4294967296) (wrap64 ((i : Int) + 1)))) (fun k => ?_) (Ev.bind hx ?_), Ev.step (fun k => ?_) h2⟩
    · simp only [spec_HashOf.l0]
      rw [if_pos (by omega), if_pos (by omega), eb, show wrap64 ((b.toNat : Nat) : Int) = (b.toNat : Int) by unfold wrap64; omega]
    · simp only [es, w64 i (by omega)]
      exact h1
    · simp only [impl_HashOf.l0]
      rw [if_pos (by omega), if_pos (by omega), eb, show ((b.toNat : Nat) : Int) % 4294967296 = (b.toNat : Int) by omega, xor_u32 h b.toNat hh (by omega), ei, w64 i (by omega)]
theorem hash_ev (s : ByteArray) (hs : s.size ≤ 4611686018427387904) (seed : Nat) (h : seed ≤ 1000000000) :
    Ev (fun k => spec_HashOf.f k s (seed : Int)) ((hashN s seed : Nat) : Int) ∧ Ev (fun k => impl_HashOf.f k s (seed : Int)) ((hashN s seed : Nat) : Int) := by
  obtain ⟨h1, h2⟩ := hash_loop s hs s.size 0 (2166136261 + seed) (by omega) (by omega)
  constructor
  · refine Ev.congr (f := fun k => spec_HashOf.j0 k s (seed : Int)) (fun k => ?_) (Ev.step (f := fun k => spec_HashOf.j1 k s (seed : Int)) (fun k => ?_) (Ev.step (fun k => ?_) h1))
    · unfold spec_HashOf.f
      rw [if_neg (by omega)]
    · simp only [spec_HashOf.j0]
      rw [if_neg (by omega)]
    · simp only [spec_HashOf.j1]
      have : Int.tmod (wrap64 (2166136261 + (seed : Int))) 4294967296 = ((2166136261 + seed : Nat) : Int) := by
        have : wrap64 (2166136261 + (seed : Int)) = 2166136261 + (seed : Int) := by unfold wrap64; omega
        rw [this, Int.tmod_eq_emod_of_nonneg (by omega)]; omega
      rw [this]
      rfl
  · refine Ev.congr (fun k => ?_) h2
    unfold impl_HashOf.f
    have : mx 0 (mn (seed : Int) 1000000000) = (seed : Int) := by unfold mx mn; split <;> split <;> omega
    rw [this]
    rfl
theorem rdT63_at (x : List S63) (i : Nat) (h : i < x.length) : rd_T63 x (i : Int) = x[i] := by
  unfold rd_T63
  rw [List.getD_eq_getElem?_getD, Int.toNat_natCast, List.getElem?_eq_getElem h]
  rfl
theorem eqSpot_some (s : S63) : laws_eqSpot.f s.f0 s.f1 s.f0 s.f1 = some true := by
  unfold laws_eqSpot.f
  simp
theorem eqSpotS_loop (l : List S63) (hl : l.length ≤ 1048576) (d : Nat) : ∀ (i : Nat), l.length = i + d → Ev (fun k => laws_eqSpotS.l0 k l l (i : Int)) true := by
  induction d with
  | zero =>
    intro i hd
    refine Ev.step (f := fun _ => some true) (fun k => ?_) (Ev.now _)
    simp only [laws_eqSpotS.l0]; rw [if_neg (by omega)]
  | succ d ih =>
    intro i hd
    refine Ev.step (f := fun k => laws_eqSpotS.l0 k l l ((i + 1 : Nat) : Int)) (fun k => ?_) (ih (i + 1) (by omega))
    simp only [laws_eqSpotS.l0]
    rw [if_pos (by omega), if_pos (by omega), if_pos (by omega), eqSpot_some, w64 i (by omega)]
    rfl
theorem eqSpotS_ev (l : List S63) (hl : l.length ≤ 1048576) : Ev (fun k => laws_eqSpotS.f k l l) true := by
  refine Ev.congr (f := fun k => laws_eqSpotS.l0 k l l ((0 : Nat) : Int)) (fun k => ?_) (eqSpotS_loop l hl l.length 0 (by omega))
  unfold laws_eqSpotS.f
  rw [if_pos rfl]
  rfl
theorem eqRing_ev (l : List S63) (hl : l.length ≤ 1048576) : Ev (fun k => laws_eqRing.f k l l) true := by
  unfold laws_eqRing.f
  refine Ev.bind (eqSpotS_ev l hl) ?_
  simp only [if_true]
  exact Ev.now _
/-! ### The reference's rings -/
theorem ascS_loop (l : List Int) (hl : l.length ≤ 1048576) (d : Nat) : ∀ (i : Nat), i + d = l.length → Ev (fun k => spec_l10Nodes.l0 k l (i : Int)) (okAsc (prevAt l i) (l.drop i)) := by
  induction d with
  | zero =>
    intro i hi
    rw [List.drop_eq_nil_of_le (by omega)]
    refine Ev.step (f := fun _ => some true) (fun k => ?_) (Ev.now _)
    simp only [spec_l10Nodes.l0]
    rw [if_neg (by omega)]
  | succ d ih =>
    intro i hi
    have h1 : i < l.length := by omega
    rw [List.drop_eq_getElem_cons h1, okAsc_cons]
    by_cases c : 1 ≤ l[i] ∧ l[i] ≤ 9
    · have hr : spec_l01In.f l[i] 1 9 = some true := by unfold spec_l01In.f; rw [if_pos (by omega), decide_eq_true (by omega)]
      rw [decide_eq_true c, Bool.true_and]
      rcases Nat.eq_zero_or_pos i with rfl | hp
      · have ih := ih 1 (by omega)
        rw [show okPrev (prevAt l 0) l[0] = true from rfl, Bool.true_and, ← prevAt_next l 0 h1]
        refine Ev.step (fun k => ?_) ih
        · simp only [spec_l10Nodes.l0]
          rw [if_pos (by omega), if_pos (by omega), rd_at l 0 h1, hr, Option.bind_some, if_pos rfl, if_neg (by omega), w64 0 (by omega)]
      · have e : wrap64 ((i : Int) - 1) = ((i - 1 : Nat) : Int) := by unfold wrap64; omega
        have hq : prevAt l i = some l[i - 1] := by unfold prevAt; rw [if_neg (by omega), List.getElem?_eq_getElem (by omega)]
        have ih := ih (i + 1) (by omega)
        rw [hq]
        by_cases g : l[i - 1] < l[i]
        · rw [show okPrev (some l[i - 1]) l[i] = true from decide_eq_true g, Bool.true_and, ← prevAt_next l i h1]
          refine Ev.step (fun k => ?_) ih
          simp only [spec_l10Nodes.l0]
          rw [if_pos (by omega), if_pos (by omega), rd_at l i h1, hr, Option.bind_some, if_pos rfl, if_pos (by omega), e, if_pos (by omega), if_pos (by omega), rd_at l (i - 1) (by omega), if_neg (by omega), w64 i (by omega)]
        · rw [show okPrev (some l[i - 1]) l[i] = false from decide_eq_false g, Bool.false_and]
          refine Ev.step (f := fun _ => some false) (fun k => ?_) (Ev.now _)
          simp only [spec_l10Nodes.l0]
          rw [if_pos (by omega), if_pos (by omega), rd_at l i h1, hr, Option.bind_some, if_pos rfl, if_pos (by omega), e, if_pos (by omega), if_pos (by omega), rd_at l (i - 1) (by omega), if_pos (by omega)]
    · have hr : spec_l01In.f l[i] 1 9 = some false := by
        unfold spec_l01In.f
        by_cases q : l[i] ≥ 1
        · rw [if_pos q, decide_eq_false (by omega)]
        · rw [if_neg q]
      rw [decide_eq_false c, Bool.false_and]
      refine Ev.step (f := fun _ => some false) (fun k => ?_) (Ev.now _)
      simp only [spec_l10Nodes.l0]
      rw [if_pos (by omega), if_pos (by omega), rd_at l i h1, hr, Option.bind_some, if_neg (by decide)]
theorem nodesOkS_ev (l : List Int) : Ev (fun k => spec_l10Nodes.f k l) (validN l) := by
  rw [validN_asc]
  unfold spec_l10Nodes.f
  by_cases h : 1 ≤ l.length ∧ l.length ≤ 6
  · have e : spec_l01In.f (l.length : Int) 1 6 = some true := by unfold spec_l01In.f; rw [if_pos (by omega), decide_eq_true (by omega)]
    rw [decide_eq_true h, Bool.true_and]
    simp only [e, Option.bind_some, if_true]
    exact ascS_loop l (by omega) l.length 0 (by omega)
  · have e : spec_l01In.f (l.length : Int) 1 6 = some false := by
      unfold spec_l01In.f
      by_cases q : (l.length : Int) ≥ 1
      · rw [if_pos q, decide_eq_false (by omega)]
      · rw [if_neg q]
    rw [decide_eq_false h, Bool.false_and]
    simp only [e, Option.bind_some]
    exact Ev.now _
/-- Numerals of one digit. -/
theorem decS_all : ∀ v : Fin 10, spec_Decimal.f 4 (v.1 : Int) = some (digS v.1) := by decide +kernel
theorem decS_mono (v : Nat) (hv : v < 10) : Ev (fun k => spec_Decimal.f k (v : Int)) (digS v) := Ev.of (fun k => spec_Decimal.mono _ k) (decS_all ⟨v, hv⟩)
theorem ahead_some (a b : S63) : spec_l10Ahead.f a.f0 a.f1 b.f0 b.f1 = some (aheadSp a b) := by
  unfold spec_l10Ahead.f aheadSp
  by_cases h : a.f0 < b.f0
  · rw [if_pos h, decide_eq_true (.inl h)]
  · rw [if_neg h]
    by_cases e : a.f0 = b.f0
    · rw [if_pos e]
      congr 1
      rw [decide_eq_decide]
      exact ⟨fun q => .inr ⟨e, q⟩, fun q => by omega⟩
    · rw [if_neg e, decide_eq_false (by omega)]
theorem eta_spot (a : S63) : (⟨a.f0, a.f1⟩ : S63) = a := rfl
/-- The loops that put a spot into its place. -/
theorem ins3_loop (ns : List Int) (l out : List (S63)) (x : S63) (i6 i5 : Int) (hl : l.length ≤ 1048576) {r : List (S63) × Bool} (d : Nat) : ∀ (j : Nat) (acc : List (S63)), j + d = l.length → acc.length ≤ 1048577 + j →
    Ev (fun k => spec_RingOf.l1 k ns (acc ++ (l.drop j).filter (fun y => !aheadSp y x)) i5 (wrap64 (i6 + 1))) r → Ev (fun k => spec_RingOf.l3 k ns l i5 i6 acc (j : Int) x.f0 x.f1) r := by
  induction d with
  | zero =>
    intro j acc hj ha h
    rw [List.drop_eq_nil_of_le (by omega), List.filter_nil, List.append_nil] at h
    refine Ev.step (fun k => ?_) h
    simp only [spec_RingOf.l3]
    rw [if_neg (by omega)]
  | succ d ih =>
    intro j acc hj ha h
    have hjl : j < l.length := by omega
    rw [List.drop_eq_getElem_cons hjl, List.filter_cons] at h
    cases c : aheadSp l[j] x with
    | true =>
      rw [c, if_neg (by decide)] at h
      refine Ev.step (fun k => ?_) (ih (j + 1) acc (by omega) (by omega) h)
      simp only [spec_RingOf.l3]
      rw [if_pos (by omega), if_pos (by omega), rdT63_at l j hjl, ahead_some, Option.bind_some, c, if_pos rfl, w64 j (by omega)]
    | false =>
      rw [c, if_pos (by decide)] at h
      refine Ev.step (fun k => ?_) (ih (j + 1) (acc ++ [l[j]]) (by omega) (by rw [List.length_append, List.length_singleton]; omega) (by rw [List.append_assoc]; exact h))
      simp only [spec_RingOf.l3]
      rw [if_pos (by omega), if_pos (by omega), rdT63_at l j hjl, ahead_some, Option.bind_some, c, if_neg (by decide), if_pos (by omega), w64 j (by omega)]
theorem ins2_loop (ns : List Int) (l : List (S63)) (x : S63) (i6 i5 : Int) (hl : l.length ≤ 1048576) {r : List (S63) × Bool} (d : Nat) : ∀ (j : Nat) (acc : List (S63)), j + d = l.length → acc.length ≤ j →
    Ev (fun k => spec_RingOf.l1 k ns ((acc ++ (l.drop j).filter (fun y => aheadSp y x)) ++ [x] ++ l.filter (fun y => !aheadSp y x)) i5 (wrap64 (i6 + 1))) r → Ev (fun k => spec_RingOf.l2 k ns l i5 i6 acc (j : Int) x.f0 x.f1) r := by
  induction d with
  | zero =>
    intro j acc hj ha h
    rw [List.drop_eq_nil_of_le (by omega), List.filter_nil, List.append_nil] at h
    have h3 := ins3_loop ns l [] x i6 i5 hl l.length 0 (acc ++ [x]) (by omega) (by rw [List.length_append, List.length_singleton]; omega) (by rw [List.drop_zero]; exact h)
    refine Ev.step (fun k => ?_) h3
    simp only [spec_RingOf.l2]
    rw [if_neg (by omega), if_pos (by omega)]
    rfl
  | succ d ih =>
    intro j acc hj ha h
    have hjl : j < l.length := by omega
    rw [List.drop_eq_getElem_cons hjl, List.filter_cons] at h
    cases c : aheadSp l[j] x with
    | true =>
      rw [c, if_pos rfl] at h
      refine Ev.step (fun k => ?_) (ih (j + 1) (acc ++ [l[j]]) (by omega) (by rw [List.length_append, List.length_singleton]; omega) (by rw [List.append_assoc acc, List.singleton_append]; exact h))
      simp only [spec_RingOf.l2]
      rw [if_pos (by omega), if_pos (by omega), rdT63_at l j hjl, ahead_some, Option.bind_some, c, if_pos rfl, if_pos (by omega), w64 j (by omega)]
    | false =>
      rw [c, if_neg (by decide)] at h
      refine Ev.step (fun k => ?_) (ih (j + 1) acc (by omega) (by omega) h)
      simp only [spec_RingOf.l2]
      rw [if_pos (by omega), if_pos (by omega), rdT63_at l j hjl, ahead_some, Option.bind_some, c, if_neg (by decide), w64 j (by omega)]
theorem spotsFrom (v : Int) (j : Nat) (h : j < 4) : (spots4 v).drop j = spotOf v j :: (spots4 v).drop (j + 1) := by
  have : j = 0 ∨ j = 1 ∨ j = 2 ∨ j = 3 := by omega
  rcases this with rfl | rfl | rfl | rfl <;> rfl
theorem insSp_len (l : List (S63)) (x : S63) : (insSp l x).length = l.length + 1 := by rw [(insSp_perm l x).length_eq, List.length_append, List.length_singleton]
theorem ringS1_loop (ns : List Int) (i : Nat) (hi : i < ns.length) (hv : 1 ≤ ns[i] ∧ ns[i] ≤ 9) {r : List (S63) × Bool} (hn : ns.length ≤ 6) (d : Nat) : ∀ (j : Nat) (l : List (S63)), j + d = 4 → l.length ≤ 1000 + j →
    Ev (fun k => spec_RingOf.l0 k ns (((spots4 ns[i]).drop j).foldl insSp l) ((i + 1 : Nat) : Int)) r → Ev (fun k => spec_RingOf.l1 k ns l (i : Int) (j : Int)) r := by
  induction d with
  | zero =>
    intro j l hj ha h
    obtain rfl : j = 4 := by omega
    refine Ev.step (fun k => ?_) h
    simp only [spec_RingOf.l1]
    rw [if_neg (by omega), w64 i (by omega)]
    rfl
  | succ d ih =>
    intro j l hj ha h
    rw [spotsFrom _ j (by omega), List.foldl_cons] at h
    have ih := ih (j + 1) (insSp l (spotOf ns[i] j)) (by omega) (by rw [insSp_len]; omega) h
    obtain ⟨vn, hvn⟩ : ∃ vn : Nat, ns[i] = (vn : Int) := ⟨ns[i].toNat, by omega⟩
    have hd1 := decS_mono vn (by omega)
    have hd2 := decS_mono j (by omega)
    have hh := (hash_ev (spotName vn j) (by show 3 ≤ _; omega) 0 (by omega)).1
    have h2 := ins2_loop ns l (spotOf ns[i] j) (j : Int) (i : Int) (by omega) l.length 0 [] (by omega) (by simp) (by
      rw [List.drop_zero, List.nil_append, w64 j (by omega)]; exact ih)
    refine Ev.step (f := fun k => (spec_Decimal.f k (vn : Int)).bind fun t127 => (if t127.size + 1 ≤ 9223372036854775807 then ((spec_Decimal.f k (j : Int)).bind fun t128 => (if (t127 ++ (⟨#[45]⟩ : ByteArray)).size + t128.size ≤ 9223372036854775807 then ((spec_HashOf.f k ((t127 ++ (⟨#[45]⟩ : ByteArray)) ++ t128) 0).bind fun t129 => (spec_RingOf.l2 k ns l (i : Int) (j : Int) (([] : List (S63))) 0 t129 (vn : Int))) else (none))) else (none))) (fun k => ?_) ?_
    · simp only [spec_RingOf.l1]
      rw [if_pos (by omega), if_pos (by omega), if_pos (by omega), rd_at ns i hi, hvn]
    · refine Ev.bind hd1 ?_
      simp only [if_pos (show (digS vn).size + 1 ≤ 9223372036854775807 from by show 1 + 1 ≤ _; omega)]
      refine Ev.bind hd2 ?_
      simp only [if_pos (show (digS vn ++ (⟨#[45]⟩ : ByteArray)).size + (digS j).size ≤ 9223372036854775807 from by show 2 + 1 ≤ _; omega)]
      refine Ev.bind hh ?_
      have e : spotOf ns[i] j = (⟨((hashN (spotName vn j) 0 : Nat) : Int), (vn : Int)⟩ : S63) := by rw [hvn]; rfl
      rw [e] at h2
      exact h2
theorem ringS0_loop (ns : List Int) (hv : ∀ v ∈ ns, 1 ≤ v ∧ v ≤ 9) (hn : ns.length ≤ 6) (d : Nat) : ∀ (i : Nat) (l : List (S63)), i + d = ns.length → l.length ≤ 4 * i →
    Ev (fun k => spec_RingOf.l0 k ns l (i : Int)) (((ns.drop i).flatMap spots4).foldl insSp l, true) := by
  induction d with
  | zero =>
    intro i l hi ha
    rw [List.drop_eq_nil_of_le (by omega)]
    refine Ev.step (f := fun _ => some (l, true)) (fun k => ?_) (Ev.now _)
    simp only [spec_RingOf.l0]
    rw [if_neg (by omega)]
  | succ d ih =>
    intro i l hi ha
    have h1 : i < ns.length := by omega
    have hl : ∀ (xs l : List (S63)), (xs.foldl insSp l).length = l.length + xs.length := by
      intro xs
      induction xs with
      | nil => intro l; rfl
      | cons x xs ihx => intro l; rw [List.foldl_cons, ihx, insSp_len, List.length_cons]; omega
    have ih := ih (i + 1) ((spots4 ns[i]).foldl insSp l) (by omega) (by rw [hl]; show l.length + 4 ≤ _; omega)
    rw [List.drop_eq_getElem_cons h1, List.flatMap_cons, List.foldl_append]
    have h2 := ringS1_loop ns i h1 (hv _ (List.getElem_mem h1)) hn 4 0 l (by omega) (by omega) (by rw [List.drop_zero]; exact ih)
    refine Ev.step (fun k => ?_) h2
    simp only [spec_RingOf.l0]
    rw [if_pos (by omega)]
    rfl
theorem ringS_ev (ns : List Int) : Ev (fun k => spec_RingOf.f k ns) (if validN ns = true then (ringL ns, true) else ([], false)) := by
  unfold spec_RingOf.f
  refine Ev.bind (nodesOkS_ev ns) ?_
  cases h : validN ns with
  | false => simp only [Bool.false_eq_true, if_false]; exact Ev.now _
  | true =>
    simp only [if_true]
    rw [validN_asc, Bool.and_eq_true, decide_eq_true_eq] at h
    have h3 := (okAsc_iff ns none).1 h.2
    have := ringS0_loop ns h3.1 h.1.2 ns.length 0 [] (by omega) (by simp)
    rw [List.drop_zero, ringL_ins] at this
    exact this
theorem toIntS_loop (l : List Int) (hl : l.length ≤ 35184372088832) (d : Nat) : ∀ (x : List Int) (i : Nat), x.length = l.length → x.take i = l.take i → l.length = i + d → Ev (fun k => laws_toIntS.l0 k l x (i : Int)) l := by
  induction d with
  | zero =>
    intro x i hx ht hd
    refine Ev.step (f := fun _ => some l) (fun k => ?_) (Ev.now _)
    have e : x = l := by rw [List.take_of_length_le (by omega), List.take_of_length_le (by omega)] at ht; exact ht
    simp only [laws_toIntS.l0]
    rw [if_neg (by omega), e]
  | succ d ih =>
    intro x i hx ht hd
    have hi : i < l.length := by omega
    refine Ev.step (f := fun k => laws_toIntS.l0 k l (x.set i l[i]) ((i + 1 : Nat) : Int)) (fun k => ?_) (ih (x.set i l[i]) (i + 1) (by simpa using hx) ?_ (by omega))
    · simp only [laws_toIntS.l0]
      rw [if_pos (by omega), if_pos (by omega), if_pos (by omega), w64 i (by omega), rd_at l i hi, Int.toNat_natCast]
    · rw [set_take x i _ (by omega), take_next l i hi, ht]
theorem toIntS_ev (l : List Int) (hl : l.length ≤ 35184372088832) : Ev (fun k => laws_toIntS.f k l) l := by
  refine Ev.congr (f := fun k => laws_toIntS.l0 k l (List.replicate l.length 0) ((0 : Nat) : Int)) (fun k => ?_) (toIntS_loop l hl l.length _ 0 (by simp) rfl (by omega))
  unfold laws_toIntS.f
  rw [if_pos (by omega), if_pos (by rw [Int.toNat_natCast]; exact hl), Int.toNat_natCast]
  rfl
theorem eqIntS_loop (a b : List Int) (hl : a.length ≤ 35184372088832) (hab : a = b) (d : Nat) : ∀ (i : Nat), a.length = i + d → Ev (fun k => laws_eqIntS.l0 k a b (i : Int)) true := by
  subst hab
  induction d with
  | zero =>
    intro i hd
    refine Ev.step (f := fun _ => some true) (fun k => ?_) (Ev.now _)
    simp only [laws_eqIntS.l0]
    rw [if_neg (by omega)]
  | succ d ih =>
    intro i hd
    refine Ev.step (f := fun k => laws_eqIntS.l0 k a a ((i + 1 : Nat) : Int)) (fun k => ?_) (ih (i + 1) (by omega))
    simp only [laws_eqIntS.l0]
    rw [if_pos (by omega), if_pos (by omega), if_pos (by omega), w64 i (by omega)]
    simp only [if_true]
theorem eqIntS_ev (a : List Int) (hl : a.length ≤ 35184372088832) : Ev (fun k => laws_eqIntS.f k a a) true := by
  refine Ev.congr (f := fun k => laws_eqIntS.l0 k a a ((0 : Nat) : Int)) (fun k => ?_) (eqIntS_loop a a hl rfl a.length 0 (by omega))
  unfold laws_eqIntS.f
  rw [if_pos rfl]
  rfl
/-- What stands behind the marking. -/
def markedI (l : List Int) (m : Int) : List Int := (List.range l.length).map fun (i : Nat) => m + (i : Int)
theorem markedI_len (l : List Int) (m : Int) : (markedI l m).length = l.length := by simp [markedI]
theorem markIntS_loop (n : Nat) (m : Int) (h0 : 0 ≤ m) (h1 : m + n < 9223372036854775807) (d : Nat) : ∀ (x : List Int) (i : Nat), x.length = n → (∀ j, j < i → x[j]? = some (m + (j : Int))) → n = i + d →
    Ev (fun k => laws_markIntS.l0 k x (m + (i : Int)) (i : Int)) (m + (n : Int), (List.range n).map fun (i : Nat) => m + (i : Int)) := by
  induction d with
  | zero =>
    intro x i hx ht hd
    refine Ev.step (f := fun _ => some (m + (n : Int), (List.range n).map fun (i : Nat) => m + (i : Int))) (fun k => ?_) (Ev.now _)
    have e : x = (List.range n).map fun (i : Nat) => m + (i : Int) := by
      apply List.ext_getElem?
      intro j
      by_cases hj : j < n
      · rw [ht j (by omega)]; simp [hj]
      · rw [List.getElem?_eq_none (by omega), List.getElem?_eq_none (by simp; omega)]
    simp only [laws_markIntS.l0]
    rw [if_neg (by omega), ← e]
    have : i = n := by omega
    subst this
    rfl
  | succ d ih =>
    intro x i hx ht hd
    refine Ev.step (f := fun k => laws_markIntS.l0 k (x.set i (m + (i : Int))) (m + ((i + 1 : Nat) : Int)) ((i + 1 : Nat) : Int)) (fun k => ?_) (ih (x.set i (m + (i : Int))) (i + 1) (by simpa using hx) ?_ (by omega))
    · have e : wrap64 (m + (i : Int) + 1) = m + ((i + 1 : Nat) : Int) := by unfold wrap64; omega
      simp only [laws_markIntS.l0]
      rw [if_pos (by omega), if_pos (by omega), w64 i (by omega), e, Int.toNat_natCast]
    · intro j hj
      by_cases c : j = i
      · subst c; rw [List.getElem?_set_self (by omega)]
      · rw [List.getElem?_set_ne (by omega)]; exact ht j (by omega)
theorem markIntS_ev (l : List Int) (m : Int) (h0 : 0 ≤ m) (h1 : m + l.length < 9223372036854775807) : Ev (fun k => laws_markIntS.f k l m) (m + (l.length : Int), markedI l m) := by
  refine Ev.congr (f := fun k => laws_markIntS.l0 k l (m + ((0 : Nat) : Int)) ((0 : Nat) : Int)) (fun k => ?_) (markIntS_loop l.length m h0 h1 l.length l 0 rfl (fun j hj => absurd hj (by omega)) (by omega))
  unfold laws_markIntS.f
  rw [show m + ((0 : Nat) : Int) = m by omega]
  rfl
/-- Spots that are marked from a number on. -/
def markedSp (n : Nat) (m : Int) : List S63 := (List.range n).map fun (j : Nat) => ⟨m + 2 * (j : Int), m + 2 * (j : Int) + 1⟩
theorem markedSp_len (n : Nat) (m : Int) : (markedSp n m).length = n := by simp [markedSp]
theorem markedSp_at (n : Nat) (m : Int) (j : Nat) (h : j < n) : (markedSp n m)[j]'(by rw [markedSp_len]; exact h) = ⟨m + 2 * (j : Int), m + 2 * (j : Int) + 1⟩ := by simp [markedSp]
theorem markSp_loop (n : Nat) (m : Int) (hn : n ≤ 1048576) (h0 : 0 ≤ m) (h1 : m ≤ 1073741824) (d : Nat) : ∀ (x : List S63) (i : Nat), x.length = n → x.take i = (markedSp n m).take i → n = i + d →
    Ev (fun k => laws_markSpotS.l0 k x (m + 2 * (i : Int)) (i : Int)) (m + 2 * (n : Int), markedSp n m) := by
  induction d with
  | zero =>
    intro x i hx ht hd
    have e : x = markedSp n m := by rw [List.take_of_length_le (by omega), List.take_of_length_le (by rw [markedSp_len]; omega)] at ht; exact ht
    refine Ev.step (f := fun _ => some (m + 2 * (n : Int), markedSp n m)) (fun k => ?_) (Ev.now _)
    simp only [laws_markSpotS.l0]
    rw [if_neg (by omega), e, show i = n by omega]
  | succ d ih =>
    intro x i hx ht hd
    have hi : i < n := by omega
    have e1 : wrap64 (m + 2 * (i : Int) + 1) = m + 2 * (i : Int) + 1 := by unfold wrap64; omega
    have e2 : wrap64 (m + 2 * (i : Int) + 1 + 1) = m + 2 * ((i + 1 : Nat) : Int) := by unfold wrap64; omega
    have hs : (x.set i (⟨m + 2 * (i : Int), (rd_T63 x (i : Int)).f1⟩ : S63)).set i (⟨(rd_T63 (x.set i (⟨m + 2 * (i : Int), (rd_T63 x (i : Int)).f1⟩ : S63)) (i : Int)).f0, m + 2 * (i : Int) + 1⟩ : S63) = x.set i ⟨m + 2 * (i : Int), m + 2 * (i : Int) + 1⟩ := by
      rw [List.set_set, rdT63_at _ i (by rw [List.length_set]; omega), List.getElem_set_self]
    refine Ev.step (fun k => ?_) (ih (x.set i ⟨m + 2 * (i : Int), m + 2 * (i : Int) + 1⟩) (i + 1) (by simpa using hx) ?_ (by omega))
    · simp only [laws_markSpotS.l0, Option.bind_some]
      rw [if_pos (by omega), if_pos (by omega), e1, e2, w64 i (by omega), Int.toNat_natCast, hs]
    · rw [set_take x i _ (by omega), take_next _ i (by rw [markedSp_len]; omega), ht, markedSp_at n m i hi]
theorem markRing_is (l : List S63) (m : Int) (hl : l.length ≤ 1048576) (h0 : 0 ≤ m) (h1 : m ≤ 1073741824) : Ev (fun k => laws_markRing.f k l m) (m + 2 * (l.length : Int), markedSp l.length m) := by
  have h := markSp_loop l.length m hl h0 h1 l.length l 0 rfl (by simp) (by omega)
  rw [show m + 2 * ((0 : Nat) : Int) = m by omega] at h
  unfold laws_markRing.f
  refine Ev.bind (a := (m + 2 * (l.length : Int), markedSp l.length m)) ?_ (Ev.now _)
  exact h
theorem heldSp_loop (n : Nat) (m : Int) (hn : n ≤ 1048576) (h0 : 0 ≤ m) (h1 : m ≤ 1073741824) (d : Nat) : ∀ (i : Nat), n = i + d →
    Ev (fun k => laws_heldSpotS.l0 k (markedSp n m) (m + 2 * (i : Int)) (i : Int)) (m + 2 * (n : Int)) := by
  induction d with
  | zero =>
    intro i hd
    refine Ev.step (f := fun _ => some (m + 2 * (n : Int))) (fun k => ?_) (Ev.now _)
    simp only [laws_heldSpotS.l0]
    rw [if_neg (by rw [markedSp_len]; omega), show i = n by omega]
  | succ d ih =>
    intro i hd
    have hi : i < n := by omega
    have e1 : wrap64 (m + 2 * (i : Int) + 1) = m + 2 * (i : Int) + 1 := by unfold wrap64; omega
    have e2 : wrap64 (m + 2 * (i : Int) + 1 + 1) = m + 2 * ((i + 1 : Nat) : Int) := by unfold wrap64; omega
    refine Ev.step (fun k => ?_) (ih (i + 1) (by omega))
    simp only [laws_heldSpotS.l0]
    rw [if_pos (by rw [markedSp_len]; omega), if_pos (by omega), rdT63_at _ i (by rw [markedSp_len]; exact hi), markedSp_at n m i hi, if_pos rfl, e1, if_pos rfl, e2, w64 i (by omega)]
theorem heldRing_is (n : Nat) (m : Int) (hn : n ≤ 1048576) (h0 : 0 ≤ m) (h1 : m ≤ 1073741824) : Ev (fun k => laws_heldRing.f k (markedSp n m) m) (m + 2 * (n : Int)) := by
  have h := heldSp_loop n m hn h0 h1 n 0 (by omega)
  rw [show m + 2 * ((0 : Nat) : Int) = m by omega] at h
  unfold laws_heldRing.f
  refine Ev.bind (a := m + 2 * (n : Int)) ?_ ?_
  · exact h
  · simp only [if_neg (show ¬ (m + 2 * (n : Int) < 0) by omega)]; exact Ev.now _

theorem FnExactRingOf : laws_FnExactRingOf.Pure := by
  intro l hl _ _
  apply Ev.rounds (r := true) (g := fun k => laws_FnExactRingOf.f k l)
  unfold laws_FnExactRingOf.f
  by_cases hbig : (l.length : Int) > 1048576
  · simp only [if_pos hbig]; exact Ev.now true
  · simp only [if_neg hbig]
    have hn : l.length ≤ 1048576 := by omega
    have ht := toIntS_ev l (by omega)
    have hS := ringS_ev l
    obtain ⟨q, b, hq, hb, hI⟩ : ∃ (q : List S63) (b : Bool), (if validN l = true then (ringL l, true) else ([], false)) = (q, b) ∧ q.length ≤ 1048576 ∧ impl_RingOf.f l = some (q, b) := by
      unfold impl_RingOf.f
      by_cases c : validN l = true
      · rw [if_pos c, if_pos c]
        refine ⟨_, _, rfl, ?_, rfl⟩
        rw [ringL_len]
        have := (validN_asc l).symm.trans c
        rw [Bool.and_eq_true, decide_eq_true_eq] at this
        omega
      · rw [if_neg c, if_neg c]
        exact ⟨_, _, rfl, by simp, rfl⟩
    rw [hq] at hS
    have he := eqRing_ev q hb
    have hm := markRing_is q 1 hb (by omega) (by omega)
    have hh := heldRing_is q.length 1 hb (by omega) (by omega)
    have hmi := markIntS_ev l 1 (by omega) (by omega)
    have hei := eqIntS_ev l (by omega)
    refine Ev.bind ht (Ev.bind hS (Ev.bind ht ?_))
    simp only [hI, Option.bind_some]
    refine Ev.bind he ?_
    simp only [if_true, bne_self_eq_false]
    refine Ev.step (fun k => by simp only [laws_FnExactRingOf.j0]; rw [if_neg (by decide)]) ?_
    refine Ev.bind ht (Ev.bind hei ?_)
    simp only [if_true]
    refine Ev.bind hmi ?_
    simp only [if_neg (show ¬ (1 + (l.length : Int) < 0) by omega)]
    refine Ev.bind he ?_
    simp only [if_true, bne_self_eq_false]
    refine Ev.step (fun k => by simp only [laws_FnExactRingOf.j1]; rw [if_neg (by decide)]) ?_
    refine Ev.bind hm (Ev.bind hh ?_)
    simp only [if_neg (show ¬ (1 + 2 * (q.length : Int) < 0) by omega), if_true]
    refine Ev.bind ht ?_
    simp only [hI, Option.bind_some]
    refine Ev.bind he ?_
    simp only [if_true, bne_self_eq_false]
    refine Ev.step (fun k => by simp only [laws_FnExactRingOf.j2]; rw [if_neg (by decide)]) ?_
    refine Ev.bind hh ?_
    simp only [if_neg (show ¬ (1 + 2 * (q.length : Int) < 0) by omega), if_true]
    exact Ev.now true

end Go.Proofs.YtphicebbbkjdhaaDoor.Pure
