/- The program's RingOk answers as the reference's: proved in plain Lean over the functions that the walks tell. -/
import Derived.Test.YtphicebbbkjdhaaDoorAskFnExactRingOk
namespace Go.Proofs.YtphicebbbkjdhaaDoor.Pure
open Go.RowKit Go.Proofs.YtphicebbbkjdhaaDoor.GFnExactRingOk Go.Proofs.YtphicebbbkjdhaaDoorW.PrintWords Go.Proofs.YtphicebbbkjdhaaDoorW.PrintLast Go.Proofs.YtphicebbbkjdhaaDoorW.PrintMore
set_option linter.unusedVariables false
set_option linter.unusedSimpArgs false

/-! ### The reference's hash -/
theorem xor_odd (c d : Nat) : (c ^^^ d) % 2 = if c % 2 = d % 2 then 0 else 1 := by
  have h := @Nat.xor_mod_two_eq_one c d
  by_cases e : c % 2 = d % 2
  · rw [if_pos e]; omega
  · rw [if_neg e]; omega
theorem xor_loop (a b : Nat) (ha : a < 4294967296) (hb : b < 4294967296) (d : Nat) : ∀ (i : Nat), i + d = 32 →
    Ev (fun k => spec_l04Xor.l0 k ((a / 2 ^ i : Nat) : Int) ((b / 2 ^ i : Nat) : Int) (((a ^^^ b) % 2 ^ i : Nat) : Int) ((2 ^ i : Nat) : Int) (i : Int)) ((a ^^^ b : Nat) : Int) := by
  have hx := Nat.xor_lt_two_pow (n := 32) ha hb
  induction d with
  | zero =>
    intro i hd
    obtain rfl : i = 32 := by omega
    refine Ev.step (f := fun _ => some ((a ^^^ b : Nat) : Int)) (fun k => ?_) (Ev.now _)
    simp only [spec_l04Xor.l0]
    rw [if_neg (by omega), Nat.mod_eq_of_lt hx]
  | succ d ih =>
    intro i hd
    have hp : 2 ^ i ≤ 2147483648 := by
      have := Nat.pow_le_pow_right (n := 2) (by omega) (show i ≤ 31 by omega)
      simpa using this
    have hp0 : 0 < 2 ^ i := Nat.two_pow_pos i
    have ea : wrap64 (Int.tdiv ((a / 2 ^ i : Nat) : Int) 2) = ((a / 2 ^ (i + 1) : Nat) : Int) := by
      rw [Int.tdiv_eq_ediv_of_nonneg (Int.natCast_nonneg _), Nat.pow_succ, ← Nat.div_div_eq_div_mul]
      have : a / 2 ^ i ≤ a := Nat.div_le_self _ _
      generalize a / 2 ^ i = q at *
      unfold wrap64; omega
    have eb : wrap64 (Int.tdiv ((b / 2 ^ i : Nat) : Int) 2) = ((b / 2 ^ (i + 1) : Nat) : Int) := by
      rw [Int.tdiv_eq_ediv_of_nonneg (Int.natCast_nonneg _), Nat.pow_succ, ← Nat.div_div_eq_div_mul]
      have : b / 2 ^ i ≤ b := Nat.div_le_self _ _
      generalize b / 2 ^ i = q at *
      unfold wrap64; omega
    have ep : wrap64 (2 * ((2 ^ i : Nat) : Int)) = ((2 ^ (i + 1) : Nat) : Int) := by
      rw [Nat.pow_succ]
      generalize 2 ^ i = q at *
      unfold wrap64; omega
    have hs : (a ^^^ b) % 2 ^ (i + 1) = (a ^^^ b) % 2 ^ i + 2 ^ i * ((a / 2 ^ i ^^^ b / 2 ^ i) % 2) := by
      rw [Nat.mod_pow_succ, Nat.xor_div_two_pow]
    have hl : (a ^^^ b) % 2 ^ i < 2 ^ i := Nat.mod_lt _ hp0
    refine Ev.step (fun k => ?_) (ih (i + 1) (by omega))
    simp only [spec_l04Xor.l0]
    rw [if_pos (by omega), ea, eb, ep, w64 i (by omega), Int.tmod_eq_emod_of_nonneg (Int.natCast_nonneg _), Int.tmod_eq_emod_of_nonneg (Int.natCast_nonneg _)]
    rw [xor_odd] at hs
    by_cases c : a / 2 ^ i % 2 = b / 2 ^ i % 2
    · rw [if_pos (by omega)]
      rw [if_pos c, Nat.mul_zero] at hs
      have hs2 : (a ^^^ b) % 2 ^ (i + 1) = (a ^^^ b) % 2 ^ i := hs.trans (Nat.add_zero _)
      rw [hs2]
    · rw [if_neg (by omega)]
      rw [if_neg c, Nat.mul_one] at hs
      have ew : wrap64 ((((a ^^^ b) % 2 ^ i : Nat) : Int) + ((2 ^ i : Nat) : Int)) = (((a ^^^ b) % 2 ^ (i + 1) : Nat) : Int) := by
        rw [hs]
        generalize (a ^^^ b) % 2 ^ i = q at *
        generalize 2 ^ i = p at *
        unfold wrap64; omega
      rw [ew]
theorem xor_ev (a b : Nat) (ha : a < 4294967296) (hb : b < 4294967296) : Ev (fun k => spec_l04Xor.f k (a : Int) (b : Int)) ((a ^^^ b : Nat) : Int) := by
  have h := xor_loop a b ha hb 32 0 rfl
  refine Ev.congr (fun k => ?_) h
  unfold spec_l04Xor.f
  simp [Nat.mod_one]
/-- The bytes of a text behind place i. -/
theorem hash_loop (s : ByteArray) (hs : s.size ≤ 4611686018427387904) (d : Nat) : ∀ (i h : Nat), h < 4294967296 → s.size = i + d →
    Ev (fun k => spec_HashOf.l0 k s (h : Int) (i : Int)) ((hlast ((tailOf s i).foldl hstep h) : Nat) : Int) ∧ Ev (fun k => impl_HashOf.l0 k s (h : Int) (i : Int)) ((hlast ((tailOf s i).foldl hstep h) : Nat) : Int) := by
  induction d with
  | zero =>
    intro i h hh hd
    have e : tailOf s i = [] := by unfold tailOf; exact List.drop_eq_nil_of_le (by simp; omega)
    have ed : wrap64 (Int.tdiv (h : Int) 65536) = ((h / 65536 : Nat) : Int) := by
      rw [Int.tdiv_eq_ediv_of_nonneg (by omega)]; unfold wrap64; omega
    have hl := hlast_lt h hh
    have hx := xor_ev h (h / 65536) hh (by omega)
    rw [e]
    refine ⟨Ev.step (f := fun k => (spec_l04Xor.f k (h : Int) ((h / 65536 : Nat) : Int)).bind fun t104 => (some t104)) (fun k => ?_) (Ev.bind hx (Ev.now _)), Ev.step (f := fun _ => some ((hlast h : Nat) : Int)) (fun k => ?_) (Ev.now _)⟩
    · simp only [spec_HashOf.l0]
      rw [if_neg (by omega), ed]
    · simp only [impl_HashOf.l0]
      rw [if_neg (by omega), show (h : Int) / 65536 = ((h / 65536 : Nat) : Int) by omega, xor_u32 h (h / 65536) hh (by omega)]
      show some (wrap64 ((hlast h : Nat) : Int)) = _
      congr 1
      unfold wrap64; omega
  | succ d ih =>
    intro i h hh hd
    obtain ⟨b, e, eb⟩ := tailOf_next s i (by omega)
    have hb : b.toNat < 256 := b.toNat_lt
    have hx := xor_ev h b.toNat hh (by omega)
    have hxl := Nat.xor_lt_two_pow (n := 32) hh (show b.toNat < 2 ^ 32 by omega)
    obtain ⟨h1, h2⟩ := ih (i + 1) (hstep h b) (hstep_lt h b) (by omega)
    rw [e, List.foldl_cons]
    have es : Int.tmod (wrap64 (((h ^^^ b.toNat : Nat) : Int) * 16777619)) 4294967296 = ((hstep h b : Nat) : Int) := by
      unfold hstep
      have : wrap64 (((h ^^^ b.toNat : Nat) : Int) * 16777619) = ((h ^^^ b.toNat : Nat) : Int) * 16777619 := by unfold wrap64; omega
      rw [this, Int.tmod_eq_emod_of_nonneg (by omega)]
      omega
    have ei : (((h ^^^ b.toNat : Nat) : Int) * 16777619) % 4294967296 = ((hstep h b : Nat) : Int) := by
      unfold hstep; omega
    refine ⟨Ev.step (f := fun k => (spec_l04Xor.f k (h : Int) (b.toNat : Int)).bind fun t103 => (spec_HashOf.l0 k s (Int.tmod (wrap64 (t103 * 16777619)) 4294967296) (wrap64 ((i : Int) + 1)))) (fun k => ?_) (Ev.bind hx ?_), Ev.step (fun k => ?_) h2⟩
    · simp only [spec_HashOf.l0]
      rw [if_pos (by omega), if_pos (by omega), eb, show wrap64 ((b.toNat : Nat) : Int) = (b.toNat : Int) by unfold wrap64; omega]
    · simp only [es, w64 i (by omega)]
      exact h1
    · simp only [impl_HashOf.l0]
      rw [if_pos (by omega), if_pos (by omega), eb, show ((b.toNat : Nat) : Int) % 4294967296 = (b.toNat : Int) by omega, xor_u32 h b.toNat hh (by omega), ei, w64 i (by omega)]
theorem hash_ev (s : ByteArray) (hs : s.size ≤ 4611686018427387904) (seed : Nat) (h : seed ≤ 1000000000) :
    Ev (fun k => spec_HashOf.f k s (seed : Int)) ((hashN s seed : Nat) : Int) ∧ Ev (fun k => impl_HashOf.f k s (seed : Int)) ((hashN s seed : Nat) : Int) := by
  obtain ⟨h1, h2⟩ := hash_loop s hs s.size 0 (2166136261 + seed) (by omega) (by omega)
  constructor
  · refine Ev.congr (f := fun k => spec_HashOf.j0 k s (seed : Int)) (fun k => ?_) (Ev.step (f := fun k => spec_HashOf.j1 k s (seed : Int)) (fun k => ?_) (Ev.step (fun k => ?_) h1))
    · unfold spec_HashOf.f
      rw [if_neg (by omega)]
    · simp only [spec_HashOf.j0]
      rw [if_neg (by omega)]
    · simp only [spec_HashOf.j1]
      have : Int.tmod (wrap64 (2166136261 + (seed : Int))) 4294967296 = ((2166136261 + seed : Nat) : Int) := by
        have : wrap64 (2166136261 + (seed : Int)) = 2166136261 + (seed : Int) := by unfold wrap64; omega
        rw [this, Int.tmod_eq_emod_of_nonneg (by omega)]; omega
      rw [this]
      rfl
  · refine Ev.congr (fun k => ?_) h2
    unfold impl_HashOf.f
    have : mx 0 (mn (seed : Int) 1000000000) = (seed : Int) := by unfold mx mn; split <;> split <;> omega
    rw [this]
    rfl
theorem rdT63_at (x : List S63) (i : Nat) (h : i < x.length) : rd_T63 x (i : Int) = x[i] := by
  unfold rd_T63
  rw [List.getD_eq_getElem?_getD, Int.toNat_natCast, List.getElem?_eq_getElem h]
  rfl
theorem eqSpot_some (s : S63) : laws_eqSpot.f s.f0 s.f1 s.f0 s.f1 = some true := by
  unfold laws_eqSpot.f
  simp
theorem eqSpotS_loop (l : List S63) (hl : l.length ≤ 1048576) (d : Nat) : ∀ (i : Nat), l.length = i + d → Ev (fun k => laws_eqSpotS.l0 k l l (i : Int)) true := by
  induction d with
  | zero =>
    intro i hd
    refine Ev.step (f := fun _ => some true) (fun k => ?_) (Ev.now _)
    simp only [laws_eqSpotS.l0]; rw [if_neg (by omega)]
  | succ d ih =>
    intro i hd
    refine Ev.step (f := fun k => laws_eqSpotS.l0 k l l ((i + 1 : Nat) : Int)) (fun k => ?_) (ih (i + 1) (by omega))
    simp only [laws_eqSpotS.l0]
    rw [if_pos (by omega), if_pos (by omega), if_pos (by omega), eqSpot_some, w64 i (by omega)]
    rfl
theorem eqSpotS_ev (l : List S63) (hl : l.length ≤ 1048576) : Ev (fun k => laws_eqSpotS.f k l l) true := by
  refine Ev.congr (f := fun k => laws_eqSpotS.l0 k l l ((0 : Nat) : Int)) (fun k => ?_) (eqSpotS_loop l hl l.length 0 (by omega))
  unfold laws_eqSpotS.f
  rw [if_pos rfl]
  rfl
theorem eqRing_ev (l : List S63) (hl : l.length ≤ 1048576) : Ev (fun k => laws_eqRing.f k l l) true := by
  unfold laws_eqRing.f
  refine Ev.bind (eqSpotS_ev l hl) ?_
  simp only [if_true]
  exact Ev.now _
/-! ### The reference's rings -/
theorem ascS_loop (l : List Int) (hl : l.length ≤ 1048576) (d : Nat) : ∀ (i : Nat), i + d = l.length → Ev (fun k => spec_l10Nodes.l0 k l (i : Int)) (okAsc (prevAt l i) (l.drop i)) := by
  induction d with
  | zero =>
    intro i hi
    rw [List.drop_eq_nil_of_le (by omega)]
    refine Ev.step (f := fun _ => some true) (fun k => ?_) (Ev.now _)
    simp only [spec_l10Nodes.l0]
    rw [if_neg (by omega)]
  | succ d ih =>
    intro i hi
    have h1 : i < l.length := by omega
    rw [List.drop_eq_getElem_cons h1, okAsc_cons]
    by_cases c : 1 ≤ l[i] ∧ l[i] ≤ 9
    · have hr : spec_l01In.f l[i] 1 9 = some true := by unfold spec_l01In.f; rw [if_pos (by omega), decide_eq_true (by omega)]
      rw [decide_eq_true c, Bool.true_and]
      rcases Nat.eq_zero_or_pos i with rfl | hp
      · have ih := ih 1 (by omega)
        rw [show okPrev (prevAt l 0) l[0] = true from rfl, Bool.true_and, ← prevAt_next l 0 h1]
        refine Ev.step (fun k => ?_) ih
        · simp only [spec_l10Nodes.l0]
          rw [if_pos (by omega), if_pos (by omega), rd_at l 0 h1, hr, Option.bind_some, if_pos rfl, if_neg (by omega), w64 0 (by omega)]
      · have e : wrap64 ((i : Int) - 1) = ((i - 1 : Nat) : Int) := by unfold wrap64; omega
        have hq : prevAt l i = some l[i - 1] := by unfold prevAt; rw [if_neg (by omega), List.getElem?_eq_getElem (by omega)]
        have ih := ih (i + 1) (by omega)
        rw [hq]
        by_cases g : l[i - 1] < l[i]
        · rw [show okPrev (some l[i - 1]) l[i] = true from decide_eq_true g, Bool.true_and, ← prevAt_next l i h1]
          refine Ev.step (fun k => ?_) ih
          simp only [spec_l10Nodes.l0]
          rw [if_pos (by omega), if_pos (by omega), rd_at l i h1, hr, Option.bind_some, if_pos rfl, if_pos (by omega), e, if_pos (by omega), if_pos (by omega), rd_at l (i - 1) (by omega), if_neg (by omega), w64 i (by omega)]
        · rw [show okPrev (some l[i - 1]) l[i] = false from decide_eq_false g, Bool.false_and]
          refine Ev.step (f := fun _ => some false) (fun k => ?_) (Ev.now _)
          simp only [spec_l10Nodes.l0]
          rw [if_pos (by omega), if_pos (by omega), rd_at l i h1, hr, Option.bind_some, if_pos rfl, if_pos (by omega), e, if_pos (by omega), if_pos (by omega), rd_at l (i - 1) (by omega), if_pos (by omega)]
    · have hr : spec_l01In.f l[i] 1 9 = some false := by
        unfold spec_l01In.f
        by_cases q : l[i] ≥ 1
        · rw [if_pos q, decide_eq_false (by omega)]
        · rw [if_neg q]
      rw [decide_eq_false c, Bool.false_and]
      refine Ev.step (f := fun _ => some false) (fun k => ?_) (Ev.now _)
      simp only [spec_l10Nodes.l0]
      rw [if_pos (by omega), if_pos (by omega), rd_at l i h1, hr, Option.bind_some, if_neg (by decide)]
theorem nodesOkS_ev (l : List Int) : Ev (fun k => spec_l10Nodes.f k l) (validN l) := by
  rw [validN_asc]
  unfold spec_l10Nodes.f
  by_cases h : 1 ≤ l.length ∧ l.length ≤ 6
  · have e : spec_l01In.f (l.length : Int) 1 6 = some true := by unfold spec_l01In.f; rw [if_pos (by omega), decide_eq_true (by omega)]
    rw [decide_eq_true h, Bool.true_and]
    simp only [e, Option.bind_some, if_true]
    exact ascS_loop l (by omega) l.length 0 (by omega)
  · have e : spec_l01In.f (l.length : Int) 1 6 = some false := by
      unfold spec_l01In.f
      by_cases q : (l.length : Int) ≥ 1
      · rw [if_pos q, decide_eq_false (by omega)]
      · rw [if_neg q]
    rw [decide_eq_false h, Bool.false_and]
    simp only [e, Option.bind_some]
    exact Ev.now _
/-- Numerals of one digit. -/
theorem decS_all : ∀ v : Fin 10, spec_Decimal.f 4 (v.1 : Int) = some (digS v.1) := by decide +kernel
theorem decS_mono (v : Nat) (hv : v < 10) : Ev (fun k => spec_Decimal.f k (v : Int)) (digS v) := Ev.of (fun k => spec_Decimal.mono _ k) (decS_all ⟨v, hv⟩)
theorem ahead_some (a b : S63) : spec_l10Ahead.f a.f0 a.f1 b.f0 b.f1 = some (aheadSp a b) := by
  unfold spec_l10Ahead.f aheadSp
  by_cases h : a.f0 < b.f0
  · rw [if_pos h, decide_eq_true (.inl h)]
  · rw [if_neg h]
    by_cases e : a.f0 = b.f0
    · rw [if_pos e]
      congr 1
      rw [decide_eq_decide]
      exact ⟨fun q => .inr ⟨e, q⟩, fun q => by omega⟩
    · rw [if_neg e, decide_eq_false (by omega)]
theorem eta_spot (a : S63) : (⟨a.f0, a.f1⟩ : S63) = a := rfl
/-- The loops that put a spot into its place. -/
theorem ins3_loop (ns : List Int) (l out : List (S63)) (x : S63) (i6 i5 : Int) (hl : l.length ≤ 1048576) {r : List (S63) × Bool} (d : Nat) : ∀ (j : Nat) (acc : List (S63)), j + d = l.length → acc.length ≤ 1048577 + j →
    Ev (fun k => spec_RingOf.l1 k ns (acc ++ (l.drop j).filter (fun y => !aheadSp y x)) i5 (wrap64 (i6 + 1))) r → Ev (fun k => spec_RingOf.l3 k ns l i5 i6 acc (j : Int) x.f0 x.f1) r := by
  induction d with
  | zero =>
    intro j acc hj ha h
    rw [List.drop_eq_nil_of_le (by omega), List.filter_nil, List.append_nil] at h
    refine Ev.step (fun k => ?_) h
    simp only [spec_RingOf.l3]
    rw [if_neg (by omega)]
  | succ d ih =>
    intro j acc hj ha h
    have hjl : j < l.length := by omega
    rw [List.drop_eq_getElem_cons hjl, List.filter_cons] at h
    cases c : aheadSp l[j] x with
    | true =>
      rw [c, if_neg (by decide)] at h
      refine Ev.step (fun k => ?_) (ih (j + 1) acc (by omega) (by omega) h)
      simp only [spec_RingOf.l3]
      rw [if_pos (by omega), if_pos (by omega), rdT63_at l j hjl, ahead_some, Option.bind_some, c, if_pos rfl, w64 j (by omega)]
    | false =>
      rw [c, if_pos (by decide)] at h
      refine Ev.step (fun k => ?_) (ih (j + 1) (acc ++ [l[j]]) (by omega) (by rw [List.length_append, List.length_singleton]; omega) (by rw [List.append_assoc]; exact h))
      simp only [spec_RingOf.l3]
      rw [if_pos (by omega), if_pos (by omega), rdT63_at l j hjl, ahead_some, Option.bind_some, c, if_neg (by decide), if_pos (by omega), w64 j (by omega)]
theorem ins2_loop (ns : List Int) (l : List (S63)) (x : S63) (i6 i5 : Int) (hl : l.length ≤ 1048576) {r : List (S63) × Bool} (d : Nat) : ∀ (j : Nat) (acc : List (S63)), j + d = l.length → acc.length ≤ j →
    Ev (fun k => spec_RingOf.l1 k ns ((acc ++ (l.drop j).filter (fun y => aheadSp y x)) ++ [x] ++ l.filter (fun y => !aheadSp y x)) i5 (wrap64 (i6 + 1))) r → Ev (fun k => spec_RingOf.l2 k ns l i5 i6 acc (j : Int) x.f0 x.f1) r := by
  induction d with
  | zero =>
    intro j acc hj ha h
    rw [List.drop_eq_nil_of_le (by omega), List.filter_nil, List.append_nil] at h
    have h3 := ins3_loop ns l [] x i6 i5 hl l.length 0 (acc ++ [x]) (by omega) (by rw [List.length_append, List.length_singleton]; omega) (by rw [List.drop_zero]; exact h)
    refine Ev.step (fun k => ?_) h3
    simp only [spec_RingOf.l2]
    rw [if_neg (by omega), if_pos (by omega)]
    rfl
  | succ d ih =>
    intro j acc hj ha h
    have hjl : j < l.length := by omega
    rw [List.drop_eq_getElem_cons hjl, List.filter_cons] at h
    cases c : aheadSp l[j] x with
    | true =>
      rw [c, if_pos rfl] at h
      refine Ev.step (fun k => ?_) (ih (j + 1) (acc ++ [l[j]]) (by omega) (by rw [List.length_append, List.length_singleton]; omega) (by rw [List.append_assoc acc, List.singleton_append]; exact h))
      simp only [spec_RingOf.l2]
      rw [if_pos (by omega), if_pos (by omega), rdT63_at l j hjl, ahead_some, Option.bind_some, c, if_pos rfl, if_pos (by omega), w64 j (by omega)]
    | false =>
      rw [c, if_neg (by decide)] at h
      refine Ev.step (fun k => ?_) (ih (j + 1) acc (by omega) (by omega) h)
      simp only [spec_RingOf.l2]
      rw [if_pos (by omega), if_pos (by omega), rdT63_at l j hjl, ahead_some, Option.bind_some, c, if_neg (by decide), w64 j (by omega)]
theorem spotsFrom (v : Int) (j : Nat) (h : j < 4) : (spots4 v).drop j = spotOf v j :: (spots4 v).drop (j + 1) := by
  have : j = 0 ∨ j = 1 ∨ j = 2 ∨ j = 3 := by omega
  rcases this with rfl | rfl | rfl | rfl <;> rfl
theorem insSp_len (l : List (S63)) (x : S63) : (insSp l x).length = l.length + 1 := by rw [(insSp_perm l x).length_eq, List.length_append, List.length_singleton]
theorem ringS1_loop (ns : List Int) (i : Nat) (hi : i < ns.length) (hv : 1 ≤ ns[i] ∧ ns[i] ≤ 9) {r : List (S63) × Bool} (hn : ns.length ≤ 6) (d : Nat) : ∀ (j : Nat) (l : List (S63)), j + d = 4 → l.length ≤ 1000 + j →
    Ev (fun k => spec_RingOf.l0 k ns (((spots4 ns[i]).drop j).foldl insSp l) ((i + 1 : Nat) : Int)) r → Ev (fun k => spec_RingOf.l1 k ns l (i : Int) (j : Int)) r := by
  induction d with
  | zero =>
    intro j l hj ha h
    obtain rfl : j = 4 := by omega
    refine Ev.step (fun k => ?_) h
    simp only [spec_RingOf.l1]
    rw [if_neg (by omega), w64 i (by omega)]
    rfl
  | succ d ih =>
    intro j l hj ha h
    rw [spotsFrom _ j (by omega), List.foldl_cons] at h
    have ih := ih (j + 1) (insSp l (spotOf ns[i] j)) (by omega) (by rw [insSp_len]; omega) h
    obtain ⟨vn, hvn⟩ : ∃ vn : Nat, ns[i] = (vn : Int) := ⟨ns[i].toNat, by omega⟩
    have hd1 := decS_mono vn (by omega)
    have hd2 := decS_mono j (by omega)
    have hh := (hash_ev (spotName vn j) (by show 3 ≤ _; omega) 0 (by omega)).1
    have h2 := ins2_loop ns l (spotOf ns[i] j) (j : Int) (i : Int) (by omega) l.length 0 [] (by omega) (by simp) (by
      rw [List.drop_zero, List.nil_append, w64 j (by omega)]; exact ih)
    refine Ev.step (f := fun k => (spec_Decimal.f k (vn : Int)).bind fun t127 => (if t127.size + 1 ≤ 9223372036854775807 then ((spec_Decimal.f k (j : Int)).bind fun t128 => (if (t127 ++ (⟨#[45]⟩ : ByteArray)).size + t128.size ≤ 9223372036854775807 then ((spec_HashOf.f k ((t127 ++ (⟨#[45]⟩ : ByteArray)) ++ t128) 0).bind fun t129 => (spec_RingOf.l2 k ns l (i : Int) (j : Int) (([] : List (S63))) 0 t129 (vn : Int))) else (none))) else (none))) (fun k => ?_) ?_
    · simp only [spec_RingOf.l1]
      rw [if_pos (by omega), if_pos (by omega), if_pos (by omega), rd_at ns i hi, hvn]
    · refine Ev.bind hd1 ?_
      simp only [if_pos (show (digS vn).size + 1 ≤ 9223372036854775807 from by show 1 + 1 ≤ _; omega)]
      refine Ev.bind hd2 ?_
      simp only [if_pos (show (digS vn ++ (⟨#[45]⟩ : ByteArray)).size + (digS j).size ≤ 9223372036854775807 from by show 2 + 1 ≤ _; omega)]
      refine Ev.bind hh ?_
      have e : spotOf ns[i] j = (⟨((hashN (spotName vn j) 0 : Nat) : Int), (vn : Int)⟩ : S63) := by rw [hvn]; rfl
      rw [e] at h2
      exact h2
theorem ringS0_loop (ns : List Int) (hv : ∀ v ∈ ns, 1 ≤ v ∧ v ≤ 9) (hn : ns.length ≤ 6) (d : Nat) : ∀ (i : Nat) (l : List (S63)), i + d = ns.length → l.length ≤ 4 * i →
    Ev (fun k => spec_RingOf.l0 k ns l (i : Int)) (((ns.drop i).flatMap spots4).foldl insSp l, true) := by
  induction d with
  | zero =>
    intro i l hi ha
    rw [List.drop_eq_nil_of_le (by omega)]
    refine Ev.step (f := fun _ => some (l, true)) (fun k => ?_) (Ev.now _)
    simp only [spec_RingOf.l0]
    rw [if_neg (by omega)]
  | succ d ih =>
    intro i l hi ha
    have h1 : i < ns.length := by omega
    have hl : ∀ (xs l : List (S63)), (xs.foldl insSp l).length = l.length + xs.length := by
      intro xs
      induction xs with
      | nil => intro l; rfl
      | cons x xs ihx => intro l; rw [List.foldl_cons, ihx, insSp_len, List.length_cons]; omega
    have ih := ih (i + 1) ((spots4 ns[i]).foldl insSp l) (by omega) (by rw [hl]; show l.length + 4 ≤ _; omega)
    rw [List.drop_eq_getElem_cons h1, List.flatMap_cons, List.foldl_append]
    have h2 := ringS1_loop ns i h1 (hv _ (List.getElem_mem h1)) hn 4 0 l (by omega) (by omega) (by rw [List.drop_zero]; exact ih)
    refine Ev.step (fun k => ?_) h2
    simp only [spec_RingOf.l0]
    rw [if_pos (by omega)]
    rfl
theorem ringS_ev (ns : List Int) : Ev (fun k => spec_RingOf.f k ns) (if validN ns = true then (ringL ns, true) else ([], false)) := by
  unfold spec_RingOf.f
  refine Ev.bind (nodesOkS_ev ns) ?_
  cases h : validN ns with
  | false => simp only [Bool.false_eq_true, if_false]; exact Ev.now _
  | true =>
    simp only [if_true]
    rw [validN_asc, Bool.and_eq_true, decide_eq_true_eq] at h
    have h3 := (okAsc_iff ns none).1 h.2
    have := ringS0_loop ns h3.1 h.1.2 ns.length 0 [] (by omega) (by simp)
    rw [List.drop_zero, ringL_ins] at this
    exact this
/-! ### Lists of nodes -/
theorem lt_unique {l m : List Int} (h : ∀ v, v ∈ l ↔ v ∈ m) (hl : l.Pairwise (· < ·)) (hm : m.Pairwise (· < ·)) : l = m := by
  have nl : l.Nodup := hl.imp (fun h e => by omega)
  have nm : m.Nodup := hm.imp (fun h e => by omega)
  exact List.Perm.eq_of_pairwise (le := (· < ·)) (fun a b _ _ h1 h2 => absurd h1 (by omega)) hl hm ((List.perm_ext_iff_of_nodup nl nm).2 h)
structure ValidN (ns : List Int) : Prop where
  len : 1 ≤ ns.length ∧ ns.length ≤ 6
  range : ∀ v ∈ ns, 1 ≤ v ∧ v ≤ 9
  asc : ns.Pairwise (· < ·)
theorem validN_iff {ns : List Int} : validN ns = true ↔ ValidN ns := by
  unfold validN
  simp only [Bool.and_eq_true, decide_eq_true_eq]
  exact ⟨fun ⟨h1, h2, h3⟩ => ⟨h1, h2, h3⟩, fun h => ⟨h.len, h.range, h.asc⟩⟩
theorem ring_members (ns : List Int) (v : Int) : (∃ s ∈ ringL ns, s.f1 = v) ↔ v ∈ ns := ⟨fun ⟨s, hs, e⟩ => e ▸ mem_ring hs, fun h => ring_mem h⟩
theorem compact_sorted (zs : List Int) (hs : zs.Pairwise (· ≤ ·)) (m : Nat) (hm : m ≤ zs.length) : (Go.Lib.compactUpTo zs.toArray m).Pairwise (· < ·) ∧ ∀ v, v ∈ Go.Lib.compactUpTo zs.toArray m ↔ ∃ j, j < m ∧ zs[j]! = v := by
  have hle : ∀ i j, i ≤ j → j < zs.length → zs[i]! ≤ zs[j]! := fun i j hij hj => by
    rcases Nat.eq_or_lt_of_le hij with rfl | h
    · exact Int.le_refl _
    · have := List.pairwise_iff_getElem.1 hs i j (by omega) hj h
      simpa [List.getElem!_eq_getElem?_getD, hj, show i < zs.length by omega] using this
  have hA : ∀ i : Nat, zs.toArray[i]! = zs[i]! := fun i => by simp
  induction m with
  | zero => exact ⟨by simp [Go.Lib.compactUpTo], by simp [Go.Lib.compactUpTo]⟩
  | succ m ih =>
    obtain ⟨h1, h2⟩ := ih (by omega)
    rw [Go.Lib.compactUpTo_succ, hA]
    by_cases k : Go.Lib.keeps zs.toArray m = true
    · rw [if_pos k]
      refine ⟨List.pairwise_append.2 ⟨h1, List.pairwise_singleton _ _, fun a ha b hb => ?_⟩, fun v => ?_⟩
      · obtain rfl := List.mem_singleton.1 hb
        obtain ⟨j, hj, rfl⟩ := (h2 a).1 ha
        have hk := of_decide_eq_true k
        rw [hA, hA] at hk
        have e1 := hle j (m - 1) (by omega) (by omega)
        have e2 := hle (m - 1) m (by omega) (by omega)
        rcases hk with hk | hk
        · omega
        · omega
      · rw [List.mem_append, h2, List.mem_singleton]
        constructor
        · rintro (⟨j, hj, e⟩ | e)
          · exact ⟨j, by omega, e⟩
          · exact ⟨m, by omega, e.symm⟩
        · rintro ⟨j, hj, e⟩
          rcases Nat.lt_succ_iff_lt_or_eq.1 hj with hj | rfl
          · exact .inl ⟨j, hj, e⟩
          · exact .inr e.symm
    · have k' : Go.Lib.keeps zs.toArray m = false := by simpa using k
      rw [if_neg k, List.append_nil]
      refine ⟨h1, fun v => (h2 v).trans ⟨fun ⟨j, hj, e⟩ => ⟨j, by omega, e⟩, fun ⟨j, hj, e⟩ => ?_⟩⟩
      rcases Nat.lt_succ_iff_lt_or_eq.1 hj with hj | rfl
      · exact ⟨j, hj, e⟩
      · have hk := of_decide_eq_false k'
        rw [hA, hA] at hk
        refine ⟨j - 1, ?_, ?_⟩
        · rcases Nat.eq_zero_or_pos j with h0 | h0
          · exact absurd (.inl h0) hk
          · omega
        · rw [← e]
          exact (Classical.not_not.1 (fun q => hk (.inr q))).symm
theorem nodesI_facts (l : List (S63)) : (nodesI l).Pairwise (· < ·) ∧ ∀ v, v ∈ nodesI l ↔ ∃ s ∈ l, s.f1 = v := by
  have hs : ((l.map (fun s => s.f1)).mergeSort (fun a b => decide (a ≤ b))).Pairwise (· ≤ ·) :=
    (List.pairwise_mergeSort (le := fun a b : Int => decide (a ≤ b)) (fun a b c h1 h2 => by simp only [decide_eq_true_eq] at *; omega) (fun a b => by simp only [Bool.or_eq_true, decide_eq_true_eq]; omega) _).imp (fun h => of_decide_eq_true h)
  obtain ⟨h1, h2⟩ := compact_sorted _ hs _ (Nat.le_refl _)
  refine ⟨h1, fun v => (h2 v).trans ?_⟩
  constructor
  · rintro ⟨j, hj, e⟩
    have : v ∈ (l.map (fun s => s.f1)).mergeSort (fun a b => decide (a ≤ b)) := by
      rw [← e, List.getElem!_eq_getElem?_getD, List.getElem?_eq_getElem hj]; exact List.getElem_mem hj
    obtain ⟨s, hs, e⟩ := List.mem_map.1 ((List.mergeSort_perm _ _).mem_iff.1 this)
    exact ⟨s, hs, e⟩
  · rintro ⟨s, hs, e⟩
    have : v ∈ (l.map (fun s => s.f1)).mergeSort (fun a b => decide (a ≤ b)) := (List.mergeSort_perm _ _).mem_iff.2 (List.mem_map.2 ⟨s, hs, e⟩)
    obtain ⟨j, hj, e⟩ := List.getElem_of_mem this
    exact ⟨j, hj, by rw [List.getElem!_eq_getElem?_getD, List.getElem?_eq_getElem hj]; exact e⟩
/-- As the reference has them. -/
def nodesS (l : List (S63)) : List Int := ([0, 1, 2, 3, 4, 5, 6, 7, 8, 9] : List Int).filter (fun v => l.any (fun s => decide (s.f1 = v)))
theorem nodesI_ring {ns : List Int} (h : ns.Pairwise (· < ·)) : nodesI (ringL ns) = ns :=
  lt_unique (fun v => ((nodesI_facts _).2 v).trans (ring_members ns v)) (nodesI_facts _).1 h
theorem nodesS_ring {ns : List Int} (h : ValidN ns) : nodesS (ringL ns) = ns := by
  refine lt_unique (fun v => ?_) (List.Pairwise.filter _ (by decide)) h.asc
  rw [← ring_members ns v]
  unfold nodesS
  rw [List.mem_filter, List.any_eq_true]
  constructor
  · rintro ⟨_, s, hs, e⟩; exact ⟨s, hs, of_decide_eq_true e⟩
  · rintro ⟨s, hs, e⟩
    refine ⟨?_, s, hs, decide_eq_true e⟩
    have := h.range v (e ▸ mem_ring hs)
    obtain ⟨h1, h2⟩ := this
    have : v = 1 ∨ v = 2 ∨ v = 3 ∨ v = 4 ∨ v = 5 ∨ v = 6 ∨ v = 7 ∨ v = 8 ∨ v = 9 := by omega
    simp only [List.mem_cons, List.not_mem_nil, or_false]
    omega
/-- Spots are a ring of nodes. -/
def RingR (l : List (S63)) : Prop := ∃ ns, ValidN ns ∧ ringL ns = l
theorem ringR_I (l : List (S63)) : RingR l ↔ ValidN (nodesI l) ∧ ringL (nodesI l) = l :=
  ⟨fun ⟨ns, h, e⟩ => by subst e; rw [nodesI_ring h.asc]; exact ⟨h, rfl⟩, fun h => ⟨_, h.1, h.2⟩⟩
theorem ringR_S (l : List (S63)) : RingR l ↔ ValidN (nodesS l) ∧ ringL (nodesS l) = l :=
  ⟨fun ⟨ns, h, e⟩ => by subst e; rw [nodesS_ring h]; exact ⟨h, rfl⟩, fun h => ⟨_, h.1, h.2⟩⟩
/-! ### Lists of structs: told by program -/
theorem rdT89_at (x : List S89) (i : Nat) (h : i < x.length) : rd_T89 x (i : Int) = x[i] := by
  unfold rd_T89
  rw [List.getD_eq_getElem?_getD, Int.toNat_natCast, List.getElem?_eq_getElem h]
  rfl
/-- The same struct. -/
def cvSpot (s : S89) : S63 := ⟨s.f0, s.f1⟩
theorem toSpotS_loop (l : List S89) (hl : l.length ≤ 1048576) (d : Nat) : ∀ (x : List S63) (i : Nat), x.length = l.length → x.take i = (l.take i).map cvSpot → l.length = i + d → Ev (fun k => laws_toSpotS.l0 k l x (i : Int)) (l.map cvSpot) := by
  induction d with
  | zero =>
    intro x i hx ht hd
    refine Ev.step (f := fun _ => some (l.map cvSpot)) (fun k => ?_) (Ev.now _)
    have e : x = l.map cvSpot := by rw [List.take_of_length_le (by omega), List.take_of_length_le (by omega)] at ht; exact ht
    simp only [laws_toSpotS.l0]
    rw [if_neg (by omega), e]
  | succ d ih =>
    intro x i hx ht hd
    have hi : i < l.length := by omega
    refine Ev.step (f := fun k => laws_toSpotS.l0 k l (x.set i (cvSpot l[i])) ((i + 1 : Nat) : Int)) (fun k => ?_) (ih (x.set i (cvSpot l[i])) (i + 1) (by simpa using hx) ?_ (by omega))
    · simp only [laws_toSpotS.l0, laws_toSpot.f, Option.bind_some, rdT89_at l i hi]
      rw [if_pos (by omega), if_pos (by omega), if_pos (by omega), w64 i (by omega), Int.toNat_natCast]
      rfl
    · rw [set_take x i _ (by omega), take_next l i hi, ht, List.map_append]
      rfl
theorem toSpotS_ev (l : List S89) (hl : l.length ≤ 1048576) : Ev (fun k => laws_toSpotS.f k l) (l.map cvSpot) := by
  refine Ev.congr (f := fun k => laws_toSpotS.l0 k l (List.replicate l.length z63) ((0 : Nat) : Int)) (fun k => ?_) (toSpotS_loop l hl l.length _ 0 (by simp) rfl (by omega))
  unfold laws_toSpotS.f
  rw [if_pos (by omega), if_pos (by rw [Int.toNat_natCast]; omega), Int.toNat_natCast]
  rfl
theorem toRing_ev (l : List S89) (hl : l.length ≤ 1048576) : Ev (fun k => laws_toRing.f k l) (l.map cvSpot) := by
  unfold laws_toRing.f
  exact Ev.bind (toSpotS_ev l hl) (Ev.now _)
theorem szRing_some (l : List S89) (a : Int) (hl : l.length ≤ maxLen) (h0 : 0 ≤ a) (h1 : a ≤ 1048576) :
    ∃ r, laws_szRing.f l a = some r ∧ r ≤ a ∧ -1 ≤ r ∧ (0 ≤ r → l.length ≤ 1048576) := by
  have e : wrap64 (a - (l.length : Int)) = a - (l.length : Int) := by unfold maxLen at hl; unfold wrap64; omega
  unfold laws_szRing.f laws_szSpotS.f
  rw [e]
  by_cases c : a - (l.length : Int) < 0
  · rw [if_pos c]; exact ⟨-1, rfl, by omega, by omega, by omega⟩
  · rw [if_neg c, Option.bind_some, if_neg c]; exact ⟨_, rfl, by omega, by omega, by omega⟩
/-! ### Is it a ring? -/
theorem eqSp_loop (a b : List S63) (hl : a.length = b.length) (hn : a.length ≤ 1048576) (d : Nat) : ∀ (i : Nat), i + d = a.length → a.take i = b.take i → ∃ r, Ev (fun k => impl_Spot_54.l0 k a b (a.length : Int) (i : Int)) r ∧ (r = true ↔ a = b) := by
  induction d with
  | zero =>
    intro i hi ht
    have e : a = b := by rw [List.take_of_length_le (by omega), List.take_of_length_le (by omega)] at ht; exact ht
    refine ⟨true, Ev.step (f := fun _ => some true) (fun k => ?_) (Ev.now _), ⟨fun _ => e, fun _ => rfl⟩⟩
    simp only [impl_Spot_54.l0]; rw [if_neg (by omega)]
  | succ d ih =>
    intro i hi ht
    have h1 : i < a.length := by omega
    have h2 : i < b.length := by omega
    by_cases c : a[i] = b[i]
    · obtain ⟨r, hr, hq⟩ := ih (i + 1) (by omega) (by rw [List.take_add_one, List.take_add_one, ht, List.getElem?_eq_getElem h1, List.getElem?_eq_getElem h2, c])
      refine ⟨r, Ev.step (fun k => ?_) hr, hq⟩
      simp only [impl_Spot_54.l0]
      rw [if_pos (by omega), if_pos (by omega), if_pos (by omega), if_pos (by omega), rdT63_at a i h1, rdT63_at b i h2, c, if_neg (by simp), w64 i (by omega)]
    · refine ⟨false, Ev.step (f := fun _ => some false) (fun k => ?_) (Ev.now _), ⟨fun h => (by cases h), fun e => (by subst e; exact absurd rfl c)⟩⟩
      simp only [impl_Spot_54.l0]
      rw [if_pos (by omega), if_pos (by omega), if_pos (by omega), if_pos (by omega), rdT63_at a i h1, rdT63_at b i h2, if_pos]
      by_cases e0 : a[i].f0 = b[i].f0
      · by_cases e1 : a[i].f1 = b[i].f1
        · refine absurd ?_ c
          cases h3 : a[i] with
          | mk x0 x1 => cases h4 : b[i] with
            | mk y0 y1 => rw [h3, h4] at e0 e1; simp only at e0 e1; rw [e0, e1]
        · simp [e1]
      · simp [e0]
theorem eqSp_ev (a b : List S63) (hn : a.length ≤ 1048576) : ∃ r, Ev (fun k => impl_Spot_54.f k a b) r ∧ (r = true ↔ a = b) := by
  unfold impl_Spot_54.f
  by_cases h : a.length = b.length
  · simp only [if_pos (show (a.length : Int) = (b.length : Int) by omega)]
    exact eqSp_loop a b h hn a.length 0 (by omega) rfl
  · simp only [if_neg (show ¬ (a.length : Int) = (b.length : Int) by omega)]
    exact ⟨false, Ev.now _, ⟨fun h => (by cases h), fun e => absurd (by rw [e]) h⟩⟩
theorem ringOkI_ev (l : List S63) (hl : l.length ≤ 1048576) : ∃ b, Ev (fun k => impl_RingOk.f k l) b ∧ (b = true ↔ RingR l) := by
  unfold impl_RingOk.f impl_NodesOf.f impl_RingOf.f
  simp only [if_pos hl, Option.bind_some]
  by_cases h : validN (nodesI l) = true
  · simp only [if_pos h, Option.bind_some, if_true]
    obtain ⟨r, hr, hq⟩ := eqSp_ev (ringL (nodesI l)) l (by rw [ringL_len]; have := (validN_iff.1 h).len; omega)
    exact ⟨r, Ev.bind hr (Ev.now _), hq.trans ⟨fun e => (ringR_I l).2 ⟨validN_iff.1 h, e⟩, fun q => ((ringR_I l).1 q).2⟩⟩
  · simp only [if_neg h, Option.bind_some, Bool.false_eq_true, if_false]
    exact ⟨false, Ev.now _, ⟨fun q => (by cases q), fun q => absurd (validN_iff.2 ((ringR_I l).1 q).1) h⟩⟩

/-- A node has a spot. -/
def anyN (l : List S63) (v : Int) : Bool := l.any (fun s => decide (s.f1 = v))
theorem anyN_drop (l : List S63) (v : Int) (i : Nat) (h : i < l.length) : anyN (l.drop i) v = (decide (l[i].f1 = v) || anyN (l.drop (i + 1)) v) := by
  rw [List.drop_eq_getElem_cons h]; rfl
theorem nodesS1_loop (l : List S63) (hl : l.length ≤ 1048576) (v : Int) (hv : 0 ≤ v ∧ v ≤ 9) (acc : List Int) (ha : acc.length ≤ 100) {r : List Int} (d : Nat) : ∀ (i : Nat), i + d = l.length →
    Ev (fun k => spec_NodesOf.l0 k (if anyN (l.drop i) v = true then acc ++ [v] else acc) (v + 1) l) r → Ev (fun k => spec_NodesOf.l1 k acc v (i : Int) l) r := by
  have ew : wrap64 (v + 1) = v + 1 := by unfold wrap64; omega
  induction d with
  | zero =>
    intro i hi h
    rw [List.drop_eq_nil_of_le (by omega), show anyN [] v = false from rfl, if_neg (by decide)] at h
    refine Ev.step (fun k => ?_) h
    simp only [spec_NodesOf.l1]
    rw [if_neg (by omega), ew]
  | succ d ih =>
    intro i hi h
    have h1 : i < l.length := by omega
    rw [anyN_drop l v i h1] at h
    by_cases c : l[i].f1 = v
    · rw [decide_eq_true c, Bool.true_or, if_pos rfl] at h
      refine Ev.step (f := fun k => spec_NodesOf.l1 k (acc ++ [v]) v ((l.length + 1 : Nat) : Int) l) (fun k => ?_) (Ev.step (fun k => ?_) h)
      · simp only [spec_NodesOf.l1]
        rw [if_pos (by omega), if_pos (by omega), rdT63_at l i h1, if_pos c, if_pos (by omega), w64 l.length (by omega)]
      · simp only [spec_NodesOf.l1]
        rw [if_neg (by omega), ew]
    · rw [decide_eq_false c, Bool.false_or] at h
      refine Ev.step (fun k => ?_) (ih (i + 1) (by omega) h)
      simp only [spec_NodesOf.l1]
      rw [if_pos (by omega), if_pos (by omega), rdT63_at l i h1, if_neg c, w64 i (by omega)]
theorem nodesS0_loop (l : List S63) (hl : l.length ≤ 1048576) (d : Nat) : ∀ (v : Nat) (acc : List Int), v + d = 10 → acc.length ≤ v →
    Ev (fun k => spec_NodesOf.l0 k acc (v : Int) l) (acc ++ ((([0, 1, 2, 3, 4, 5, 6, 7, 8, 9] : List Int).drop v).filter (fun v => anyN l v))) := by
  induction d with
  | zero =>
    intro v acc hv ha
    obtain rfl : v = 10 := by omega
    refine Ev.step (f := fun _ => some acc) (fun k => ?_) (Ev.congr (fun k => ?_) (Ev.now _))
    · simp only [spec_NodesOf.l0]; rw [if_neg (by omega)]
    · simp
  | succ d ih =>
    intro v acc hv ha
    have hv9 : v ≤ 9 := by omega
    have hd : ([0, 1, 2, 3, 4, 5, 6, 7, 8, 9] : List Int).drop v = (v : Int) :: ([0, 1, 2, 3, 4, 5, 6, 7, 8, 9] : List Int).drop (v + 1) := by
      have : v = 0 ∨ v = 1 ∨ v = 2 ∨ v = 3 ∨ v = 4 ∨ v = 5 ∨ v = 6 ∨ v = 7 ∨ v = 8 ∨ v = 9 := by omega
      rcases this with rfl | rfl | rfl | rfl | rfl | rfl | rfl | rfl | rfl | rfl <;> rfl
    have h : Ev (fun k => spec_NodesOf.l0 k (if anyN l (v : Int) = true then acc ++ [(v : Int)] else acc) ((v : Int) + 1) l) (acc ++ ((([0, 1, 2, 3, 4, 5, 6, 7, 8, 9] : List Int).drop v).filter (fun v => anyN l v))) := by
      rw [hd, List.filter_cons]
      by_cases c : anyN l (v : Int) = true
      · rw [if_pos c, if_pos c]
        have := ih (v + 1) (acc ++ [(v : Int)]) (by omega) (by rw [List.length_append, List.length_singleton]; omega)
        rw [List.append_assoc] at this
        exact this
      · rw [if_neg c, if_neg c]
        exact ih (v + 1) acc (by omega) (by omega)
    have h1 := nodesS1_loop l hl (v : Int) (by omega) acc (by omega) l.length 0 (by omega) (by rw [List.drop_zero]; exact h)
    refine Ev.step (fun k => ?_) h1
    simp only [spec_NodesOf.l0]
    rw [if_pos (by omega)]
    rfl
theorem nodesOfS_ev (l : List S63) (hl : l.length ≤ 1048576) : Ev (fun k => spec_NodesOf.f k l) (nodesS l) := by
  have h := nodesS0_loop l hl 10 0 [] (by omega) (by simp)
  rw [List.drop_zero, List.nil_append] at h
  exact h
theorem okS_loop (l x : List S63) (hx : x.length = l.length) (hl : l.length ≤ 1048576) (d : Nat) : ∀ (i : Nat), i + d = l.length → x.take i = l.take i → ∃ r, Ev (fun k => spec_RingOk.l0 k (i : Int) l x) r ∧ (r = true ↔ x = l) := by
  induction d with
  | zero =>
    intro i hi ht
    have e : x = l := by rw [List.take_of_length_le (by omega), List.take_of_length_le (by omega)] at ht; exact ht
    refine ⟨true, Ev.step (f := fun _ => some true) (fun k => ?_) (Ev.now _), ⟨fun _ => e, fun _ => rfl⟩⟩
    simp only [spec_RingOk.l0]; rw [if_neg (by omega)]
  | succ d ih =>
    intro i hi ht
    have h1 : i < x.length := by omega
    have h2 : i < l.length := by omega
    by_cases c : x[i] = l[i]
    · obtain ⟨r, hr, hq⟩ := ih (i + 1) (by omega) (by rw [List.take_add_one, List.take_add_one, ht, List.getElem?_eq_getElem h1, List.getElem?_eq_getElem h2, c])
      refine ⟨r, Ev.step (fun k => ?_) hr, hq⟩
      simp only [spec_RingOk.l0]
      rw [if_pos (by omega), if_pos (by omega), if_pos (by omega), rdT63_at x i h1, rdT63_at l i h2, c, if_neg (by simp), w64 i (by omega)]
    · refine ⟨false, Ev.step (f := fun _ => some false) (fun k => ?_) (Ev.now _), ⟨fun h => (by cases h), fun e => (by subst e; exact absurd rfl c)⟩⟩
      simp only [spec_RingOk.l0]
      rw [if_pos (by omega), if_pos (by omega), if_pos (by omega), rdT63_at x i h1, rdT63_at l i h2, if_pos]
      by_cases e0 : x[i].f0 = l[i].f0
      · by_cases e1 : x[i].f1 = l[i].f1
        · refine absurd ?_ c
          cases h3 : x[i] with
          | mk x0 x1 => cases h4 : l[i] with
            | mk y0 y1 => rw [h3, h4] at e0 e1; simp only at e0 e1; rw [e0, e1]
        · simp [e1]
      · simp [e0]
theorem okS_j0 (l x : List S63) (b : Bool) : b = true → Ev (fun k => spec_RingOk.j0 k b l x) false := by
  rintro rfl
  refine Ev.step (f := fun _ => some false) (fun k => ?_) (Ev.now _)
  simp only [spec_RingOk.j0]; rw [if_pos trivial]
theorem ringOkS_ev (l : List S63) (hl : l.length ≤ 1048576) : ∃ b, Ev (fun k => spec_RingOk.f k l) b ∧ (b = true ↔ RingR l) := by
  have hn := nodesOfS_ev l hl
  have hr := ringS_ev (nodesS l)
  unfold spec_RingOk.f
  by_cases h : validN (nodesS l) = true
  · rw [if_pos h] at hr
    by_cases c : (ringL (nodesS l)).length = l.length
    · obtain ⟨r, e, hq⟩ := okS_loop l (ringL (nodesS l)) c hl l.length 0 (by omega) rfl
      refine ⟨r, Ev.bind hn (Ev.bind hr ?_), hq.trans ⟨fun e => (ringR_S l).2 ⟨validN_iff.1 h, e⟩, fun q => ((ringR_S l).1 q).2⟩⟩
      simp only [if_true]
      rw [show (((ringL (nodesS l)).length : Int) != (l.length : Int)) = false by rw [bne_eq_false_iff_eq]; omega]
      refine Ev.step (fun k => ?_) e
      simp only [spec_RingOk.j0]; rw [if_neg (by decide)]
      rfl
    · refine ⟨false, Ev.bind hn (Ev.bind hr ?_), ⟨fun q => (by cases q), fun q => absurd (by rw [((ringR_S l).1 q).2]) c⟩⟩
      simp only [if_true]
      exact okS_j0 _ _ _ (by rw [bne_iff_ne]; omega)
  · rw [if_neg h] at hr
    refine ⟨false, Ev.bind hn (Ev.bind hr ?_), ⟨fun q => (by cases q), fun q => absurd (validN_iff.2 ((ringR_S l).1 q).1) h⟩⟩
    simp only [Bool.false_eq_true, if_false]
    exact okS_j0 _ _ _ rfl
theorem FnExactRingOk : laws_FnExactRingOk.Ask := by
  intro l ⟨hl, _⟩
  apply Ev.rounds (r := true) (g := fun k => laws_FnExactRingOk.f k l)
  unfold laws_FnExactRingOk.f
  obtain ⟨r, h, _, _, hr⟩ := szRing_some l 1048576 hl (by omega) (by omega)
  simp only [h, Option.bind_some]
  by_cases c : r < 0
  · simp only [if_pos c]; exact Ev.now true
  · simp only [if_neg c]
    have hn := hr (by omega)
    have ht := toRing_ev l hn
    have hn' : (l.map cvSpot).length ≤ 1048576 := by rw [List.length_map]; exact hn
    obtain ⟨a, hS, ha⟩ := ringOkS_ev (l.map cvSpot) hn'
    obtain ⟨b, hI, hb⟩ := ringOkI_ev (l.map cvSpot) hn'
    obtain rfl : a = b := Bool.eq_iff_iff.2 (ha.trans hb.symm)
    refine Ev.bind ht (Ev.bind hS (Ev.bind ht (Ev.bind hI ?_)))
    simp only [bne_self_eq_false, Bool.false_eq_true, if_false]
    refine Ev.bind ht (Ev.bind (eqRing_ev _ hn') ?_)
    simp only [if_true]
    exact Ev.now true

end Go.Proofs.YtphicebbbkjdhaaDoor.Pure
