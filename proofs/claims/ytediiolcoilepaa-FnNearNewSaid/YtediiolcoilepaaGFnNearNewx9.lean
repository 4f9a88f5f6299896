/- Walks of the functions that the law reaches: by programs of this session, over a tool's print. -/
import Derived.Test.YtediiolcoilepaaGFnNearNewx0
import Derived.Test.YtediiolcoilepaaGFnNearNewx6
namespace Go.Proofs.Ytediiolcoilepaa.GFnNearNew
open Go.RowKit Go.Proofs.YtediiolcoilepaaW.PrintWords Go.Proofs.YtediiolcoilepaaW.PrintLast Go.Proofs.YtediiolcoilepaaW.PrintMore
attribute [local go_sem] max2_int min2_int max_two min_two max_three min_three max_four min_four   -- for this text's walks alone
set_option linter.unusedVariables false
set_option linter.unusedSimpArgs false


/-! ### slices_Concat_string_string: function 41 -/
section
set_option maxHeartbeats 1600000 in
set_option maxRecDepth 100000 in
theorem slices_Concat_string_string_grow (n : Nat) (hn : n ≤ 4194304) (w : World) :
    Calls Try.prog 72 #[.slice none 0 0, .int .i64 (n : Int)] w fun e w' => ∃ v, e = .returned v ∧ Kd.R Kd.string 9 w' w.heap.size (fun _ => True) v ([] : List ByteArray) ∧ Below w.heap.size w w' := by
  have HB := Aside0.mk (Below.refl w.heap.size w)
  have HN := Aside0.mk hn
  have n1 : ((n : Int) < 0) = False := by simp
  by_cases h0 : n = 0
  · subst h0
    go_enter Try.func72, Try.ntmps72
    go_wp2
    go_ret
    exact ⟨_, rfl, Kd.R_nil _ _ _ _ _, HB.out⟩
  · have n2 : (0 : Int) < (n : Int) := by omega
    go_enter Try.func72, Try.ntmps72
    go_wp2_with ((with_reducible refine gate_builtin (b := .append) (xs := #[.tmp 20, .tmp 21]) rfl ?_); at_builtin; refine Kd.R_append_zeros Kd.string (w0 := w) w.heap.size rfl (.tmp 20) (.tmp 21) 28 3 9 (.string ⟨#[]⟩) 16 rfl Try.underlying28 Try.underlying3 info9 rfl (by decide) (by omega) (.slice none 0 0) [] (⟨#[]⟩ : ByteArray) (n : Int) (fun _ => True) rfl rfl ?aZ (fun _ _ => trivial) (Kd.R_nil _ _ _ _ _) ?a0 ?aB ?aS ?aL ?_; (case aZ => exact (FS.M _ _ _ _ _).2 rfl); (case a0 => omega); (case aB => exact HB.out); (case aS => exact Nat.le_refl _); (case aL => have := HN.out; simp only [List.length_nil, Int.toNat_natCast]; omega); intro v1 w1 ho1 hb1 hg_ hat_; clear hg_ hat_; obtain ⟨Ao, co, eo⟩ := Kd.R_slice ho1; subst eo; have HO := Aside0.mk (Kd.R_take ho1 (Nat.zero_le _)); have HB1 := Aside0.mk hb1; clear ho1 hb1 HB)
    go_ret
    exact ⟨_, rfl, by simpa using HO.out, HB1.out⟩
/-- A row of rows that is read: one of its rows. -/
theorem slices_Concat_string_string_at {w : World} {A : Option Addr} {n : Nat} {xs : List (List ByteArray)} (h : Kd.C (Kd.slice 9 Kd.string) w A n xs) (i : Nat) (hi : i < n) : ∃ ad A0 c0, A = some ad ∧ w.cell? (ad.add i) = some (.slice A0 (xs.getD i []).length c0) ∧ (xs.getD i []).length ≤ c0 ∧ Kd.C Kd.string w A0 (xs.getD i []).length (xs.getD i []) := by
  obtain ⟨ad, c, e, _, hK, hc⟩ := Kd.C_get h ([] : List ByteArray) (i : Int) (by omega) (by omega)
  obtain ⟨A0, c0, rfl, h1, h2⟩ := hK
  have := hc 0 _ rfl
  rw [Int.toNat_natCast, show (Kd.slice 9 Kd.string).sz = 1 from rfl, Nat.mul_one, Nat.add_zero] at this
  exact ⟨ad, A0, c0, e, this, h1, h2⟩
theorem slices_Concat_string_string_sum (l : List (List ByteArray)) (k : Nat) (hk : k < l.length) : ((l.take (k + 1)).map List.length).sum = ((l.take k).map List.length).sum + (l.getD k []).length := by
  rw [List.take_add_one, List.map_append, List.sum_append, List.getElem?_eq_getElem hk, List.getD_eq_getElem?_getD, List.getElem?_eq_getElem hk]; simp
theorem slices_Concat_string_string_flat (l : List (List ByteArray)) (k : Nat) (hk : k < l.length) : (l.take (k + 1)).flatten = (l.take k).flatten ++ l.getD k [] := by
  rw [List.take_add_one, List.flatten_append, List.getElem?_eq_getElem hk, List.getD_eq_getElem?_getD, List.getElem?_eq_getElem hk]; simp
theorem slices_Concat_string_string_le (l : List (List ByteArray)) (k : Nat) : ((l.take k).map List.length).sum ≤ (l.map List.length).sum := by
  conv => rhs; rw [← List.take_append_drop k l]
  rw [List.map_append, List.sum_append]; omega
def slices_Concat_string_string.f (l0 : List (List ByteArray)) : Option (List ByteArray) := if (l0.map List.length).sum ≤ 4194304 then some l0.flatten else none
set_option maxHeartbeats 1600000 in
set_option maxRecDepth 100000 in
theorem slices_Concat_string_string.calls (A0 : Option Addr) (c0 : Nat) (l0 : List (List ByteArray)) (r : List ByteArray) (w : World) (hr0 : Kd.C (Kd.slice 9 Kd.string) w A0 l0.length l0) (hc0 : l0.length ≤ c0) (h : slices_Concat_string_string.f l0 = some r) :
    Calls Try.prog 41 #[.slice A0 l0.length c0] w fun e w' => ∃ v0_ : Value, e = .returned (v0_) ∧ Kd.R Kd.string 9 w' w.heap.size (fun _ => True) v0_ r ∧ Below w.heap.size w w' := by
  unfold slices_Concat_string_string.f at h
  split at h
  case isFalse => cases h
  case isTrue hs =>
  obtain rfl := Option.some.inj h
  have hmax : l0.length ≤ 9223372036854775807 := Kd.C_max hr0
  have HM := Aside0.mk hmax
  have HS := Aside0.mk hs
  have HR := Aside0.mk hr0
  clear h hs hr0 hmax
  go_enter Try.func41, Try.ntmps41
  go_wp2
  go_loop [3, 5, 11] (fun v3 v5 v11 => ∃ k : Nat, k ≤ l0.length ∧ v11 = .int .i64 k ∧ v3 = .int .i64 (((l0.take k).map List.length).sum : Nat)) (fun _ _ v11 => l0.length - (intOf v11).toNat)
  case atStart => exact ⟨0, Nat.zero_le _, rfl, rfl⟩
  case round =>
    obtain ⟨k, hk, rfl, rfl⟩ := hrel
    by_cases hlt : k < l0.length
    · have hsum := slices_Concat_string_string_sum l0 k hlt
      have hle := Nat.le_trans (slices_Concat_string_string_le l0 (k + 1)) HS.out
      obtain ⟨ad, B0, cB, e0, hcell, _, _⟩ := slices_Concat_string_string_at HR.out k hlt
      cases e0
      generalize (l0.getD k []).length = y at hcell hsum
      obtain ⟨s, hs⟩ : ∃ s : Nat, s = ((l0.take k).map List.length).sum := ⟨_, rfl⟩
      have hsy : s + y ≤ 4194304 := by omega
      have HE := Aside0.mk (hs ▸ hsum)
      rw [← hs]
      have HY := Aside0.mk hsy
      have p1 := eq_true (show (0 : Int) ≤ (k : Int) by omega)
      have p2 := eq_true (show (k : Int) < (l0.length : Int) by omega)
      have p3 : IntKind.i64.wrap ((s : Int) + (y : Int)) = ((s + y : Nat) : Int) := by unfold IntKind.wrap; simp [IntKind.bits, IntKind.signed]; omega
      have p4 : (((s + y : Nat) : Int) < 0) = False := by simp; omega
      have hklt := Aside0.mk hlt
      clear hsum hle hs hsy hlt hk
      go_wp2
      go_round
      case rel => exact ⟨k + 1, hklt.out, by have := HM.out; have := hklt.out; rw [show wrap64 ((k : Int) + 1) = ((k + 1 : Nat) : Int) by unfold wrap64; omega], by rw [HE.out]; rfl⟩
      case measure => have := HM.out; have := hklt.out; rw [show wrap64 ((k : Int) + 1) = ((k + 1 : Nat) : Int) by unfold wrap64; omega]; simp [intOf]; omega
    · have hkl : k = l0.length := by omega
      subst hkl
      rw [List.take_length]
      obtain ⟨s, hs⟩ : ∃ s : Nat, s = (l0.map List.length).sum := ⟨_, rfl⟩
      have hsb := HS.out
      rw [← hs] at hsb ⊢
      have HSB := Aside0.mk hsb
      clear hs hlt hk hsb
      have HB := Aside0.mk (Below.refl w.heap.size w)
      go_wp2_with (go_at_call 72; refine (slices_Concat_string_string_grow s HSB.out _).mono ?_; rintro e w1 ⟨v1, rfl, ho1, hb1⟩; have HO := Aside0.mk ho1; have HB1 := Aside0.mk hb1; clear HB ho1 hb1)
      go_loopw [6, 8, 27] (fun v6 v8 v27 wr => ∃ k : Nat, k ≤ l0.length ∧ v27 = .int .i64 k ∧ Aside0 (Kd.R Kd.string 9 wr w.heap.size (fun _ => True) v6 (l0.take k).flatten) ∧ Aside0 (Below w.heap.size w wr)) (fun _ _ v27 _ => l0.length - (intOf v27).toNat)
      case atStart => exact ⟨0, Nat.zero_le _, rfl, HO, HB1⟩
      case round =>
        clear HO HB1
        obtain ⟨k, hk, rfl, HO, HB⟩ := hrel
        by_cases hlt : k < l0.length
        · have hsum := slices_Concat_string_string_sum l0 k hlt
          have hle := Nat.le_trans (slices_Concat_string_string_le l0 (k + 1)) HS.out
          have hlf : (l0.take k).flatten.length = ((l0.take k).map List.length).sum := List.length_flatten
          have hfl := slices_Concat_string_string_flat l0 k hlt
          obtain ⟨ad, B0, cB, e0, hcell, hlen, hC⟩ := slices_Concat_string_string_at (Kd.C_below HR.out HB.out) k hlt
          cases e0
          obtain ⟨ys, hys⟩ : ∃ ys, ys = l0.getD k [] := ⟨_, rfl⟩
          obtain ⟨xs, hxs⟩ : ∃ xs, xs = (l0.take k).flatten := ⟨_, rfl⟩
          rw [← hys] at hcell hlen hC hsum hfl
          rw [← hxs] at HO hlf hfl
          have HL := Aside0.mk (show xs.length + ys.length ≤ 4194304 by omega)
          have HC := Aside0.mk hC
          have HF := Aside0.mk hfl
          have p1 := eq_true (show (0 : Int) ≤ (k : Int) by omega)
          have p2 := eq_true (show (k : Int) < (l0.length : Int) by omega)
          have hklt := Aside0.mk hlt
          clear hsum hle hlf hfl hlen hC hys hxs hlt hk
          go_wp2_with ((with_reducible refine gate_builtin (b := .append) (xs := #[.tmp 31, .tmp 32]) rfl ?_); at_builtin; refine Kd.R_append_rows Kd.string (w0 := w) w.heap.size rfl (.tmp 31) (.tmp 32) 28 9 (.string ⟨#[]⟩) 16 rfl Try.underlying28 info9 rfl (by decide) (by omega) _ xs ys _ _ _ (fun _ => True) (fun _ => False) rfl rfl HO.out HC.out ?aM (fun _ h => h.elim) (fun _ _ => trivial) HB.out ?aS ?aL ?_; (case aM => exact fun _ _ h => (FS.M _ _ _ _ _).2 ((FS.K _ _ _).1 h)); (case aS => exact below_size HB.out); (case aL => have := HL.out; omega); intro v1 w9 ho hb hg hat; have HO9 := Aside0.mk ho; have HB9 := Aside0.mk hb; clear HO HB ho hb hg hat hcell)
          go_roundw
          case rel => exact ⟨k + 1, hklt.out, by have := HM.out; have := hklt.out; rw [show wrap64 ((k : Int) + 1) = ((k + 1 : Nat) : Int) by unfold wrap64; omega], HF.out ▸ HO9, HB9⟩
          case measure => have := HM.out; have := hklt.out; rw [show wrap64 ((k : Int) + 1) = ((k + 1 : Nat) : Int) by unfold wrap64; omega]; simp [intOf]; omega
        · have hkl : k = l0.length := by omega
          subst hkl
          rw [List.take_length] at HO
          go_wp2
          go_ret
          exact ⟨_, rfl, HO.out, HB.out⟩
end

/-! ### slices_Equal_string_string: function 44 -/
def slices_Equal_string_string.l0 : Nat → List ByteArray → List ByteArray → Int → Int → Option (Bool)
 |0, _, _, _, _ => none
 |k + 1, x0, x1, x12, x13 => if x13 < x12 then (if 0 ≤ x13 then (if x13 < (x0.length : Int) then (if x13 < (x1.length : Int) then (if (rdOf ByteArray.empty x0 x13).toList = (rdOf ByteArray.empty x1 x13).toList then (slices_Equal_string_string.l0 k x0 x1 x12 (wrap64 (x13 + 1))) else (some false)) else (none)) else (none)) else (none)) else (some true)
def slices_Equal_string_string.f (k : Nat) (l0 : List ByteArray) (l1 : List ByteArray) : Option (Bool) := if (l0.length : Int) = (l1.length : Int) then (slices_Equal_string_string.l0 k l0 l1 (l0.length : Int) 0) else (some false)
theorem slices_Equal_string_string.mono_l : ∀ k, (∀ y0 y1 y2 y3, LeO (slices_Equal_string_string.l0 k y0 y1 y2 y3) (slices_Equal_string_string.l0 (k + 1) y0 y1 y2 y3))
 |0 => fun _ _ _ _ r h => by simp [slices_Equal_string_string.l0] at h
 |k + 1 => by
    have ih0 := slices_Equal_string_string.mono_l k
    · intro y0 y1 y2 y3
      unfold slices_Equal_string_string.l0
      repeat' first
     |(with_reducible exact ih0 _ _ _ _)
     |(with_reducible exact LeO.refl _)
     |(with_reducible exact LeO.none _)
     |(with_reducible refine LeO.ite ?_ ?_)
     |(with_reducible refine LeO.bind ?_ (fun _ => ?_))
     |exact ih0 _ _ _ _
     |exact LeO.none _
     |refine LeO.ite ?_ ?_
     |refine LeO.bind ?_ (fun _ => ?_)
theorem slices_Equal_string_string.mono : ∀ a0 a1 k, LeO (slices_Equal_string_string.f k a0 a1) (slices_Equal_string_string.f (k + 1) a0 a1) := by
  intro a0 a1 k
  have ih0 := slices_Equal_string_string.mono_l k
  unfold slices_Equal_string_string.f
  repeat' first
     |(with_reducible exact ih0 _ _ _ _)
     |(with_reducible exact LeO.refl _)
     |(with_reducible exact LeO.none _)
     |(with_reducible refine LeO.ite ?_ ?_)
     |(with_reducible refine LeO.bind ?_ (fun _ => ?_))
     |exact ih0 _ _ _ _
     |exact LeO.none _
     |refine LeO.ite ?_ ?_
     |refine LeO.bind ?_ (fun _ => ?_)
set_option maxHeartbeats 8000000 in
set_option maxRecDepth 100000 in
theorem slices_Equal_string_string.calls (k : Nat) (A0 : Option Addr) (c0 : Nat) (l0 : List ByteArray) (A1 : Option Addr) (c1 : Nat) (l1 : List ByteArray) (r : Bool) (w : World) (hr0 : Kd.C Kd.string w A0 l0.length l0) (hc0 : l0.length ≤ c0) (hr1 : Kd.C Kd.string w A1 l1.length l1) (hc1 : l1.length ≤ c1) (h : slices_Equal_string_string.f k l0 l1 = some r) :
    Calls Try.prog 44 #[.slice A0 l0.length c0, .slice A1 l1.length c1] w fun e w' => e = .returned (.bool r) ∧ Drawn0 w w' := by
  have HR0 := Aside0.mk hr0
  have HC0 := Aside0.mk hc0
  clear hr0 hc0
  have HR1 := Aside0.mk hr1
  have HC1 := Aside0.mk hc1
  clear hr1 hc1
  have H : (if (l0.length : Int) = (l1.length : Int) then (slices_Equal_string_string.l0 k l0 l1 (l0.length : Int) 0) else (some false)) = some r := h
  clear h
  by_cases c3 : (l0.length : Int) = (l1.length : Int)
  · rw [if_pos c3] at H
    have c3b0 : ((l0.length : Int) == (l1.length : Int)) = true := beq_iff_eq.mpr c3
    have c3b1 : ((l0.length : Int) != (l1.length : Int)) = false := bne_eq_false_iff_eq.mpr c3
    have c3b2 : (l0.length == l1.length) = true := by first|simpa using c3|(simp at c3 ⊢; omega)
    clear c3
    have H' := Aside0.mk H
    clear H
    go_enter Try.func44, Try.ntmps44
    go_wp2
    repeat (go_quiet (fail); try go_wp2)
    go_loopg [13] k (fun kq v13 w' => ∃ (x13_1 : Int), v13 = .int .i64 x13_1 ∧ Aside0 (slices_Equal_string_string.l0 kq l0 l1 (l0.length : Int) x13_1 = some r) ∧ Aside0 (kq ≤ k) ∧ Drawn0 w w')
    case atStart => exact ⟨(0), (by first|rfl|(simp; done)|(simp [*]; done)), H', ⟨Nat.le_refl _⟩, by repeat (first|exact Drawn0.refl _|apply Drawn0.step)⟩
    case round =>
      clear H'
      try clear c1
      try clear p2
      try clear c3
      try clear c3b0
      try clear c3b1
      try clear c3b2
      obtain ⟨x13_1, rfl, HA, HK1, ⟨m1, rfl⟩⟩ := hrel
      cases gk with
     |zero => exact absurd HA.out (by simp [slices_Equal_string_string.l0])
     |succ k1 =>
        have H := HA.out
        clear HA
        simp only [slices_Equal_string_string.l0] at H
        by_cases c4 : x13_1 < (l0.length : Int)
        · rw [if_pos c4] at H
          have c4b0 : decide (x13_1 < (l0.length : Int)) = true := decide_eq_true c4
          clear c4
          by_cases c5 : 0 ≤ x13_1
          · rw [if_pos c5] at H
            have c5b0 : decide (0 ≤ x13_1) = true := decide_eq_true c5
            clear c5
            by_cases c6 : x13_1 < (l0.length : Int)
            · rw [if_pos c6] at H
              have c6b0 : decide (x13_1 < (l0.length : Int)) = true := decide_eq_true c6
              clear c6
              by_cases c7 : x13_1 < (l1.length : Int)
              · rw [if_pos c7] at H
                have c7b0 : decide (x13_1 < (l1.length : Int)) = true := decide_eq_true c7
                clear c7
                by_cases c8 : (rdOf ByteArray.empty l0 x13_1).toList = (rdOf ByteArray.empty l1 x13_1).toList
                · rw [if_pos c8] at H
                  have c8b0 : ((rdOf ByteArray.empty l0 x13_1).toList == (rdOf ByteArray.empty l1 x13_1).toList) = true := beq_iff_eq.mpr c8
                  have c8b1 : ((rdOf ByteArray.empty l0 x13_1).toList != (rdOf ByteArray.empty l1 x13_1).toList) = false := bne_eq_false_iff_eq.mpr c8
                  clear c8
                  have H' := Aside0.mk H
                  clear H
                  have p348 : 0 ≤ (x13_1 : Int) := of_decide_eq_true (by first|(with_reducible assumption)|assumption)
                  have q348 : x13_1 < (l0.length : Int) := of_decide_eq_true (by first|(with_reducible assumption)|assumption)
                  obtain ⟨ad348, e348, hx348_0⟩ := Kd.at_string HR0.out x13_1 p348 q348
                  cases e348
                  replace p348 := eq_true p348
                  replace q348 := eq_true q348
                  have p349 : 0 ≤ (x13_1 : Int) := of_decide_eq_true (by first|(with_reducible assumption)|assumption)
                  have q349 : x13_1 < (l1.length : Int) := of_decide_eq_true (by first|(with_reducible assumption)|assumption)
                  obtain ⟨ad349, e349, hx349_0⟩ := Kd.at_string HR1.out x13_1 p349 q349
                  cases e349
                  replace p349 := eq_true p349
                  replace q349 := eq_true q349
                  go_wp2
                  repeat (go_quiet (fail); try go_wp2)
                  go_roundg k1
                  case measure => have := HK1.out; omega
                  case rel => exact ⟨(wrap64 (x13_1 + 1)), (by first|rfl|(simp; done)|(simp [*]; done)), H', ⟨by have := HK1.out; omega⟩, by repeat (first|exact Drawn0.refl _|apply Drawn0.step)⟩
                · rw [if_neg c8] at H
                  have c8b0 : ((rdOf ByteArray.empty l0 x13_1).toList == (rdOf ByteArray.empty l1 x13_1).toList) = false := beq_eq_false_iff_ne.mpr c8
                  have c8b1 : ((rdOf ByteArray.empty l0 x13_1).toList != (rdOf ByteArray.empty l1 x13_1).toList) = true := bne_iff_ne.mpr c8
                  obtain rfl := Option.some.inj H
                  have p348 : 0 ≤ (x13_1 : Int) := of_decide_eq_true (by first|(with_reducible assumption)|assumption)
                  have q348 : x13_1 < (l0.length : Int) := of_decide_eq_true (by first|(with_reducible assumption)|assumption)
                  obtain ⟨ad348, e348, hx348_0⟩ := Kd.at_string HR0.out x13_1 p348 q348
                  cases e348
                  replace p348 := eq_true p348
                  replace q348 := eq_true q348
                  have p349 : 0 ≤ (x13_1 : Int) := of_decide_eq_true (by first|(with_reducible assumption)|assumption)
                  have q349 : x13_1 < (l1.length : Int) := of_decide_eq_true (by first|(with_reducible assumption)|assumption)
                  obtain ⟨ad349, e349, hx349_0⟩ := Kd.at_string HR1.out x13_1 p349 q349
                  cases e349
                  replace p349 := eq_true p349
                  replace q349 := eq_true q349
                  go_wp2
                  repeat (go_quiet (fail); try go_wp2)
                  go_ret
                  exact ⟨by first|rfl|(simp; done)|(simp [*]; done), by repeat (first|exact Drawn0.refl _|apply Drawn0.step)⟩
              · rw [if_neg c7] at H
                exact absurd H (by simp)
            · rw [if_neg c6] at H
              exact absurd H (by simp)
          · rw [if_neg c5] at H
            exact absurd H (by simp)
        · rw [if_neg c4] at H
          have c4b0 : decide (x13_1 < (l0.length : Int)) = false := decide_eq_false c4
          clear c4
          obtain rfl := Option.some.inj H
          go_wp2
          repeat (go_quiet (fail); try go_wp2)
          go_ret
          exact ⟨by first|rfl|(simp; done)|(simp [*]; done), by repeat (first|exact Drawn0.refl _|apply Drawn0.step)⟩
  · rw [if_neg c3] at H
    have c3b0 : ((l0.length : Int) == (l1.length : Int)) = false := beq_eq_false_iff_ne.mpr c3
    have c3b1 : ((l0.length : Int) != (l1.length : Int)) = true := bne_iff_ne.mpr c3
    have c3b2 : (l0.length == l1.length) = false := by first|simpa using c3|(simp at c3 ⊢; omega)
    obtain rfl := Option.some.inj H
    go_enter Try.func44, Try.ntmps44
    go_wp2
    repeat (go_quiet (fail); try go_wp2)
    go_ret
    exact ⟨by first|rfl|(simp; done)|(simp [*]; done), by repeat (first|exact Drawn0.refl _|apply Drawn0.step)⟩

/-! ### impl_Table_find: function 45 -/
def impl_Table_find.f (k : Nat) (l0_0 : List (S103)) (l0_1 : List (S103)) (a0_2 : Int) (a1 : ByteArray) : Option (Int × Bool) := (impl_seek.f k l0_0 a1).bind fun t351 => (if t351 ≥ 0 then (if 0 ≤ t351 then (if t351 < (l0_0.length : Int) then (some ((rd_T103 l0_0 t351).f1, true)) else (none)) else (none)) else ((impl_seek.f k l0_1 a1).bind fun t353 => (if t353 ≥ 0 then (if 0 ≤ t353 then (if t353 < (l0_1.length : Int) then (some ((rd_T103 l0_1 t353).f1, true)) else (none)) else (none)) else (some (0, false)))))
theorem impl_Table_find.mono : ∀ a0 a1 a2 a3 k, LeO (impl_Table_find.f k a0 a1 a2 a3) (impl_Table_find.f (k + 1) a0 a1 a2 a3) := by
  intro a0 a1 a2 a3 k
  unfold impl_Table_find.f
  repeat' first
     |(with_reducible exact impl_seek.mono _ _ _)
     |(with_reducible exact LeO.refl _)
     |(with_reducible exact LeO.none _)
     |(with_reducible refine LeO.ite ?_ ?_)
     |(with_reducible refine LeO.bind ?_ (fun _ => ?_))
     |exact impl_seek.mono _ _ _
     |exact LeO.none _
     |refine LeO.ite ?_ ?_
     |refine LeO.bind ?_ (fun _ => ?_)
set_option maxHeartbeats 8000000 in
set_option maxRecDepth 100000 in
theorem impl_Table_find.calls (k : Nat) (A0_0 : Option Addr) (c0_0 : Nat) (l0_0 : List (S103)) (A0_1 : Option Addr) (c0_1 : Nat) (l0_1 : List (S103)) (a0_2 : Int) (a1 : ByteArray) (r1 : Int) (r2 : Bool) (w : World) (hr0_0 : Kd.C k103 w A0_0 l0_0.length l0_0) (hc0_0 : l0_0.length ≤ c0_0) (hr0_1 : Kd.C k103 w A0_1 l0_1.length l0_1) (hc0_1 : l0_1.length ≤ c0_1) (h : impl_Table_find.f k l0_0 l0_1 a0_2 a1 = some (r1, r2)) :
    Calls Try.prog 45 #[.agg #[.slice A0_0 l0_0.length c0_0, .slice A0_1 l0_1.length c0_1, .int .i64 a0_2], .string a1] w fun e w' => e = .returned (.tuple #[.int .i64 r1, .bool r2]) ∧ Below w.heap.size w w' := by
  have hu27 := Try.underlying27
  have HR0_0 := Aside0.mk hr0_0
  have HC0_0 := Aside0.mk hc0_0
  clear hr0_0 hc0_0
  have HR0_1 := Aside0.mk hr0_1
  have HC0_1 := Aside0.mk hc0_1
  clear hr0_1 hc0_1
  have HB := Aside0.mk (Below.refl w.heap.size w)
  have H : ((impl_seek.f k l0_0 a1).bind fun t351 => (if t351 ≥ 0 then (if 0 ≤ t351 then (if t351 < (l0_0.length : Int) then (some ((rd_T103 l0_0 t351).f1, true)) else (none)) else (none)) else ((impl_seek.f k l0_1 a1).bind fun t353 => (if t353 ≥ 0 then (if 0 ≤ t353 then (if t353 < (l0_1.length : Int) then (some ((rd_T103 l0_1 t353).f1, true)) else (none)) else (none)) else (some (0, false)))))) = some (r1, r2) := h
  clear h
  replace H := Option.bind_eq_some_iff.mp H
  obtain ⟨t351, A30, H⟩ := H
  replace H : (if t351 ≥ 0 then (if 0 ≤ t351 then (if t351 < (l0_0.length : Int) then (some ((rd_T103 l0_0 t351).f1, true)) else (none)) else (none)) else ((impl_seek.f k l0_1 a1).bind fun t353 => (if t353 ≥ 0 then (if 0 ≤ t353 then (if t353 < (l0_1.length : Int) then (some ((rd_T103 l0_1 t353).f1, true)) else (none)) else (none)) else (some (0, false))))) = some (r1, r2) := H
  have A3 := Aside0.mk A30
  clear A30
  go_enter Try.func45, Try.ntmps45
  go_wp2_with (first|((with_reducible refine gate_dst (N := 2) rfl ?_); refine box_event ?hg (N := 2) ?hd (cs := #[.slice A0_0 l0_0.length c0_0, .slice A0_1 l0_1.length c0_1, .int .i64 a0_2]) (t := 27) ?hr ?_; (case hd => rfl); (case hg => rfl); (case hr => first|(go_simp; done)|(go_simp; rfl)); intro gb350 hg w7 hbox hb; have n0_ := Aside0.mk (zN (by repeat (first|(with_reducible first|exact HB.out|apply zI|apply zG|apply zH)|exact HB.out)) hb); have n1_ := Aside0.mk (hbox); have n2_ := Aside0.mk ((by rw [hg]; exact (below_size (by repeat (first|(with_reducible first|exact HB.out|apply zI|apply zG|apply zH)|exact HB.out))) : w.heap.size ≤ gb350)); have n3_ := Aside0.mk ((by rw [hg]; exact (below_size (by repeat (first|(with_reducible first|exact HB.out|apply zI|apply zG|apply zH)|exact HB.out))) : w.heap.size ≤ gb350)); clear HB; have HB := n0_; have BK350 := n1_; have GW350 := n2_; have GE350 := n3_; clear n0_ n1_ n2_ n3_; clear hb hbox hg; obtain ⟨hcz8_0, hcz8_1, hcz8_2, hfz8_0, hfz8_1, hfz8_2⟩ := zb3 BK350.out)|((with_reducible refine gate_callee (f := 76) rfl ?_); refine goesL_ (some 11) rfl rfl Try.func76 (by kernel_rfl) rfl #[.slice A0_0 l0_0.length c0_0, .string a1] rfl (by (try simp only [List.map_toArray, List.map_cons, List.map_nil]); first|done|rfl|(simp only [List.length_drop, List.length_take]; rfl)) ?_; (with_reducible refine (impl_seek.calls k _ _ l0_0 a1 t351 _ ?side1 ?side2 A3.out).mono ?_); (case side1 => repeat (first|exact (Kd.C_below HR0_0.out HB.out)|(with_reducible refine Kd.C_alloc ?_ _)|(with_reducible refine Kd.C_drewN ?_ _)|(with_reducible refine Kd.C_drew ?_))); (case side2 => exact HC0_0.out); rintro e w9 ⟨rfl, hb⟩; refine ⟨_, rfl, ?_⟩; have n0_ := Aside0.mk (zK (g := gb350) (o := .cells #[.slice A0_0 l0_0.length c0_0, .slice A0_1 l0_1.length c0_1, .int .i64 a0_2] 27 (0, 0)) (by (with_reducible repeat (first|refine zA ?_ _|refine zC ?_|refine zB ?_ _)); exact BK350.out) hb); have n1_ := Aside0.mk (zN (by repeat (first|(with_reducible first|exact HB.out|apply zI|apply zG|apply zH|refine zJ ?_ GE350.out)|exact HB.out)) hb); clear BK350; clear HB; have BK350 := n0_; have HB := n1_; clear n0_ n1_; (try clear hb); (try clear hb2); (try clear hk); (try clear hi); obtain ⟨hcz10_0, hcz10_1, hcz10_2, hfz10_0, hfz10_1, hfz10_2⟩ := zb3 BK350.out; (refine Classical.byCases (p := (t351 ≥ 0)) (fun c4 => ?zp29) (fun c4 => ?zn29); (case' zn29 => (rw [if_neg c4] at H); (have c4b0 : decide (0 ≤ t351) = false := decide_eq_false c4); (clear c4); (replace H := Option.bind_eq_some_iff.mp H); (obtain ⟨t353, A110, H⟩ := H); (replace H : (if t353 ≥ 0 then (if 0 ≤ t353 then (if t353 < (l0_1.length : Int) then (some ((rd_T103 l0_1 t353).f1, true)) else (none)) else (none)) else (some (0, false))) = some (r1, r2) := H); (have A11 := Aside0.mk A110); (clear A110)); (case' zp29 => (rw [if_pos c4] at H); (have c4b0 : decide (0 ≤ t351) = true := decide_eq_true c4); (clear c4); (refine Classical.byCases (p := (0 ≤ t351)) (fun c5 => ?zp25) (fun c5 => ?zn25); (case' zn25 => (rw [if_neg c5] at H); (exact absurd H (by simp))); (case' zp25 => (rw [if_pos c5] at H); (have c5b0 : decide (0 ≤ t351) = true := decide_eq_true c5); (clear c5); (refine Classical.byCases (p := (t351 < (l0_0.length : Int))) (fun c6 => ?zp24) (fun c6 => ?zn24); (case' zn24 => (rw [if_neg c6] at H); (exact absurd H (by simp))); (case' zp24 => (rw [if_pos c6] at H); (have c6b0 : decide (t351 < (l0_0.length : Int)) = true := decide_eq_true c6); (clear c6); (simp only [Option.some.injEq, Prod.mk.injEq] at H); (obtain ⟨rfl, rfl⟩ := H); (have p352 : 0 ≤ (t351 : Int) := of_decide_eq_true (by first|(with_reducible assumption)|assumption)); (have q352 : t351 < (l0_0.length : Int) := of_decide_eq_true (by first|(with_reducible assumption)|assumption)); (obtain ⟨ad352, e352, hx352_0, hx352_1⟩ := at_T103 HR0_0.out t351 p352 q352); (cases e352); (replace hx352_0 := (HB.out.cell (World.block_lt_of_cell? w _ hx352_0)).trans hx352_0); (replace hx352_1 := (HB.out.cell (World.block_lt_of_cell? w _ hx352_1)).trans hx352_1); (replace p352 := eq_true p352); (replace q352 := eq_true q352))))))))|((with_reducible refine gate_callee (f := 76) rfl ?_); refine goesL_ (some 23) rfl rfl Try.func76 (by kernel_rfl) rfl #[.slice A0_1 l0_1.length c0_1, .string a1] rfl (by (try simp only [List.map_toArray, List.map_cons, List.map_nil]); first|done|rfl|(simp only [List.length_drop, List.length_take]; rfl)) ?_; (with_reducible refine (impl_seek.calls k _ _ l0_1 a1 t353 _ ?side1 ?side2 A11.out).mono ?_); (case side1 => repeat (first|exact (Kd.C_below HR0_1.out HB.out)|(with_reducible refine Kd.C_alloc ?_ _)|(with_reducible refine Kd.C_drewN ?_ _)|(with_reducible refine Kd.C_drew ?_))); (case side2 => exact HC0_1.out); rintro e w19 ⟨rfl, hb⟩; refine ⟨_, rfl, ?_⟩; have n0_ := Aside0.mk (zK (g := gb350) (o := .cells #[.slice A0_0 l0_0.length c0_0, .slice A0_1 l0_1.length c0_1, .int .i64 a0_2] 27 (0, 0)) (by (with_reducible repeat (first|refine zA ?_ _|refine zC ?_|refine zB ?_ _)); exact BK350.out) hb); have n1_ := Aside0.mk (zN (by repeat (first|(with_reducible first|exact HB.out|apply zI|apply zG|apply zH|refine zJ ?_ GE350.out)|exact HB.out)) hb); clear BK350; clear HB; have BK350 := n0_; have HB := n1_; clear n0_ n1_; (try clear hb); (try clear hb2); (try clear hk); (try clear hi); obtain ⟨hcz20_0, hcz20_1, hcz20_2, hfz20_0, hfz20_1, hfz20_2⟩ := zb3 BK350.out; (refine Classical.byCases (p := (t353 ≥ 0)) (fun c12 => ?zp28) (fun c12 => ?zn28); (case' zn28 => (rw [if_neg c12] at H); (have c12b0 : decide (0 ≤ t353) = false := decide_eq_false c12); (clear c12); (simp only [Option.some.injEq, Prod.mk.injEq] at H); (obtain ⟨rfl, rfl⟩ := H)); (case' zp28 => (rw [if_pos c12] at H); (have c12b0 : decide (0 ≤ t353) = true := decide_eq_true c12); (clear c12); (refine Classical.byCases (p := (0 ≤ t353)) (fun c13 => ?zp27) (fun c13 => ?zn27); (case' zn27 => (rw [if_neg c13] at H); (exact absurd H (by simp))); (case' zp27 => (rw [if_pos c13] at H); (have c13b0 : decide (0 ≤ t353) = true := decide_eq_true c13); (clear c13); (refine Classical.byCases (p := (t353 < (l0_1.length : Int))) (fun c14 => ?zp26) (fun c14 => ?zn26); (case' zn26 => (rw [if_neg c14] at H); (exact absurd H (by simp))); (case' zp26 => (rw [if_pos c14] at H); (have c14b0 : decide (t353 < (l0_1.length : Int)) = true := decide_eq_true c14); (clear c14); (simp only [Option.some.injEq, Prod.mk.injEq] at H); (obtain ⟨rfl, rfl⟩ := H); (have p354 : 0 ≤ (t353 : Int) := of_decide_eq_true (by first|(with_reducible assumption)|assumption)); (have q354 : t353 < (l0_1.length : Int) := of_decide_eq_true (by first|(with_reducible assumption)|assumption)); (obtain ⟨ad354, e354, hx354_0, hx354_1⟩ := at_T103 HR0_1.out t353 p354 q354); (cases e354); (replace hx354_0 := (HB.out.cell (World.block_lt_of_cell? w _ hx354_0)).trans hx354_0); (replace hx354_1 := (HB.out.cell (World.block_lt_of_cell? w _ hx354_1)).trans hx354_1); (replace p354 := eq_true p354); (replace q354 := eq_true q354)))))))))
  · go_ret2
    exact ⟨by first|rfl|(simp [errW_none, errW_some] <;> rfl)|(simp [*, errW_none, errW_some] <;> rfl), by repeat (first|(with_reducible first|exact HB.out|apply zI|apply zG|apply zH|refine zJ ?_ GE350.out)|exact HB.out)⟩
  · go_ret2
    exact ⟨by first|rfl|(simp [errW_none, errW_some] <;> rfl)|(simp [*, errW_none, errW_some] <;> rfl), by repeat (first|(with_reducible first|exact HB.out|apply zI|apply zG|apply zH|refine zJ ?_ GE350.out)|exact HB.out)⟩
  · go_ret2
    exact ⟨by first|rfl|(simp [errW_none, errW_some] <;> rfl)|(simp [*, errW_none, errW_some] <;> rfl), by repeat (first|(with_reducible first|exact HB.out|apply zI|apply zG|apply zH|refine zJ ?_ GE350.out)|exact HB.out)⟩

/-! ### impl_Arena_handle: function 77 -/
def impl_Arena_handle.f (l0_0 : List (S73)) (a0_1 : Int) (a1 : Int) : Option (Int) := if 0 ≤ a1 then (if a1 < (l0_0.length : Int) then (some (wrap64 ((wrap64 (24 * ((rd_T73 l0_0 a1).f0))) + a1))) else (none)) else (none)
set_option maxHeartbeats 8000000 in
set_option maxRecDepth 100000 in
theorem impl_Arena_handle.calls (A0_0 : Option Addr) (c0_0 : Nat) (l0_0 : List (S73)) (a0_1 : Int) (a1 : Int) (r : Int) (w : World) (hr0_0 : Kd.C k73 w A0_0 l0_0.length l0_0) (hc0_0 : l0_0.length ≤ c0_0) (h : impl_Arena_handle.f l0_0 a0_1 a1 = some r) :
    Calls Try.prog 77 #[.agg #[.slice A0_0 l0_0.length c0_0, .int .i64 a0_1], .int .i64 a1] w fun e w' => e = .returned (.int .i64 r) ∧ Below w.heap.size w w' := by
  have hu24 := Try.underlying24
  have HR0_0 := Aside0.mk hr0_0
  have HC0_0 := Aside0.mk hc0_0
  clear hr0_0 hc0_0
  have HB := Aside0.mk (Below.refl w.heap.size w)
  have H : (if 0 ≤ a1 then (if a1 < (l0_0.length : Int) then (some (wrap64 ((wrap64 (24 * ((rd_T73 l0_0 a1).f0))) + a1))) else (none)) else (none)) = some r := h
  clear h
  by_cases c3 : 0 ≤ a1
  · rw [if_pos c3] at H
    have c3b0 : decide (0 ≤ a1) = true := decide_eq_true c3
    clear c3
    by_cases c4 : a1 < (l0_0.length : Int)
    · rw [if_pos c4] at H
      have c4b0 : decide (a1 < (l0_0.length : Int)) = true := decide_eq_true c4
      clear c4
      obtain rfl := Option.some.inj H
      go_enter Try.func77, Try.ntmps77
      go_wp2_with (first|((with_reducible refine gate_dst (N := 2) rfl ?_); refine box_event ?hg (N := 2) ?hd (cs := #[.slice A0_0 l0_0.length c0_0, .int .i64 a0_1]) (t := 24) ?hr ?_; (case hd => rfl); (case hg => rfl); (case hr => first|(go_simp; done)|(go_simp; rfl)); intro gb355 hg w5 hbox hb; have n0_ := Aside0.mk (zN (by repeat (first|(with_reducible first|exact HB.out|apply zI|apply zG|apply zH)|exact HB.out)) hb); have n1_ := Aside0.mk (hbox); have n2_ := Aside0.mk ((by rw [hg]; exact (below_size (by repeat (first|(with_reducible first|exact HB.out|apply zI|apply zG|apply zH)|exact HB.out))) : w.heap.size ≤ gb355)); have n3_ := Aside0.mk ((by rw [hg]; exact (below_size (by repeat (first|(with_reducible first|exact HB.out|apply zI|apply zG|apply zH)|exact HB.out))) : w.heap.size ≤ gb355)); clear HB; have HB := n0_; have BK355 := n1_; have GW355 := n2_; have GE355 := n3_; clear n0_ n1_ n2_ n3_; clear hb hbox hg; obtain ⟨hcz6_0, hcz6_1, hfz6_0, hfz6_1⟩ := zb2 BK355.out; have p356 : 0 ≤ (a1 : Int) := of_decide_eq_true (by first|(with_reducible assumption)|assumption); have q356 : a1 < (l0_0.length : Int) := of_decide_eq_true (by first|(with_reducible assumption)|assumption); obtain ⟨ad356, e356, hx356_0, hx356_1, hx356_2, hx356_3, hx356_4⟩ := at_T73 HR0_0.out a1 p356 q356; cases e356; replace hx356_0 := (HB.out.cell (World.block_lt_of_cell? w _ hx356_0)).trans hx356_0; replace hx356_1 := (HB.out.cell (World.block_lt_of_cell? w _ hx356_1)).trans hx356_1; replace hx356_2 := (HB.out.cell (World.block_lt_of_cell? w _ hx356_2)).trans hx356_2; replace hx356_3 := (HB.out.cell (World.block_lt_of_cell? w _ hx356_3)).trans hx356_3; replace hx356_4 := (HB.out.cell (World.block_lt_of_cell? w _ hx356_4)).trans hx356_4; replace p356 := eq_true p356; replace q356 := eq_true q356))
      go_ret
      exact ⟨by first|rfl|(simp [errW_none, errW_some] <;> rfl)|(simp [*, errW_none, errW_some] <;> rfl), by repeat (first|(with_reducible first|exact HB.out|apply zI|apply zG|apply zH|refine zJ ?_ GE355.out)|exact HB.out)⟩
    · rw [if_neg c4] at H
      exact absurd H (by simp)
  · rw [if_neg c3] at H
    exact absurd H (by simp)

/-! ### impl_Arena_place: function 46 -/
def impl_Arena_place.f (l0_0 : List (S73)) (a0_1 : Int) (a1 : Int) : Option (Int) := if a1 < 0 then (some (-1)) else (if (Int.tmod a1 24) ≥ (l0_0.length : Int) then (some (-1)) else (if 0 ≤ (Int.tmod a1 24) then (if (Int.tmod a1 24) < (l0_0.length : Int) then (if ((rd_T73 l0_0 (Int.tmod a1 24)).f1 = true) then ((impl_Arena_handle.f l0_0 a0_1 (Int.tmod a1 24)).bind fun t359 => (if t359 = a1 then (some (Int.tmod a1 24)) else (some (-1)))) else (some (-1))) else (none)) else (none)))
set_option maxHeartbeats 8000000 in
set_option maxRecDepth 100000 in
theorem impl_Arena_place.calls (A0_0 : Option Addr) (c0_0 : Nat) (l0_0 : List (S73)) (a0_1 : Int) (a1 : Int) (r : Int) (w : World) (hr0_0 : Kd.C k73 w A0_0 l0_0.length l0_0) (hc0_0 : l0_0.length ≤ c0_0) (h : impl_Arena_place.f l0_0 a0_1 a1 = some r) :
    Calls Try.prog 46 #[.agg #[.slice A0_0 l0_0.length c0_0, .int .i64 a0_1], .int .i64 a1] w fun e w' => e = .returned (.int .i64 r) ∧ Below w.heap.size w w' := by
  have hu24 := Try.underlying24
  have HR0_0 := Aside0.mk hr0_0
  have HC0_0 := Aside0.mk hc0_0
  clear hr0_0 hc0_0
  have HB := Aside0.mk (Below.refl w.heap.size w)
  have H : (if a1 < 0 then (some (-1)) else (if (Int.tmod a1 24) ≥ (l0_0.length : Int) then (some (-1)) else (if 0 ≤ (Int.tmod a1 24) then (if (Int.tmod a1 24) < (l0_0.length : Int) then (if ((rd_T73 l0_0 (Int.tmod a1 24)).f1 = true) then ((impl_Arena_handle.f l0_0 a0_1 (Int.tmod a1 24)).bind fun t359 => (if t359 = a1 then (some (Int.tmod a1 24)) else (some (-1)))) else (some (-1))) else (none)) else (none)))) = some r := h
  clear h
  by_cases c3 : a1 < 0
  · rw [if_pos c3] at H
    have c3b0 : decide (a1 < 0) = true := decide_eq_true c3
    clear c3
    obtain rfl := Option.some.inj H
    go_enter Try.func46, Try.ntmps46
    go_wp2_with (first|((with_reducible refine gate_dst (N := 2) rfl ?_); refine box_event ?hg (N := 2) ?hd (cs := #[.slice A0_0 l0_0.length c0_0, .int .i64 a0_1]) (t := 24) ?hr ?_; (case hd => rfl); (case hg => rfl); (case hr => first|(go_simp; done)|(go_simp; rfl)); intro gb357 hg w4 hbox hb; have n0_ := Aside0.mk (zN (by repeat (first|(with_reducible first|exact HB.out|apply zI|apply zG|apply zH)|exact HB.out)) hb); have n1_ := Aside0.mk (hbox); have n2_ := Aside0.mk ((by rw [hg]; exact (below_size (by repeat (first|(with_reducible first|exact HB.out|apply zI|apply zG|apply zH)|exact HB.out))) : w.heap.size ≤ gb357)); have n3_ := Aside0.mk ((by rw [hg]; exact (below_size (by repeat (first|(with_reducible first|exact HB.out|apply zI|apply zG|apply zH)|exact HB.out))) : w.heap.size ≤ gb357)); clear HB; have HB := n0_; have BK357 := n1_; have GW357 := n2_; have GE357 := n3_; clear n0_ n1_ n2_ n3_; clear hb hbox hg))
    go_ret
    exact ⟨by first|rfl|(simp [errW_none, errW_some] <;> rfl)|(simp [*, errW_none, errW_some] <;> rfl), by repeat (first|(with_reducible first|exact HB.out|apply zI|apply zG|apply zH|refine zJ ?_ GE357.out)|exact HB.out)⟩
  · rw [if_neg c3] at H
    have c3b0 : decide (a1 < 0) = false := decide_eq_false c3
    clear c3
    by_cases c5 : (Int.tmod a1 24) ≥ (l0_0.length : Int)
    · rw [if_pos c5] at H
      have c5b0 : decide ((l0_0.length : Int) ≤ (Int.tmod a1 24)) = true := decide_eq_true c5
      clear c5
      obtain rfl := Option.some.inj H
      go_enter Try.func46, Try.ntmps46
      go_wp2_with (first|((with_reducible refine gate_dst (N := 2) rfl ?_); refine box_event ?hg (N := 2) ?hd (cs := #[.slice A0_0 l0_0.length c0_0, .int .i64 a0_1]) (t := 24) ?hr ?_; (case hd => rfl); (case hg => rfl); (case hr => first|(go_simp; done)|(go_simp; rfl)); intro gb357 hg w6 hbox hb; have n0_ := Aside0.mk (zN (by repeat (first|(with_reducible first|exact HB.out|apply zI|apply zG|apply zH)|exact HB.out)) hb); have n1_ := Aside0.mk (hbox); have n2_ := Aside0.mk ((by rw [hg]; exact (below_size (by repeat (first|(with_reducible first|exact HB.out|apply zI|apply zG|apply zH)|exact HB.out))) : w.heap.size ≤ gb357)); have n3_ := Aside0.mk ((by rw [hg]; exact (below_size (by repeat (first|(with_reducible first|exact HB.out|apply zI|apply zG|apply zH)|exact HB.out))) : w.heap.size ≤ gb357)); clear HB; have HB := n0_; have BK357 := n1_; have GW357 := n2_; have GE357 := n3_; clear n0_ n1_ n2_ n3_; clear hb hbox hg; obtain ⟨hcz7_0, hcz7_1, hfz7_0, hfz7_1⟩ := zb2 BK357.out))
      go_ret
      exact ⟨by first|rfl|(simp [errW_none, errW_some] <;> rfl)|(simp [*, errW_none, errW_some] <;> rfl), by repeat (first|(with_reducible first|exact HB.out|apply zI|apply zG|apply zH|refine zJ ?_ GE357.out)|exact HB.out)⟩
    · rw [if_neg c5] at H
      have c5b0 : decide ((l0_0.length : Int) ≤ (Int.tmod a1 24)) = false := decide_eq_false c5
      clear c5
      obtain ⟨ji8, hji8⟩ : ∃ j_ : Int, (Int.tmod a1 24) = j_ := ⟨_, rfl⟩
      replace H : (if 0 ≤ (ji8) then (if (ji8) < (l0_0.length : Int) then (if ((rd_T73 l0_0 (ji8)).f1 = true) then ((impl_Arena_handle.f l0_0 a0_1 (ji8)).bind fun t359 => (if t359 = a1 then (some ji8) else (some (-1)))) else (some (-1))) else (none)) else (none)) = some r := by first|(rw [hji8] at H; exact H)|(simp only [hji8] at H ⊢; exact H)
      (try rw [hji8] at c5b0)
      by_cases c9 : 0 ≤ (ji8)
      · rw [if_pos c9] at H
        have c9b0 : decide (0 ≤ (ji8)) = true := decide_eq_true c9
        clear c9
        by_cases c10 : (ji8) < (l0_0.length : Int)
        · rw [if_pos c10] at H
          have c10b0 : decide ((ji8) < (l0_0.length : Int)) = true := decide_eq_true c10
          clear c10
          obtain ⟨bq11, hbq11⟩ : ∃ b_ : Bool, b_ = ((rd_T73 l0_0 (ji8)).f1) := ⟨_, rfl⟩
          replace H : (if (bq11 = true) then ((impl_Arena_handle.f l0_0 a0_1 (ji8)).bind fun t359 => (if t359 = a1 then (some ji8) else (some (-1)))) else (some (-1))) = some r := by rw [← hbq11] at H; exact H
          have Nbq11 := Aside0.mk hbq11
          clear hbq11
          by_cases c12 : (bq11 = true)
          · subst c12
            have H1 : ((impl_Arena_handle.f l0_0 a0_1 (ji8)).bind fun t359 => (if t359 = a1 then (some ji8) else (some (-1)))) = some r := by rw [if_pos rfl] at H; exact H
            clear H
            have H := H1
            clear H1
            replace H := Option.bind_eq_some_iff.mp H
            obtain ⟨t359, A130, H⟩ := H
            replace H : (if t359 = a1 then (some ji8) else (some (-1))) = some r := H
            have A13 := Aside0.mk A130
            clear A130
            go_enter Try.func46, Try.ntmps46
            go_wp2_with (first|((with_reducible refine gate_dst (N := 2) rfl ?_); refine box_event ?hg (N := 2) ?hd (cs := #[.slice A0_0 l0_0.length c0_0, .int .i64 a0_1]) (t := 24) ?hr ?_; (case hd => rfl); (case hg => rfl); (case hr => first|(go_simp; done)|(go_simp; rfl)); intro gb357 hg w15 hbox hb; have n0_ := Aside0.mk (zN (by repeat (first|(with_reducible first|exact HB.out|apply zI|apply zG|apply zH)|exact HB.out)) hb); have n1_ := Aside0.mk (hbox); have n2_ := Aside0.mk ((by rw [hg]; exact (below_size (by repeat (first|(with_reducible first|exact HB.out|apply zI|apply zG|apply zH)|exact HB.out))) : w.heap.size ≤ gb357)); have n3_ := Aside0.mk ((by rw [hg]; exact (below_size (by repeat (first|(with_reducible first|exact HB.out|apply zI|apply zG|apply zH)|exact HB.out))) : w.heap.size ≤ gb357)); clear HB; have HB := n0_; have BK357 := n1_; have GW357 := n2_; have GE357 := n3_; clear n0_ n1_ n2_ n3_; clear hb hbox hg; obtain ⟨hcz16_0, hcz16_1, hfz16_0, hfz16_1⟩ := zb2 BK357.out; have p358 : 0 ≤ ((ji8) : Int) := of_decide_eq_true (by first|(with_reducible assumption)|assumption); have q358 : (ji8) < (l0_0.length : Int) := of_decide_eq_true (by first|(with_reducible assumption)|assumption); obtain ⟨ad358, e358, hx358_0, hx358_1, hx358_2, hx358_3, hx358_4⟩ := at_T73 HR0_0.out (ji8) p358 q358; (try rw [← Nbq11.out] at hx358_1); cases e358; replace hx358_0 := (HB.out.cell (World.block_lt_of_cell? w _ hx358_0)).trans hx358_0; replace hx358_1 := (HB.out.cell (World.block_lt_of_cell? w _ hx358_1)).trans hx358_1; replace hx358_2 := (HB.out.cell (World.block_lt_of_cell? w _ hx358_2)).trans hx358_2; replace hx358_3 := (HB.out.cell (World.block_lt_of_cell? w _ hx358_3)).trans hx358_3; replace hx358_4 := (HB.out.cell (World.block_lt_of_cell? w _ hx358_4)).trans hx358_4; replace p358 := eq_true p358; replace q358 := eq_true q358)|(go_at_call 77; (with_reducible refine (impl_Arena_handle.calls _ _ l0_0 a0_1 ji8 t359 _ ?side1 ?side2 A13.out).mono ?_); (case side1 => repeat (first|exact (Kd.C_below HR0_0.out HB.out)|(with_reducible refine Kd.C_alloc ?_ _)|(with_reducible refine Kd.C_drewN ?_ _)|(with_reducible refine Kd.C_drew ?_))); (case side2 => exact HC0_0.out); rintro e w17 ⟨rfl, hb⟩; have n0_ := Aside0.mk (zK (g := gb357) (o := .cells #[.slice (some ad358) l0_0.length c0_0, .int .i64 a0_1] 24 (0, 0)) (by (with_reducible repeat (first|refine zA ?_ _|refine zC ?_|refine zB ?_ _)); exact BK357.out) hb); have n1_ := Aside0.mk (zN (by repeat (first|(with_reducible first|exact HB.out|apply zI|apply zG|apply zH|refine zJ ?_ GE357.out)|exact HB.out)) hb); clear BK357; clear HB; have BK357 := n0_; have HB := n1_; clear n0_ n1_; (try clear hb); (try clear hb2); (try clear hk); (try clear hi); (refine Classical.byCases (p := (t359 = a1)) (fun c14 => ?zp30) (fun c14 => ?zn30); (case' zn30 => (rw [if_neg c14] at H); (have c14b0 : (t359 == a1) = false := beq_eq_false_iff_ne.mpr c14); (have c14b1 : (t359 != a1) = true := bne_iff_ne.mpr c14); (obtain rfl := Option.some.inj H)); (case' zp30 => (rw [if_pos c14] at H); (have c14b0 : (t359 == a1) = true := beq_iff_eq.mpr c14); (have c14b1 : (t359 != a1) = false := bne_eq_false_iff_eq.mpr c14); (clear c14); (obtain rfl := Option.some.inj H)))))
            · go_ret
              exact ⟨by first|rfl|(simp [errW_none, errW_some] <;> rfl)|(simp only [← hji8]; first|rfl|(simp [errW_none, errW_some] <;> rfl))|(simp [*, errW_none, errW_some] <;> rfl), by repeat (first|(with_reducible first|exact HB.out|apply zI|apply zG|apply zH|refine zJ ?_ GE357.out)|exact HB.out)⟩
            · go_ret
              exact ⟨by first|rfl|(simp [errW_none, errW_some] <;> rfl)|(simp only [← hji8]; first|rfl|(simp [errW_none, errW_some] <;> rfl))|(simp [*, errW_none, errW_some] <;> rfl), by repeat (first|(with_reducible first|exact HB.out|apply zI|apply zG|apply zH|refine zJ ?_ GE357.out)|exact HB.out)⟩
          · replace c12 := Bool.eq_false_iff.mpr c12
            subst c12
            have H1 : (some (-1)) = some r := by rw [if_neg (show ¬ (false = true) by decide)] at H; exact H
            clear H
            have H := H1
            clear H1
            obtain rfl := Option.some.inj H
            go_enter Try.func46, Try.ntmps46
            go_wp2_with (first|((with_reducible refine gate_dst (N := 2) rfl ?_); refine box_event ?hg (N := 2) ?hd (cs := #[.slice A0_0 l0_0.length c0_0, .int .i64 a0_1]) (t := 24) ?hr ?_; (case hd => rfl); (case hg => rfl); (case hr => first|(go_simp; done)|(go_simp; rfl)); intro gb357 hg w21 hbox hb; have n0_ := Aside0.mk (zN (by repeat (first|(with_reducible first|exact HB.out|apply zI|apply zG|apply zH)|exact HB.out)) hb); have n1_ := Aside0.mk (hbox); have n2_ := Aside0.mk ((by rw [hg]; exact (below_size (by repeat (first|(with_reducible first|exact HB.out|apply zI|apply zG|apply zH)|exact HB.out))) : w.heap.size ≤ gb357)); have n3_ := Aside0.mk ((by rw [hg]; exact (below_size (by repeat (first|(with_reducible first|exact HB.out|apply zI|apply zG|apply zH)|exact HB.out))) : w.heap.size ≤ gb357)); clear HB; have HB := n0_; have BK357 := n1_; have GW357 := n2_; have GE357 := n3_; clear n0_ n1_ n2_ n3_; clear hb hbox hg; obtain ⟨hcz22_0, hcz22_1, hfz22_0, hfz22_1⟩ := zb2 BK357.out; have p358 : 0 ≤ ((ji8) : Int) := of_decide_eq_true (by first|(with_reducible assumption)|assumption); have q358 : (ji8) < (l0_0.length : Int) := of_decide_eq_true (by first|(with_reducible assumption)|assumption); obtain ⟨ad358, e358, hx358_0, hx358_1, hx358_2, hx358_3, hx358_4⟩ := at_T73 HR0_0.out (ji8) p358 q358; (try rw [← Nbq11.out] at hx358_1); cases e358; replace hx358_0 := (HB.out.cell (World.block_lt_of_cell? w _ hx358_0)).trans hx358_0; replace hx358_1 := (HB.out.cell (World.block_lt_of_cell? w _ hx358_1)).trans hx358_1; replace hx358_2 := (HB.out.cell (World.block_lt_of_cell? w _ hx358_2)).trans hx358_2; replace hx358_3 := (HB.out.cell (World.block_lt_of_cell? w _ hx358_3)).trans hx358_3; replace hx358_4 := (HB.out.cell (World.block_lt_of_cell? w _ hx358_4)).trans hx358_4; replace p358 := eq_true p358; replace q358 := eq_true q358))
            go_ret
            exact ⟨by first|rfl|(simp [errW_none, errW_some] <;> rfl)|(simp only [← hji8]; first|rfl|(simp [errW_none, errW_some] <;> rfl))|(simp [*, errW_none, errW_some] <;> rfl), by repeat (first|(with_reducible first|exact HB.out|apply zI|apply zG|apply zH|refine zJ ?_ GE357.out)|exact HB.out)⟩
        · rw [if_neg c10] at H
          exact absurd H (by simp)
      · rw [if_neg c9] at H
        exact absurd H (by simp)

end Go.Proofs.Ytediiolcoilepaa.GFnNearNew
