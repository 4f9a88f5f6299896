/- Walks of the functions that the law reaches: by programs of this session, over a tool's print. -/
import Derived.Test.YtediiolcoilepaaGFnExactNearNewx0
import Derived.Test.YtediiolcoilepaaGFnExactNearNewx7
namespace Go.Proofs.Ytediiolcoilepaa.GFnExactNearNew
open Go.RowKit Go.Proofs.YtediiolcoilepaaW.PrintWords Go.Proofs.YtediiolcoilepaaW.PrintLast Go.Proofs.YtediiolcoilepaaW.PrintMore
attribute [local go_sem] max2_int min2_int max_two min_two max_three min_three max_four min_four   -- for this text's walks alone
set_option linter.unusedVariables false
set_option linter.unusedSimpArgs false

/-! ### laws_heldIntS: function 63 -/
def laws_heldIntS.l0 : Nat → List Int → Int → Int → Option (Int)
 |0, _, _, _ => none
 |k + 1, x0, x1, x5 => if x5 < (x0.length : Int) then (if 0 ≤ x5 then (if (rd x0 x5) = x1 then (laws_heldIntS.l0 k x0 (wrap64 (x1 + 1)) (wrap64 (x5 + 1))) else (some (-1))) else (none)) else (some x1)
def laws_heldIntS.f (k : Nat) (l0 : List Int) (a1 : Int) : Option (Int) := laws_heldIntS.l0 k l0 a1 0
theorem laws_heldIntS.mono_l : ∀ k, (∀ y0 y1 y2, LeO (laws_heldIntS.l0 k y0 y1 y2) (laws_heldIntS.l0 (k + 1) y0 y1 y2))
 |0 => fun _ _ _ r h => by simp [laws_heldIntS.l0] at h
 |k + 1 => by
    have ih0 := laws_heldIntS.mono_l k
    · intro y0 y1 y2
      unfold laws_heldIntS.l0
      repeat' first
     |(with_reducible exact ih0 _ _ _)
     |(with_reducible exact LeO.refl _)
     |(with_reducible exact LeO.none _)
     |(with_reducible refine LeO.ite ?_ ?_)
     |(with_reducible refine LeO.bind ?_ (fun _ => ?_))
     |exact ih0 _ _ _
     |exact LeO.none _
     |refine LeO.ite ?_ ?_
     |refine LeO.bind ?_ (fun _ => ?_)
theorem laws_heldIntS.mono : ∀ a0 a1 k, LeO (laws_heldIntS.f k a0 a1) (laws_heldIntS.f (k + 1) a0 a1) := by
  intro a0 a1 k
  have ih0 := laws_heldIntS.mono_l k
  unfold laws_heldIntS.f
  repeat' first
     |(with_reducible exact ih0 _ _ _)
     |(with_reducible exact LeO.refl _)
     |(with_reducible exact LeO.none _)
     |(with_reducible refine LeO.ite ?_ ?_)
     |(with_reducible refine LeO.bind ?_ (fun _ => ?_))
     |exact ih0 _ _ _
     |exact LeO.none _
     |refine LeO.ite ?_ ?_
     |refine LeO.bind ?_ (fun _ => ?_)
set_option maxHeartbeats 8000000 in
set_option maxRecDepth 100000 in
theorem laws_heldIntS.calls (k : Nat) (A0 : Option Addr) (c0 : Nat) (l0 : List Int) (a1 : Int) (r : Int) (w : World) (hr0 : Kd.C (Kd.int .i64) w A0 l0.length l0) (hc0 : l0.length ≤ c0) (h : laws_heldIntS.f k l0 a1 = some r) (HT0_ : ¬ r < 0) :
    Calls Try.prog 63 #[.slice A0 l0.length c0, .int .i64 a1] w fun e w' => e = .returned (.int .i64 r) ∧ Drawn0 w w' := by
  have HT_ := Aside0.mk HT0_
  clear HT0_
  have HR0 := Aside0.mk hr0
  have HC0 := Aside0.mk hc0
  clear hr0 hc0
  have H : (laws_heldIntS.l0 k l0 a1 0) = some r := h
  clear h
  have H' := Aside0.mk H
  clear H
  go_enter Try.func63, Try.ntmps63
  go_wp2
  go_loopg [1, 5] k (fun kq v1 v5 w' => ∃ (x1_1 : Int) (x5_1 : Int), v1 = .int .i64 x1_1 ∧ v5 = .int .i64 x5_1 ∧ Aside0 (laws_heldIntS.l0 kq l0 x1_1 x5_1 = some r) ∧ Aside0 (kq ≤ k) ∧ Drawn0 w w')
  case atStart => exact ⟨(a1), (0), (by first|rfl|(simp; done)|(simp [*]; done)), (by first|rfl|(simp; done)|(simp [*]; done)), H', ⟨Nat.le_refl _⟩, by repeat (first|exact Drawn0.refl _|apply Drawn0.step)⟩
  case round =>
    clear H'
    try clear p2
    obtain ⟨x1_1, x5_1, rfl, rfl, HA, HK1, ⟨m1, rfl⟩⟩ := hrel
    cases gk with
   |zero => exact absurd HA.out (by simp [laws_heldIntS.l0])
   |succ k1 =>
      have H := HA.out
      clear HA
      simp only [laws_heldIntS.l0] at H
      by_cases c3 : x5_1 < (l0.length : Int)
      · rw [if_pos c3] at H
        have c3b0 : decide (x5_1 < (l0.length : Int)) = true := decide_eq_true c3
        clear c3
        by_cases c4 : 0 ≤ x5_1
        · rw [if_pos c4] at H
          have c4b0 : decide (0 ≤ x5_1) = true := decide_eq_true c4
          clear c4
          by_cases c5 : (rd l0 x5_1) = x1_1
          · rw [if_pos c5] at H
            have c5b0 : ((rd l0 x5_1) == x1_1) = true := beq_iff_eq.mpr c5
            have c5b1 : ((rd l0 x5_1) != x1_1) = false := bne_eq_false_iff_eq.mpr c5
            clear c5
            have H' := Aside0.mk H
            clear H
            have p295 : 0 ≤ (x5_1 : Int) := of_decide_eq_true (by first|(with_reducible assumption)|assumption)
            have q295 : x5_1 < (l0.length : Int) := of_decide_eq_true (by first|(with_reducible assumption)|assumption)
            obtain ⟨ad295, e295, hx295_0⟩ := Kd.at_int HR0.out x5_1 p295 q295
            cases e295
            replace p295 := eq_true p295
            replace q295 := eq_true q295
            go_wp2
            go_roundg k1
            case measure => have := HK1.out; omega
            case rel => exact ⟨(wrap64 (x1_1 + 1)), (wrap64 (x5_1 + 1)), (by first|rfl|(simp; done)|(simp [*]; done)), (by first|rfl|(simp; done)|(simp [*]; done)), H', ⟨by have := HK1.out; omega⟩, by repeat (first|exact Drawn0.refl _|apply Drawn0.step)⟩
          · rw [if_neg c5] at H
            have c5b0 : ((rd l0 x5_1) == x1_1) = false := beq_eq_false_iff_ne.mpr c5
            have c5b1 : ((rd l0 x5_1) != x1_1) = true := bne_iff_ne.mpr c5
            obtain rfl := Option.some.inj H
            have p295 : 0 ≤ (x5_1 : Int) := of_decide_eq_true (by first|(with_reducible assumption)|assumption)
            have q295 : x5_1 < (l0.length : Int) := of_decide_eq_true (by first|(with_reducible assumption)|assumption)
            obtain ⟨ad295, e295, hx295_0⟩ := Kd.at_int HR0.out x5_1 p295 q295
            cases e295
            replace p295 := eq_true p295
            replace q295 := eq_true q295
            go_wp2
            go_ret
            exact ⟨by first|rfl|(simp; done)|(simp [*]; done), by repeat (first|exact Drawn0.refl _|apply Drawn0.step)⟩
        · rw [if_neg c4] at H
          exact absurd H (by simp)
      · rw [if_neg c3] at H
        have c3b0 : decide (x5_1 < (l0.length : Int)) = false := decide_eq_false c3
        clear c3
        obtain rfl := Option.some.inj H
        go_wp2
        go_ret
        exact ⟨by first|rfl|(simp; done)|(simp [*]; done), by repeat (first|exact Drawn0.refl _|apply Drawn0.step)⟩

/-! ### laws_heldSketch: function 36 -/
def laws_heldSketch.f (k : Nat) (l0_0 : List Int) (a0_1 : Int) (a1 : Int) : Option (Int) := (laws_heldIntS.f k l0_0 a1).bind fun t297 => (if t297 < 0 then (some (-1)) else (some t297))
theorem laws_heldSketch.mono : ∀ a0 a1 a2 k, LeO (laws_heldSketch.f k a0 a1 a2) (laws_heldSketch.f (k + 1) a0 a1 a2) := by
  intro a0 a1 a2 k
  unfold laws_heldSketch.f
  repeat' first
     |(with_reducible exact laws_heldIntS.mono _ _ _)
     |(with_reducible exact LeO.refl _)
     |(with_reducible exact LeO.none _)
     |(with_reducible refine LeO.ite ?_ ?_)
     |(with_reducible refine LeO.bind ?_ (fun _ => ?_))
     |exact laws_heldIntS.mono _ _ _
     |exact LeO.none _
     |refine LeO.ite ?_ ?_
     |refine LeO.bind ?_ (fun _ => ?_)
set_option maxHeartbeats 8000000 in
set_option maxRecDepth 100000 in
theorem laws_heldSketch.calls (k : Nat) (A0_0 : Option Addr) (c0_0 : Nat) (l0_0 : List Int) (a0_1 : Int) (a1 : Int) (r : Int) (w : World) (hr0_0 : Kd.C (Kd.int .i64) w A0_0 l0_0.length l0_0) (hc0_0 : l0_0.length ≤ c0_0) (h : laws_heldSketch.f k l0_0 a0_1 a1 = some r) (HT0_ : ¬ r < 0) :
    Calls Try.prog 36 #[.agg #[.slice A0_0 l0_0.length c0_0, .int .i64 a0_1], .int .i64 a1] w fun e w' => e = .returned (.int .i64 r) ∧ Below w.heap.size w w' := by
  have HT_ := Aside0.mk HT0_
  clear HT0_
  have hu33 := Try.underlying33
  have HR0_0 := Aside0.mk hr0_0
  have HC0_0 := Aside0.mk hc0_0
  clear hr0_0 hc0_0
  have HB := Aside0.mk (Below.refl w.heap.size w)
  have H : ((laws_heldIntS.f k l0_0 a1).bind fun t297 => (if t297 < 0 then (some (-1)) else (some t297))) = some r := h
  clear h
  replace H := Option.bind_eq_some_iff.mp H
  obtain ⟨t297, A30, H⟩ := H
  replace H : (if t297 < 0 then (some (-1)) else (some t297)) = some r := H
  have A3 := Aside0.mk A30
  clear A30
  go_enter Try.func36, Try.ntmps36
  go_wp2_with (first|((with_reducible refine gate_dst (N := 2) rfl ?_); refine box_event ?hg (N := 2) ?hd (cs := #[.slice A0_0 l0_0.length c0_0, .int .i64 a0_1]) (t := 33) ?hr ?_; (case hd => rfl); (case hg => rfl); (case hr => first|(go_simp; done)|(go_simp; rfl)); intro gb296 hg w7 hbox hb; have n0_ := Aside0.mk (zN (by repeat (first|(with_reducible first|exact HB.out|apply zI|apply zG|apply zH)|exact HB.out)) hb); have n1_ := Aside0.mk (hbox); have n2_ := Aside0.mk ((by rw [hg]; exact (below_size (by repeat (first|(with_reducible first|exact HB.out|apply zI|apply zG|apply zH)|exact HB.out))) : w.heap.size ≤ gb296)); have n3_ := Aside0.mk ((by rw [hg]; exact (below_size (by repeat (first|(with_reducible first|exact HB.out|apply zI|apply zG|apply zH)|exact HB.out))) : w.heap.size ≤ gb296)); clear HB; have HB := n0_; have BK296 := n1_; have GW296 := n2_; have GE296 := n3_; clear n0_ n1_ n2_ n3_; clear hb hbox hg; obtain ⟨hcz8_0, hcz8_1, hfz8_0, hfz8_1⟩ := zb2 BK296.out)|((with_reducible refine gate_callee (f := 63) rfl ?_); refine goesL_ (some 8) rfl rfl Try.func63 (by kernel_rfl) rfl #[.slice A0_0 l0_0.length c0_0, .int .i64 a1] rfl (by (try simp only [List.map_toArray, List.map_cons, List.map_nil]); first|done|rfl|(simp only [List.length_drop, List.length_take]; rfl)) ?_; (with_reducible refine (laws_heldIntS.calls k _ _ l0_0 a1 t297 _ ?side1 ?side2 A3.out ?prem).mono ?_); (case prem => first|(exact HT_.out)|(intro hz; rw [if_pos hz] at H; exact absurd ((Option.some.inj H).trans HT_.out) (by simp))|(intro hz; rw [if_pos hz] at H; exact absurd (Option.some.inj H) (by have := HT_.out; omega))|(exact of_decide_eq_false (by assumption))|(omega)); (case side1 => repeat (first|exact (Kd.C_below HR0_0.out HB.out)|(with_reducible refine Kd.C_alloc ?_ _)|(with_reducible refine Kd.C_drewN ?_ _)|(with_reducible refine Kd.C_drew ?_))); (case side2 => exact HC0_0.out); rintro e w' ⟨rfl, ⟨nd, rfl⟩⟩; refine ⟨_, rfl, ?_⟩; (refine Classical.byCases (p := (t297 < 0)) (fun c4 => ?zp23) (fun c4 => ?zn23); (case' zn23 => (rw [if_neg c4] at H); (have c4b0 : decide (t297 < 0) = false := decide_eq_false c4); (clear c4); (obtain rfl := Option.some.inj H)); (case' zp23 => (rw [if_pos c4] at H); (have c4b0 : decide (t297 < 0) = true := decide_eq_true c4); (clear c4); (exact absurd (Option.some.inj H) (by have := HT_.out; omega))))))
  · go_ret
    exact ⟨by first|rfl|(simp [errW_none, errW_some] <;> rfl)|(simp [*, errW_none, errW_some] <;> rfl), by repeat (first|(with_reducible first|exact HB.out|apply zI|apply zG|apply zH|refine zJ ?_ GE296.out)|exact HB.out)⟩

/-! ### laws_heldNear: function 9 -/
def laws_heldNear.f (k : Nat) (l0_0 : List (S73)) (a0_1 : Int) (l0_2 : List (S103)) (l0_3 : List (S103)) (a0_4 : Int) (a0_5 : Int) (l0_6 : List ByteArray) (a0_7 : Int) (l0_8 : List ByteArray) (a0_9 : Int) (l0_10 : List ByteArray) (l0_11 : List Int) (a0_12 : Int) (a0_13 : Int) (a1 : Int) : Option (Int) := (laws_heldArena.f k l0_0 a0_1 a1).bind fun t299 => (if t299 < 0 then (some (-1)) else ((laws_heldTable.f k l0_2 l0_3 a0_4 t299).bind fun t300 => (if t300 < 0 then (some (-1)) else ((laws_heldQueue.f k a0_5 l0_6 t300).bind fun t301 => (if t301 < 0 then (some (-1)) else ((laws_heldQueue.f k a0_7 l0_8 t301).bind fun t302 => (if t302 < 0 then (some (-1)) else ((laws_heldQueue.f k a0_9 l0_10 t302).bind fun t303 => (if t303 < 0 then (some (-1)) else ((laws_heldSketch.f k l0_11 a0_12 t303).bind fun t304 => (if t304 < 0 then (some (-1)) else (some t304))))))))))))
theorem laws_heldNear.mono : ∀ a0 a1 a2 a3 a4 a5 a6 a7 a8 a9 a10 a11 a12 a13 a14 k, LeO (laws_heldNear.f k a0 a1 a2 a3 a4 a5 a6 a7 a8 a9 a10 a11 a12 a13 a14) (laws_heldNear.f (k + 1) a0 a1 a2 a3 a4 a5 a6 a7 a8 a9 a10 a11 a12 a13 a14) := by
  intro a0 a1 a2 a3 a4 a5 a6 a7 a8 a9 a10 a11 a12 a13 a14 k
  unfold laws_heldNear.f
  repeat' first
     |(with_reducible exact laws_heldArena.mono _ _ _ _)
     |(with_reducible exact laws_heldQueue.mono _ _ _ _)
     |(with_reducible exact laws_heldSketch.mono _ _ _ _)
     |(with_reducible exact laws_heldTable.mono _ _ _ _ _)
     |(with_reducible exact LeO.refl _)
     |(with_reducible exact LeO.none _)
     |(with_reducible refine LeO.ite ?_ ?_)
     |(with_reducible refine LeO.bind ?_ (fun _ => ?_))
     |exact laws_heldArena.mono _ _ _ _
     |exact laws_heldQueue.mono _ _ _ _
     |exact laws_heldSketch.mono _ _ _ _
     |exact laws_heldTable.mono _ _ _ _ _
     |exact LeO.none _
     |refine LeO.ite ?_ ?_
     |refine LeO.bind ?_ (fun _ => ?_)
set_option maxHeartbeats 8000000 in
set_option maxRecDepth 100000 in
theorem laws_heldNear.calls (k : Nat) (A0_0 : Option Addr) (c0_0 : Nat) (l0_0 : List (S73)) (a0_1 : Int) (A0_2 : Option Addr) (c0_2 : Nat) (l0_2 : List (S103)) (A0_3 : Option Addr) (c0_3 : Nat) (l0_3 : List (S103)) (a0_4 : Int) (a0_5 : Int) (A0_6 : Option Addr) (c0_6 : Nat) (l0_6 : List ByteArray) (a0_7 : Int) (A0_8 : Option Addr) (c0_8 : Nat) (l0_8 : List ByteArray) (a0_9 : Int) (A0_10 : Option Addr) (c0_10 : Nat) (l0_10 : List ByteArray) (A0_11 : Option Addr) (c0_11 : Nat) (l0_11 : List Int) (a0_12 : Int) (a0_13 : Int) (a1 : Int) (r : Int) (w : World) (hr0_0 : Kd.C k73 w A0_0 l0_0.length l0_0) (hc0_0 : l0_0.length ≤ c0_0) (hr0_2 : Kd.C k103 w A0_2 l0_2.length l0_2) (hc0_2 : l0_2.length ≤ c0_2) (hr0_3 : Kd.C k103 w A0_3 l0_3.length l0_3) (hc0_3 : l0_3.length ≤ c0_3) (hr0_6 : Kd.C Kd.string w A0_6 l0_6.length l0_6) (hc0_6 : l0_6.length ≤ c0_6) (hr0_8 : Kd.C Kd.string w A0_8 l0_8.length l0_8) (hc0_8 : l0_8.length ≤ c0_8) (hr0_10 : Kd.C Kd.string w A0_10 l0_10.length l0_10) (hc0_10 : l0_10.length ≤ c0_10) (hr0_11 : Kd.C (Kd.int .i64) w A0_11 l0_11.length l0_11) (hc0_11 : l0_11.length ≤ c0_11) (h : laws_heldNear.f k l0_0 a0_1 l0_2 l0_3 a0_4 a0_5 l0_6 a0_7 l0_8 a0_9 l0_10 l0_11 a0_12 a0_13 a1 = some r) (HT0_ : ¬ r < 0) :
    Calls Try.prog 9 #[.agg #[.slice A0_0 l0_0.length c0_0, .int .i64 a0_1, .slice A0_2 l0_2.length c0_2, .slice A0_3 l0_3.length c0_3, .int .i64 a0_4, .int .i64 a0_5, .slice A0_6 l0_6.length c0_6, .int .i64 a0_7, .slice A0_8 l0_8.length c0_8, .int .i64 a0_9, .slice A0_10 l0_10.length c0_10, .slice A0_11 l0_11.length c0_11, .int .i64 a0_12, .int .i64 a0_13], .int .i64 a1] w fun e w' => e = .returned (.int .i64 r) ∧ Below w.heap.size w w' := by
  have HT_ := Aside0.mk HT0_
  clear HT0_
  have hu37 := Try.underlying37
  have hu24 := Try.underlying24
  have hu27 := Try.underlying27
  have hu30 := Try.underlying30
  have hu33 := Try.underlying33
  have HR0_0 := Aside0.mk hr0_0
  have HC0_0 := Aside0.mk hc0_0
  clear hr0_0 hc0_0
  have HR0_2 := Aside0.mk hr0_2
  have HC0_2 := Aside0.mk hc0_2
  clear hr0_2 hc0_2
  have HR0_3 := Aside0.mk hr0_3
  have HC0_3 := Aside0.mk hc0_3
  clear hr0_3 hc0_3
  have HR0_6 := Aside0.mk hr0_6
  have HC0_6 := Aside0.mk hc0_6
  clear hr0_6 hc0_6
  have HR0_8 := Aside0.mk hr0_8
  have HC0_8 := Aside0.mk hc0_8
  clear hr0_8 hc0_8
  have HR0_10 := Aside0.mk hr0_10
  have HC0_10 := Aside0.mk hc0_10
  clear hr0_10 hc0_10
  have HR0_11 := Aside0.mk hr0_11
  have HC0_11 := Aside0.mk hc0_11
  clear hr0_11 hc0_11
  have HB := Aside0.mk (Below.refl w.heap.size w)
  have H : ((laws_heldArena.f k l0_0 a0_1 a1).bind fun t299 => (if t299 < 0 then (some (-1)) else ((laws_heldTable.f k l0_2 l0_3 a0_4 t299).bind fun t300 => (if t300 < 0 then (some (-1)) else ((laws_heldQueue.f k a0_5 l0_6 t300).bind fun t301 => (if t301 < 0 then (some (-1)) else ((laws_heldQueue.f k a0_7 l0_8 t301).bind fun t302 => (if t302 < 0 then (some (-1)) else ((laws_heldQueue.f k a0_9 l0_10 t302).bind fun t303 => (if t303 < 0 then (some (-1)) else ((laws_heldSketch.f k l0_11 a0_12 t303).bind fun t304 => (if t304 < 0 then (some (-1)) else (some t304))))))))))))) = some r := h
  clear h
  replace H := Option.bind_eq_some_iff.mp H
  obtain ⟨t299, A30, H⟩ := H
  replace H : (if t299 < 0 then (some (-1)) else ((laws_heldTable.f k l0_2 l0_3 a0_4 t299).bind fun t300 => (if t300 < 0 then (some (-1)) else ((laws_heldQueue.f k a0_5 l0_6 t300).bind fun t301 => (if t301 < 0 then (some (-1)) else ((laws_heldQueue.f k a0_7 l0_8 t301).bind fun t302 => (if t302 < 0 then (some (-1)) else ((laws_heldQueue.f k a0_9 l0_10 t302).bind fun t303 => (if t303 < 0 then (some (-1)) else ((laws_heldSketch.f k l0_11 a0_12 t303).bind fun t304 => (if t304 < 0 then (some (-1)) else (some t304)))))))))))) = some r := H
  have A3 := Aside0.mk A30
  clear A30
  go_enter Try.func9, Try.ntmps9
  go_wp2_with (first|((with_reducible refine gate_dst (N := 2) rfl ?_); refine box_event ?hg (N := 2) ?hd (cs := #[.slice A0_0 l0_0.length c0_0, .int .i64 a0_1, .slice A0_2 l0_2.length c0_2, .slice A0_3 l0_3.length c0_3, .int .i64 a0_4, .int .i64 a0_5, .slice A0_6 l0_6.length c0_6, .int .i64 a0_7, .slice A0_8 l0_8.length c0_8, .int .i64 a0_9, .slice A0_10 l0_10.length c0_10, .slice A0_11 l0_11.length c0_11, .int .i64 a0_12, .int .i64 a0_13]) (t := 37) ?hr ?_; (case hd => rfl); (case hg => rfl); (case hr => first|(go_simp; done)|(go_simp; rfl)); intro gb298 hg w63 hbox hb; have n0_ := Aside0.mk (zN (by repeat (first|(with_reducible first|exact HB.out|apply zI|apply zG|apply zH)|exact HB.out)) hb); have n1_ := Aside0.mk (hbox); have n2_ := Aside0.mk ((by rw [hg]; exact (below_size (by repeat (first|(with_reducible first|exact HB.out|apply zI|apply zG|apply zH)|exact HB.out))) : w.heap.size ≤ gb298)); have n3_ := Aside0.mk ((by rw [hg]; exact (below_size (by repeat (first|(with_reducible first|exact HB.out|apply zI|apply zG|apply zH)|exact HB.out))) : w.heap.size ≤ gb298)); clear HB; have HB := n0_; have BK298 := n1_; have GW298 := n2_; have GE298 := n3_; clear n0_ n1_ n2_ n3_; clear hb hbox hg; obtain ⟨hcz64_0, hcz64_1, hcz64_2, hcz64_3, hcz64_4, hcz64_5, hcz64_6, hcz64_7, hcz64_8, hcz64_9, hcz64_10, hcz64_11, hcz64_12, hcz64_13, hfz64_0, hfz64_1, hfz64_2, hfz64_3, hfz64_4, hfz64_5, hfz64_6, hfz64_7, hfz64_8, hfz64_9, hfz64_10, hfz64_11, hfz64_12, hfz64_13⟩ := zb14 BK298.out)|((with_reducible refine gate_callee (f := 33) rfl ?_); refine goesL_ (some 8) rfl rfl Try.func33 (by kernel_rfl) rfl #[.agg #[.slice A0_0 l0_0.length c0_0, .int .i64 a0_1], .int .i64 a1] rfl (by (try simp only [List.map_toArray, List.map_cons, List.map_nil]); first|done|rfl|(simp only [List.length_drop, List.length_take]; rfl)) ?_; (with_reducible refine (laws_heldArena.calls k _ _ l0_0 a0_1 a1 t299 _ ?side1 ?side2 A3.out ?prem).mono ?_); (case prem => first|(exact HT_.out)|(intro hz; rw [if_pos hz] at H; exact absurd ((Option.some.inj H).trans HT_.out) (by simp))|(intro hz; rw [if_pos hz] at H; exact absurd (Option.some.inj H) (by have := HT_.out; omega))|(exact of_decide_eq_false (by assumption))|(omega)); (case side1 => repeat (first|exact (Kd.C_below HR0_0.out HB.out)|(with_reducible refine Kd.C_alloc ?_ _)|(with_reducible refine Kd.C_drewN ?_ _)|(with_reducible refine Kd.C_drew ?_))); (case side2 => exact HC0_0.out); rintro e w65 ⟨rfl, hb⟩; refine ⟨_, rfl, ?_⟩; have n0_ := Aside0.mk (zK (g := gb298) (o := .cells #[.slice A0_0 l0_0.length c0_0, .int .i64 a0_1, .slice A0_2 l0_2.length c0_2, .slice A0_3 l0_3.length c0_3, .int .i64 a0_4, .int .i64 a0_5, .slice A0_6 l0_6.length c0_6, .int .i64 a0_7, .slice A0_8 l0_8.length c0_8, .int .i64 a0_9, .slice A0_10 l0_10.length c0_10, .slice A0_11 l0_11.length c0_11, .int .i64 a0_12, .int .i64 a0_13] 37 (0, 0)) (by (with_reducible repeat (first|refine zA ?_ _|refine zC ?_|refine zB ?_ _)); exact BK298.out) hb); have n1_ := Aside0.mk (zN (by repeat (first|(with_reducible first|exact HB.out|apply zI|apply zG|apply zH|refine zJ ?_ GE298.out)|exact HB.out)) hb); clear BK298; clear HB; have BK298 := n0_; have HB := n1_; clear n0_ n1_; (try clear hb); (try clear hb2); (try clear hk); (try clear hi); obtain ⟨hcz66_0, hcz66_1, hcz66_2, hcz66_3, hcz66_4, hcz66_5, hcz66_6, hcz66_7, hcz66_8, hcz66_9, hcz66_10, hcz66_11, hcz66_12, hcz66_13, hfz66_0, hfz66_1, hfz66_2, hfz66_3, hfz66_4, hfz66_5, hfz66_6, hfz66_7, hfz66_8, hfz66_9, hfz66_10, hfz66_11, hfz66_12, hfz66_13⟩ := zb14 BK298.out; (refine Classical.byCases (p := (t299 < 0)) (fun c4 => ?zp29) (fun c4 => ?zn29); (case' zn29 => (rw [if_neg c4] at H); (have c4b0 : decide (t299 < 0) = false := decide_eq_false c4); (clear c4); (replace H := Option.bind_eq_some_iff.mp H); (obtain ⟨t300, A80, H⟩ := H); (replace H : (if t300 < 0 then (some (-1)) else ((laws_heldQueue.f k a0_5 l0_6 t300).bind fun t301 => (if t301 < 0 then (some (-1)) else ((laws_heldQueue.f k a0_7 l0_8 t301).bind fun t302 => (if t302 < 0 then (some (-1)) else ((laws_heldQueue.f k a0_9 l0_10 t302).bind fun t303 => (if t303 < 0 then (some (-1)) else ((laws_heldSketch.f k l0_11 a0_12 t303).bind fun t304 => (if t304 < 0 then (some (-1)) else (some t304)))))))))) = some r := H); (have A8 := Aside0.mk A80); (clear A80)); (case' zp29 => (rw [if_pos c4] at H); (have c4b0 : decide (t299 < 0) = true := decide_eq_true c4); (clear c4); (exact absurd (Option.some.inj H) (by have := HT_.out; omega)))))|((with_reducible refine gate_callee (f := 34) rfl ?_); refine goesL_ (some 14) rfl rfl Try.func34 (by kernel_rfl) rfl #[.agg #[.slice A0_2 l0_2.length c0_2, .slice A0_3 l0_3.length c0_3, .int .i64 a0_4], .int .i64 t299] rfl (by (try simp only [List.map_toArray, List.map_cons, List.map_nil]); first|done|rfl|(simp only [List.length_drop, List.length_take]; rfl)) ?_; (with_reducible refine (laws_heldTable.calls k _ _ l0_2 _ _ l0_3 a0_4 t299 t300 _ ?side1 ?side2 ?side3 ?side4 A8.out ?prem).mono ?_); (case prem => first|(exact HT_.out)|(intro hz; rw [if_pos hz] at H; exact absurd ((Option.some.inj H).trans HT_.out) (by simp))|(intro hz; rw [if_pos hz] at H; exact absurd (Option.some.inj H) (by have := HT_.out; omega))|(exact of_decide_eq_false (by assumption))|(omega)); (case side1 => repeat (first|exact (Kd.C_below HR0_2.out HB.out)|(with_reducible refine Kd.C_alloc ?_ _)|(with_reducible refine Kd.C_drewN ?_ _)|(with_reducible refine Kd.C_drew ?_))); (case side2 => exact HC0_2.out); (case side3 => repeat (first|exact (Kd.C_below HR0_3.out HB.out)|(with_reducible refine Kd.C_alloc ?_ _)|(with_reducible refine Kd.C_drewN ?_ _)|(with_reducible refine Kd.C_drew ?_))); (case side4 => exact HC0_3.out); rintro e w67 ⟨rfl, hb⟩; refine ⟨_, rfl, ?_⟩; have n0_ := Aside0.mk (zK (g := gb298) (o := .cells #[.slice A0_0 l0_0.length c0_0, .int .i64 a0_1, .slice A0_2 l0_2.length c0_2, .slice A0_3 l0_3.length c0_3, .int .i64 a0_4, .int .i64 a0_5, .slice A0_6 l0_6.length c0_6, .int .i64 a0_7, .slice A0_8 l0_8.length c0_8, .int .i64 a0_9, .slice A0_10 l0_10.length c0_10, .slice A0_11 l0_11.length c0_11, .int .i64 a0_12, .int .i64 a0_13] 37 (0, 0)) (by (with_reducible repeat (first|refine zA ?_ _|refine zC ?_|refine zB ?_ _)); exact BK298.out) hb); have n1_ := Aside0.mk (zN (by repeat (first|(with_reducible first|exact HB.out|apply zI|apply zG|apply zH|refine zJ ?_ GE298.out)|exact HB.out)) hb); clear BK298; clear HB; have BK298 := n0_; have HB := n1_; clear n0_ n1_; (try clear hb); (try clear hb2); (try clear hk); (try clear hi); obtain ⟨hcz68_0, hcz68_1, hcz68_2, hcz68_3, hcz68_4, hcz68_5, hcz68_6, hcz68_7, hcz68_8, hcz68_9, hcz68_10, hcz68_11, hcz68_12, hcz68_13, hfz68_0, hfz68_1, hfz68_2, hfz68_3, hfz68_4, hfz68_5, hfz68_6, hfz68_7, hfz68_8, hfz68_9, hfz68_10, hfz68_11, hfz68_12, hfz68_13⟩ := zb14 BK298.out; (refine Classical.byCases (p := (t300 < 0)) (fun c9 => ?zp28) (fun c9 => ?zn28); (case' zn28 => (rw [if_neg c9] at H); (have c9b0 : decide (t300 < 0) = false := decide_eq_false c9); (clear c9); (replace H := Option.bind_eq_some_iff.mp H); (obtain ⟨t301, A150, H⟩ := H); (replace H : (if t301 < 0 then (some (-1)) else ((laws_heldQueue.f k a0_7 l0_8 t301).bind fun t302 => (if t302 < 0 then (some (-1)) else ((laws_heldQueue.f k a0_9 l0_10 t302).bind fun t303 => (if t303 < 0 then (some (-1)) else ((laws_heldSketch.f k l0_11 a0_12 t303).bind fun t304 => (if t304 < 0 then (some (-1)) else (some t304)))))))) = some r := H); (have A15 := Aside0.mk A150); (clear A150)); (case' zp28 => (rw [if_pos c9] at H); (have c9b0 : decide (t300 < 0) = true := decide_eq_true c9); (clear c9); (exact absurd (Option.some.inj H) (by have := HT_.out; omega)))))|((with_reducible refine gate_callee (f := 35) rfl ?_); refine goesL_ (some 20) rfl rfl Try.func35 (by kernel_rfl) rfl #[.agg #[.int .i64 a0_5, .slice A0_6 l0_6.length c0_6], .int .i64 t300] rfl (by (try simp only [List.map_toArray, List.map_cons, List.map_nil]); first|done|rfl|(simp only [List.length_drop, List.length_take]; rfl)) ?_; (with_reducible refine (laws_heldQueue.calls k a0_5 _ _ l0_6 t300 t301 _ ?side1 ?side2 A15.out ?prem).mono ?_); (case prem => first|(exact HT_.out)|(intro hz; rw [if_pos hz] at H; exact absurd ((Option.some.inj H).trans HT_.out) (by simp))|(intro hz; rw [if_pos hz] at H; exact absurd (Option.some.inj H) (by have := HT_.out; omega))|(exact of_decide_eq_false (by assumption))|(omega)); (case side1 => repeat (first|exact (Kd.C_below HR0_6.out HB.out)|(with_reducible refine Kd.C_alloc ?_ _)|(with_reducible refine Kd.C_drewN ?_ _)|(with_reducible refine Kd.C_drew ?_))); (case side2 => exact HC0_6.out); rintro e w69 ⟨rfl, hb⟩; refine ⟨_, rfl, ?_⟩; have n0_ := Aside0.mk (zK (g := gb298) (o := .cells #[.slice A0_0 l0_0.length c0_0, .int .i64 a0_1, .slice A0_2 l0_2.length c0_2, .slice A0_3 l0_3.length c0_3, .int .i64 a0_4, .int .i64 a0_5, .slice A0_6 l0_6.length c0_6, .int .i64 a0_7, .slice A0_8 l0_8.length c0_8, .int .i64 a0_9, .slice A0_10 l0_10.length c0_10, .slice A0_11 l0_11.length c0_11, .int .i64 a0_12, .int .i64 a0_13] 37 (0, 0)) (by (with_reducible repeat (first|refine zA ?_ _|refine zC ?_|refine zB ?_ _)); exact BK298.out) hb); have n1_ := Aside0.mk (zN (by repeat (first|(with_reducible first|exact HB.out|apply zI|apply zG|apply zH|refine zJ ?_ GE298.out)|exact HB.out)) hb); clear BK298; clear HB; have BK298 := n0_; have HB := n1_; clear n0_ n1_; (try clear hb); (try clear hb2); (try clear hk); (try clear hi); obtain ⟨hcz70_0, hcz70_1, hcz70_2, hcz70_3, hcz70_4, hcz70_5, hcz70_6, hcz70_7, hcz70_8, hcz70_9, hcz70_10, hcz70_11, hcz70_12, hcz70_13, hfz70_0, hfz70_1, hfz70_2, hfz70_3, hfz70_4, hfz70_5, hfz70_6, hfz70_7, hfz70_8, hfz70_9, hfz70_10, hfz70_11, hfz70_12, hfz70_13⟩ := zb14 BK298.out; (refine Classical.byCases (p := (t301 < 0)) (fun c16 => ?zp27) (fun c16 => ?zn27); (case' zn27 => (rw [if_neg c16] at H); (have c16b0 : decide (t301 < 0) = false := decide_eq_false c16); (clear c16); (replace H := Option.bind_eq_some_iff.mp H); (obtain ⟨t302, A240, H⟩ := H); (replace H : (if t302 < 0 then (some (-1)) else ((laws_heldQueue.f k a0_9 l0_10 t302).bind fun t303 => (if t303 < 0 then (some (-1)) else ((laws_heldSketch.f k l0_11 a0_12 t303).bind fun t304 => (if t304 < 0 then (some (-1)) else (some t304)))))) = some r := H); (have A24 := Aside0.mk A240); (clear A240)); (case' zp27 => (rw [if_pos c16] at H); (have c16b0 : decide (t301 < 0) = true := decide_eq_true c16); (clear c16); (exact absurd (Option.some.inj H) (by have := HT_.out; omega)))))|((with_reducible refine gate_callee (f := 35) rfl ?_); refine goesL_ (some 26) rfl rfl Try.func35 (by kernel_rfl) rfl #[.agg #[.int .i64 a0_7, .slice A0_8 l0_8.length c0_8], .int .i64 t301] rfl (by (try simp only [List.map_toArray, List.map_cons, List.map_nil]); first|done|rfl|(simp only [List.length_drop, List.length_take]; rfl)) ?_; (with_reducible refine (laws_heldQueue.calls k a0_7 _ _ l0_8 t301 t302 _ ?side1 ?side2 A24.out ?prem).mono ?_); (case prem => first|(exact HT_.out)|(intro hz; rw [if_pos hz] at H; exact absurd ((Option.some.inj H).trans HT_.out) (by simp))|(intro hz; rw [if_pos hz] at H; exact absurd (Option.some.inj H) (by have := HT_.out; omega))|(exact of_decide_eq_false (by assumption))|(omega)); (case side1 => repeat (first|exact (Kd.C_below HR0_8.out HB.out)|(with_reducible refine Kd.C_alloc ?_ _)|(with_reducible refine Kd.C_drewN ?_ _)|(with_reducible refine Kd.C_drew ?_))); (case side2 => exact HC0_8.out); rintro e w71 ⟨rfl, hb⟩; refine ⟨_, rfl, ?_⟩; have n0_ := Aside0.mk (zK (g := gb298) (o := .cells #[.slice A0_0 l0_0.length c0_0, .int .i64 a0_1, .slice A0_2 l0_2.length c0_2, .slice A0_3 l0_3.length c0_3, .int .i64 a0_4, .int .i64 a0_5, .slice A0_6 l0_6.length c0_6, .int .i64 a0_7, .slice A0_8 l0_8.length c0_8, .int .i64 a0_9, .slice A0_10 l0_10.length c0_10, .slice A0_11 l0_11.length c0_11, .int .i64 a0_12, .int .i64 a0_13] 37 (0, 0)) (by (with_reducible repeat (first|refine zA ?_ _|refine zC ?_|refine zB ?_ _)); exact BK298.out) hb); have n1_ := Aside0.mk (zN (by repeat (first|(with_reducible first|exact HB.out|apply zI|apply zG|apply zH|refine zJ ?_ GE298.out)|exact HB.out)) hb); clear BK298; clear HB; have BK298 := n0_; have HB := n1_; clear n0_ n1_; (try clear hb); (try clear hb2); (try clear hk); (try clear hi); obtain ⟨hcz72_0, hcz72_1, hcz72_2, hcz72_3, hcz72_4, hcz72_5, hcz72_6, hcz72_7, hcz72_8, hcz72_9, hcz72_10, hcz72_11, hcz72_12, hcz72_13, hfz72_0, hfz72_1, hfz72_2, hfz72_3, hfz72_4, hfz72_5, hfz72_6, hfz72_7, hfz72_8, hfz72_9, hfz72_10, hfz72_11, hfz72_12, hfz72_13⟩ := zb14 BK298.out; (refine Classical.byCases (p := (t302 < 0)) (fun c25 => ?zp26) (fun c25 => ?zn26); (case' zn26 => (rw [if_neg c25] at H); (have c25b0 : decide (t302 < 0) = false := decide_eq_false c25); (clear c25); (replace H := Option.bind_eq_some_iff.mp H); (obtain ⟨t303, A350, H⟩ := H); (replace H : (if t303 < 0 then (some (-1)) else ((laws_heldSketch.f k l0_11 a0_12 t303).bind fun t304 => (if t304 < 0 then (some (-1)) else (some t304)))) = some r := H); (have A35 := Aside0.mk A350); (clear A350)); (case' zp26 => (rw [if_pos c25] at H); (have c25b0 : decide (t302 < 0) = true := decide_eq_true c25); (clear c25); (exact absurd (Option.some.inj H) (by have := HT_.out; omega)))))|((with_reducible refine gate_callee (f := 35) rfl ?_); refine goesL_ (some 32) rfl rfl Try.func35 (by kernel_rfl) rfl #[.agg #[.int .i64 a0_9, .slice A0_10 l0_10.length c0_10], .int .i64 t302] rfl (by (try simp only [List.map_toArray, List.map_cons, List.map_nil]); first|done|rfl|(simp only [List.length_drop, List.length_take]; rfl)) ?_; (with_reducible refine (laws_heldQueue.calls k a0_9 _ _ l0_10 t302 t303 _ ?side1 ?side2 A35.out ?prem).mono ?_); (case prem => first|(exact HT_.out)|(intro hz; rw [if_pos hz] at H; exact absurd ((Option.some.inj H).trans HT_.out) (by simp))|(intro hz; rw [if_pos hz] at H; exact absurd (Option.some.inj H) (by have := HT_.out; omega))|(exact of_decide_eq_false (by assumption))|(omega)); (case side1 => repeat (first|exact (Kd.C_below HR0_10.out HB.out)|(with_reducible refine Kd.C_alloc ?_ _)|(with_reducible refine Kd.C_drewN ?_ _)|(with_reducible refine Kd.C_drew ?_))); (case side2 => exact HC0_10.out); rintro e w73 ⟨rfl, hb⟩; refine ⟨_, rfl, ?_⟩; have n0_ := Aside0.mk (zK (g := gb298) (o := .cells #[.slice A0_0 l0_0.length c0_0, .int .i64 a0_1, .slice A0_2 l0_2.length c0_2, .slice A0_3 l0_3.length c0_3, .int .i64 a0_4, .int .i64 a0_5, .slice A0_6 l0_6.length c0_6, .int .i64 a0_7, .slice A0_8 l0_8.length c0_8, .int .i64 a0_9, .slice A0_10 l0_10.length c0_10, .slice A0_11 l0_11.length c0_11, .int .i64 a0_12, .int .i64 a0_13] 37 (0, 0)) (by (with_reducible repeat (first|refine zA ?_ _|refine zC ?_|refine zB ?_ _)); exact BK298.out) hb); have n1_ := Aside0.mk (zN (by repeat (first|(with_reducible first|exact HB.out|apply zI|apply zG|apply zH|refine zJ ?_ GE298.out)|exact HB.out)) hb); clear BK298; clear HB; have BK298 := n0_; have HB := n1_; clear n0_ n1_; (try clear hb); (try clear hb2); (try clear hk); (try clear hi); obtain ⟨hcz74_0, hcz74_1, hcz74_2, hcz74_3, hcz74_4, hcz74_5, hcz74_6, hcz74_7, hcz74_8, hcz74_9, hcz74_10, hcz74_11, hcz74_12, hcz74_13, hfz74_0, hfz74_1, hfz74_2, hfz74_3, hfz74_4, hfz74_5, hfz74_6, hfz74_7, hfz74_8, hfz74_9, hfz74_10, hfz74_11, hfz74_12, hfz74_13⟩ := zb14 BK298.out; (refine Classical.byCases (p := (t303 < 0)) (fun c36 => ?zp25) (fun c36 => ?zn25); (case' zn25 => (rw [if_neg c36] at H); (have c36b0 : decide (t303 < 0) = false := decide_eq_false c36); (clear c36); (replace H := Option.bind_eq_some_iff.mp H); (obtain ⟨t304, A480, H⟩ := H); (replace H : (if t304 < 0 then (some (-1)) else (some t304)) = some r := H); (have A48 := Aside0.mk A480); (clear A480)); (case' zp25 => (rw [if_pos c36] at H); (have c36b0 : decide (t303 < 0) = true := decide_eq_true c36); (clear c36); (exact absurd (Option.some.inj H) (by have := HT_.out; omega)))))|((with_reducible refine gate_callee (f := 36) rfl ?_); refine goesL_ (some 38) rfl rfl Try.func36 (by kernel_rfl) rfl #[.agg #[.slice A0_11 l0_11.length c0_11, .int .i64 a0_12], .int .i64 t303] rfl (by (try simp only [List.map_toArray, List.map_cons, List.map_nil]); first|done|rfl|(simp only [List.length_drop, List.length_take]; rfl)) ?_; (with_reducible refine (laws_heldSketch.calls k _ _ l0_11 a0_12 t303 t304 _ ?side1 ?side2 A48.out ?prem).mono ?_); (case prem => first|(exact HT_.out)|(intro hz; rw [if_pos hz] at H; exact absurd ((Option.some.inj H).trans HT_.out) (by simp))|(intro hz; rw [if_pos hz] at H; exact absurd (Option.some.inj H) (by have := HT_.out; omega))|(exact of_decide_eq_false (by assumption))|(omega)); (case side1 => repeat (first|exact (Kd.C_below HR0_11.out HB.out)|(with_reducible refine Kd.C_alloc ?_ _)|(with_reducible refine Kd.C_drewN ?_ _)|(with_reducible refine Kd.C_drew ?_))); (case side2 => exact HC0_11.out); rintro e w75 ⟨rfl, hb⟩; refine ⟨_, rfl, ?_⟩; have n0_ := Aside0.mk (zK (g := gb298) (o := .cells #[.slice A0_0 l0_0.length c0_0, .int .i64 a0_1, .slice A0_2 l0_2.length c0_2, .slice A0_3 l0_3.length c0_3, .int .i64 a0_4, .int .i64 a0_5, .slice A0_6 l0_6.length c0_6, .int .i64 a0_7, .slice A0_8 l0_8.length c0_8, .int .i64 a0_9, .slice A0_10 l0_10.length c0_10, .slice A0_11 l0_11.length c0_11, .int .i64 a0_12, .int .i64 a0_13] 37 (0, 0)) (by (with_reducible repeat (first|refine zA ?_ _|refine zC ?_|refine zB ?_ _)); exact BK298.out) hb); have n1_ := Aside0.mk (zN (by repeat (first|(with_reducible first|exact HB.out|apply zI|apply zG|apply zH|refine zJ ?_ GE298.out)|exact HB.out)) hb); clear BK298; clear HB; have BK298 := n0_; have HB := n1_; clear n0_ n1_; (try clear hb); (try clear hb2); (try clear hk); (try clear hi); (refine Classical.byCases (p := (t304 < 0)) (fun c49 => ?zp24) (fun c49 => ?zn24); (case' zn24 => (rw [if_neg c49] at H); (have c49b0 : decide (t304 < 0) = false := decide_eq_false c49); (clear c49); (obtain rfl := Option.some.inj H)); (case' zp24 => (rw [if_pos c49] at H); (have c49b0 : decide (t304 < 0) = true := decide_eq_true c49); (clear c49); (exact absurd (Option.some.inj H) (by have := HT_.out; omega))))))
  · go_ret
    exact ⟨by first|rfl|(simp [errW_none, errW_some] <;> rfl)|(simp [*, errW_none, errW_some] <;> rfl), by repeat (first|(with_reducible first|exact HB.out|apply zI|apply zG|apply zH|refine zJ ?_ GE298.out)|exact HB.out)⟩

end Go.Proofs.Ytediiolcoilepaa.GFnExactNearNew
