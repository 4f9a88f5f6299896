/- Walks of the functions that the law reaches: by programs of this session, over a tool's print. -/
import Derived.Test.YtediiolcoilepaaGFnNearNewx0
import Derived.Test.YtediiolcoilepaaGFnNearNewx1
import Derived.Test.YtediiolcoilepaaGFnNearNewx3
import Derived.Test.YtediiolcoilepaaGFnNearNewx6
namespace Go.Proofs.Ytediiolcoilepaa.GFnNearNew
open Go.RowKit Go.Proofs.YtediiolcoilepaaW.PrintWords Go.Proofs.YtediiolcoilepaaW.PrintLast Go.Proofs.YtediiolcoilepaaW.PrintMore
attribute [local go_sem] max2_int min2_int max_two min_two max_three min_three max_four min_four   -- for this text's walks alone
set_option linter.unusedVariables false
set_option linter.unusedSimpArgs false

attribute [local go_sem high] eqA103
/-! ### impl_nones: function 86 -/
def impl_nones.l0 : Nat → Int → List (S103) → Int → Int → Option (Int)
 |0, _, _, _, _ => none
 |k + 1, x3, x6, x7, x8 => if x8 < x7 then (if 0 ≤ x8 then (if x8 < (x6.length : Int) then (if ((rd_T103 x6 x8).f0).toList = ([] : List UInt8) then (if ((rd_T103 x6 x8).f1) = (-1) then (impl_nones.l0 k (wrap64 (x3 + 1)) x6 x7 (wrap64 (x8 + 1))) else (impl_nones.l0 k x3 x6 x7 (wrap64 (x8 + 1)))) else (impl_nones.l0 k x3 x6 x7 (wrap64 (x8 + 1)))) else (none)) else (none)) else (some x3)
def impl_nones.f (k : Nat) (l0 : List (S103)) : Option (Int) := impl_nones.l0 k 0 l0 (l0.length : Int) 0
theorem impl_nones.mono_l : ∀ k, (∀ y0 y1 y2 y3, LeO (impl_nones.l0 k y0 y1 y2 y3) (impl_nones.l0 (k + 1) y0 y1 y2 y3))
 |0 => fun _ _ _ _ r h => by simp [impl_nones.l0] at h
 |k + 1 => by
    have ih0 := impl_nones.mono_l k
    · intro y0 y1 y2 y3
      unfold impl_nones.l0
      repeat' first
     |(with_reducible exact ih0 _ _ _ _)
     |(with_reducible exact LeO.refl _)
     |(with_reducible exact LeO.none _)
     |(with_reducible refine LeO.ite ?_ ?_)
     |(with_reducible refine LeO.bind ?_ (fun _ => ?_))
     |exact ih0 _ _ _ _
     |exact LeO.none _
     |refine LeO.ite ?_ ?_
     |refine LeO.bind ?_ (fun _ => ?_)
theorem impl_nones.mono : ∀ a0 k, LeO (impl_nones.f k a0) (impl_nones.f (k + 1) a0) := by
  intro a0 k
  have ih0 := impl_nones.mono_l k
  unfold impl_nones.f
  repeat' first
     |(with_reducible exact ih0 _ _ _ _)
     |(with_reducible exact LeO.refl _)
     |(with_reducible exact LeO.none _)
     |(with_reducible refine LeO.ite ?_ ?_)
     |(with_reducible refine LeO.bind ?_ (fun _ => ?_))
     |exact ih0 _ _ _ _
     |exact LeO.none _
     |refine LeO.ite ?_ ?_
     |refine LeO.bind ?_ (fun _ => ?_)
set_option maxHeartbeats 8000000 in
set_option maxRecDepth 100000 in
theorem impl_nones.calls (k : Nat) (A0 : Option Addr) (c0 : Nat) (l0 : List (S103)) (r : Int) (w : World) (hr0 : Kd.C k103 w A0 l0.length l0) (hc0 : l0.length ≤ c0) (h : impl_nones.f k l0 = some r) :
    Calls Try.prog 86 #[.slice A0 l0.length c0] w fun e w' => e = .returned (.int .i64 r) ∧ Below w.heap.size w w' := by
  have hu103 := Try.underlying103
  have HR0 := Aside0.mk hr0
  have HC0 := Aside0.mk hc0
  clear hr0 hc0
  have HB := Aside0.mk (Below.refl w.heap.size w)
  have H : (impl_nones.l0 k 0 l0 (l0.length : Int) 0) = some r := h
  clear h
  have H' := Aside0.mk H
  clear H
  go_enter Try.func86, Try.ntmps86
  go_wp2
  go_loopg [3, 8] k (fun kq v3 v8 w' => ∃ (x3_1 : Int) (x8_1 : Int), v3 = .int .i64 x3_1 ∧ v8 = .int .i64 x8_1 ∧ Aside0 (impl_nones.l0 kq x3_1 l0 (l0.length : Int) x8_1 = some r) ∧ Aside0 (kq ≤ k) ∧ Aside0 (Below w.heap.size w w'))
  case atStart => exact ⟨(0), (0), (by first|rfl|(simp; done)|(simp [*]; done)), (by first|rfl|(simp; done)|(simp [*]; done)), H', ⟨Nat.le_refl _⟩, ⟨by repeat (first|(with_reducible first|exact HB.out|apply zI|apply zG|apply zH)|exact HB.out)⟩⟩
  case round =>
    clear H'
    obtain ⟨x3_1, x8_1, rfl, rfl, HA, HK1, HB⟩ := hrel
    cases gk with
   |zero => exact absurd HA.out (by simp [impl_nones.l0])
   |succ k1 =>
      have H := HA.out
      clear HA
      simp only [impl_nones.l0] at H
      by_cases c2 : x8_1 < (l0.length : Int)
      · rw [if_pos c2] at H
        have c2b0 : decide (x8_1 < (l0.length : Int)) = true := decide_eq_true c2
        clear c2
        by_cases c3 : 0 ≤ x8_1
        · rw [if_pos c3] at H
          have c3b0 : decide (0 ≤ x8_1) = true := decide_eq_true c3
          clear c3
          by_cases c4 : x8_1 < (l0.length : Int)
          · rw [if_pos c4] at H
            have c4b0 : decide (x8_1 < (l0.length : Int)) = true := decide_eq_true c4
            clear c4
            by_cases c5 : ((rd_T103 l0 x8_1).f0).toList = ([] : List UInt8)
            · rw [if_pos c5] at H
              have c5b0 : (((rd_T103 l0 x8_1).f0).toList == ([] : List UInt8)) = true := beq_iff_eq.mpr c5
              have c5b1 : (((rd_T103 l0 x8_1).f0).toList != ([] : List UInt8)) = false := bne_eq_false_iff_eq.mpr c5
              clear c5
              by_cases c6 : ((rd_T103 l0 x8_1).f1) = (-1)
              · rw [if_pos c6] at H
                have c6b0 : (((rd_T103 l0 x8_1).f1) == (-1)) = true := beq_iff_eq.mpr c6
                have c6b1 : (((rd_T103 l0 x8_1).f1) != (-1)) = false := bne_eq_false_iff_eq.mpr c6
                clear c6
                have H' := Aside0.mk H
                clear H
                have p277 : 0 ≤ (x8_1 : Int) := of_decide_eq_true (by first|(with_reducible assumption)|assumption)
                have q277 : x8_1 < (l0.length : Int) := of_decide_eq_true (by first|(with_reducible assumption)|assumption)
                obtain ⟨ad277, e277, hx277_0, hx277_1⟩ := at_T103 HR0.out x8_1 p277 q277
                cases e277
                replace hx277_0 := (HB.out.cell (World.block_lt_of_cell? w _ hx277_0)).trans hx277_0
                replace hx277_1 := (HB.out.cell (World.block_lt_of_cell? w _ hx277_1)).trans hx277_1
                replace p277 := eq_true p277
                replace q277 := eq_true q277
                go_wp2_with (first|((with_reducible refine gate_dst (N := 5) rfl ?_); refine box_event ?hg (N := 5) ?hd (cs := #[.string (⟨#[]⟩ : ByteArray), .int .i64 0]) (t := 103) ?hr ?_; (case hd => rfl); (case hg => rfl); (case hr => first|(go_simp; done)|(go_simp; rfl)); intro gb278 hg w7 hbox hb; have n0_ := Aside0.mk (zN (by repeat (first|(with_reducible first|exact HB.out|apply zI|apply zG|apply zH)|exact HB.out)) hb); have n1_ := Aside0.mk (hbox); have n2_ := Aside0.mk ((by rw [hg]; exact (below_size (by repeat (first|(with_reducible first|exact HB.out|apply zI|apply zG|apply zH)|exact HB.out))) : w.heap.size ≤ gb278)); have n3_ := Aside0.mk ((by rw [hg]; exact (below_size (by repeat (first|(with_reducible first|exact HB.out|apply zI|apply zG|apply zH)|exact HB.out))) : w.heap.size ≤ gb278)); clear HB; have HB := n0_; have BK278 := n1_; have GW278 := n2_; have GE278 := n3_; clear n0_ n1_ n2_ n3_; clear hb hbox hg; obtain ⟨hcz8_0, hcz8_1, hfz8_0, hfz8_1⟩ := zb2 BK278.out))
                go_roundg k1
                case measure => have := HK1.out; omega
                case rel => exact ⟨(wrap64 (x3_1 + 1)), (wrap64 (x8_1 + 1)), (by first|rfl|(simp; done)|(simp [*]; done)), (by first|rfl|(simp; done)|(simp [*]; done)), H', ⟨by have := HK1.out; omega⟩, ⟨by repeat (first|(with_reducible first|exact HB.out|apply zI|apply zG|apply zH|refine zJ ?_ GE278.out)|exact HB.out)⟩⟩
              · rw [if_neg c6] at H
                have c6b0 : (((rd_T103 l0 x8_1).f1) == (-1)) = false := beq_eq_false_iff_ne.mpr c6
                have c6b1 : (((rd_T103 l0 x8_1).f1) != (-1)) = true := bne_iff_ne.mpr c6
                have H' := Aside0.mk H
                clear H
                have p277 : 0 ≤ (x8_1 : Int) := of_decide_eq_true (by first|(with_reducible assumption)|assumption)
                have q277 : x8_1 < (l0.length : Int) := of_decide_eq_true (by first|(with_reducible assumption)|assumption)
                obtain ⟨ad277, e277, hx277_0, hx277_1⟩ := at_T103 HR0.out x8_1 p277 q277
                cases e277
                replace hx277_0 := (HB.out.cell (World.block_lt_of_cell? w _ hx277_0)).trans hx277_0
                replace hx277_1 := (HB.out.cell (World.block_lt_of_cell? w _ hx277_1)).trans hx277_1
                replace p277 := eq_true p277
                replace q277 := eq_true q277
                go_wp2_with (first|((with_reducible refine gate_dst (N := 5) rfl ?_); refine box_event ?hg (N := 5) ?hd (cs := #[.string (⟨#[]⟩ : ByteArray), .int .i64 0]) (t := 103) ?hr ?_; (case hd => rfl); (case hg => rfl); (case hr => first|(go_simp; done)|(go_simp; rfl)); intro gb278 hg w9 hbox hb; have n0_ := Aside0.mk (zN (by repeat (first|(with_reducible first|exact HB.out|apply zI|apply zG|apply zH)|exact HB.out)) hb); have n1_ := Aside0.mk (hbox); have n2_ := Aside0.mk ((by rw [hg]; exact (below_size (by repeat (first|(with_reducible first|exact HB.out|apply zI|apply zG|apply zH)|exact HB.out))) : w.heap.size ≤ gb278)); have n3_ := Aside0.mk ((by rw [hg]; exact (below_size (by repeat (first|(with_reducible first|exact HB.out|apply zI|apply zG|apply zH)|exact HB.out))) : w.heap.size ≤ gb278)); clear HB; have HB := n0_; have BK278 := n1_; have GW278 := n2_; have GE278 := n3_; clear n0_ n1_ n2_ n3_; clear hb hbox hg; obtain ⟨hcz10_0, hcz10_1, hfz10_0, hfz10_1⟩ := zb2 BK278.out))
                go_roundg k1
                case measure => have := HK1.out; omega
                case rel => exact ⟨(x3_1), (wrap64 (x8_1 + 1)), (by first|rfl|(simp; done)|(simp [*]; done)), (by first|rfl|(simp; done)|(simp [*]; done)), H', ⟨by have := HK1.out; omega⟩, ⟨by repeat (first|(with_reducible first|exact HB.out|apply zI|apply zG|apply zH|refine zJ ?_ GE278.out)|exact HB.out)⟩⟩
            · rw [if_neg c5] at H
              have c5b0 : (((rd_T103 l0 x8_1).f0).toList == ([] : List UInt8)) = false := beq_eq_false_iff_ne.mpr c5
              have c5b1 : (((rd_T103 l0 x8_1).f0).toList != ([] : List UInt8)) = true := bne_iff_ne.mpr c5
              have H' := Aside0.mk H
              clear H
              have p277 : 0 ≤ (x8_1 : Int) := of_decide_eq_true (by first|(with_reducible assumption)|assumption)
              have q277 : x8_1 < (l0.length : Int) := of_decide_eq_true (by first|(with_reducible assumption)|assumption)
              obtain ⟨ad277, e277, hx277_0, hx277_1⟩ := at_T103 HR0.out x8_1 p277 q277
              cases e277
              replace hx277_0 := (HB.out.cell (World.block_lt_of_cell? w _ hx277_0)).trans hx277_0
              replace hx277_1 := (HB.out.cell (World.block_lt_of_cell? w _ hx277_1)).trans hx277_1
              replace p277 := eq_true p277
              replace q277 := eq_true q277
              go_wp2_with (first|((with_reducible refine gate_dst (N := 5) rfl ?_); refine box_event ?hg (N := 5) ?hd (cs := #[.string (⟨#[]⟩ : ByteArray), .int .i64 0]) (t := 103) ?hr ?_; (case hd => rfl); (case hg => rfl); (case hr => first|(go_simp; done)|(go_simp; rfl)); intro gb278 hg w11 hbox hb; have n0_ := Aside0.mk (zN (by repeat (first|(with_reducible first|exact HB.out|apply zI|apply zG|apply zH)|exact HB.out)) hb); have n1_ := Aside0.mk (hbox); have n2_ := Aside0.mk ((by rw [hg]; exact (below_size (by repeat (first|(with_reducible first|exact HB.out|apply zI|apply zG|apply zH)|exact HB.out))) : w.heap.size ≤ gb278)); have n3_ := Aside0.mk ((by rw [hg]; exact (below_size (by repeat (first|(with_reducible first|exact HB.out|apply zI|apply zG|apply zH)|exact HB.out))) : w.heap.size ≤ gb278)); clear HB; have HB := n0_; have BK278 := n1_; have GW278 := n2_; have GE278 := n3_; clear n0_ n1_ n2_ n3_; clear hb hbox hg; obtain ⟨hcz12_0, hcz12_1, hfz12_0, hfz12_1⟩ := zb2 BK278.out))
              go_roundg k1
              case measure => have := HK1.out; omega
              case rel => exact ⟨(x3_1), (wrap64 (x8_1 + 1)), (by first|rfl|(simp; done)|(simp [*]; done)), (by first|rfl|(simp; done)|(simp [*]; done)), H', ⟨by have := HK1.out; omega⟩, ⟨by repeat (first|(with_reducible first|exact HB.out|apply zI|apply zG|apply zH|refine zJ ?_ GE278.out)|exact HB.out)⟩⟩
          · rw [if_neg c4] at H
            exact absurd H (by simp)
        · rw [if_neg c3] at H
          exact absurd H (by simp)
      · rw [if_neg c2] at H
        have c2b0 : decide (x8_1 < (l0.length : Int)) = false := decide_eq_false c2
        clear c2
        obtain rfl := Option.some.inj H
        go_wp2
        go_ret
        exact ⟨by first|rfl|(simp [errW_none, errW_some] <;> rfl)|(simp [*, errW_none, errW_some] <;> rfl), by repeat (first|(with_reducible first|exact HB.out|apply zI|apply zG|apply zH)|exact HB.out)⟩

/-! ### impl_TableOk: function 68 -/
mutual
def impl_TableOk.j0 : Nat → Bool → List (S103) → List (S103) → Int → Option (Bool)
 |0, _, _, _, _ => none
 |k + 1, x36, x280000, x280001, x280002 => if x36 = true then (some false) else (if 0 ≤ x280002 then (if x280002 ≤ (x280001.length : Int) then ((some (x280001.take (x280002 : Int).toNat : List (S103))).bind fun y283 => (impl_TableOk.l0 k y283 (y283.length : Int) 0 x280000 x280001 x280002)) else (none)) else (none))
def impl_TableOk.l0 : Nat → List (S103) → Int → Int → List (S103) → List (S103) → Int → Option (Bool)
 |0, _, _, _, _, _, _ => none
 |k + 1, x41, x42, x43, x280000, x280001, x280002 => if x43 < x42 then (if 0 ≤ x43 then (if x43 < (x41.length : Int) then (if (!((((rd_T103 x41 x43).f0).toList) == ([] : List UInt8)) || (!(((rd_T103 x41 x43).f1) == (-2)))) = true then (some false) else (impl_TableOk.l0 k x41 x42 (wrap64 (x43 + 1)) x280000 x280001 x280002)) else (none)) else (none)) else ((impl_Table_keys.f k x280000 x280001 x280002).bind fun t289 => (impl_TableOk.l1 k t289 1 x280000 x280001 x280002))
def impl_TableOk.l1 : Nat → List ByteArray → Int → List (S103) → List (S103) → Int → Option (Bool)
 |0, _, _, _, _, _ => none
 |k + 1, x5, x6, x280000, x280001, x280002 => if x6 < (x5.length : Int) then (if 0 ≤ x6 then (if 0 ≤ (wrap64 (x6 - 1)) then (if (wrap64 (x6 - 1)) < (x5.length : Int) then (if (rdOf ByteArray.empty x5 x6).toList = (rdOf ByteArray.empty x5 (wrap64 (x6 - 1))).toList then (some false) else (impl_TableOk.l1 k x5 (wrap64 (x6 + 1)) x280000 x280001 x280002)) else (none)) else (none)) else (none)) else ((impl_cellsOk.f k x280000).bind fun t294 => (if t294 = true then ((impl_cellsOk.f k x280001).bind fun t295 => (if t295 = true then ((impl_nones.f k x280000).bind fun t296 => (some (decide (t296 > 0)))) else (some false))) else (some false)))
end
def impl_TableOk.f (k : Nat) (l0_0 : List (S103)) (l0_1 : List (S103)) (a0_2 : Int) : Option (Bool) := (impl_isSize.f (l0_0.length : Int)).bind fun t280 => (if t280 = true then (if (l0_1.length : Int) = 0 then ((impl_inRange.f a0_2 0 (l0_1.length : Int)).bind fun t281 => (impl_TableOk.j0 k (!t281) l0_0 l0_1 a0_2)) else (if (wrap64 (2 * (l0_1.length : Int))) = (l0_0.length : Int) then ((impl_inRange.f a0_2 0 (l0_1.length : Int)).bind fun t282 => (impl_TableOk.j0 k (!t282) l0_0 l0_1 a0_2)) else (impl_TableOk.j0 k true l0_0 l0_1 a0_2))) else (impl_TableOk.j0 k true l0_0 l0_1 a0_2))
theorem impl_TableOk.mono_l : ∀ k, (∀ y0 y1 y2 y3, LeO (impl_TableOk.j0 k y0 y1 y2 y3) (impl_TableOk.j0 (k + 1) y0 y1 y2 y3)) ∧ (∀ y0 y1 y2 y3 y4 y5, LeO (impl_TableOk.l0 k y0 y1 y2 y3 y4 y5) (impl_TableOk.l0 (k + 1) y0 y1 y2 y3 y4 y5)) ∧ (∀ y0 y1 y2 y3 y4, LeO (impl_TableOk.l1 k y0 y1 y2 y3 y4) (impl_TableOk.l1 (k + 1) y0 y1 y2 y3 y4))
 |0 => ⟨fun _ _ _ _ r h => by simp [impl_TableOk.j0] at h, fun _ _ _ _ _ _ r h => by simp [impl_TableOk.l0] at h, fun _ _ _ _ _ r h => by simp [impl_TableOk.l1] at h⟩
 |k + 1 => by
    obtain ⟨ih0, ih1, ih2⟩ := impl_TableOk.mono_l k
    refine ⟨?_, ?_, ?_⟩
    · intro y0 y1 y2 y3
      unfold impl_TableOk.j0
      repeat' first
     |(with_reducible exact ih0 _ _ _ _)
     |(with_reducible exact ih1 _ _ _ _ _ _)
     |(with_reducible exact ih2 _ _ _ _ _)
     |(with_reducible exact impl_Table_keys.mono _ _ _ _)
     |(with_reducible exact impl_cellsOk.mono _ _)
     |(with_reducible exact impl_nones.mono _ _)
     |(with_reducible exact LeO.refl _)
     |(with_reducible exact LeO.none _)
     |(with_reducible refine LeO.ite ?_ ?_)
     |(with_reducible refine LeO.bind ?_ (fun _ => ?_))
     |exact ih0 _ _ _ _
     |exact ih1 _ _ _ _ _ _
     |exact ih2 _ _ _ _ _
     |exact impl_Table_keys.mono _ _ _ _
     |exact impl_cellsOk.mono _ _
     |exact impl_nones.mono _ _
     |exact LeO.none _
     |refine LeO.ite ?_ ?_
     |refine LeO.bind ?_ (fun _ => ?_)
    · intro y0 y1 y2 y3 y4 y5
      unfold impl_TableOk.l0
      repeat' first
     |(with_reducible exact ih0 _ _ _ _)
     |(with_reducible exact ih1 _ _ _ _ _ _)
     |(with_reducible exact ih2 _ _ _ _ _)
     |(with_reducible exact impl_Table_keys.mono _ _ _ _)
     |(with_reducible exact impl_cellsOk.mono _ _)
     |(with_reducible exact impl_nones.mono _ _)
     |(with_reducible exact LeO.refl _)
     |(with_reducible exact LeO.none _)
     |(with_reducible refine LeO.ite ?_ ?_)
     |(with_reducible refine LeO.bind ?_ (fun _ => ?_))
     |exact ih0 _ _ _ _
     |exact ih1 _ _ _ _ _ _
     |exact ih2 _ _ _ _ _
     |exact impl_Table_keys.mono _ _ _ _
     |exact impl_cellsOk.mono _ _
     |exact impl_nones.mono _ _
     |exact LeO.none _
     |refine LeO.ite ?_ ?_
     |refine LeO.bind ?_ (fun _ => ?_)
    · intro y0 y1 y2 y3 y4
      unfold impl_TableOk.l1
      repeat' first
     |(with_reducible exact ih0 _ _ _ _)
     |(with_reducible exact ih1 _ _ _ _ _ _)
     |(with_reducible exact ih2 _ _ _ _ _)
     |(with_reducible exact impl_Table_keys.mono _ _ _ _)
     |(with_reducible exact impl_cellsOk.mono _ _)
     |(with_reducible exact impl_nones.mono _ _)
     |(with_reducible exact LeO.refl _)
     |(with_reducible exact LeO.none _)
     |(with_reducible refine LeO.ite ?_ ?_)
     |(with_reducible refine LeO.bind ?_ (fun _ => ?_))
     |exact ih0 _ _ _ _
     |exact ih1 _ _ _ _ _ _
     |exact ih2 _ _ _ _ _
     |exact impl_Table_keys.mono _ _ _ _
     |exact impl_cellsOk.mono _ _
     |exact impl_nones.mono _ _
     |exact LeO.none _
     |refine LeO.ite ?_ ?_
     |refine LeO.bind ?_ (fun _ => ?_)
theorem impl_TableOk.mono : ∀ a0 a1 a2 k, LeO (impl_TableOk.f k a0 a1 a2) (impl_TableOk.f (k + 1) a0 a1 a2) := by
  intro a0 a1 a2 k
  obtain ⟨ih0, ih1, ih2⟩ := impl_TableOk.mono_l k
  unfold impl_TableOk.f
  repeat' first
     |(with_reducible exact ih0 _ _ _ _)
     |(with_reducible exact ih1 _ _ _ _ _ _)
     |(with_reducible exact ih2 _ _ _ _ _)
     |(with_reducible exact impl_Table_keys.mono _ _ _ _)
     |(with_reducible exact impl_cellsOk.mono _ _)
     |(with_reducible exact impl_nones.mono _ _)
     |(with_reducible exact LeO.refl _)
     |(with_reducible exact LeO.none _)
     |(with_reducible refine LeO.ite ?_ ?_)
     |(with_reducible refine LeO.bind ?_ (fun _ => ?_))
     |exact ih0 _ _ _ _
     |exact ih1 _ _ _ _ _ _
     |exact ih2 _ _ _ _ _
     |exact impl_Table_keys.mono _ _ _ _
     |exact impl_cellsOk.mono _ _
     |exact impl_nones.mono _ _
     |exact LeO.none _
     |refine LeO.ite ?_ ?_
     |refine LeO.bind ?_ (fun _ => ?_)
set_option maxHeartbeats 8000000 in
set_option maxRecDepth 100000 in
theorem impl_TableOk.calls (k : Nat) (A0_0 : Option Addr) (c0_0 : Nat) (l0_0 : List (S103)) (A0_1 : Option Addr) (c0_1 : Nat) (l0_1 : List (S103)) (a0_2 : Int) (r : Bool) (w : World) (hr0_0 : Kd.C k103 w A0_0 l0_0.length l0_0) (hc0_0 : l0_0.length ≤ c0_0) (hr0_1 : Kd.C k103 w A0_1 l0_1.length l0_1) (hc0_1 : l0_1.length ≤ c0_1) (h : impl_TableOk.f k l0_0 l0_1 a0_2 = some r) :
    Calls Try.prog 68 #[.agg #[.slice A0_0 l0_0.length c0_0, .slice A0_1 l0_1.length c0_1, .int .i64 a0_2]] w fun e w' => e = .returned (.bool r) ∧ Below w.heap.size w w' := by
  have hu27 := Try.underlying27
  have hu103 := Try.underlying103
  have HR0_0 := Aside0.mk hr0_0
  have HC0_0 := Aside0.mk hc0_0
  clear hr0_0 hc0_0
  have HR0_1 := Aside0.mk hr0_1
  have HC0_1 := Aside0.mk hc0_1
  clear hr0_1 hc0_1
  have HB := Aside0.mk (Below.refl w.heap.size w)
  have H : ((impl_isSize.f (l0_0.length : Int)).bind fun t280 => (if t280 = true then (if (l0_1.length : Int) = 0 then ((impl_inRange.f a0_2 0 (l0_1.length : Int)).bind fun t281 => (impl_TableOk.j0 k (!t281) l0_0 l0_1 a0_2)) else (if (wrap64 (2 * (l0_1.length : Int))) = (l0_0.length : Int) then ((impl_inRange.f a0_2 0 (l0_1.length : Int)).bind fun t282 => (impl_TableOk.j0 k (!t282) l0_0 l0_1 a0_2)) else (impl_TableOk.j0 k true l0_0 l0_1 a0_2))) else (impl_TableOk.j0 k true l0_0 l0_1 a0_2))) = some r := h
  clear h
  have HC2 := Aside0.mk H
  clear H
  go_enter Try.func68, Try.ntmps68
  go_upto_region 1 with (first|((with_reducible refine gate_dst (N := 1) rfl ?_); (try (refine gate_guard (by rfl) ?_; dsimp only)); refine box_event ?hg (N := 1) ?hd (cs := #[.slice A0_0 l0_0.length c0_0, .slice A0_1 l0_1.length c0_1, .int .i64 a0_2]) (t := 27) ?hr ?_; (case hd => rfl); (case hg => rfl); (case hr => first|(go_simp; done)|(go_simp; rfl)); intro gb279 hg w3 hbox hb; have n0_ := Aside0.mk (zN (by repeat (first|(with_reducible first|exact HB.out|apply zI|apply zG|apply zH)|exact HB.out)) hb); have n1_ := Aside0.mk (hbox); have n2_ := Aside0.mk ((by rw [hg]; exact (below_size (by repeat (first|(with_reducible first|exact HB.out|apply zI|apply zG|apply zH)|exact HB.out))) : w.heap.size ≤ gb279)); have n3_ := Aside0.mk ((by rw [hg]; exact (below_size (by repeat (first|(with_reducible first|exact HB.out|apply zI|apply zG|apply zH)|exact HB.out))) : w.heap.size ≤ gb279)); clear HB; have HB := n0_; have BK279 := n1_; have GW279 := n2_; have GE279 := n3_; clear n0_ n1_ n2_ n3_; clear hb hbox hg))
  repeat (go_quiet (first|((with_reducible refine gate_dst (N := 1) rfl ?_); (try (refine gate_guard (by rfl) ?_; dsimp only)); refine box_event ?hg (N := 1) ?hd (cs := #[.slice A0_0 l0_0.length c0_0, .slice A0_1 l0_1.length c0_1, .int .i64 a0_2]) (t := 27) ?hr ?_; (case hd => rfl); (case hg => rfl); (case hr => first|(go_simp; done)|(go_simp; rfl)); intro gb279 hg w3 hbox hb; have n0_ := Aside0.mk (zN (by repeat (first|(with_reducible first|exact HB.out|apply zI|apply zG|apply zH)|exact HB.out)) hb); have n1_ := Aside0.mk (hbox); have n2_ := Aside0.mk ((by rw [hg]; exact (below_size (by repeat (first|(with_reducible first|exact HB.out|apply zI|apply zG|apply zH)|exact HB.out))) : w.heap.size ≤ gb279)); have n3_ := Aside0.mk ((by rw [hg]; exact (below_size (by repeat (first|(with_reducible first|exact HB.out|apply zI|apply zG|apply zH)|exact HB.out))) : w.heap.size ≤ gb279)); clear HB; have HB := n0_; have BK279 := n1_; have GW279 := n2_; have GE279 := n3_; clear n0_ n1_ n2_ n3_; clear hb hbox hg)); go_upto_region 1 with (first|((with_reducible refine gate_dst (N := 1) rfl ?_); (try (refine gate_guard (by rfl) ?_; dsimp only)); refine box_event ?hg (N := 1) ?hd (cs := #[.slice A0_0 l0_0.length c0_0, .slice A0_1 l0_1.length c0_1, .int .i64 a0_2]) (t := 27) ?hr ?_; (case hd => rfl); (case hg => rfl); (case hr => first|(go_simp; done)|(go_simp; rfl)); intro gb279 hg w3 hbox hb; have n0_ := Aside0.mk (zN (by repeat (first|(with_reducible first|exact HB.out|apply zI|apply zG|apply zH)|exact HB.out)) hb); have n1_ := Aside0.mk (hbox); have n2_ := Aside0.mk ((by rw [hg]; exact (below_size (by repeat (first|(with_reducible first|exact HB.out|apply zI|apply zG|apply zH)|exact HB.out))) : w.heap.size ≤ gb279)); have n3_ := Aside0.mk ((by rw [hg]; exact (below_size (by repeat (first|(with_reducible first|exact HB.out|apply zI|apply zG|apply zH)|exact HB.out))) : w.heap.size ≤ gb279)); clear HB; have HB := n0_; have BK279 := n1_; have GW279 := n2_; have GE279 := n3_; clear n0_ n1_ n2_ n3_; clear hb hbox hg)))
  (try simp only [Act.put, List.setIfInBounds_toArray, List.set_cons_zero, List.set_cons_succ])
  go_cut [36] (fun v36 wc => ∃ (kq : Nat) (x36_1 : Bool), v36 = .bool x36_1 ∧ Aside0 (impl_TableOk.j0 kq x36_1 l0_0 l0_1 a0_2 = some r) ∧ Aside0 (kq ≤ k) ∧ Aside0 (wc.heap[gb279]? = some (.cells #[(.slice A0_0 l0_0.length c0_0), (.slice A0_1 l0_1.length c0_1), .int .i64 a0_2] 27 (0, 0))) ∧ Aside0 (Below w.heap.size w wc))
  case first =>
    have H := HC2.out
    clear HC2
    replace H := Option.bind_eq_some_iff.mp H
    obtain ⟨t280, A40, H⟩ := H
    replace H : (if t280 = true then (if (l0_1.length : Int) = 0 then ((impl_inRange.f a0_2 0 (l0_1.length : Int)).bind fun t281 => (impl_TableOk.j0 k (!t281) l0_0 l0_1 a0_2)) else (if (wrap64 (2 * (l0_1.length : Int))) = (l0_0.length : Int) then ((impl_inRange.f a0_2 0 (l0_1.length : Int)).bind fun t282 => (impl_TableOk.j0 k (!t282) l0_0 l0_1 a0_2)) else (impl_TableOk.j0 k true l0_0 l0_1 a0_2))) else (impl_TableOk.j0 k true l0_0 l0_1 a0_2)) = some r := H
    have A4 := Aside0.mk A40
    clear A40
    by_cases c5 : t280 = true
    · subst c5
      have H1 : (if (l0_1.length : Int) = 0 then ((impl_inRange.f a0_2 0 (l0_1.length : Int)).bind fun t281 => (impl_TableOk.j0 k (!t281) l0_0 l0_1 a0_2)) else (if (wrap64 (2 * (l0_1.length : Int))) = (l0_0.length : Int) then ((impl_inRange.f a0_2 0 (l0_1.length : Int)).bind fun t282 => (impl_TableOk.j0 k (!t282) l0_0 l0_1 a0_2)) else (impl_TableOk.j0 k true l0_0 l0_1 a0_2))) = some r := by rw [if_pos rfl] at H; exact H
      clear H
      have H := H1
      clear H1
      by_cases c6 : (l0_1.length : Int) = 0
      · rw [if_pos c6] at H
        have c6b0 : ((l0_1.length : Int) == 0) = true := beq_iff_eq.mpr c6
        have c6b1 : ((l0_1.length : Int) != 0) = false := bne_eq_false_iff_eq.mpr c6
        clear c6
        (first|rw [c6b0]|(simp only [i64_w, i32_w]; rw [c6b0])|skip)
        replace H := Option.bind_eq_some_iff.mp H
        obtain ⟨t281, A70, H⟩ := H
        replace H : (impl_TableOk.j0 k (!t281) l0_0 l0_1 a0_2) = some r := H
        have A7 := Aside0.mk A70
        clear A70
        have H' := Aside0.mk H
        clear H
        obtain ⟨hcz8_0, hcz8_1, hcz8_2, hfz8_0, hfz8_1, hfz8_2⟩ := zb3 BK279.out
        go_wp2_with (first|(go_at_call 50; (with_reducible refine (impl_isSize.calls (l0_0.length : Int) true _ A4.out).mono ?_); rintro e w' ⟨rfl, ⟨nd, rfl⟩⟩; (try first|exact ⟨rfl, _, World.drewN_drewN _ _ _⟩|exact ⟨rfl, _, Eq.trans (World.drewN_drewN _ _ _) (congrArg (World.drewN _) (Nat.add_assoc _ _ _))⟩))|(go_at_call 20; (with_reducible refine (impl_inRange.calls a0_2 0 (l0_1.length : Int) t281 _ A7.out).mono ?_); rintro e w' ⟨rfl, ⟨nd, rfl⟩⟩; (try first|exact ⟨rfl, _, World.drewN_drewN _ _ _⟩|exact ⟨rfl, _, Eq.trans (World.drewN_drewN _ _ _) (congrArg (World.drewN _) (Nat.add_assoc _ _ _))⟩)))
        repeat (go_quiet (first|(go_at_call 50; (with_reducible refine (impl_isSize.calls (l0_0.length : Int) true _ A4.out).mono ?_); rintro e w' ⟨rfl, ⟨nd, rfl⟩⟩; (try first|exact ⟨rfl, _, World.drewN_drewN _ _ _⟩|exact ⟨rfl, _, Eq.trans (World.drewN_drewN _ _ _) (congrArg (World.drewN _) (Nat.add_assoc _ _ _))⟩))|(go_at_call 20; (with_reducible refine (impl_inRange.calls a0_2 0 (l0_1.length : Int) t281 _ A7.out).mono ?_); rintro e w' ⟨rfl, ⟨nd, rfl⟩⟩; (try first|exact ⟨rfl, _, World.drewN_drewN _ _ _⟩|exact ⟨rfl, _, Eq.trans (World.drewN_drewN _ _ _) (congrArg (World.drewN _) (Nat.add_assoc _ _ _))⟩))); try go_wp2_with (first|(go_at_call 50; (with_reducible refine (impl_isSize.calls (l0_0.length : Int) true _ A4.out).mono ?_); rintro e w' ⟨rfl, ⟨nd, rfl⟩⟩; (try first|exact ⟨rfl, _, World.drewN_drewN _ _ _⟩|exact ⟨rfl, _, Eq.trans (World.drewN_drewN _ _ _) (congrArg (World.drewN _) (Nat.add_assoc _ _ _))⟩))|(go_at_call 20; (with_reducible refine (impl_inRange.calls a0_2 0 (l0_1.length : Int) t281 _ A7.out).mono ?_); rintro e w' ⟨rfl, ⟨nd, rfl⟩⟩; (try first|exact ⟨rfl, _, World.drewN_drewN _ _ _⟩|exact ⟨rfl, _, Eq.trans (World.drewN_drewN _ _ _) (congrArg (World.drewN _) (Nat.add_assoc _ _ _))⟩))))
        go_meet
        case rel => exact ⟨_, (!t281), (by first|rfl|(simp; done)|(simp [*]; done)), H', ⟨by first|omega|exact Nat.le_refl _⟩, ⟨by (with_reducible repeat (first|refine zA ?_ _|refine zC ?_|refine zB ?_ _)); exact BK279.out⟩, ⟨by repeat (first|(with_reducible first|exact HB.out|apply zI|apply zG|apply zH|refine zJ ?_ GE279.out)|exact HB.out)⟩⟩
      · rw [if_neg c6] at H
        have c6b0 : ((l0_1.length : Int) == 0) = false := beq_eq_false_iff_ne.mpr c6
        have c6b1 : ((l0_1.length : Int) != 0) = true := bne_iff_ne.mpr c6
        have c6b2 : ¬ (l0_1 = []) := fun h_ => c6 (by rw [h_]; rfl)
        (first|rw [c6b0]|(simp only [i64_w, i32_w]; rw [c6b0])|skip)
        by_cases c9 : (wrap64 (2 * (l0_1.length : Int))) = (l0_0.length : Int)
        · rw [if_pos c9] at H
          have c9b0 : ((wrap64 (2 * (l0_1.length : Int))) == (l0_0.length : Int)) = true := beq_iff_eq.mpr c9
          have c9b1 : ((wrap64 (2 * (l0_1.length : Int))) != (l0_0.length : Int)) = false := bne_eq_false_iff_eq.mpr c9
          clear c9
          replace H := Option.bind_eq_some_iff.mp H
          obtain ⟨t282, A100, H⟩ := H
          replace H : (impl_TableOk.j0 k (!t282) l0_0 l0_1 a0_2) = some r := H
          have A10 := Aside0.mk A100
          clear A100
          have H' := Aside0.mk H
          clear H
          obtain ⟨hcz11_0, hcz11_1, hcz11_2, hfz11_0, hfz11_1, hfz11_2⟩ := zb3 BK279.out
          go_wp2_with (first|(go_at_call 50; (with_reducible refine (impl_isSize.calls (l0_0.length : Int) true _ A4.out).mono ?_); rintro e w' ⟨rfl, ⟨nd, rfl⟩⟩; (try first|exact ⟨rfl, _, World.drewN_drewN _ _ _⟩|exact ⟨rfl, _, Eq.trans (World.drewN_drewN _ _ _) (congrArg (World.drewN _) (Nat.add_assoc _ _ _))⟩))|(go_at_call 20; (with_reducible refine (impl_inRange.calls a0_2 0 (l0_1.length : Int) t282 _ A10.out).mono ?_); rintro e w' ⟨rfl, ⟨nd, rfl⟩⟩; (try first|exact ⟨rfl, _, World.drewN_drewN _ _ _⟩|exact ⟨rfl, _, Eq.trans (World.drewN_drewN _ _ _) (congrArg (World.drewN _) (Nat.add_assoc _ _ _))⟩)))
          repeat (go_quiet (first|(go_at_call 50; (with_reducible refine (impl_isSize.calls (l0_0.length : Int) true _ A4.out).mono ?_); rintro e w' ⟨rfl, ⟨nd, rfl⟩⟩; (try first|exact ⟨rfl, _, World.drewN_drewN _ _ _⟩|exact ⟨rfl, _, Eq.trans (World.drewN_drewN _ _ _) (congrArg (World.drewN _) (Nat.add_assoc _ _ _))⟩))|(go_at_call 20; (with_reducible refine (impl_inRange.calls a0_2 0 (l0_1.length : Int) t282 _ A10.out).mono ?_); rintro e w' ⟨rfl, ⟨nd, rfl⟩⟩; (try first|exact ⟨rfl, _, World.drewN_drewN _ _ _⟩|exact ⟨rfl, _, Eq.trans (World.drewN_drewN _ _ _) (congrArg (World.drewN _) (Nat.add_assoc _ _ _))⟩))); try go_wp2_with (first|(go_at_call 50; (with_reducible refine (impl_isSize.calls (l0_0.length : Int) true _ A4.out).mono ?_); rintro e w' ⟨rfl, ⟨nd, rfl⟩⟩; (try first|exact ⟨rfl, _, World.drewN_drewN _ _ _⟩|exact ⟨rfl, _, Eq.trans (World.drewN_drewN _ _ _) (congrArg (World.drewN _) (Nat.add_assoc _ _ _))⟩))|(go_at_call 20; (with_reducible refine (impl_inRange.calls a0_2 0 (l0_1.length : Int) t282 _ A10.out).mono ?_); rintro e w' ⟨rfl, ⟨nd, rfl⟩⟩; (try first|exact ⟨rfl, _, World.drewN_drewN _ _ _⟩|exact ⟨rfl, _, Eq.trans (World.drewN_drewN _ _ _) (congrArg (World.drewN _) (Nat.add_assoc _ _ _))⟩))))
          go_meet
          case rel => exact ⟨_, (!t282), (by first|rfl|(simp; done)|(simp [*]; done)), H', ⟨by first|omega|exact Nat.le_refl _⟩, ⟨by (with_reducible repeat (first|refine zA ?_ _|refine zC ?_|refine zB ?_ _)); exact BK279.out⟩, ⟨by repeat (first|(with_reducible first|exact HB.out|apply zI|apply zG|apply zH|refine zJ ?_ GE279.out)|exact HB.out)⟩⟩
        · rw [if_neg c9] at H
          have c9b0 : ((wrap64 (2 * (l0_1.length : Int))) == (l0_0.length : Int)) = false := beq_eq_false_iff_ne.mpr c9
          have c9b1 : ((wrap64 (2 * (l0_1.length : Int))) != (l0_0.length : Int)) = true := bne_iff_ne.mpr c9
          have H' := Aside0.mk H
          clear H
          obtain ⟨hcz12_0, hcz12_1, hcz12_2, hfz12_0, hfz12_1, hfz12_2⟩ := zb3 BK279.out
          go_wp2_with (first|(go_at_call 50; (with_reducible refine (impl_isSize.calls (l0_0.length : Int) true _ A4.out).mono ?_); rintro e w' ⟨rfl, ⟨nd, rfl⟩⟩; (try first|exact ⟨rfl, _, World.drewN_drewN _ _ _⟩|exact ⟨rfl, _, Eq.trans (World.drewN_drewN _ _ _) (congrArg (World.drewN _) (Nat.add_assoc _ _ _))⟩)))
          repeat (go_quiet (first|(go_at_call 50; (with_reducible refine (impl_isSize.calls (l0_0.length : Int) true _ A4.out).mono ?_); rintro e w' ⟨rfl, ⟨nd, rfl⟩⟩; (try first|exact ⟨rfl, _, World.drewN_drewN _ _ _⟩|exact ⟨rfl, _, Eq.trans (World.drewN_drewN _ _ _) (congrArg (World.drewN _) (Nat.add_assoc _ _ _))⟩))); try go_wp2_with (first|(go_at_call 50; (with_reducible refine (impl_isSize.calls (l0_0.length : Int) true _ A4.out).mono ?_); rintro e w' ⟨rfl, ⟨nd, rfl⟩⟩; (try first|exact ⟨rfl, _, World.drewN_drewN _ _ _⟩|exact ⟨rfl, _, Eq.trans (World.drewN_drewN _ _ _) (congrArg (World.drewN _) (Nat.add_assoc _ _ _))⟩))))
          go_meet
          case rel => exact ⟨_, (true), (by first|rfl|(simp; done)|(simp [*]; done)), H', ⟨by first|omega|exact Nat.le_refl _⟩, ⟨by (with_reducible repeat (first|refine zA ?_ _|refine zC ?_|refine zB ?_ _)); exact BK279.out⟩, ⟨by repeat (first|(with_reducible first|exact HB.out|apply zI|apply zG|apply zH|refine zJ ?_ GE279.out)|exact HB.out)⟩⟩
    · replace c5 := Bool.eq_false_iff.mpr c5
      subst c5
      have H1 : (impl_TableOk.j0 k true l0_0 l0_1 a0_2) = some r := by rw [if_neg (show ¬ (false = true) by decide)] at H; exact H
      clear H
      have H := H1
      clear H1
      have H' := Aside0.mk H
      clear H
      obtain ⟨hcz13_0, hcz13_1, hcz13_2, hfz13_0, hfz13_1, hfz13_2⟩ := zb3 BK279.out
      go_wp2_with (first|(go_at_call 50; (with_reducible refine (impl_isSize.calls (l0_0.length : Int) false _ A4.out).mono ?_); rintro e w' ⟨rfl, ⟨nd, rfl⟩⟩; (try first|exact ⟨rfl, _, World.drewN_drewN _ _ _⟩|exact ⟨rfl, _, Eq.trans (World.drewN_drewN _ _ _) (congrArg (World.drewN _) (Nat.add_assoc _ _ _))⟩)))
      repeat (go_quiet (first|(go_at_call 50; (with_reducible refine (impl_isSize.calls (l0_0.length : Int) false _ A4.out).mono ?_); rintro e w' ⟨rfl, ⟨nd, rfl⟩⟩; (try first|exact ⟨rfl, _, World.drewN_drewN _ _ _⟩|exact ⟨rfl, _, Eq.trans (World.drewN_drewN _ _ _) (congrArg (World.drewN _) (Nat.add_assoc _ _ _))⟩))); try go_wp2_with (first|(go_at_call 50; (with_reducible refine (impl_isSize.calls (l0_0.length : Int) false _ A4.out).mono ?_); rintro e w' ⟨rfl, ⟨nd, rfl⟩⟩; (try first|exact ⟨rfl, _, World.drewN_drewN _ _ _⟩|exact ⟨rfl, _, Eq.trans (World.drewN_drewN _ _ _) (congrArg (World.drewN _) (Nat.add_assoc _ _ _))⟩))))
      go_meet
      case rel => exact ⟨_, (true), (by first|rfl|(simp; done)|(simp [*]; done)), H', ⟨by first|omega|exact Nat.le_refl _⟩, ⟨by (with_reducible repeat (first|refine zA ?_ _|refine zC ?_|refine zB ?_ _)); exact BK279.out⟩, ⟨by repeat (first|(with_reducible first|exact HB.out|apply zI|apply zG|apply zH|refine zJ ?_ GE279.out)|exact HB.out)⟩⟩
  case rest =>
    clear HC2
    try clear p2
    try clear c5
    try clear c6
    try clear c6b0
    try clear c6b1
    try clear c6b2
    try clear p6
    try clear c9
    try clear c9b0
    try clear c9b1
    try clear hcz11_0
    try clear hcz11_1
    try clear hcz11_2
    try clear hcz12_0
    try clear hcz12_1
    try clear hcz12_2
    try clear hcz13_0
    try clear hcz13_1
    try clear hcz13_2
    try clear hcz8_0
    try clear hcz8_1
    try clear hcz8_2
    try clear hfz11_0
    try clear hfz11_1
    try clear hfz11_2
    try clear hfz12_0
    try clear hfz12_1
    try clear hfz12_2
    try clear hfz13_0
    try clear hfz13_1
    try clear hfz13_2
    try clear hfz8_0
    try clear hfz8_1
    try clear hfz8_2
    obtain ⟨kq, x36_1, rfl, HA, HJ1, BK279, HB⟩ := hcut
    cases kq with
   |zero => exact absurd HA.out (by simp [impl_TableOk.j0])
   |succ kj1 =>
      have H := HA.out
      clear HA
      simp only [impl_TableOk.j0] at H
      by_cases c14 : x36_1 = true
      · subst c14
        have H1 : (some false) = some r := by rw [if_pos rfl] at H; exact H
        clear H
        have H := H1
        clear H1
        obtain rfl := Option.some.inj H
        go_wp2
        repeat (go_quiet (fail); try go_wp2)
        go_ret
        exact ⟨by first|rfl|(simp [errW_none, errW_some] <;> rfl)|(simp [*, errW_none, errW_some] <;> rfl), by repeat (first|(with_reducible first|exact HB.out|apply zI|apply zG|apply zH|refine zJ ?_ GE279.out)|exact HB.out)⟩
      · replace c14 := Bool.eq_false_iff.mpr c14
        subst c14
        have H1 : (if 0 ≤ a0_2 then (if a0_2 ≤ (l0_1.length : Int) then ((some (l0_1.take (a0_2 : Int).toNat : List (S103))).bind fun y283 => (impl_TableOk.l0 kj1 y283 (y283.length : Int) 0 l0_0 l0_1 a0_2)) else (none)) else (none)) = some r := by rw [if_neg (show ¬ (false = true) by decide)] at H; exact H
        clear H
        have H := H1
        clear H1
        by_cases c15 : 0 ≤ a0_2
        · rw [if_pos c15] at H
          have c15b0 := eq_true c15
          have c15b1 : decide (0 ≤ a0_2) = true := decide_eq_true c15
          clear c15
          by_cases c16 : a0_2 ≤ (l0_1.length : Int)
          · rw [if_pos c16] at H
            have c16b0 := eq_true c16
            have c16b1 : decide (a0_2 ≤ (l0_1.length : Int)) = true := decide_eq_true c16
            clear c16
            obtain ⟨y283, hy283⟩ : ∃ y_ : List (S103), y_ = (l0_1.take (a0_2 : Int).toNat) := ⟨_, rfl⟩
            replace H : (impl_TableOk.l0 kj1 y283 (y283.length : Int) 0 l0_0 l0_1 a0_2) = some r := by first|(rw [hy283]; with_reducible exact H)|(have H2_ := (Option.bind_some _ _).symm.trans H; rw [hy283]; with_reducible exact H2_)|(have H2_ := (Option.bind_some _ _).symm.trans H; with_reducible exact H2_)|with_reducible exact H|(rw [hy283]; exact H)|exact H
            have Ny283 := Aside0.mk hy283
            clear hy283
            have H' := Aside0.mk H
            clear H
            obtain ⟨hcz17_0, hcz17_1, hcz17_2, hfz17_0, hfz17_1, hfz17_2⟩ := zb3 BK279.out
            have q18 : (a0_2 : Int) ≤ ((l0_1.length : Int) : Int) := of_decide_eq_true (by first|(with_reducible assumption)|assumption)
            obtain ⟨i018, hi018, _, hsz18, _⟩ := info_parts info103
            have hroom18 : l0_1.length ≤ c0_1 := HC0_1.out
            have hC18 : Kd.C k103 _ A0_1 l0_1.length l0_1 := HR0_1.out
            have hcut18 := cut_to (P := Try.prog) 25 103 .i64 Try.underlying25 hi018 A0_1 l0_1.length c0_1 a0_2 (of_decide_eq_true (by first|(with_reducible assumption)|assumption)) q18 hroom18
            have hr18 := Kd.C_take (m := (a0_2 : Int).toNat) hC18 (by omega)
            have hy18 : y283.length = (a0_2 : Int).toNat := (by rw [Ny283.out, List.length_take]; omega)
            rw [← Ny283.out] at hr18
            rw [← hy18] at hcut18
            have HR286 := Aside0.mk hr18
            have HC286 := Aside0.mk (show y283.length ≤ c0_1 from by omega)
            clear hr18 hC18 hroom18 hi018 hsz18
            have KY18 := Aside0.mk hy18
            clear hy18
            replace q18 := eq_true q18
            go_wp2
            repeat (go_quiet (fail); try go_wp2)
            go_loopg [43] kj1 (fun kq v43 w' => ∃ (x43_2 : Int), v43 = .int .i64 x43_2 ∧ Aside0 (impl_TableOk.l0 kq y283 (y283.length : Int) x43_2 l0_0 l0_1 a0_2 = some r) ∧ Aside0 (kq ≤ kj1) ∧ Aside0 (w'.heap[gb279]? = some (.cells #[(.slice A0_0 l0_0.length c0_0), (.slice A0_1 l0_1.length c0_1), .int .i64 a0_2] 27 (0, 0))) ∧ Aside0 (Below w.heap.size w w'))
            case atStart => exact ⟨(0), (by first|rfl|(simp; done)|(simp [*]; done)), H', ⟨Nat.le_refl _⟩, ⟨by (with_reducible repeat (first|refine zA ?_ _|refine zC ?_|refine zB ?_ _)); exact BK279.out⟩, ⟨by repeat (first|(with_reducible first|exact HB.out|apply zI|apply zG|apply zH|refine zJ ?_ GE279.out)|exact HB.out)⟩⟩
            case round =>
              clear H'
              try clear c1
              try clear q1
              try clear p2
              try clear c5
              try clear c6
              try clear c6b0
              try clear c6b1
              try clear c6b2
              try clear p6
              try clear c9
              try clear c9b0
              try clear c9b1
              try clear c14
              try clear c15
              try clear c15b0
              try clear c15b1
              try clear c16
              try clear c16b0
              try clear c16b1
              try clear q18
              try clear hcz11_0
              try clear hcz11_1
              try clear hcz11_2
              try clear hcz12_0
              try clear hcz12_1
              try clear hcz12_2
              try clear hcz13_0
              try clear hcz13_1
              try clear hcz13_2
              try clear hcz17_0
              try clear hcz17_1
              try clear hcz17_2
              try clear hcz8_0
              try clear hcz8_1
              try clear hcz8_2
              try clear hfz11_0
              try clear hfz11_1
              try clear hfz11_2
              try clear hfz12_0
              try clear hfz12_1
              try clear hfz12_2
              try clear hfz13_0
              try clear hfz13_1
              try clear hfz13_2
              try clear hfz17_0
              try clear hfz17_1
              try clear hfz17_2
              try clear hfz8_0
              try clear hfz8_1
              try clear hfz8_2
              try clear p2
              try clear p6
              try clear q18
              obtain ⟨x43_2, rfl, HA, HK2, BK279, HB⟩ := hrel
              cases gk with
             |zero => exact absurd HA.out (by simp [impl_TableOk.l0])
             |succ k2 =>
                have H := HA.out
                clear HA
                simp only [impl_TableOk.l0] at H
                by_cases c19 : x43_2 < (y283.length : Int)
                · rw [if_pos c19] at H
                  have c19b0 : decide (x43_2 < (y283.length : Int)) = true := decide_eq_true c19
                  clear c19
                  by_cases c20 : 0 ≤ x43_2
                  · rw [if_pos c20] at H
                    have c20b0 : decide (0 ≤ x43_2) = true := decide_eq_true c20
                    clear c20
                    by_cases c21 : x43_2 < (y283.length : Int)
                    · rw [if_pos c21] at H
                      have c21b0 : decide (x43_2 < (y283.length : Int)) = true := decide_eq_true c21
                      clear c21
                      by_cases c22 : (!((((rd_T103 y283 x43_2).f0).toList) == ([] : List UInt8)) || (!(((rd_T103 y283 x43_2).f1) == (-2)))) = true
                      · rw [if_pos c22] at H
                        have c22b0 : (!((((rd_T103 y283 x43_2).f0).toList) == ([] : List UInt8)) || (!(((rd_T103 y283 x43_2).f1) == (-2)))) = true := c22
                        have c22x : ((!(((rd_T103 y283 x43_2).f0).toList.isEmpty)) = false ∧ (!(((rd_T103 y283 x43_2).f1) == (-2))) = false) = False := by rw [eq_iff_iff, iff_false]; rintro ⟨h1_, h2_⟩; rw [h2_, Bool.or_false] at c22b0; generalize ByteArray.toList _ = l_ at *; cases l_ <;> simp_all
                        clear c22
                        obtain rfl := Option.some.inj H
                        have p287 : 0 ≤ (x43_2 : Int) := of_decide_eq_true (by first|(with_reducible assumption)|assumption)
                        have q287 : x43_2 < (y283.length : Int) := of_decide_eq_true (by first|(with_reducible assumption)|assumption)
                        obtain ⟨ad287, e287, hx287_0, hx287_1⟩ := at_T103 HR286.out x43_2 p287 q287
                        cases e287
                        replace hx287_0 := (HB.out.cell (World.block_lt_of_cell? w _ hx287_0)).trans hx287_0
                        replace hx287_1 := (HB.out.cell (World.block_lt_of_cell? w _ hx287_1)).trans hx287_1
                        replace p287 := eq_true p287
                        replace q287 := eq_true q287
                        go_wp2_with (first|((with_reducible refine gate_dst (N := 4) rfl ?_); (try (refine gate_guard (by rfl) ?_; dsimp only)); refine box_event ?hg (N := 4) ?hd (cs := #[.string (⟨#[]⟩ : ByteArray), .int .i64 0]) (t := 103) ?hr ?_; (case hd => rfl); (case hg => rfl); (case hr => first|(go_simp; done)|(go_simp; rfl)); intro gb288 hg w23 hbox hb; have n0_ := Aside0.mk (zK (g := gb279) (o := .cells #[.slice A0_0 l0_0.length c0_0, .slice (some ad287) l0_1.length c0_1, .int .i64 a0_2] 27 (0, 0)) (by (with_reducible repeat (first|refine zA ?_ _|refine zC ?_|refine zB ?_ _)); exact BK279.out) hb); have n1_ := Aside0.mk (zN (by repeat (first|(with_reducible first|exact HB.out|apply zI|apply zG|apply zH|refine zJ ?_ GE279.out)|exact HB.out)) hb); have n2_ := Aside0.mk (hbox); have n3_ := Aside0.mk ((by rw [hg]; exact (below_size (by repeat (first|(with_reducible first|exact HB.out|apply zI|apply zG|apply zH|refine zJ ?_ GE279.out)|exact HB.out))) : w.heap.size ≤ gb288)); have n4_ := Aside0.mk ((by rw [hg]; exact (below_size (by repeat (first|(with_reducible first|exact HB.out|apply zI|apply zG|apply zH|refine zJ ?_ GE279.out)|exact HB.out))) : w.heap.size ≤ gb288)); have n5_ := Aside0.mk ((by rw [hg]; exact Nat.ne_of_lt (blk_lt (g := gb279) (o := .cells #[.slice A0_0 l0_0.length c0_0, .slice (some ad287) l0_1.length c0_1, .int .i64 a0_2] 27 (0, 0)) (by (with_reducible repeat (first|refine zA ?_ _|refine zC ?_|refine zB ?_ _)); exact BK279.out)) : gb279 ≠ gb288)); have n6_ := Aside0.mk ((by rw [hg]; exact Nat.ne_of_gt (blk_lt (g := gb279) (o := .cells #[.slice A0_0 l0_0.length c0_0, .slice (some ad287) l0_1.length c0_1, .int .i64 a0_2] 27 (0, 0)) (by (with_reducible repeat (first|refine zA ?_ _|refine zC ?_|refine zB ?_ _)); exact BK279.out)) : gb288 ≠ gb279)); clear BK279; clear HB; have BK279 := n0_; have HB := n1_; have BK288 := n2_; have GW288 := n3_; have GE288 := n4_; have NB279_288 := n5_; have NB288_279 := n6_; clear n0_ n1_ n2_ n3_ n4_ n5_ n6_; clear hb hbox hg; have hnb24 := NB288_279.out; have hnc24 := NB279_288.out; obtain ⟨hcz25_0, hcz25_1, hfz25_0, hfz25_1⟩ := zb2 BK288.out))
                        repeat (go_quiet (first|((with_reducible refine gate_dst (N := 4) rfl ?_); (try (refine gate_guard (by rfl) ?_; dsimp only)); refine box_event ?hg (N := 4) ?hd (cs := #[.string (⟨#[]⟩ : ByteArray), .int .i64 0]) (t := 103) ?hr ?_; (case hd => rfl); (case hg => rfl); (case hr => first|(go_simp; done)|(go_simp; rfl)); intro gb288 hg w23 hbox hb; have n0_ := Aside0.mk (zK (g := gb279) (o := .cells #[.slice A0_0 l0_0.length c0_0, .slice (some ad287) l0_1.length c0_1, .int .i64 a0_2] 27 (0, 0)) (by (with_reducible repeat (first|refine zA ?_ _|refine zC ?_|refine zB ?_ _)); exact BK279.out) hb); have n1_ := Aside0.mk (zN (by repeat (first|(with_reducible first|exact HB.out|apply zI|apply zG|apply zH|refine zJ ?_ GE279.out)|exact HB.out)) hb); have n2_ := Aside0.mk (hbox); have n3_ := Aside0.mk ((by rw [hg]; exact (below_size (by repeat (first|(with_reducible first|exact HB.out|apply zI|apply zG|apply zH|refine zJ ?_ GE279.out)|exact HB.out))) : w.heap.size ≤ gb288)); have n4_ := Aside0.mk ((by rw [hg]; exact (below_size (by repeat (first|(with_reducible first|exact HB.out|apply zI|apply zG|apply zH|refine zJ ?_ GE279.out)|exact HB.out))) : w.heap.size ≤ gb288)); have n5_ := Aside0.mk ((by rw [hg]; exact Nat.ne_of_lt (blk_lt (g := gb279) (o := .cells #[.slice A0_0 l0_0.length c0_0, .slice (some ad287) l0_1.length c0_1, .int .i64 a0_2] 27 (0, 0)) (by (with_reducible repeat (first|refine zA ?_ _|refine zC ?_|refine zB ?_ _)); exact BK279.out)) : gb279 ≠ gb288)); have n6_ := Aside0.mk ((by rw [hg]; exact Nat.ne_of_gt (blk_lt (g := gb279) (o := .cells #[.slice A0_0 l0_0.length c0_0, .slice (some ad287) l0_1.length c0_1, .int .i64 a0_2] 27 (0, 0)) (by (with_reducible repeat (first|refine zA ?_ _|refine zC ?_|refine zB ?_ _)); exact BK279.out)) : gb288 ≠ gb279)); clear BK279; clear HB; have BK279 := n0_; have HB := n1_; have BK288 := n2_; have GW288 := n3_; have GE288 := n4_; have NB279_288 := n5_; have NB288_279 := n6_; clear n0_ n1_ n2_ n3_ n4_ n5_ n6_; clear hb hbox hg; have hnb24 := NB288_279.out; have hnc24 := NB279_288.out; obtain ⟨hcz25_0, hcz25_1, hfz25_0, hfz25_1⟩ := zb2 BK288.out)); try go_wp2_with (first|((with_reducible refine gate_dst (N := 4) rfl ?_); (try (refine gate_guard (by rfl) ?_; dsimp only)); refine box_event ?hg (N := 4) ?hd (cs := #[.string (⟨#[]⟩ : ByteArray), .int .i64 0]) (t := 103) ?hr ?_; (case hd => rfl); (case hg => rfl); (case hr => first|(go_simp; done)|(go_simp; rfl)); intro gb288 hg w23 hbox hb; have n0_ := Aside0.mk (zK (g := gb279) (o := .cells #[.slice A0_0 l0_0.length c0_0, .slice (some ad287) l0_1.length c0_1, .int .i64 a0_2] 27 (0, 0)) (by (with_reducible repeat (first|refine zA ?_ _|refine zC ?_|refine zB ?_ _)); exact BK279.out) hb); have n1_ := Aside0.mk (zN (by repeat (first|(with_reducible first|exact HB.out|apply zI|apply zG|apply zH|refine zJ ?_ GE279.out)|exact HB.out)) hb); have n2_ := Aside0.mk (hbox); have n3_ := Aside0.mk ((by rw [hg]; exact (below_size (by repeat (first|(with_reducible first|exact HB.out|apply zI|apply zG|apply zH|refine zJ ?_ GE279.out)|exact HB.out))) : w.heap.size ≤ gb288)); have n4_ := Aside0.mk ((by rw [hg]; exact (below_size (by repeat (first|(with_reducible first|exact HB.out|apply zI|apply zG|apply zH|refine zJ ?_ GE279.out)|exact HB.out))) : w.heap.size ≤ gb288)); have n5_ := Aside0.mk ((by rw [hg]; exact Nat.ne_of_lt (blk_lt (g := gb279) (o := .cells #[.slice A0_0 l0_0.length c0_0, .slice (some ad287) l0_1.length c0_1, .int .i64 a0_2] 27 (0, 0)) (by (with_reducible repeat (first|refine zA ?_ _|refine zC ?_|refine zB ?_ _)); exact BK279.out)) : gb279 ≠ gb288)); have n6_ := Aside0.mk ((by rw [hg]; exact Nat.ne_of_gt (blk_lt (g := gb279) (o := .cells #[.slice A0_0 l0_0.length c0_0, .slice (some ad287) l0_1.length c0_1, .int .i64 a0_2] 27 (0, 0)) (by (with_reducible repeat (first|refine zA ?_ _|refine zC ?_|refine zB ?_ _)); exact BK279.out)) : gb288 ≠ gb279)); clear BK279; clear HB; have BK279 := n0_; have HB := n1_; have BK288 := n2_; have GW288 := n3_; have GE288 := n4_; have NB279_288 := n5_; have NB288_279 := n6_; clear n0_ n1_ n2_ n3_ n4_ n5_ n6_; clear hb hbox hg; have hnb24 := NB288_279.out; have hnc24 := NB279_288.out; obtain ⟨hcz25_0, hcz25_1, hfz25_0, hfz25_1⟩ := zb2 BK288.out)))
                        go_ret
                        exact ⟨by first|rfl|(simp [errW_none, errW_some] <;> rfl)|(simp [*, errW_none, errW_some] <;> rfl), by repeat (first|(with_reducible first|exact HB.out|apply zI|apply zG|apply zH|refine zJ ?_ GE279.out|refine zJ ?_ GE288.out)|exact HB.out)⟩
                        all_goals (rename_i h_; exact absurd h_ (by intro h1_; obtain ⟨h1_, h2_⟩ := h1_; revert c22b0; rw [h2_, Bool.or_false]; generalize ByteArray.toList _ = l_ at *; cases l_ <;> simp_all))
                      · rw [if_neg c22] at H
                        have c22b0 : (!((((rd_T103 y283 x43_2).f0).toList) == ([] : List UInt8)) || (!(((rd_T103 y283 x43_2).f1) == (-2)))) = false := by simpa using c22
                        have c22x : (!(((rd_T103 y283 x43_2).f0).toList.isEmpty)) = false := by have h1_ := (Bool.or_eq_false_iff.mp c22b0).1; generalize ByteArray.toList _ = l_ at *; cases l_ <;> simp_all
                        have c22y : (!(((rd_T103 y283 x43_2).f1) == (-2))) = false := (Bool.or_eq_false_iff.mp c22b0).2
                        clear c22
                        have H' := Aside0.mk H
                        clear H
                        have p287 : 0 ≤ (x43_2 : Int) := of_decide_eq_true (by first|(with_reducible assumption)|assumption)
                        have q287 : x43_2 < (y283.length : Int) := of_decide_eq_true (by first|(with_reducible assumption)|assumption)
                        obtain ⟨ad287, e287, hx287_0, hx287_1⟩ := at_T103 HR286.out x43_2 p287 q287
                        cases e287
                        replace hx287_0 := (HB.out.cell (World.block_lt_of_cell? w _ hx287_0)).trans hx287_0
                        replace hx287_1 := (HB.out.cell (World.block_lt_of_cell? w _ hx287_1)).trans hx287_1
                        replace p287 := eq_true p287
                        replace q287 := eq_true q287
                        go_wp2_with (first|((with_reducible refine gate_dst (N := 4) rfl ?_); (try (refine gate_guard (by rfl) ?_; dsimp only)); refine box_event ?hg (N := 4) ?hd (cs := #[.string (⟨#[]⟩ : ByteArray), .int .i64 0]) (t := 103) ?hr ?_; (case hd => rfl); (case hg => rfl); (case hr => first|(go_simp; done)|(go_simp; rfl)); intro gb288 hg w26 hbox hb; have n0_ := Aside0.mk (zK (g := gb279) (o := .cells #[.slice A0_0 l0_0.length c0_0, .slice (some ad287) l0_1.length c0_1, .int .i64 a0_2] 27 (0, 0)) (by (with_reducible repeat (first|refine zA ?_ _|refine zC ?_|refine zB ?_ _)); exact BK279.out) hb); have n1_ := Aside0.mk (zN (by repeat (first|(with_reducible first|exact HB.out|apply zI|apply zG|apply zH|refine zJ ?_ GE279.out)|exact HB.out)) hb); have n2_ := Aside0.mk (hbox); have n3_ := Aside0.mk ((by rw [hg]; exact (below_size (by repeat (first|(with_reducible first|exact HB.out|apply zI|apply zG|apply zH|refine zJ ?_ GE279.out)|exact HB.out))) : w.heap.size ≤ gb288)); have n4_ := Aside0.mk ((by rw [hg]; exact (below_size (by repeat (first|(with_reducible first|exact HB.out|apply zI|apply zG|apply zH|refine zJ ?_ GE279.out)|exact HB.out))) : w.heap.size ≤ gb288)); have n5_ := Aside0.mk ((by rw [hg]; exact Nat.ne_of_lt (blk_lt (g := gb279) (o := .cells #[.slice A0_0 l0_0.length c0_0, .slice (some ad287) l0_1.length c0_1, .int .i64 a0_2] 27 (0, 0)) (by (with_reducible repeat (first|refine zA ?_ _|refine zC ?_|refine zB ?_ _)); exact BK279.out)) : gb279 ≠ gb288)); have n6_ := Aside0.mk ((by rw [hg]; exact Nat.ne_of_gt (blk_lt (g := gb279) (o := .cells #[.slice A0_0 l0_0.length c0_0, .slice (some ad287) l0_1.length c0_1, .int .i64 a0_2] 27 (0, 0)) (by (with_reducible repeat (first|refine zA ?_ _|refine zC ?_|refine zB ?_ _)); exact BK279.out)) : gb288 ≠ gb279)); clear BK279; clear HB; have BK279 := n0_; have HB := n1_; have BK288 := n2_; have GW288 := n3_; have GE288 := n4_; have NB279_288 := n5_; have NB288_279 := n6_; clear n0_ n1_ n2_ n3_ n4_ n5_ n6_; clear hb hbox hg; have hnb27 := NB288_279.out; have hnc27 := NB279_288.out; obtain ⟨hcz28_0, hcz28_1, hfz28_0, hfz28_1⟩ := zb2 BK288.out))
                        repeat (go_quiet (first|((with_reducible refine gate_dst (N := 4) rfl ?_); (try (refine gate_guard (by rfl) ?_; dsimp only)); refine box_event ?hg (N := 4) ?hd (cs := #[.string (⟨#[]⟩ : ByteArray), .int .i64 0]) (t := 103) ?hr ?_; (case hd => rfl); (case hg => rfl); (case hr => first|(go_simp; done)|(go_simp; rfl)); intro gb288 hg w26 hbox hb; have n0_ := Aside0.mk (zK (g := gb279) (o := .cells #[.slice A0_0 l0_0.length c0_0, .slice (some ad287) l0_1.length c0_1, .int .i64 a0_2] 27 (0, 0)) (by (with_reducible repeat (first|refine zA ?_ _|refine zC ?_|refine zB ?_ _)); exact BK279.out) hb); have n1_ := Aside0.mk (zN (by repeat (first|(with_reducible first|exact HB.out|apply zI|apply zG|apply zH|refine zJ ?_ GE279.out)|exact HB.out)) hb); have n2_ := Aside0.mk (hbox); have n3_ := Aside0.mk ((by rw [hg]; exact (below_size (by repeat (first|(with_reducible first|exact HB.out|apply zI|apply zG|apply zH|refine zJ ?_ GE279.out)|exact HB.out))) : w.heap.size ≤ gb288)); have n4_ := Aside0.mk ((by rw [hg]; exact (below_size (by repeat (first|(with_reducible first|exact HB.out|apply zI|apply zG|apply zH|refine zJ ?_ GE279.out)|exact HB.out))) : w.heap.size ≤ gb288)); have n5_ := Aside0.mk ((by rw [hg]; exact Nat.ne_of_lt (blk_lt (g := gb279) (o := .cells #[.slice A0_0 l0_0.length c0_0, .slice (some ad287) l0_1.length c0_1, .int .i64 a0_2] 27 (0, 0)) (by (with_reducible repeat (first|refine zA ?_ _|refine zC ?_|refine zB ?_ _)); exact BK279.out)) : gb279 ≠ gb288)); have n6_ := Aside0.mk ((by rw [hg]; exact Nat.ne_of_gt (blk_lt (g := gb279) (o := .cells #[.slice A0_0 l0_0.length c0_0, .slice (some ad287) l0_1.length c0_1, .int .i64 a0_2] 27 (0, 0)) (by (with_reducible repeat (first|refine zA ?_ _|refine zC ?_|refine zB ?_ _)); exact BK279.out)) : gb288 ≠ gb279)); clear BK279; clear HB; have BK279 := n0_; have HB := n1_; have BK288 := n2_; have GW288 := n3_; have GE288 := n4_; have NB279_288 := n5_; have NB288_279 := n6_; clear n0_ n1_ n2_ n3_ n4_ n5_ n6_; clear hb hbox hg; have hnb27 := NB288_279.out; have hnc27 := NB279_288.out; obtain ⟨hcz28_0, hcz28_1, hfz28_0, hfz28_1⟩ := zb2 BK288.out)); try go_wp2_with (first|((with_reducible refine gate_dst (N := 4) rfl ?_); (try (refine gate_guard (by rfl) ?_; dsimp only)); refine box_event ?hg (N := 4) ?hd (cs := #[.string (⟨#[]⟩ : ByteArray), .int .i64 0]) (t := 103) ?hr ?_; (case hd => rfl); (case hg => rfl); (case hr => first|(go_simp; done)|(go_simp; rfl)); intro gb288 hg w26 hbox hb; have n0_ := Aside0.mk (zK (g := gb279) (o := .cells #[.slice A0_0 l0_0.length c0_0, .slice (some ad287) l0_1.length c0_1, .int .i64 a0_2] 27 (0, 0)) (by (with_reducible repeat (first|refine zA ?_ _|refine zC ?_|refine zB ?_ _)); exact BK279.out) hb); have n1_ := Aside0.mk (zN (by repeat (first|(with_reducible first|exact HB.out|apply zI|apply zG|apply zH|refine zJ ?_ GE279.out)|exact HB.out)) hb); have n2_ := Aside0.mk (hbox); have n3_ := Aside0.mk ((by rw [hg]; exact (below_size (by repeat (first|(with_reducible first|exact HB.out|apply zI|apply zG|apply zH|refine zJ ?_ GE279.out)|exact HB.out))) : w.heap.size ≤ gb288)); have n4_ := Aside0.mk ((by rw [hg]; exact (below_size (by repeat (first|(with_reducible first|exact HB.out|apply zI|apply zG|apply zH|refine zJ ?_ GE279.out)|exact HB.out))) : w.heap.size ≤ gb288)); have n5_ := Aside0.mk ((by rw [hg]; exact Nat.ne_of_lt (blk_lt (g := gb279) (o := .cells #[.slice A0_0 l0_0.length c0_0, .slice (some ad287) l0_1.length c0_1, .int .i64 a0_2] 27 (0, 0)) (by (with_reducible repeat (first|refine zA ?_ _|refine zC ?_|refine zB ?_ _)); exact BK279.out)) : gb279 ≠ gb288)); have n6_ := Aside0.mk ((by rw [hg]; exact Nat.ne_of_gt (blk_lt (g := gb279) (o := .cells #[.slice A0_0 l0_0.length c0_0, .slice (some ad287) l0_1.length c0_1, .int .i64 a0_2] 27 (0, 0)) (by (with_reducible repeat (first|refine zA ?_ _|refine zC ?_|refine zB ?_ _)); exact BK279.out)) : gb288 ≠ gb279)); clear BK279; clear HB; have BK279 := n0_; have HB := n1_; have BK288 := n2_; have GW288 := n3_; have GE288 := n4_; have NB279_288 := n5_; have NB288_279 := n6_; clear n0_ n1_ n2_ n3_ n4_ n5_ n6_; clear hb hbox hg; have hnb27 := NB288_279.out; have hnc27 := NB279_288.out; obtain ⟨hcz28_0, hcz28_1, hfz28_0, hfz28_1⟩ := zb2 BK288.out)))
                        go_roundg k2
                        case measure => have := HJ1.out; have := HK2.out; omega
                        case rel => exact ⟨(wrap64 (x43_2 + 1)), (by first|rfl|(simp; done)|(simp [*]; done)), H', ⟨by have := HJ1.out; have := HK2.out; omega⟩, ⟨by (with_reducible repeat (first|refine zA ?_ _|refine zC ?_|refine zB ?_ _)); refine zT ?_ NB279_288.out _; (with_reducible repeat (first|refine zA ?_ _|refine zC ?_|refine zB ?_ _)); refine zT ?_ NB279_288.out _; (with_reducible repeat (first|refine zA ?_ _|refine zC ?_|refine zB ?_ _)); exact BK279.out⟩, ⟨by repeat (first|(with_reducible first|exact HB.out|apply zI|apply zG|apply zH|refine zJ ?_ GE279.out|refine zJ ?_ GE288.out)|exact HB.out)⟩⟩
                    · rw [if_neg c21] at H
                      exact absurd H (by simp)
                  · rw [if_neg c20] at H
                    exact absurd H (by simp)
                · rw [if_neg c19] at H
                  have c19b0 : decide (x43_2 < (y283.length : Int)) = false := decide_eq_false c19
                  clear c19
                  replace H := Option.bind_eq_some_iff.mp H
                  obtain ⟨t289, A290, H⟩ := H
                  replace H : (impl_TableOk.l1 k2 t289 1 l0_0 l0_1 a0_2) = some r := H
                  have A29 := Aside0.mk A290
                  clear A290
                  have H' := Aside0.mk H
                  clear H
                  obtain ⟨hcz30_0, hcz30_1, hcz30_2, hfz30_0, hfz30_1, hfz30_2⟩ := zb3 BK279.out
                  go_wp2_with (first|(go_at_call 43; (with_reducible refine (impl_Table_keys.calls k2 (fun k_ => k_ < w.heap.size) _ _ l0_0 (fun k_ => k_ < w.heap.size) _ _ l0_1 a0_2 t289 _ ?side1 ?side2 A29.out).mono ?_); (case side1 => exact Kd.V_mk HC0_0.out (Kd.F_below (Kd.C_F k103_heap HR0_0.out) (by repeat (first|(with_reducible first|exact HB.out|apply zI|apply zG|apply zH|refine zJ ?_ GE279.out)|exact HB.out)))); (case side2 => exact Kd.V_mk HC0_1.out (Kd.F_below (Kd.C_F k103_heap HR0_1.out) (by repeat (first|(with_reducible first|exact HB.out|apply zI|apply zG|apply zH|refine zJ ?_ GE279.out)|exact HB.out)))); rintro e w31 ⟨v290, rfl, ho0, hb⟩; have n0_ := Aside0.mk (Kd.R_lower (zR (ok' := fun k_ => True) ho0 (fun _ hk_ => trivial)) (below_size (by repeat (first|(with_reducible first|exact HB.out|apply zI|apply zG|apply zH|refine zJ ?_ GE279.out)|exact HB.out)))); have n1_ := Aside0.mk (zK (g := gb279) (o := .cells #[.slice A0_0 l0_0.length c0_0, .slice A0_1 l0_1.length c0_1, .int .i64 a0_2] 27 (0, 0)) (by (with_reducible repeat (first|refine zA ?_ _|refine zC ?_|refine zB ?_ _)); exact BK279.out) hb); have n2_ := Aside0.mk (zN (by repeat (first|(with_reducible first|exact HB.out|apply zI|apply zG|apply zH|refine zJ ?_ GE279.out)|exact HB.out)) hb); clear BK279; clear HB; have HO291 := n0_; have BK279 := n1_; have HB := n2_; clear n0_ n1_ n2_; (try clear hb); (try clear hb2); (try clear hk); (try clear hi); (try clear ho0)))
                  repeat (go_quiet (first|(go_at_call 43; (with_reducible refine (impl_Table_keys.calls k2 (fun k_ => k_ < w.heap.size) _ _ l0_0 (fun k_ => k_ < w.heap.size) _ _ l0_1 a0_2 t289 _ ?side1 ?side2 A29.out).mono ?_); (case side1 => exact Kd.V_mk HC0_0.out (Kd.F_below (Kd.C_F k103_heap HR0_0.out) (by repeat (first|(with_reducible first|exact HB.out|apply zI|apply zG|apply zH|refine zJ ?_ GE279.out)|exact HB.out)))); (case side2 => exact Kd.V_mk HC0_1.out (Kd.F_below (Kd.C_F k103_heap HR0_1.out) (by repeat (first|(with_reducible first|exact HB.out|apply zI|apply zG|apply zH|refine zJ ?_ GE279.out)|exact HB.out)))); rintro e w31 ⟨v290, rfl, ho0, hb⟩; have n0_ := Aside0.mk (Kd.R_lower (zR (ok' := fun k_ => True) ho0 (fun _ hk_ => trivial)) (below_size (by repeat (first|(with_reducible first|exact HB.out|apply zI|apply zG|apply zH|refine zJ ?_ GE279.out)|exact HB.out)))); have n1_ := Aside0.mk (zK (g := gb279) (o := .cells #[.slice A0_0 l0_0.length c0_0, .slice A0_1 l0_1.length c0_1, .int .i64 a0_2] 27 (0, 0)) (by (with_reducible repeat (first|refine zA ?_ _|refine zC ?_|refine zB ?_ _)); exact BK279.out) hb); have n2_ := Aside0.mk (zN (by repeat (first|(with_reducible first|exact HB.out|apply zI|apply zG|apply zH|refine zJ ?_ GE279.out)|exact HB.out)) hb); clear BK279; clear HB; have HO291 := n0_; have BK279 := n1_; have HB := n2_; clear n0_ n1_ n2_; (try clear hb); (try clear hb2); (try clear hk); (try clear hi); (try clear ho0))); try go_wp2_with (first|(go_at_call 43; (with_reducible refine (impl_Table_keys.calls k2 (fun k_ => k_ < w.heap.size) _ _ l0_0 (fun k_ => k_ < w.heap.size) _ _ l0_1 a0_2 t289 _ ?side1 ?side2 A29.out).mono ?_); (case side1 => exact Kd.V_mk HC0_0.out (Kd.F_below (Kd.C_F k103_heap HR0_0.out) (by repeat (first|(with_reducible first|exact HB.out|apply zI|apply zG|apply zH|refine zJ ?_ GE279.out)|exact HB.out)))); (case side2 => exact Kd.V_mk HC0_1.out (Kd.F_below (Kd.C_F k103_heap HR0_1.out) (by repeat (first|(with_reducible first|exact HB.out|apply zI|apply zG|apply zH|refine zJ ?_ GE279.out)|exact HB.out)))); rintro e w31 ⟨v290, rfl, ho0, hb⟩; have n0_ := Aside0.mk (Kd.R_lower (zR (ok' := fun k_ => True) ho0 (fun _ hk_ => trivial)) (below_size (by repeat (first|(with_reducible first|exact HB.out|apply zI|apply zG|apply zH|refine zJ ?_ GE279.out)|exact HB.out)))); have n1_ := Aside0.mk (zK (g := gb279) (o := .cells #[.slice A0_0 l0_0.length c0_0, .slice A0_1 l0_1.length c0_1, .int .i64 a0_2] 27 (0, 0)) (by (with_reducible repeat (first|refine zA ?_ _|refine zC ?_|refine zB ?_ _)); exact BK279.out) hb); have n2_ := Aside0.mk (zN (by repeat (first|(with_reducible first|exact HB.out|apply zI|apply zG|apply zH|refine zJ ?_ GE279.out)|exact HB.out)) hb); clear BK279; clear HB; have HO291 := n0_; have BK279 := n1_; have HB := n2_; clear n0_ n1_ n2_; (try clear hb); (try clear hb2); (try clear hk); (try clear hi); (try clear ho0))))
                  go_loopg [6] k2 (fun kq v6 w' => ∃ (x6_3 : Int), v6 = .int .i64 x6_3 ∧ Aside0 (impl_TableOk.l1 kq t289 x6_3 l0_0 l0_1 a0_2 = some r) ∧ Aside0 (kq ≤ k2) ∧ Aside0 (Kd.R Kd.string 9 w' w.heap.size (fun _ => True) v290 t289) ∧ Aside0 (w'.heap[gb279]? = some (.cells #[(.slice A0_0 l0_0.length c0_0), (.slice A0_1 l0_1.length c0_1), .int .i64 a0_2] 27 (0, 0))) ∧ Aside0 (Below w.heap.size w w'))
                  case atStart => exact ⟨(1), (by first|rfl|(simp; done)|(simp [*]; done)), H', ⟨Nat.le_refl _⟩, ⟨by (with_reducible repeat (first|apply zE|apply zD|apply zF)); exact HO291.out⟩, ⟨by (with_reducible repeat (first|refine zA ?_ _|refine zC ?_|refine zB ?_ _)); exact BK279.out⟩, ⟨by repeat (first|(with_reducible first|exact HB.out|apply zI|apply zG|apply zH|refine zJ ?_ GE279.out)|exact HB.out)⟩⟩
                  case round =>
                    clear H'
                    try clear c1
                    try clear q1
                    try clear c2
                    try clear p2
                    try clear q2
                    try clear hx2
                    try clear c5
                    try clear c6
                    try clear c6b0
                    try clear c6b1
                    try clear c6b2
                    try clear p6
                    try clear c9
                    try clear c9b0
                    try clear c9b1
                    try clear c14
                    try clear c15
                    try clear c15b0
                    try clear c15b1
                    try clear c16
                    try clear c16b0
                    try clear c16b1
                    try clear q18
                    try clear c19
                    try clear c19b0
                    try clear c20
                    try clear c20b0
                    try clear c21
                    try clear c21b0
                    try clear c22
                    try clear c22b0
                    try clear c24
                    try clear c27
                    try clear p28
                    try clear q28
                    try clear hx28
                    try clear hcz11_0
                    try clear hcz11_1
                    try clear hcz11_2
                    try clear hcz12_0
                    try clear hcz12_1
                    try clear hcz12_2
                    try clear hcz13_0
                    try clear hcz13_1
                    try clear hcz13_2
                    try clear hcz17_0
                    try clear hcz17_1
                    try clear hcz17_2
                    try clear hcz25_0
                    try clear hcz25_1
                    try clear hcz28_0
                    try clear hcz28_1
                    try clear hcz30_0
                    try clear hcz30_1
                    try clear hcz30_2
                    try clear hcz8_0
                    try clear hcz8_1
                    try clear hcz8_2
                    try clear hfz11_0
                    try clear hfz11_1
                    try clear hfz11_2
                    try clear hfz12_0
                    try clear hfz12_1
                    try clear hfz12_2
                    try clear hfz13_0
                    try clear hfz13_1
                    try clear hfz13_2
                    try clear hfz17_0
                    try clear hfz17_1
                    try clear hfz17_2
                    try clear hfz25_0
                    try clear hfz25_1
                    try clear hfz28_0
                    try clear hfz28_1
                    try clear hfz30_0
                    try clear hfz30_1
                    try clear hfz30_2
                    try clear hfz8_0
                    try clear hfz8_1
                    try clear hfz8_2
                    try clear hx287_0
                    try clear hx287_1
                    try clear p2
                    try clear p287
                    try clear p6
                    try clear q1
                    try clear q18
                    try clear q287
                    obtain ⟨x6_3, rfl, HA, HK3, HO_5, BK279, HB⟩ := hrel
                    cases gk with
                   |zero => exact absurd HA.out (by simp [impl_TableOk.l1])
                   |succ k3 =>
                      have H := HA.out
                      clear HA
                      simp only [impl_TableOk.l1] at H
                      by_cases c32 : x6_3 < (t289.length : Int)
                      · rw [if_pos c32] at H
                        have c32b0 : decide (x6_3 < (t289.length : Int)) = true := decide_eq_true c32
                        clear c32
                        by_cases c33 : 0 ≤ x6_3
                        · rw [if_pos c33] at H
                          have c33b0 : decide (0 ≤ x6_3) = true := decide_eq_true c33
                          clear c33
                          obtain ⟨ji34, hji34⟩ : ∃ j_ : Int, (wrap64 (x6_3 - 1)) = j_ := ⟨_, rfl⟩
                          replace H : (if 0 ≤ (ji34) then (if (ji34) < (t289.length : Int) then (if (rdOf ByteArray.empty t289 x6_3).toList = (rdOf ByteArray.empty t289 (ji34)).toList then (some false) else (impl_TableOk.l1 k3 t289 (wrap64 (x6_3 + 1)) l0_0 l0_1 a0_2)) else (none)) else (none)) = some r := by first|(rw [hji34] at H; exact H)|(simp only [hji34] at H ⊢; exact H)
                          have hji34w : (IntKind.i64.wrap (x6_3 - 1)) = ji34 := (i64_w _).trans hji34
                          by_cases c35 : 0 ≤ (ji34)
                          · rw [if_pos c35] at H
                            have c35b0 : decide (0 ≤ (ji34)) = true := decide_eq_true c35
                            clear c35
                            by_cases c36 : (ji34) < (t289.length : Int)
                            · rw [if_pos c36] at H
                              have c36b0 : decide ((ji34) < (t289.length : Int)) = true := decide_eq_true c36
                              clear c36
                              by_cases c37 : (rdOf ByteArray.empty t289 x6_3).toList = (rdOf ByteArray.empty t289 (ji34)).toList
                              · rw [if_pos c37] at H
                                have c37b0 : ((rdOf ByteArray.empty t289 x6_3).toList == (rdOf ByteArray.empty t289 (ji34)).toList) = true := beq_iff_eq.mpr c37
                                have c37b1 : ((rdOf ByteArray.empty t289 x6_3).toList != (rdOf ByteArray.empty t289 (ji34)).toList) = false := bne_eq_false_iff_eq.mpr c37
                                clear c37
                                obtain rfl := Option.some.inj H
                                obtain ⟨Ao38, co38, eo38⟩ := Kd.R_slice HO_5.out
                                subst eo38
                                have p292 : 0 ≤ (x6_3 : Int) := of_decide_eq_true (by first|(with_reducible assumption)|assumption)
                                have q292 : x6_3 < (t289.length : Int) := of_decide_eq_true (by first|(with_reducible assumption)|assumption)
                                obtain ⟨ad292, e292, hx292_0⟩ := Kd.at_string (Kd.R_reads' HO_5.out).2.2 x6_3 p292 q292
                                cases e292
                                replace p292 := eq_true p292
                                replace q292 := eq_true q292
                                have p293 : 0 ≤ ((ji34) : Int) := of_decide_eq_true (by first|(with_reducible assumption)|assumption)
                                have q293 : (ji34) < (t289.length : Int) := of_decide_eq_true (by first|(with_reducible assumption)|assumption)
                                obtain ⟨ad293, e293, hx293_0⟩ := Kd.at_string (Kd.R_reads' HO_5.out).2.2 (ji34) p293 q293
                                obtain rfl : ad292 = ad293 := (by injection e293)
                                replace p293 := eq_true p293
                                replace q293 := eq_true q293
                                go_wp2
                                repeat (go_quiet (fail); try go_wp2)
                                go_ret
                                exact ⟨by first|rfl|(simp [errW_none, errW_some] <;> rfl)|(simp only [← hji34]; first|rfl|(simp [errW_none, errW_some] <;> rfl))|(simp [*, errW_none, errW_some] <;> rfl), by repeat (first|(with_reducible first|exact HB.out|apply zI|apply zG|apply zH|refine zJ ?_ GE279.out)|exact HB.out)⟩
                              · rw [if_neg c37] at H
                                have c37b0 : ((rdOf ByteArray.empty t289 x6_3).toList == (rdOf ByteArray.empty t289 (ji34)).toList) = false := beq_eq_false_iff_ne.mpr c37
                                have c37b1 : ((rdOf ByteArray.empty t289 x6_3).toList != (rdOf ByteArray.empty t289 (ji34)).toList) = true := bne_iff_ne.mpr c37
                                have H' := Aside0.mk H
                                clear H
                                obtain ⟨Ao39, co39, eo39⟩ := Kd.R_slice HO_5.out
                                subst eo39
                                have p292 : 0 ≤ (x6_3 : Int) := of_decide_eq_true (by first|(with_reducible assumption)|assumption)
                                have q292 : x6_3 < (t289.length : Int) := of_decide_eq_true (by first|(with_reducible assumption)|assumption)
                                obtain ⟨ad292, e292, hx292_0⟩ := Kd.at_string (Kd.R_reads' HO_5.out).2.2 x6_3 p292 q292
                                cases e292
                                replace p292 := eq_true p292
                                replace q292 := eq_true q292
                                have p293 : 0 ≤ ((ji34) : Int) := of_decide_eq_true (by first|(with_reducible assumption)|assumption)
                                have q293 : (ji34) < (t289.length : Int) := of_decide_eq_true (by first|(with_reducible assumption)|assumption)
                                obtain ⟨ad293, e293, hx293_0⟩ := Kd.at_string (Kd.R_reads' HO_5.out).2.2 (ji34) p293 q293
                                obtain rfl : ad292 = ad293 := (by injection e293)
                                replace p293 := eq_true p293
                                replace q293 := eq_true q293
                                go_wp2
                                repeat (go_quiet (fail); try go_wp2)
                                go_roundg k3
                                case measure => have := HJ1.out; have := HK2.out; have := HK3.out; omega
                                case rel => exact ⟨(wrap64 (x6_3 + 1)), (by first|rfl|(simp; done)|(simp [*]; done)), H', ⟨by have := HJ1.out; have := HK2.out; have := HK3.out; omega⟩, ⟨by (with_reducible repeat (first|apply zE|apply zD|apply zF)); exact HO_5.out⟩, ⟨by (with_reducible repeat (first|refine zA ?_ _|refine zC ?_|refine zB ?_ _)); exact BK279.out⟩, ⟨by repeat (first|(with_reducible first|exact HB.out|apply zI|apply zG|apply zH|refine zJ ?_ GE279.out)|exact HB.out)⟩⟩
                            · rw [if_neg c36] at H
                              exact absurd H (by simp)
                          · rw [if_neg c35] at H
                            exact absurd H (by simp)
                        · rw [if_neg c33] at H
                          exact absurd H (by simp)
                      · rw [if_neg c32] at H
                        have c32b0 : decide (x6_3 < (t289.length : Int)) = false := decide_eq_false c32
                        clear c32
                        replace H := Option.bind_eq_some_iff.mp H
                        obtain ⟨t294, A400, H⟩ := H
                        replace H : (if t294 = true then ((impl_cellsOk.f k3 l0_1).bind fun t295 => (if t295 = true then ((impl_nones.f k3 l0_0).bind fun t296 => (some (decide (t296 > 0)))) else (some false))) else (some false)) = some r := H
                        have A40 := Aside0.mk A400
                        clear A400
                        by_cases c41 : t294 = true
                        · subst c41
                          have H1 : ((impl_cellsOk.f k3 l0_1).bind fun t295 => (if t295 = true then ((impl_nones.f k3 l0_0).bind fun t296 => (some (decide (t296 > 0)))) else (some false))) = some r := by rw [if_pos rfl] at H; exact H
                          clear H
                          have H := H1
                          clear H1
                          replace H := Option.bind_eq_some_iff.mp H
                          obtain ⟨t295, A420, H⟩ := H
                          replace H : (if t295 = true then ((impl_nones.f k3 l0_0).bind fun t296 => (some (decide (t296 > 0)))) else (some false)) = some r := H
                          have A42 := Aside0.mk A420
                          clear A420
                          by_cases c43 : t295 = true
                          · subst c43
                            have H1 : ((impl_nones.f k3 l0_0).bind fun t296 => (some (decide (t296 > 0)))) = some r := by rw [if_pos rfl] at H; exact H
                            clear H
                            have H := H1
                            clear H1
                            replace H := Option.bind_eq_some_iff.mp H
                            obtain ⟨t296, A440, H⟩ := H
                            replace H : (some (decide (t296 > 0))) = some r := H
                            have A44 := Aside0.mk A440
                            clear A440
                            obtain rfl := Option.some.inj H
                            obtain ⟨Ao45, co45, eo45⟩ := Kd.R_slice HO_5.out
                            subst eo45
                            obtain ⟨hcz46_0, hcz46_1, hcz46_2, hfz46_0, hfz46_1, hfz46_2⟩ := zb3 BK279.out
                            go_wp2_with (first|(go_at_call 85; (with_reducible refine (impl_cellsOk.calls k3 _ _ l0_0 true _ ?side1 ?side2 A40.out).mono ?_); (case side1 => repeat (first|exact (Kd.C_below HR0_0.out HB.out)|(with_reducible refine Kd.C_alloc ?_ _)|(with_reducible refine Kd.C_drewN ?_ _)|(with_reducible refine Kd.C_drew ?_))); (case side2 => exact HC0_0.out); rintro e w47 ⟨rfl, hb⟩; have n0_ := Aside0.mk (zM (by (with_reducible repeat (first|apply zE|apply zD|apply zF)); exact HO_5.out) hb); have n1_ := Aside0.mk (zK (g := gb279) (o := .cells #[.slice A0_0 l0_0.length c0_0, .slice A0_1 l0_1.length c0_1, .int .i64 a0_2] 27 (0, 0)) (by (with_reducible repeat (first|refine zA ?_ _|refine zC ?_|refine zB ?_ _)); exact BK279.out) hb); have n2_ := Aside0.mk (zN (by repeat (first|(with_reducible first|exact HB.out|apply zI|apply zG|apply zH|refine zJ ?_ GE279.out)|exact HB.out)) hb); clear HO_5; clear BK279; clear HB; have HO_5 := n0_; have BK279 := n1_; have HB := n2_; clear n0_ n1_ n2_; (try clear hb); (try clear hb2); (try clear hk); (try clear hi); obtain ⟨hcz48_0, hcz48_1, hcz48_2, hfz48_0, hfz48_1, hfz48_2⟩ := zb3 BK279.out)|(go_at_call 85; (with_reducible refine (impl_cellsOk.calls k3 _ _ l0_1 true _ ?side1 ?side2 A42.out).mono ?_); (case side1 => repeat (first|exact (Kd.C_below HR0_1.out HB.out)|(with_reducible refine Kd.C_alloc ?_ _)|(with_reducible refine Kd.C_drewN ?_ _)|(with_reducible refine Kd.C_drew ?_))); (case side2 => exact HC0_1.out); rintro e w49 ⟨rfl, hb⟩; have n0_ := Aside0.mk (zM (by (with_reducible repeat (first|apply zE|apply zD|apply zF)); exact HO_5.out) hb); have n1_ := Aside0.mk (zK (g := gb279) (o := .cells #[.slice A0_0 l0_0.length c0_0, .slice A0_1 l0_1.length c0_1, .int .i64 a0_2] 27 (0, 0)) (by (with_reducible repeat (first|refine zA ?_ _|refine zC ?_|refine zB ?_ _)); exact BK279.out) hb); have n2_ := Aside0.mk (zN (by repeat (first|(with_reducible first|exact HB.out|apply zI|apply zG|apply zH|refine zJ ?_ GE279.out)|exact HB.out)) hb); clear HO_5; clear BK279; clear HB; have HO_5 := n0_; have BK279 := n1_; have HB := n2_; clear n0_ n1_ n2_; (try clear hb); (try clear hb2); (try clear hk); (try clear hi); obtain ⟨hcz50_0, hcz50_1, hcz50_2, hfz50_0, hfz50_1, hfz50_2⟩ := zb3 BK279.out)|(go_at_call 86; (with_reducible refine (impl_nones.calls k3 _ _ l0_0 t296 _ ?side1 ?side2 A44.out).mono ?_); (case side1 => repeat (first|exact (Kd.C_below HR0_0.out HB.out)|(with_reducible refine Kd.C_alloc ?_ _)|(with_reducible refine Kd.C_drewN ?_ _)|(with_reducible refine Kd.C_drew ?_))); (case side2 => exact HC0_0.out); rintro e w51 ⟨rfl, hb⟩; have n0_ := Aside0.mk (zM (by (with_reducible repeat (first|apply zE|apply zD|apply zF)); exact HO_5.out) hb); have n1_ := Aside0.mk (zK (g := gb279) (o := .cells #[.slice A0_0 l0_0.length c0_0, .slice A0_1 l0_1.length c0_1, .int .i64 a0_2] 27 (0, 0)) (by (with_reducible repeat (first|refine zA ?_ _|refine zC ?_|refine zB ?_ _)); exact BK279.out) hb); have n2_ := Aside0.mk (zN (by repeat (first|(with_reducible first|exact HB.out|apply zI|apply zG|apply zH|refine zJ ?_ GE279.out)|exact HB.out)) hb); clear HO_5; clear BK279; clear HB; have HO_5 := n0_; have BK279 := n1_; have HB := n2_; clear n0_ n1_ n2_; (try clear hb); (try clear hb2); (try clear hk); (try clear hi)))
                            repeat (go_quiet (first|(go_at_call 85; (with_reducible refine (impl_cellsOk.calls k3 _ _ l0_0 true _ ?side1 ?side2 A40.out).mono ?_); (case side1 => repeat (first|exact (Kd.C_below HR0_0.out HB.out)|(with_reducible refine Kd.C_alloc ?_ _)|(with_reducible refine Kd.C_drewN ?_ _)|(with_reducible refine Kd.C_drew ?_))); (case side2 => exact HC0_0.out); rintro e w47 ⟨rfl, hb⟩; have n0_ := Aside0.mk (zM (by (with_reducible repeat (first|apply zE|apply zD|apply zF)); exact HO_5.out) hb); have n1_ := Aside0.mk (zK (g := gb279) (o := .cells #[.slice A0_0 l0_0.length c0_0, .slice A0_1 l0_1.length c0_1, .int .i64 a0_2] 27 (0, 0)) (by (with_reducible repeat (first|refine zA ?_ _|refine zC ?_|refine zB ?_ _)); exact BK279.out) hb); have n2_ := Aside0.mk (zN (by repeat (first|(with_reducible first|exact HB.out|apply zI|apply zG|apply zH|refine zJ ?_ GE279.out)|exact HB.out)) hb); clear HO_5; clear BK279; clear HB; have HO_5 := n0_; have BK279 := n1_; have HB := n2_; clear n0_ n1_ n2_; (try clear hb); (try clear hb2); (try clear hk); (try clear hi); obtain ⟨hcz48_0, hcz48_1, hcz48_2, hfz48_0, hfz48_1, hfz48_2⟩ := zb3 BK279.out)|(go_at_call 85; (with_reducible refine (impl_cellsOk.calls k3 _ _ l0_1 true _ ?side1 ?side2 A42.out).mono ?_); (case side1 => repeat (first|exact (Kd.C_below HR0_1.out HB.out)|(with_reducible refine Kd.C_alloc ?_ _)|(with_reducible refine Kd.C_drewN ?_ _)|(with_reducible refine Kd.C_drew ?_))); (case side2 => exact HC0_1.out); rintro e w49 ⟨rfl, hb⟩; have n0_ := Aside0.mk (zM (by (with_reducible repeat (first|apply zE|apply zD|apply zF)); exact HO_5.out) hb); have n1_ := Aside0.mk (zK (g := gb279) (o := .cells #[.slice A0_0 l0_0.length c0_0, .slice A0_1 l0_1.length c0_1, .int .i64 a0_2] 27 (0, 0)) (by (with_reducible repeat (first|refine zA ?_ _|refine zC ?_|refine zB ?_ _)); exact BK279.out) hb); have n2_ := Aside0.mk (zN (by repeat (first|(with_reducible first|exact HB.out|apply zI|apply zG|apply zH|refine zJ ?_ GE279.out)|exact HB.out)) hb); clear HO_5; clear BK279; clear HB; have HO_5 := n0_; have BK279 := n1_; have HB := n2_; clear n0_ n1_ n2_; (try clear hb); (try clear hb2); (try clear hk); (try clear hi); obtain ⟨hcz50_0, hcz50_1, hcz50_2, hfz50_0, hfz50_1, hfz50_2⟩ := zb3 BK279.out)|(go_at_call 86; (with_reducible refine (impl_nones.calls k3 _ _ l0_0 t296 _ ?side1 ?side2 A44.out).mono ?_); (case side1 => repeat (first|exact (Kd.C_below HR0_0.out HB.out)|(with_reducible refine Kd.C_alloc ?_ _)|(with_reducible refine Kd.C_drewN ?_ _)|(with_reducible refine Kd.C_drew ?_))); (case side2 => exact HC0_0.out); rintro e w51 ⟨rfl, hb⟩; have n0_ := Aside0.mk (zM (by (with_reducible repeat (first|apply zE|apply zD|apply zF)); exact HO_5.out) hb); have n1_ := Aside0.mk (zK (g := gb279) (o := .cells #[.slice A0_0 l0_0.length c0_0, .slice A0_1 l0_1.length c0_1, .int .i64 a0_2] 27 (0, 0)) (by (with_reducible repeat (first|refine zA ?_ _|refine zC ?_|refine zB ?_ _)); exact BK279.out) hb); have n2_ := Aside0.mk (zN (by repeat (first|(with_reducible first|exact HB.out|apply zI|apply zG|apply zH|refine zJ ?_ GE279.out)|exact HB.out)) hb); clear HO_5; clear BK279; clear HB; have HO_5 := n0_; have BK279 := n1_; have HB := n2_; clear n0_ n1_ n2_; (try clear hb); (try clear hb2); (try clear hk); (try clear hi))); try go_wp2_with (first|(go_at_call 85; (with_reducible refine (impl_cellsOk.calls k3 _ _ l0_0 true _ ?side1 ?side2 A40.out).mono ?_); (case side1 => repeat (first|exact (Kd.C_below HR0_0.out HB.out)|(with_reducible refine Kd.C_alloc ?_ _)|(with_reducible refine Kd.C_drewN ?_ _)|(with_reducible refine Kd.C_drew ?_))); (case side2 => exact HC0_0.out); rintro e w47 ⟨rfl, hb⟩; have n0_ := Aside0.mk (zM (by (with_reducible repeat (first|apply zE|apply zD|apply zF)); exact HO_5.out) hb); have n1_ := Aside0.mk (zK (g := gb279) (o := .cells #[.slice A0_0 l0_0.length c0_0, .slice A0_1 l0_1.length c0_1, .int .i64 a0_2] 27 (0, 0)) (by (with_reducible repeat (first|refine zA ?_ _|refine zC ?_|refine zB ?_ _)); exact BK279.out) hb); have n2_ := Aside0.mk (zN (by repeat (first|(with_reducible first|exact HB.out|apply zI|apply zG|apply zH|refine zJ ?_ GE279.out)|exact HB.out)) hb); clear HO_5; clear BK279; clear HB; have HO_5 := n0_; have BK279 := n1_; have HB := n2_; clear n0_ n1_ n2_; (try clear hb); (try clear hb2); (try clear hk); (try clear hi); obtain ⟨hcz48_0, hcz48_1, hcz48_2, hfz48_0, hfz48_1, hfz48_2⟩ := zb3 BK279.out)|(go_at_call 85; (with_reducible refine (impl_cellsOk.calls k3 _ _ l0_1 true _ ?side1 ?side2 A42.out).mono ?_); (case side1 => repeat (first|exact (Kd.C_below HR0_1.out HB.out)|(with_reducible refine Kd.C_alloc ?_ _)|(with_reducible refine Kd.C_drewN ?_ _)|(with_reducible refine Kd.C_drew ?_))); (case side2 => exact HC0_1.out); rintro e w49 ⟨rfl, hb⟩; have n0_ := Aside0.mk (zM (by (with_reducible repeat (first|apply zE|apply zD|apply zF)); exact HO_5.out) hb); have n1_ := Aside0.mk (zK (g := gb279) (o := .cells #[.slice A0_0 l0_0.length c0_0, .slice A0_1 l0_1.length c0_1, .int .i64 a0_2] 27 (0, 0)) (by (with_reducible repeat (first|refine zA ?_ _|refine zC ?_|refine zB ?_ _)); exact BK279.out) hb); have n2_ := Aside0.mk (zN (by repeat (first|(with_reducible first|exact HB.out|apply zI|apply zG|apply zH|refine zJ ?_ GE279.out)|exact HB.out)) hb); clear HO_5; clear BK279; clear HB; have HO_5 := n0_; have BK279 := n1_; have HB := n2_; clear n0_ n1_ n2_; (try clear hb); (try clear hb2); (try clear hk); (try clear hi); obtain ⟨hcz50_0, hcz50_1, hcz50_2, hfz50_0, hfz50_1, hfz50_2⟩ := zb3 BK279.out)|(go_at_call 86; (with_reducible refine (impl_nones.calls k3 _ _ l0_0 t296 _ ?side1 ?side2 A44.out).mono ?_); (case side1 => repeat (first|exact (Kd.C_below HR0_0.out HB.out)|(with_reducible refine Kd.C_alloc ?_ _)|(with_reducible refine Kd.C_drewN ?_ _)|(with_reducible refine Kd.C_drew ?_))); (case side2 => exact HC0_0.out); rintro e w51 ⟨rfl, hb⟩; have n0_ := Aside0.mk (zM (by (with_reducible repeat (first|apply zE|apply zD|apply zF)); exact HO_5.out) hb); have n1_ := Aside0.mk (zK (g := gb279) (o := .cells #[.slice A0_0 l0_0.length c0_0, .slice A0_1 l0_1.length c0_1, .int .i64 a0_2] 27 (0, 0)) (by (with_reducible repeat (first|refine zA ?_ _|refine zC ?_|refine zB ?_ _)); exact BK279.out) hb); have n2_ := Aside0.mk (zN (by repeat (first|(with_reducible first|exact HB.out|apply zI|apply zG|apply zH|refine zJ ?_ GE279.out)|exact HB.out)) hb); clear HO_5; clear BK279; clear HB; have HO_5 := n0_; have BK279 := n1_; have HB := n2_; clear n0_ n1_ n2_; (try clear hb); (try clear hb2); (try clear hk); (try clear hi))))
                            go_ret
                            exact ⟨by first|rfl|(simp [errW_none, errW_some] <;> rfl)|(simp [*, errW_none, errW_some] <;> rfl), by repeat (first|(with_reducible first|exact HB.out|apply zI|apply zG|apply zH|refine zJ ?_ GE279.out)|exact HB.out)⟩
                          · replace c43 := Bool.eq_false_iff.mpr c43
                            subst c43
                            have H1 : (some false) = some r := by rw [if_neg (show ¬ (false = true) by decide)] at H; exact H
                            clear H
                            have H := H1
                            clear H1
                            obtain rfl := Option.some.inj H
                            obtain ⟨Ao52, co52, eo52⟩ := Kd.R_slice HO_5.out
                            subst eo52
                            obtain ⟨hcz53_0, hcz53_1, hcz53_2, hfz53_0, hfz53_1, hfz53_2⟩ := zb3 BK279.out
                            go_wp2_with (first|(go_at_call 85; (with_reducible refine (impl_cellsOk.calls k3 _ _ l0_0 true _ ?side1 ?side2 A40.out).mono ?_); (case side1 => repeat (first|exact (Kd.C_below HR0_0.out HB.out)|(with_reducible refine Kd.C_alloc ?_ _)|(with_reducible refine Kd.C_drewN ?_ _)|(with_reducible refine Kd.C_drew ?_))); (case side2 => exact HC0_0.out); rintro e w54 ⟨rfl, hb⟩; have n0_ := Aside0.mk (zM (by (with_reducible repeat (first|apply zE|apply zD|apply zF)); exact HO_5.out) hb); have n1_ := Aside0.mk (zK (g := gb279) (o := .cells #[.slice A0_0 l0_0.length c0_0, .slice A0_1 l0_1.length c0_1, .int .i64 a0_2] 27 (0, 0)) (by (with_reducible repeat (first|refine zA ?_ _|refine zC ?_|refine zB ?_ _)); exact BK279.out) hb); have n2_ := Aside0.mk (zN (by repeat (first|(with_reducible first|exact HB.out|apply zI|apply zG|apply zH|refine zJ ?_ GE279.out)|exact HB.out)) hb); clear HO_5; clear BK279; clear HB; have HO_5 := n0_; have BK279 := n1_; have HB := n2_; clear n0_ n1_ n2_; (try clear hb); (try clear hb2); (try clear hk); (try clear hi); obtain ⟨hcz55_0, hcz55_1, hcz55_2, hfz55_0, hfz55_1, hfz55_2⟩ := zb3 BK279.out)|(go_at_call 85; (with_reducible refine (impl_cellsOk.calls k3 _ _ l0_1 false _ ?side1 ?side2 A42.out).mono ?_); (case side1 => repeat (first|exact (Kd.C_below HR0_1.out HB.out)|(with_reducible refine Kd.C_alloc ?_ _)|(with_reducible refine Kd.C_drewN ?_ _)|(with_reducible refine Kd.C_drew ?_))); (case side2 => exact HC0_1.out); rintro e w56 ⟨rfl, hb⟩; have n0_ := Aside0.mk (zM (by (with_reducible repeat (first|apply zE|apply zD|apply zF)); exact HO_5.out) hb); have n1_ := Aside0.mk (zK (g := gb279) (o := .cells #[.slice A0_0 l0_0.length c0_0, .slice A0_1 l0_1.length c0_1, .int .i64 a0_2] 27 (0, 0)) (by (with_reducible repeat (first|refine zA ?_ _|refine zC ?_|refine zB ?_ _)); exact BK279.out) hb); have n2_ := Aside0.mk (zN (by repeat (first|(with_reducible first|exact HB.out|apply zI|apply zG|apply zH|refine zJ ?_ GE279.out)|exact HB.out)) hb); clear HO_5; clear BK279; clear HB; have HO_5 := n0_; have BK279 := n1_; have HB := n2_; clear n0_ n1_ n2_; (try clear hb); (try clear hb2); (try clear hk); (try clear hi)))
                            repeat (go_quiet (first|(go_at_call 85; (with_reducible refine (impl_cellsOk.calls k3 _ _ l0_0 true _ ?side1 ?side2 A40.out).mono ?_); (case side1 => repeat (first|exact (Kd.C_below HR0_0.out HB.out)|(with_reducible refine Kd.C_alloc ?_ _)|(with_reducible refine Kd.C_drewN ?_ _)|(with_reducible refine Kd.C_drew ?_))); (case side2 => exact HC0_0.out); rintro e w54 ⟨rfl, hb⟩; have n0_ := Aside0.mk (zM (by (with_reducible repeat (first|apply zE|apply zD|apply zF)); exact HO_5.out) hb); have n1_ := Aside0.mk (zK (g := gb279) (o := .cells #[.slice A0_0 l0_0.length c0_0, .slice A0_1 l0_1.length c0_1, .int .i64 a0_2] 27 (0, 0)) (by (with_reducible repeat (first|refine zA ?_ _|refine zC ?_|refine zB ?_ _)); exact BK279.out) hb); have n2_ := Aside0.mk (zN (by repeat (first|(with_reducible first|exact HB.out|apply zI|apply zG|apply zH|refine zJ ?_ GE279.out)|exact HB.out)) hb); clear HO_5; clear BK279; clear HB; have HO_5 := n0_; have BK279 := n1_; have HB := n2_; clear n0_ n1_ n2_; (try clear hb); (try clear hb2); (try clear hk); (try clear hi); obtain ⟨hcz55_0, hcz55_1, hcz55_2, hfz55_0, hfz55_1, hfz55_2⟩ := zb3 BK279.out)|(go_at_call 85; (with_reducible refine (impl_cellsOk.calls k3 _ _ l0_1 false _ ?side1 ?side2 A42.out).mono ?_); (case side1 => repeat (first|exact (Kd.C_below HR0_1.out HB.out)|(with_reducible refine Kd.C_alloc ?_ _)|(with_reducible refine Kd.C_drewN ?_ _)|(with_reducible refine Kd.C_drew ?_))); (case side2 => exact HC0_1.out); rintro e w56 ⟨rfl, hb⟩; have n0_ := Aside0.mk (zM (by (with_reducible repeat (first|apply zE|apply zD|apply zF)); exact HO_5.out) hb); have n1_ := Aside0.mk (zK (g := gb279) (o := .cells #[.slice A0_0 l0_0.length c0_0, .slice A0_1 l0_1.length c0_1, .int .i64 a0_2] 27 (0, 0)) (by (with_reducible repeat (first|refine zA ?_ _|refine zC ?_|refine zB ?_ _)); exact BK279.out) hb); have n2_ := Aside0.mk (zN (by repeat (first|(with_reducible first|exact HB.out|apply zI|apply zG|apply zH|refine zJ ?_ GE279.out)|exact HB.out)) hb); clear HO_5; clear BK279; clear HB; have HO_5 := n0_; have BK279 := n1_; have HB := n2_; clear n0_ n1_ n2_; (try clear hb); (try clear hb2); (try clear hk); (try clear hi))); try go_wp2_with (first|(go_at_call 85; (with_reducible refine (impl_cellsOk.calls k3 _ _ l0_0 true _ ?side1 ?side2 A40.out).mono ?_); (case side1 => repeat (first|exact (Kd.C_below HR0_0.out HB.out)|(with_reducible refine Kd.C_alloc ?_ _)|(with_reducible refine Kd.C_drewN ?_ _)|(with_reducible refine Kd.C_drew ?_))); (case side2 => exact HC0_0.out); rintro e w54 ⟨rfl, hb⟩; have n0_ := Aside0.mk (zM (by (with_reducible repeat (first|apply zE|apply zD|apply zF)); exact HO_5.out) hb); have n1_ := Aside0.mk (zK (g := gb279) (o := .cells #[.slice A0_0 l0_0.length c0_0, .slice A0_1 l0_1.length c0_1, .int .i64 a0_2] 27 (0, 0)) (by (with_reducible repeat (first|refine zA ?_ _|refine zC ?_|refine zB ?_ _)); exact BK279.out) hb); have n2_ := Aside0.mk (zN (by repeat (first|(with_reducible first|exact HB.out|apply zI|apply zG|apply zH|refine zJ ?_ GE279.out)|exact HB.out)) hb); clear HO_5; clear BK279; clear HB; have HO_5 := n0_; have BK279 := n1_; have HB := n2_; clear n0_ n1_ n2_; (try clear hb); (try clear hb2); (try clear hk); (try clear hi); obtain ⟨hcz55_0, hcz55_1, hcz55_2, hfz55_0, hfz55_1, hfz55_2⟩ := zb3 BK279.out)|(go_at_call 85; (with_reducible refine (impl_cellsOk.calls k3 _ _ l0_1 false _ ?side1 ?side2 A42.out).mono ?_); (case side1 => repeat (first|exact (Kd.C_below HR0_1.out HB.out)|(with_reducible refine Kd.C_alloc ?_ _)|(with_reducible refine Kd.C_drewN ?_ _)|(with_reducible refine Kd.C_drew ?_))); (case side2 => exact HC0_1.out); rintro e w56 ⟨rfl, hb⟩; have n0_ := Aside0.mk (zM (by (with_reducible repeat (first|apply zE|apply zD|apply zF)); exact HO_5.out) hb); have n1_ := Aside0.mk (zK (g := gb279) (o := .cells #[.slice A0_0 l0_0.length c0_0, .slice A0_1 l0_1.length c0_1, .int .i64 a0_2] 27 (0, 0)) (by (with_reducible repeat (first|refine zA ?_ _|refine zC ?_|refine zB ?_ _)); exact BK279.out) hb); have n2_ := Aside0.mk (zN (by repeat (first|(with_reducible first|exact HB.out|apply zI|apply zG|apply zH|refine zJ ?_ GE279.out)|exact HB.out)) hb); clear HO_5; clear BK279; clear HB; have HO_5 := n0_; have BK279 := n1_; have HB := n2_; clear n0_ n1_ n2_; (try clear hb); (try clear hb2); (try clear hk); (try clear hi))))
                            go_ret
                            exact ⟨by first|rfl|(simp [errW_none, errW_some] <;> rfl)|(simp [*, errW_none, errW_some] <;> rfl), by repeat (first|(with_reducible first|exact HB.out|apply zI|apply zG|apply zH|refine zJ ?_ GE279.out)|exact HB.out)⟩
                        · replace c41 := Bool.eq_false_iff.mpr c41
                          subst c41
                          have H1 : (some false) = some r := by rw [if_neg (show ¬ (false = true) by decide)] at H; exact H
                          clear H
                          have H := H1
                          clear H1
                          obtain rfl := Option.some.inj H
                          obtain ⟨Ao57, co57, eo57⟩ := Kd.R_slice HO_5.out
                          subst eo57
                          obtain ⟨hcz58_0, hcz58_1, hcz58_2, hfz58_0, hfz58_1, hfz58_2⟩ := zb3 BK279.out
                          go_wp2_with (first|(go_at_call 85; (with_reducible refine (impl_cellsOk.calls k3 _ _ l0_0 false _ ?side1 ?side2 A40.out).mono ?_); (case side1 => repeat (first|exact (Kd.C_below HR0_0.out HB.out)|(with_reducible refine Kd.C_alloc ?_ _)|(with_reducible refine Kd.C_drewN ?_ _)|(with_reducible refine Kd.C_drew ?_))); (case side2 => exact HC0_0.out); rintro e w59 ⟨rfl, hb⟩; have n0_ := Aside0.mk (zM (by (with_reducible repeat (first|apply zE|apply zD|apply zF)); exact HO_5.out) hb); have n1_ := Aside0.mk (zK (g := gb279) (o := .cells #[.slice A0_0 l0_0.length c0_0, .slice A0_1 l0_1.length c0_1, .int .i64 a0_2] 27 (0, 0)) (by (with_reducible repeat (first|refine zA ?_ _|refine zC ?_|refine zB ?_ _)); exact BK279.out) hb); have n2_ := Aside0.mk (zN (by repeat (first|(with_reducible first|exact HB.out|apply zI|apply zG|apply zH|refine zJ ?_ GE279.out)|exact HB.out)) hb); clear HO_5; clear BK279; clear HB; have HO_5 := n0_; have BK279 := n1_; have HB := n2_; clear n0_ n1_ n2_; (try clear hb); (try clear hb2); (try clear hk); (try clear hi)))
                          repeat (go_quiet (first|(go_at_call 85; (with_reducible refine (impl_cellsOk.calls k3 _ _ l0_0 false _ ?side1 ?side2 A40.out).mono ?_); (case side1 => repeat (first|exact (Kd.C_below HR0_0.out HB.out)|(with_reducible refine Kd.C_alloc ?_ _)|(with_reducible refine Kd.C_drewN ?_ _)|(with_reducible refine Kd.C_drew ?_))); (case side2 => exact HC0_0.out); rintro e w59 ⟨rfl, hb⟩; have n0_ := Aside0.mk (zM (by (with_reducible repeat (first|apply zE|apply zD|apply zF)); exact HO_5.out) hb); have n1_ := Aside0.mk (zK (g := gb279) (o := .cells #[.slice A0_0 l0_0.length c0_0, .slice A0_1 l0_1.length c0_1, .int .i64 a0_2] 27 (0, 0)) (by (with_reducible repeat (first|refine zA ?_ _|refine zC ?_|refine zB ?_ _)); exact BK279.out) hb); have n2_ := Aside0.mk (zN (by repeat (first|(with_reducible first|exact HB.out|apply zI|apply zG|apply zH|refine zJ ?_ GE279.out)|exact HB.out)) hb); clear HO_5; clear BK279; clear HB; have HO_5 := n0_; have BK279 := n1_; have HB := n2_; clear n0_ n1_ n2_; (try clear hb); (try clear hb2); (try clear hk); (try clear hi))); try go_wp2_with (first|(go_at_call 85; (with_reducible refine (impl_cellsOk.calls k3 _ _ l0_0 false _ ?side1 ?side2 A40.out).mono ?_); (case side1 => repeat (first|exact (Kd.C_below HR0_0.out HB.out)|(with_reducible refine Kd.C_alloc ?_ _)|(with_reducible refine Kd.C_drewN ?_ _)|(with_reducible refine Kd.C_drew ?_))); (case side2 => exact HC0_0.out); rintro e w59 ⟨rfl, hb⟩; have n0_ := Aside0.mk (zM (by (with_reducible repeat (first|apply zE|apply zD|apply zF)); exact HO_5.out) hb); have n1_ := Aside0.mk (zK (g := gb279) (o := .cells #[.slice A0_0 l0_0.length c0_0, .slice A0_1 l0_1.length c0_1, .int .i64 a0_2] 27 (0, 0)) (by (with_reducible repeat (first|refine zA ?_ _|refine zC ?_|refine zB ?_ _)); exact BK279.out) hb); have n2_ := Aside0.mk (zN (by repeat (first|(with_reducible first|exact HB.out|apply zI|apply zG|apply zH|refine zJ ?_ GE279.out)|exact HB.out)) hb); clear HO_5; clear BK279; clear HB; have HO_5 := n0_; have BK279 := n1_; have HB := n2_; clear n0_ n1_ n2_; (try clear hb); (try clear hb2); (try clear hk); (try clear hi))))
                          go_ret
                          exact ⟨by first|rfl|(simp [errW_none, errW_some] <;> rfl)|(simp [*, errW_none, errW_some] <;> rfl), by repeat (first|(with_reducible first|exact HB.out|apply zI|apply zG|apply zH|refine zJ ?_ GE279.out)|exact HB.out)⟩
          · rw [if_neg c16] at H
            exact absurd H (by simp)
        · rw [if_neg c15] at H
          exact absurd H (by simp)

end Go.Proofs.Ytediiolcoilepaa.GFnNearNew
