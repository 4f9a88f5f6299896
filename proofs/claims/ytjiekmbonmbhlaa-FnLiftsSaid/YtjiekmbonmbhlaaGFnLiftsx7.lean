/- Walks of the functions that the law reaches: by programs of this session, over a tool's print. -/
import Derived.Test.YtjiekmbonmbhlaaGFnLiftsx0
import Derived.Test.YtjiekmbonmbhlaaGFnLiftsx4
import Derived.Test.YtjiekmbonmbhlaaGFnLiftsx5
import Derived.Test.YtjiekmbonmbhlaaGFnLiftsx6
namespace Go.Proofs.Ytjiekmbonmbhlaa.GFnLifts
open Go.RowKit Go.Proofs.YtjiekmbonmbhlaaW.PrintWords Go.Proofs.YtjiekmbonmbhlaaW.PrintLast Go.Proofs.YtjiekmbonmbhlaaW.PrintMore
attribute [local go_sem] max2_int min2_int max_two min_two max_three min_three max_four min_four   -- for this text's walks alone
set_option linter.unusedVariables false
set_option linter.unusedSimpArgs false

/-! ### spec_l03At: function 130 -/
def spec_l03At.j0 : Nat → Int → Bool → List (S81) → Int → Option (Int)
 |0, _, _, _, _ => none
 |k + 1, x1, x20, x210000, x210001 => if x20 = true then (some (-1)) else (if 0 ≤ (Int.tmod x1 24) then (if (Int.tmod x1 24) < (x210000.length : Int) then (if ((rd_T81 x210000 (Int.tmod x1 24)).f1 = true) then (if ((rd_T81 x210000 (Int.tmod x1 24)).f0) = (wrap64 (Int.tdiv x1 24)) then (some (Int.tmod x1 24)) else (some (-1))) else (some (-1))) else (none)) else (none))
def spec_l03At.f (k : Nat) (l0_0 : List (S81)) (a0_1 : Int) (a1 : Int) : Option (Int) := (spec_ArenaOk.f k l0_0 a0_1).bind fun t210 => (if t210 = true then (if a1 < 0 then (spec_l03At.j0 k a1 true l0_0 a0_1) else (spec_l03At.j0 k a1 (decide ((Int.tmod a1 24) ≥ (l0_0.length : Int))) l0_0 a0_1)) else (spec_l03At.j0 k a1 true l0_0 a0_1))
theorem spec_l03At.mono_l : ∀ k, (∀ y0 y1 y2 y3, LeO (spec_l03At.j0 k y0 y1 y2 y3) (spec_l03At.j0 (k + 1) y0 y1 y2 y3))
 |0 => fun _ _ _ _ r h => by simp [spec_l03At.j0] at h
 |k + 1 => by
    have ih0 := spec_l03At.mono_l k
    · intro y0 y1 y2 y3
      unfold spec_l03At.j0
      repeat' first
     |(with_reducible exact ih0 _ _ _ _)
     |(with_reducible exact spec_ArenaOk.mono _ _ _)
     |(with_reducible exact LeO.refl _)
     |(with_reducible exact LeO.none _)
     |(with_reducible refine LeO.ite ?_ ?_)
     |(with_reducible refine LeO.bind ?_ (fun _ => ?_))
     |exact ih0 _ _ _ _
     |exact spec_ArenaOk.mono _ _ _
     |exact LeO.none _
     |refine LeO.ite ?_ ?_
     |refine LeO.bind ?_ (fun _ => ?_)
theorem spec_l03At.mono : ∀ a0 a1 a2 k, LeO (spec_l03At.f k a0 a1 a2) (spec_l03At.f (k + 1) a0 a1 a2) := by
  intro a0 a1 a2 k
  have ih0 := spec_l03At.mono_l k
  unfold spec_l03At.f
  repeat' first
     |(with_reducible exact ih0 _ _ _ _)
     |(with_reducible exact spec_ArenaOk.mono _ _ _)
     |(with_reducible exact LeO.refl _)
     |(with_reducible exact LeO.none _)
     |(with_reducible refine LeO.ite ?_ ?_)
     |(with_reducible refine LeO.bind ?_ (fun _ => ?_))
     |exact ih0 _ _ _ _
     |exact spec_ArenaOk.mono _ _ _
     |exact LeO.none _
     |refine LeO.ite ?_ ?_
     |refine LeO.bind ?_ (fun _ => ?_)
set_option maxHeartbeats 8000000 in
set_option maxRecDepth 100000 in
theorem spec_l03At.calls (k : Nat) (A0_0 : Option Addr) (c0_0 : Nat) (l0_0 : List (S81)) (a0_1 : Int) (a1 : Int) (r : Int) (w : World) (hr0_0 : Kd.C k81 w A0_0 l0_0.length l0_0) (hc0_0 : l0_0.length ≤ c0_0) (h : spec_l03At.f k l0_0 a0_1 a1 = some r) :
    Calls Try.prog 130 #[.agg #[.slice A0_0 l0_0.length c0_0, .int .i64 a0_1], .int .i64 a1] w fun e w' => e = .returned (.int .i64 r) ∧ Below w.heap.size w w' := by
  have hu65 := Try.underlying65
  have HR0_0 := Aside0.mk hr0_0
  have HC0_0 := Aside0.mk hc0_0
  clear hr0_0 hc0_0
  have HB := Aside0.mk (Below.refl w.heap.size w)
  have H : ((spec_ArenaOk.f k l0_0 a0_1).bind fun t210 => (if t210 = true then (if a1 < 0 then (spec_l03At.j0 k a1 true l0_0 a0_1) else (spec_l03At.j0 k a1 (decide ((Int.tmod a1 24) ≥ (l0_0.length : Int))) l0_0 a0_1)) else (spec_l03At.j0 k a1 true l0_0 a0_1))) = some r := h
  clear h
  have HC3 := Aside0.mk H
  clear H
  go_enter Try.func130, Try.ntmps130
  go_upto_region 1 with (first|((with_reducible refine gate_dst (N := 2) rfl ?_); (try (refine gate_guard (by rfl) ?_; dsimp only)); refine box_event ?hg (N := 2) ?hd (cs := #[.slice A0_0 l0_0.length c0_0, .int .i64 a0_1]) (t := 65) ?hr ?_; (case hd => rfl); (case hg => rfl); (case hr => first|(go_simp; done)|(go_simp; rfl)); intro gb209 hg w4 hbox hb; have n0_ := Aside0.mk (zN (by repeat (first|(with_reducible first|exact HB.out|apply zI|apply zG|apply zH)|exact HB.out)) hb); have n1_ := Aside0.mk (hbox); have n2_ := Aside0.mk ((by rw [hg]; exact (below_size (by repeat (first|(with_reducible first|exact HB.out|apply zI|apply zG|apply zH)|exact HB.out))) : w.heap.size ≤ gb209)); have n3_ := Aside0.mk ((by rw [hg]; exact (below_size (by repeat (first|(with_reducible first|exact HB.out|apply zI|apply zG|apply zH)|exact HB.out))) : w.heap.size ≤ gb209)); clear HB; have HB := n0_; have BK209 := n1_; have GW209 := n2_; have GE209 := n3_; clear n0_ n1_ n2_ n3_; clear hb hbox hg))
  (try simp only [Act.put, List.setIfInBounds_toArray, List.set_cons_zero, List.set_cons_succ])
  go_cut [20] (fun v20 wc => ∃ (kq : Nat) (x20_2 : Bool), v20 = .bool x20_2 ∧ Aside0 (spec_l03At.j0 kq a1 x20_2 l0_0 a0_1 = some r) ∧ Aside0 (kq ≤ k) ∧ Aside0 (wc.heap[gb209]? = some (.cells #[(.slice A0_0 l0_0.length c0_0), .int .i64 a0_1] 65 (0, 0))) ∧ Aside0 (Below w.heap.size w wc))
  case first =>
    have H := HC3.out
    clear HC3
    replace H := Option.bind_eq_some_iff.mp H
    obtain ⟨t210, A50, H⟩ := H
    replace H : (if t210 = true then (if a1 < 0 then (spec_l03At.j0 k a1 true l0_0 a0_1) else (spec_l03At.j0 k a1 (decide ((Int.tmod a1 24) ≥ (l0_0.length : Int))) l0_0 a0_1)) else (spec_l03At.j0 k a1 true l0_0 a0_1)) = some r := H
    have A5 := Aside0.mk A50
    clear A50
    obtain ⟨hcz8_0, hcz8_1, hfz8_0, hfz8_1⟩ := zb2 BK209.out
    go_wp2_with (first|((with_reducible refine gate_callee (f := 90) rfl ?_); refine goesL_ (some 7) rfl rfl Try.func90 (by kernel_rfl) rfl #[.agg #[.slice A0_0 l0_0.length c0_0, .int .i64 a0_1]] rfl (by (try simp only [List.map_toArray, List.map_cons, List.map_nil]); first|done|rfl|(simp only [List.length_drop, List.length_take]; rfl)) ?_; (with_reducible refine (spec_ArenaOk.calls k _ _ l0_0 a0_1 t210 _ ?side1 ?side2 A5.out).mono ?_); (case side1 => repeat (first|exact (Kd.C_below HR0_0.out HB.out)|(with_reducible refine Kd.C_alloc ?_ _)|(with_reducible refine Kd.C_drewN ?_ _)|(with_reducible refine Kd.C_drew ?_))); (case side2 => exact HC0_0.out); rintro e w9 ⟨rfl, hb⟩; refine ⟨_, rfl, ?_⟩; have n0_ := Aside0.mk (zK (g := gb209) (o := .cells #[.slice A0_0 l0_0.length c0_0, .int .i64 a0_1] 65 (0, 0)) (by (with_reducible repeat (first|refine zA ?_ _|refine zC ?_|refine zB ?_ _)); exact BK209.out) hb); have n1_ := Aside0.mk (zN (by repeat (first|(with_reducible first|exact HB.out|apply zI|apply zG|apply zH|refine zJ ?_ GE209.out)|exact HB.out)) hb); clear BK209; clear HB; have BK209 := n0_; have HB := n1_; clear n0_ n1_; (try clear hb); (try clear hb2); (try clear hk); (try clear hi); obtain ⟨hcz12_0, hcz12_1, hfz12_0, hfz12_1⟩ := zb2 BK209.out; (refine Classical.byCases (p := (t210 = true)) (fun c6 => ?zp12) (fun c6 => ?zn12); (case' zn12 => (replace c6 := Bool.eq_false_iff.mpr c6); (subst c6); (have H1 : (spec_l03At.j0 k a1 true l0_0 a0_1) = some r := by rw [if_neg (show ¬ (false = true) by decide)] at H; exact H); (clear H); (have H := H1); (clear H1); (have H' := Aside0.mk H); (clear H); (obtain ⟨hcz13_0, hcz13_1, hfz13_0, hfz13_1⟩ := zb2 BK209.out)); (case' zp12 => (subst c6); (have H1 : (if a1 < 0 then (spec_l03At.j0 k a1 true l0_0 a0_1) else (spec_l03At.j0 k a1 (decide ((Int.tmod a1 24) ≥ (l0_0.length : Int))) l0_0 a0_1)) = some r := by rw [if_pos rfl] at H; exact H); (clear H); (have H := H1); (clear H1); (refine Classical.byCases (p := (a1 < 0)) (fun c7 => ?zp11) (fun c7 => ?zn11); (case' zn11 => (rw [if_neg c7] at H); (have c7b0 : decide (a1 < 0) = false := decide_eq_false c7); (clear c7); ((first|rw [c7b0]|(simp only [i64_w, i32_w]; rw [c7b0])|skip)); (have H' := Aside0.mk H); (clear H); (obtain ⟨hcz10_0, hcz10_1, hfz10_0, hfz10_1⟩ := zb2 BK209.out)); (case' zp11 => (rw [if_pos c7] at H); (have c7b0 : decide (a1 < 0) = true := decide_eq_true c7); (clear c7); ((first|rw [c7b0]|(simp only [i64_w, i32_w]; rw [c7b0])|skip)); (have H' := Aside0.mk H); (clear H); (obtain ⟨hcz8_0, hcz8_1, hfz8_0, hfz8_1⟩ := zb2 BK209.out)))))))
    · go_meet
      case rel => exact ⟨_, (true), (by first|rfl|(simp; done)|(simp [*]; done)), H', ⟨by first|omega|exact Nat.le_refl _⟩, ⟨by (with_reducible repeat (first|refine zA ?_ _|refine zC ?_|refine zB ?_ _)); exact BK209.out⟩, ⟨by repeat (first|(with_reducible first|exact HB.out|apply zI|apply zG|apply zH|refine zJ ?_ GE209.out)|exact HB.out)⟩⟩
    · go_meet
      case rel => exact ⟨_, (decide ((Int.tmod a1 24) ≥ (l0_0.length : Int))), (by first|rfl|(simp; done)|(simp [*]; done)), H', ⟨by first|omega|exact Nat.le_refl _⟩, ⟨by (with_reducible repeat (first|refine zA ?_ _|refine zC ?_|refine zB ?_ _)); exact BK209.out⟩, ⟨by repeat (first|(with_reducible first|exact HB.out|apply zI|apply zG|apply zH|refine zJ ?_ GE209.out)|exact HB.out)⟩⟩
    · go_meet
      case rel => exact ⟨_, (true), (by first|rfl|(simp; done)|(simp [*]; done)), H', ⟨by first|omega|exact Nat.le_refl _⟩, ⟨by (with_reducible repeat (first|refine zA ?_ _|refine zC ?_|refine zB ?_ _)); exact BK209.out⟩, ⟨by repeat (first|(with_reducible first|exact HB.out|apply zI|apply zG|apply zH|refine zJ ?_ GE209.out)|exact HB.out)⟩⟩
  case rest =>
    clear HC3
    try clear c1
    try clear p2
    try clear c6
    try clear c7
    try clear c7b0
    try clear c9
    try clear c13
    try clear hcz10_0
    try clear hcz10_1
    try clear hcz12_0
    try clear hcz12_1
    try clear hcz13_0
    try clear hcz13_1
    try clear hcz8_0
    try clear hcz8_1
    try clear hfz10_0
    try clear hfz10_1
    try clear hfz12_0
    try clear hfz12_1
    try clear hfz13_0
    try clear hfz13_1
    try clear hfz8_0
    try clear hfz8_1
    obtain ⟨kq, x20_2, rfl, HA, HJ2, BK209, HB⟩ := hcut
    cases kq with
   |zero => exact absurd HA.out (by simp [spec_l03At.j0])
   |succ kj2 =>
      have H := HA.out
      clear HA
      simp only [spec_l03At.j0] at H
      by_cases c15 : x20_2 = true
      · subst c15
        have H1 : (some (-1)) = some r := by rw [if_pos rfl] at H; exact H
        clear H
        have H := H1
        clear H1
        obtain rfl := Option.some.inj H
        go_wp2
        go_ret
        exact ⟨by first|rfl|(simp [errW_none, errW_some] <;> rfl)|(simp [*, errW_none, errW_some] <;> rfl), by repeat (first|(with_reducible first|exact HB.out|apply zI|apply zG|apply zH|refine zJ ?_ GE209.out)|exact HB.out)⟩
      · replace c15 := Bool.eq_false_iff.mpr c15
        subst c15
        have H1 : (if 0 ≤ (Int.tmod a1 24) then (if (Int.tmod a1 24) < (l0_0.length : Int) then (if ((rd_T81 l0_0 (Int.tmod a1 24)).f1 = true) then (if ((rd_T81 l0_0 (Int.tmod a1 24)).f0) = (wrap64 (Int.tdiv a1 24)) then (some (Int.tmod a1 24)) else (some (-1))) else (some (-1))) else (none)) else (none)) = some r := by rw [if_neg (show ¬ (false = true) by decide)] at H; exact H
        clear H
        have H := H1
        clear H1
        obtain ⟨ji16, hji16⟩ : ∃ j_ : Int, (Int.tmod a1 24) = j_ := ⟨_, rfl⟩
        replace H : (if 0 ≤ (ji16) then (if (ji16) < (l0_0.length : Int) then (if ((rd_T81 l0_0 (ji16)).f1 = true) then (if ((rd_T81 l0_0 (ji16)).f0) = (wrap64 (Int.tdiv a1 24)) then (some ji16) else (some (-1))) else (some (-1))) else (none)) else (none)) = some r := by first|(rw [hji16] at H; exact H)|(simp only [hji16] at H ⊢; exact H)
        by_cases c17 : 0 ≤ (ji16)
        · rw [if_pos c17] at H
          have c17b0 : decide (0 ≤ (ji16)) = true := decide_eq_true c17
          clear c17
          by_cases c18 : (ji16) < (l0_0.length : Int)
          · rw [if_pos c18] at H
            have c18b0 : decide ((ji16) < (l0_0.length : Int)) = true := decide_eq_true c18
            clear c18
            obtain ⟨bq19, hbq19⟩ : ∃ b_ : Bool, b_ = ((rd_T81 l0_0 (ji16)).f1) := ⟨_, rfl⟩
            replace H : (if (bq19 = true) then (if ((rd_T81 l0_0 (ji16)).f0) = (wrap64 (Int.tdiv a1 24)) then (some ji16) else (some (-1))) else (some (-1))) = some r := by rw [← hbq19] at H; exact H
            have Nbq19 := Aside0.mk hbq19
            clear hbq19
            by_cases c20 : (bq19 = true)
            · subst c20
              have H1 : (if ((rd_T81 l0_0 (ji16)).f0) = (wrap64 (Int.tdiv a1 24)) then (some ji16) else (some (-1))) = some r := by rw [if_pos rfl] at H; exact H
              clear H
              have H := H1
              clear H1
              by_cases c21 : ((rd_T81 l0_0 (ji16)).f0) = (wrap64 (Int.tdiv a1 24))
              · rw [if_pos c21] at H
                have c21b0 : (((rd_T81 l0_0 (ji16)).f0) == (wrap64 (Int.tdiv a1 24))) = true := beq_iff_eq.mpr c21
                have c21b1 : (((rd_T81 l0_0 (ji16)).f0) != (wrap64 (Int.tdiv a1 24))) = false := bne_eq_false_iff_eq.mpr c21
                clear c21
                obtain rfl := Option.some.inj H
                obtain ⟨hcz22_0, hcz22_1, hfz22_0, hfz22_1⟩ := zb2 BK209.out
                have p211 : 0 ≤ ((ji16) : Int) := of_decide_eq_true (by first|(with_reducible assumption)|assumption)
                have q211 : (ji16) < (l0_0.length : Int) := of_decide_eq_true (by first|(with_reducible assumption)|assumption)
                obtain ⟨ad211, e211, hx211_0, hx211_1, hx211_2, hx211_3, hx211_4⟩ := at_T81 HR0_0.out (ji16) p211 q211
                (try rw [← Nbq19.out] at hx211_1)
                cases e211
                replace hx211_0 := (HB.out.cell (World.block_lt_of_cell? w _ hx211_0)).trans hx211_0
                replace hx211_1 := (HB.out.cell (World.block_lt_of_cell? w _ hx211_1)).trans hx211_1
                replace hx211_2 := (HB.out.cell (World.block_lt_of_cell? w _ hx211_2)).trans hx211_2
                replace hx211_3 := (HB.out.cell (World.block_lt_of_cell? w _ hx211_3)).trans hx211_3
                replace hx211_4 := (HB.out.cell (World.block_lt_of_cell? w _ hx211_4)).trans hx211_4
                replace p211 := eq_true p211
                replace q211 := eq_true q211
                have p212 : 0 ≤ ((ji16) : Int) := of_decide_eq_true (by first|(with_reducible assumption)|assumption)
                have q212 : (ji16) < (l0_0.length : Int) := of_decide_eq_true (by first|(with_reducible assumption)|assumption)
                obtain ⟨ad212, e212, hx212_0, hx212_1, hx212_2, hx212_3, hx212_4⟩ := at_T81 HR0_0.out (ji16) p212 q212
                (try rw [← Nbq19.out] at hx212_1)
                obtain rfl : ad211 = ad212 := (by injection e212)
                replace hx212_0 := (HB.out.cell (World.block_lt_of_cell? w _ hx212_0)).trans hx212_0
                replace hx212_1 := (HB.out.cell (World.block_lt_of_cell? w _ hx212_1)).trans hx212_1
                replace hx212_2 := (HB.out.cell (World.block_lt_of_cell? w _ hx212_2)).trans hx212_2
                replace hx212_3 := (HB.out.cell (World.block_lt_of_cell? w _ hx212_3)).trans hx212_3
                replace hx212_4 := (HB.out.cell (World.block_lt_of_cell? w _ hx212_4)).trans hx212_4
                replace p212 := eq_true p212
                replace q212 := eq_true q212
                go_wp2
                go_ret
                exact ⟨by first|rfl|(simp [errW_none, errW_some] <;> rfl)|(simp only [← hji16]; first|rfl|(simp [errW_none, errW_some] <;> rfl))|(simp [*, errW_none, errW_some] <;> rfl), by repeat (first|(with_reducible first|exact HB.out|apply zI|apply zG|apply zH|refine zJ ?_ GE209.out)|exact HB.out)⟩
              · rw [if_neg c21] at H
                have c21b0 : (((rd_T81 l0_0 (ji16)).f0) == (wrap64 (Int.tdiv a1 24))) = false := beq_eq_false_iff_ne.mpr c21
                have c21b1 : (((rd_T81 l0_0 (ji16)).f0) != (wrap64 (Int.tdiv a1 24))) = true := bne_iff_ne.mpr c21
                obtain rfl := Option.some.inj H
                obtain ⟨hcz23_0, hcz23_1, hfz23_0, hfz23_1⟩ := zb2 BK209.out
                have p211 : 0 ≤ ((ji16) : Int) := of_decide_eq_true (by first|(with_reducible assumption)|assumption)
                have q211 : (ji16) < (l0_0.length : Int) := of_decide_eq_true (by first|(with_reducible assumption)|assumption)
                obtain ⟨ad211, e211, hx211_0, hx211_1, hx211_2, hx211_3, hx211_4⟩ := at_T81 HR0_0.out (ji16) p211 q211
                (try rw [← Nbq19.out] at hx211_1)
                cases e211
                replace hx211_0 := (HB.out.cell (World.block_lt_of_cell? w _ hx211_0)).trans hx211_0
                replace hx211_1 := (HB.out.cell (World.block_lt_of_cell? w _ hx211_1)).trans hx211_1
                replace hx211_2 := (HB.out.cell (World.block_lt_of_cell? w _ hx211_2)).trans hx211_2
                replace hx211_3 := (HB.out.cell (World.block_lt_of_cell? w _ hx211_3)).trans hx211_3
                replace hx211_4 := (HB.out.cell (World.block_lt_of_cell? w _ hx211_4)).trans hx211_4
                replace p211 := eq_true p211
                replace q211 := eq_true q211
                have p212 : 0 ≤ ((ji16) : Int) := of_decide_eq_true (by first|(with_reducible assumption)|assumption)
                have q212 : (ji16) < (l0_0.length : Int) := of_decide_eq_true (by first|(with_reducible assumption)|assumption)
                obtain ⟨ad212, e212, hx212_0, hx212_1, hx212_2, hx212_3, hx212_4⟩ := at_T81 HR0_0.out (ji16) p212 q212
                (try rw [← Nbq19.out] at hx212_1)
                obtain rfl : ad211 = ad212 := (by injection e212)
                replace hx212_0 := (HB.out.cell (World.block_lt_of_cell? w _ hx212_0)).trans hx212_0
                replace hx212_1 := (HB.out.cell (World.block_lt_of_cell? w _ hx212_1)).trans hx212_1
                replace hx212_2 := (HB.out.cell (World.block_lt_of_cell? w _ hx212_2)).trans hx212_2
                replace hx212_3 := (HB.out.cell (World.block_lt_of_cell? w _ hx212_3)).trans hx212_3
                replace hx212_4 := (HB.out.cell (World.block_lt_of_cell? w _ hx212_4)).trans hx212_4
                replace p212 := eq_true p212
                replace q212 := eq_true q212
                go_wp2
                go_ret
                exact ⟨by first|rfl|(simp [errW_none, errW_some] <;> rfl)|(simp only [← hji16]; first|rfl|(simp [errW_none, errW_some] <;> rfl))|(simp [*, errW_none, errW_some] <;> rfl), by repeat (first|(with_reducible first|exact HB.out|apply zI|apply zG|apply zH|refine zJ ?_ GE209.out)|exact HB.out)⟩
            · replace c20 := Bool.eq_false_iff.mpr c20
              subst c20
              have H1 : (some (-1)) = some r := by rw [if_neg (show ¬ (false = true) by decide)] at H; exact H
              clear H
              have H := H1
              clear H1
              obtain rfl := Option.some.inj H
              obtain ⟨hcz24_0, hcz24_1, hfz24_0, hfz24_1⟩ := zb2 BK209.out
              have p211 : 0 ≤ ((ji16) : Int) := of_decide_eq_true (by first|(with_reducible assumption)|assumption)
              have q211 : (ji16) < (l0_0.length : Int) := of_decide_eq_true (by first|(with_reducible assumption)|assumption)
              obtain ⟨ad211, e211, hx211_0, hx211_1, hx211_2, hx211_3, hx211_4⟩ := at_T81 HR0_0.out (ji16) p211 q211
              (try rw [← Nbq19.out] at hx211_1)
              cases e211
              replace hx211_0 := (HB.out.cell (World.block_lt_of_cell? w _ hx211_0)).trans hx211_0
              replace hx211_1 := (HB.out.cell (World.block_lt_of_cell? w _ hx211_1)).trans hx211_1
              replace hx211_2 := (HB.out.cell (World.block_lt_of_cell? w _ hx211_2)).trans hx211_2
              replace hx211_3 := (HB.out.cell (World.block_lt_of_cell? w _ hx211_3)).trans hx211_3
              replace hx211_4 := (HB.out.cell (World.block_lt_of_cell? w _ hx211_4)).trans hx211_4
              replace p211 := eq_true p211
              replace q211 := eq_true q211
              go_wp2
              go_ret
              exact ⟨by first|rfl|(simp [errW_none, errW_some] <;> rfl)|(simp only [← hji16]; first|rfl|(simp [errW_none, errW_some] <;> rfl))|(simp [*, errW_none, errW_some] <;> rfl), by repeat (first|(with_reducible first|exact HB.out|apply zI|apply zG|apply zH|refine zJ ?_ GE209.out)|exact HB.out)⟩
          · rw [if_neg c18] at H
            exact absurd H (by simp)
        · rw [if_neg c17] at H
          exact absurd H (by simp)


/-! ### spec_Lift: function 125 -/
set_option maxHeartbeats 4000000 in
set_option maxRecDepth 100000 in
theorem slift_zero (k : Nat) (A : Option Addr) (c : Nat) (l : List S81) (fr handle : Int) (w : World) (hr : Kd.C k81 w A l.length l) (hc : l.length ≤ c) (at_ : Int) (h2 : spec_l03At.f k l fr handle = some at_) (h3 : at_ < 0) :
    Calls Try.prog 125 #[.agg #[.slice A l.length c, .int .i64 fr], .int .i64 handle] w fun e w' => ∃ v0_ : Value, e = .returned (.tuple #[.agg #[v0_, .int .i64 0], .bool false]) ∧ Kd.R k81 81 w' w.heap.size (fun _ => True) v0_ [] ∧ Below w.heap.size w w' := by
  have hu65 := Try.underlying65
  have HS := Aside0.mk (St.start w)
  have h3b : decide (at_ < 0) = true := decide_eq_true h3
  go_enter Try.func125, Try.ntmps125
  go_wp2_with fail
  have h65 : w.heap.size + 1 = (w.alloc (Obj.cells #[Value.slice A l.length c, Value.int IntKind.i64 fr] 65)).heap.size := by show _ = (w.heap.push _).size; rw [Array.size_push]
  have S := (HS.out.alloc #[Value.slice A l.length c, Value.int IntKind.i64 fr] 65).alloc #[Value.slice none 0 0, Value.int IntKind.i64 0] 65
  rw [← h65] at S
  clear h65 HS
  refine (spec_l03At.calls k A c l fr handle at_ _ (Kd.C_below hr S.below) hc h2).mono ?_
  rintro e w1 ⟨rfl, hb⟩
  have S := S.step hb
  clear hb
  have HS := Aside0.mk S
  have hd0 := S.at_cell 0 rfl 0 rfl
  have hd1 := S.at_cell 0 rfl 1 rfl
  have hz0 := S.at_frozen 0 rfl 0
  have hz1 := S.at_frozen 0 rfl 1
  clear S
  go_wp2_with fail
  have S := (HS.out.put 0 (.slice none 0 0) rfl).put 1 (.int .i64 0) rfl
  clear HS hd0 hd1 hz0 hz1
  refine bodyPost_ret (results_ct rfl _ _ _ 65 #[.slice none 0 0, .int .i64 0] (0, 0) _ rfl S.head.2 Try.underlying65 rfl (by kernel_rfl)) rfl ?_
  exact ⟨_, rfl, Kd.R_nil _ _ _ _ _, S.below⟩
set_option maxHeartbeats 4000000 in
set_option maxRecDepth 100000 in
theorem slift_main (k : Nat) (A : Option Addr) (c : Nat) (l : List S81) (fr handle : Int) (w : World) (hr : Kd.C k81 w A l.length l) (hc : l.length ≤ c) (at_ : Int) (h2 : spec_l03At.f k l fr handle = some at_) (h3 : ¬ at_ < 0) (tl : List S81) (tf : Int) (h5 : spec_l03Copy.f l fr = some (tl, tf)) (hf0 : at_ < l.length) (hf1 : at_ < tl.length) :
    Calls Try.prog 125 #[.agg #[.slice A l.length c, .int .i64 fr], .int .i64 handle] w fun e w' => ∃ v0_ : Value, e = .returned (.tuple #[.agg #[v0_, .int .i64 at_], .bool true]) ∧ Kd.R k81 81 w' w.heap.size (fun _ => True) v0_ (tl.set at_.toNat ⟨(if wrap64 ((rd_T81 l at_).f0 + 1) > 41666665 then 0 else wrap64 ((rd_T81 l at_).f0 + 1)), false, ⟨#[]⟩, ⟨#[]⟩, fr⟩) ∧ Below w.heap.size w w' := by
  have hu65 := Try.underlying65
  have hu81 := Try.underlying81
  have HS := Aside0.mk (St.start w)
  have h3b : decide (at_ < 0) = false := decide_eq_false h3
  go_enter Try.func125, Try.ntmps125
  go_wp2_with fail
  have h65 : w.heap.size + 1 = (w.alloc (Obj.cells #[Value.slice A l.length c, Value.int IntKind.i64 fr] 65)).heap.size := by show _ = (w.heap.push _).size; rw [Array.size_push]
  have S := (HS.out.alloc #[Value.slice A l.length c, Value.int IntKind.i64 fr] 65).alloc #[Value.slice none 0 0, Value.int IntKind.i64 0] 65
  rw [← h65] at S
  clear h65 HS
  refine (spec_l03At.calls k A c l fr handle at_ _ (Kd.C_below hr S.below) hc h2).mono ?_
  rintro e w1 ⟨rfl, hb⟩
  have S := S.step hb
  clear hb
  have HS := Aside0.mk S
  have hc0 := S.at_cell 1 rfl 0 rfl
  have hc1 := S.at_cell 1 rfl 1 rfl
  clear S
  go_wp2_with fail
  refine (spec_l03Copy.calls A c l fr tl tf _ (Kd.C_below hr HS.out.below) hc h5).mono ?_
  rintro e w2 ⟨v3, rfl, hR, hb⟩
  obtain ⟨g3, c3, rfl, _⟩ := Kd.R_form hR (by omega)
  have S := HS.out.new_row F81.E hb hR
  clear HS hb hR hc0 hc1
  obtain ⟨ad, rfl, hx0, _⟩ := at_T81 (Kd.C_below hr S.below) at_ (by omega) hf0
  have HS := Aside0.mk S
  have hc0 := S.at_cell 2 rfl 0 rfl
  have hc1 := S.at_cell 2 rfl 1 rfl
  have hz : 0 ≤ at_ := by omega
  have hlt := S.at_lt 2 rfl
  have hlt2 := World.block_lt_of_cell? _ _ hx0
  have hx : tl[at_.toNat]? = some (rd_T81 tl at_) := by unfold rd_T81; rw [List.getD_eq_getElem?_getD, List.getElem?_eq_getElem (by omega)]; rfl
  obtain ⟨hs0, hy0⟩ := S.flat_cell F81 (j := 0) hx rfl
  obtain ⟨hs1, hy1⟩ := S.flat_cell F81 (j := 1) hx rfl
  obtain ⟨hs2, hy2⟩ := S.flat_cell F81 (j := 2) hx rfl
  obtain ⟨hs3, hy3⟩ := S.flat_cell F81 (j := 3) hx rfl
  obtain ⟨hs4, hy4⟩ := S.flat_cell F81 (j := 4) hx rfl
  replace hs0 : w2.cell? ⟨g3, at_.toNat * 5, none⟩ = _ := hs0
  replace hy0 : w2.frozen? ⟨g3, at_.toNat * 5, none⟩ = _ := hy0
  replace hs1 : w2.cell? ⟨g3, at_.toNat * 5 + 1, none⟩ = _ := hs1
  replace hy1 : w2.frozen? ⟨g3, at_.toNat * 5 + 1, none⟩ = _ := hy1
  replace hs2 : w2.cell? ⟨g3, at_.toNat * 5 + 2, none⟩ = _ := hs2
  replace hy2 : w2.frozen? ⟨g3, at_.toNat * 5 + 2, none⟩ = _ := hy2
  replace hs3 : w2.cell? ⟨g3, at_.toNat * 5 + 3, none⟩ = _ := hs3
  replace hy3 : w2.frozen? ⟨g3, at_.toNat * 5 + 3, none⟩ = _ := hy3
  replace hs4 : w2.cell? ⟨g3, at_.toNat * 5 + 4, none⟩ = _ := hs4
  replace hy4 : w2.frozen? ⟨g3, at_.toNat * 5 + 4, none⟩ = _ := hy4
  have hlt3 := World.block_lt_of_cell? _ _ hs0
  have hd0 := S.at_cell 1 rfl 0 rfl
  have hd1 := S.at_cell 1 rfl 1 rfl
  have hz0 := S.at_frozen 1 rfl 0
  have hz1 := S.at_frozen 1 rfl 1
  have hlt4 := S.at_lt 1 rfl
  have hne1 : g3 ≠ w.heap.size + 1 := fun e => S.at_own 1 0 rfl rfl (by decide) (by rw [← e]; rfl)
  have hflag : True := trivial
  clear S
  go_wp2_with (first|((with_reducible refine gate_dst (N := 22) rfl ?_); clear hflag; generalize hb_ : at_.toNat * 5 = b at *)|fail)
  all_goals subst hb_
  all_goals clear hc0 hc1 hd0 hd1 hz0 hz1 hs0 hs1 hs2 hs3 hs4 hy0 hy1 hy2 hy3 hy4
  · have S := ((((HS.out.slot5 hx ⟨0, false, ⟨#[]⟩, ⟨#[]⟩, fr⟩).front 1 rfl rfl).put 0 (.slice (some ⟨g3, 0, none⟩) tl.length c3) rfl).put 1 (.int .i64 at_) rfl).alloc #[Value.slice (some ⟨g3, 0, none⟩) tl.length c3, Value.int IntKind.i64 at_] 65
    refine bodyPost_ret (results_ct rfl _ _ _ 65 #[.slice (some ⟨g3, 0, none⟩) tl.length c3, .int .i64 at_] (0, 0) _ rfl S.tail.head.2 Try.underlying65 rfl (by kernel_rfl)) rfl ?_
    exact ⟨_, rfl, zR (S.at_R 2 rfl) (fun _ _ => trivial), S.below⟩
  · have S := ((((HS.out.slot5 hx ⟨wrap64 ((rd_T81 l at_).f0 + 1), false, ⟨#[]⟩, ⟨#[]⟩, fr⟩).front 1 rfl rfl).put 0 (.slice (some ⟨g3, 0, none⟩) tl.length c3) rfl).put 1 (.int .i64 at_) rfl).alloc #[Value.slice (some ⟨g3, 0, none⟩) tl.length c3, Value.int IntKind.i64 at_] 65
    refine bodyPost_ret (results_ct rfl _ _ _ 65 #[.slice (some ⟨g3, 0, none⟩) tl.length c3, .int .i64 at_] (0, 0) _ rfl S.tail.head.2 Try.underlying65 rfl (by kernel_rfl)) rfl ?_
    exact ⟨_, rfl, zR (S.at_R 2 rfl) (fun _ _ => trivial), S.below⟩
def spec_Lift.f (k : Nat) (l : List S81) (fr handle : Int) : Option (List S81 × Int × Bool) :=
  (spec_l03At.f k l fr handle).bind fun p => if p < 0 then some ([], 0, false) else ((spec_l03Copy.f l fr).bind fun t => if p < (l.length : Int) then (if p < (t.1.length : Int) then some (t.1.set p.toNat ⟨(if wrap64 ((rd_T81 l p).f0 + 1) > 41666665 then 0 else wrap64 ((rd_T81 l p).f0 + 1)), false, ⟨#[]⟩, ⟨#[]⟩, fr⟩, p, true) else none) else none)
theorem spec_Lift.mono : ∀ a0 a1 a2 k, LeO (spec_Lift.f k a0 a1 a2) (spec_Lift.f (k + 1) a0 a1 a2) := by
  intro a0 a1 a2 k
  unfold spec_Lift.f
  repeat' first
     |(with_reducible exact spec_l03At.mono _ _ _ _)
     |(with_reducible exact LeO.refl _)
     |(with_reducible refine LeO.ite ?_ ?_)
     |(with_reducible refine LeO.bind ?_ (fun _ => ?_))
theorem spec_Lift.calls (k : Nat) (A0_0 : Option Addr) (c0_0 : Nat) (l0_0 : List S81) (a0_1 : Int) (a1 : Int) (r1 : List S81) (r2 : Int) (r3 : Bool) (w : World) (hr0_0 : Kd.C k81 w A0_0 l0_0.length l0_0) (hc0_0 : l0_0.length ≤ c0_0) (h : spec_Lift.f k l0_0 a0_1 a1 = some (r1, r2, r3)) :
    Calls Try.prog 125 #[.agg #[.slice A0_0 l0_0.length c0_0, .int .i64 a0_1], .int .i64 a1] w fun e w' => ∃ v0_ : Value, e = .returned (.tuple #[.agg #[v0_, .int .i64 r2], .bool r3]) ∧ Kd.R k81 81 w' w.heap.size (fun _ => True) v0_ r1 ∧ Below w.heap.size w w' := by
  have zz : ∀ {x : Option (List S81 × Int × Bool)} {y1 y2 y3}, x = some (y1, y2, y3) → x = some (r1, r2, r3) → r1 = y1 ∧ r2 = y2 ∧ r3 = y3 := fun e1 e2 => by
    have e := Option.some.inj (e1.symm.trans e2)
    simp only [Prod.mk.injEq] at e
    exact ⟨e.1.symm, e.2.1.symm, e.2.2.symm⟩
  unfold spec_Lift.f at h
  obtain ⟨p, h2, h⟩ := Option.bind_eq_some_iff.mp h
  by_cases h3 : p < 0
  · rw [if_pos h3] at h
    obtain ⟨rfl, rfl, rfl⟩ := zz rfl h
    exact slift_zero k A0_0 c0_0 l0_0 a0_1 a1 w hr0_0 hc0_0 _ h2 h3
  rw [if_neg h3] at h
  obtain ⟨⟨tl, tf⟩, h5, h⟩ := Option.bind_eq_some_iff.mp h
  by_cases h6 : p < (l0_0.length : Int)
  case neg => rw [if_neg h6] at h; cases h
  rw [if_pos h6] at h
  by_cases h7 : p < (tl.length : Int)
  case neg => rw [if_neg h7] at h; cases h
  rw [if_pos h7] at h
  obtain ⟨rfl, rfl, rfl⟩ := zz rfl h
  exact slift_main k A0_0 c0_0 l0_0 a0_1 a1 w hr0_0 hc0_0 _ h2 h3 tl tf h5 h6 h7

/-! ### spec_HandleOf: function 126 -/
def spec_HandleOf.f (k : Nat) (l0_0 : List (S81)) (a0_1 : Int) (a1 : Int) : Option (Int) := (spec_ArenaOk.f k l0_0 a0_1).bind fun t214 => (if t214 = true then ((spec_l01In.f a1 0 (wrap64 ((l0_0.length : Int) - 1))).bind fun t215 => (if t215 = true then (if 0 ≤ a1 then (if a1 < (l0_0.length : Int) then (if ((rd_T81 l0_0 a1).f1 = true) then (some (wrap64 ((wrap64 (24 * ((rd_T81 l0_0 a1).f0))) + a1))) else (some (-1))) else (none)) else (none)) else (some (-1)))) else (some (-1)))
theorem spec_HandleOf.mono : ∀ a0 a1 a2 k, LeO (spec_HandleOf.f k a0 a1 a2) (spec_HandleOf.f (k + 1) a0 a1 a2) := by
  intro a0 a1 a2 k
  unfold spec_HandleOf.f
  repeat' first
     |(with_reducible exact spec_ArenaOk.mono _ _ _)
     |(with_reducible exact LeO.refl _)
     |(with_reducible exact LeO.none _)
     |(with_reducible refine LeO.ite ?_ ?_)
     |(with_reducible refine LeO.bind ?_ (fun _ => ?_))
     |exact spec_ArenaOk.mono _ _ _
     |exact LeO.none _
     |refine LeO.ite ?_ ?_
     |refine LeO.bind ?_ (fun _ => ?_)
set_option maxHeartbeats 8000000 in
set_option maxRecDepth 100000 in
theorem spec_HandleOf.calls (k : Nat) (A0_0 : Option Addr) (c0_0 : Nat) (l0_0 : List (S81)) (a0_1 : Int) (a1 : Int) (r : Int) (w : World) (hr0_0 : Kd.C k81 w A0_0 l0_0.length l0_0) (hc0_0 : l0_0.length ≤ c0_0) (h : spec_HandleOf.f k l0_0 a0_1 a1 = some r) :
    Calls Try.prog 126 #[.agg #[.slice A0_0 l0_0.length c0_0, .int .i64 a0_1], .int .i64 a1] w fun e w' => e = .returned (.int .i64 r) ∧ Below w.heap.size w w' := by
  have hu65 := Try.underlying65
  have HR0_0 := Aside0.mk hr0_0
  have HC0_0 := Aside0.mk hc0_0
  clear hr0_0 hc0_0
  have HB := Aside0.mk (Below.refl w.heap.size w)
  have H : ((spec_ArenaOk.f k l0_0 a0_1).bind fun t214 => (if t214 = true then ((spec_l01In.f a1 0 (wrap64 ((l0_0.length : Int) - 1))).bind fun t215 => (if t215 = true then (if 0 ≤ a1 then (if a1 < (l0_0.length : Int) then (if ((rd_T81 l0_0 a1).f1 = true) then (some (wrap64 ((wrap64 (24 * ((rd_T81 l0_0 a1).f0))) + a1))) else (some (-1))) else (none)) else (none)) else (some (-1)))) else (some (-1)))) = some r := h
  clear h
  replace H := Option.bind_eq_some_iff.mp H
  obtain ⟨t214, A30, H⟩ := H
  replace H : (if t214 = true then ((spec_l01In.f a1 0 (wrap64 ((l0_0.length : Int) - 1))).bind fun t215 => (if t215 = true then (if 0 ≤ a1 then (if a1 < (l0_0.length : Int) then (if ((rd_T81 l0_0 a1).f1 = true) then (some (wrap64 ((wrap64 (24 * ((rd_T81 l0_0 a1).f0))) + a1))) else (some (-1))) else (none)) else (none)) else (some (-1)))) else (some (-1))) = some r := H
  have A3 := Aside0.mk A30
  clear A30
  go_enter Try.func126, Try.ntmps126
  go_wp2_with (first|((with_reducible refine gate_dst (N := 2) rfl ?_); (try (refine gate_guard (by rfl) ?_; dsimp only)); refine box_event ?hg (N := 2) ?hd (cs := #[.slice A0_0 l0_0.length c0_0, .int .i64 a0_1]) (t := 65) ?hr ?_; (case hd => rfl); (case hg => rfl); (case hr => first|(go_simp; done)|(go_simp; rfl)); intro gb213 hg w11 hbox hb; have n0_ := Aside0.mk (zN (by repeat (first|(with_reducible first|exact HB.out|apply zI|apply zG|apply zH)|exact HB.out)) hb); have n1_ := Aside0.mk (hbox); have n2_ := Aside0.mk ((by rw [hg]; exact (below_size (by repeat (first|(with_reducible first|exact HB.out|apply zI|apply zG|apply zH)|exact HB.out))) : w.heap.size ≤ gb213)); have n3_ := Aside0.mk ((by rw [hg]; exact (below_size (by repeat (first|(with_reducible first|exact HB.out|apply zI|apply zG|apply zH)|exact HB.out))) : w.heap.size ≤ gb213)); clear HB; have HB := n0_; have BK213 := n1_; have GW213 := n2_; have GE213 := n3_; clear n0_ n1_ n2_ n3_; clear hb hbox hg; obtain ⟨hcz12_0, hcz12_1, hfz12_0, hfz12_1⟩ := zb2 BK213.out)|((with_reducible refine gate_callee (f := 90) rfl ?_); refine goesL_ (some 6) rfl rfl Try.func90 (by kernel_rfl) rfl #[.agg #[.slice A0_0 l0_0.length c0_0, .int .i64 a0_1]] rfl (by (try simp only [List.map_toArray, List.map_cons, List.map_nil]); first|done|rfl|(simp only [List.length_drop, List.length_take]; rfl)) ?_; (with_reducible refine (spec_ArenaOk.calls k _ _ l0_0 a0_1 t214 _ ?side1 ?side2 A3.out).mono ?_); (case side1 => repeat (first|exact (Kd.C_below HR0_0.out HB.out)|(with_reducible refine Kd.C_alloc ?_ _)|(with_reducible refine Kd.C_drewN ?_ _)|(with_reducible refine Kd.C_drew ?_))); (case side2 => exact HC0_0.out); rintro e w13 ⟨rfl, hb⟩; refine ⟨_, rfl, ?_⟩; have n0_ := Aside0.mk (zK (g := gb213) (o := .cells #[.slice A0_0 l0_0.length c0_0, .int .i64 a0_1] 65 (0, 0)) (by (with_reducible repeat (first|refine zA ?_ _|refine zC ?_|refine zB ?_ _)); exact BK213.out) hb); have n1_ := Aside0.mk (zN (by repeat (first|(with_reducible first|exact HB.out|apply zI|apply zG|apply zH|refine zJ ?_ GE213.out)|exact HB.out)) hb); clear BK213; clear HB; have BK213 := n0_; have HB := n1_; clear n0_ n1_; (try clear hb); (try clear hb2); (try clear hk); (try clear hi); obtain ⟨hcz14_0, hcz14_1, hfz14_0, hfz14_1⟩ := zb2 BK213.out; (refine Classical.byCases (p := (t214 = true)) (fun c4 => ?zp17) (fun c4 => ?zn17); (case' zn17 => (replace c4 := Bool.eq_false_iff.mpr c4); (subst c4); (have H1 : (some (-1)) = some r := by rw [if_neg (show ¬ (false = true) by decide)] at H; exact H); (clear H); (have H := H1); (clear H1); (obtain rfl := Option.some.inj H)); (case' zp17 => (subst c4); (have H1 : ((spec_l01In.f a1 0 (wrap64 ((l0_0.length : Int) - 1))).bind fun t215 => (if t215 = true then (if 0 ≤ a1 then (if a1 < (l0_0.length : Int) then (if ((rd_T81 l0_0 a1).f1 = true) then (some (wrap64 ((wrap64 (24 * ((rd_T81 l0_0 a1).f0))) + a1))) else (some (-1))) else (none)) else (none)) else (some (-1)))) = some r := by rw [if_pos rfl] at H; exact H); (clear H); (have H := H1); (clear H1); (replace H := Option.bind_eq_some_iff.mp H); (obtain ⟨t215, A50, H⟩ := H); (replace H : (if t215 = true then (if 0 ≤ a1 then (if a1 < (l0_0.length : Int) then (if ((rd_T81 l0_0 a1).f1 = true) then (some (wrap64 ((wrap64 (24 * ((rd_T81 l0_0 a1).f0))) + a1))) else (some (-1))) else (none)) else (none)) else (some (-1))) = some r := H); (have A5 := Aside0.mk A50); (clear A50))))|(go_at_call 68; (with_reducible refine (spec_l01In.calls a1 0 (wrap64 ((l0_0.length : Int) - 1)) t215 _ A5.out).mono ?_); rintro e w' ⟨rfl, ⟨nd, rfl⟩⟩; (refine Classical.byCases (p := (t215 = true)) (fun c6 => ?zp16) (fun c6 => ?zn16); (case' zn16 => (replace c6 := Bool.eq_false_iff.mpr c6); (subst c6); (have H1 : (some (-1)) = some r := by rw [if_neg (show ¬ (false = true) by decide)] at H; exact H); (clear H); (have H := H1); (clear H1); (obtain rfl := Option.some.inj H)); (case' zp16 => (subst c6); (have H1 : (if 0 ≤ a1 then (if a1 < (l0_0.length : Int) then (if ((rd_T81 l0_0 a1).f1 = true) then (some (wrap64 ((wrap64 (24 * ((rd_T81 l0_0 a1).f0))) + a1))) else (some (-1))) else (none)) else (none)) = some r := by rw [if_pos rfl] at H; exact H); (clear H); (have H := H1); (clear H1); (refine Classical.byCases (p := (0 ≤ a1)) (fun c7 => ?zp15) (fun c7 => ?zn15); (case' zn15 => (rw [if_neg c7] at H); (exact absurd H (by simp))); (case' zp15 => (rw [if_pos c7] at H); (have c7b0 : decide (0 ≤ a1) = true := decide_eq_true c7); (clear c7); (refine Classical.byCases (p := (a1 < (l0_0.length : Int))) (fun c8 => ?zp14) (fun c8 => ?zn14); (case' zn14 => (rw [if_neg c8] at H); (exact absurd H (by simp))); (case' zp14 => (rw [if_pos c8] at H); (have c8b0 : decide (a1 < (l0_0.length : Int)) = true := decide_eq_true c8); (clear c8); (obtain ⟨bq9, hbq9⟩ : ∃ b_ : Bool, b_ = ((rd_T81 l0_0 a1).f1) := ⟨_, rfl⟩); (replace H : (if (bq9 = true) then (some (wrap64 ((wrap64 (24 * ((rd_T81 l0_0 a1).f0))) + a1))) else (some (-1))) = some r := by rw [← hbq9] at H; exact H); (have Nbq9 := Aside0.mk hbq9); (clear hbq9); (refine Classical.byCases (p := ((bq9 = true))) (fun c10 => ?zp13) (fun c10 => ?zn13); (case' zn13 => (replace c10 := Bool.eq_false_iff.mpr c10); (subst c10); (have H1 : (some (-1)) = some r := by rw [if_neg (show ¬ (false = true) by decide)] at H; exact H); (clear H); (have H := H1); (clear H1); (obtain rfl := Option.some.inj H); (have p216 : 0 ≤ (a1 : Int) := of_decide_eq_true (by first|(with_reducible assumption)|assumption)); (have q216 : a1 < (l0_0.length : Int) := of_decide_eq_true (by first|(with_reducible assumption)|assumption)); (obtain ⟨ad216, e216, hx216_0, hx216_1, hx216_2, hx216_3, hx216_4⟩ := at_T81 HR0_0.out a1 p216 q216); ((try rw [← Nbq9.out] at hx216_1)); (cases e216); (replace hx216_0 := (HB.out.cell (World.block_lt_of_cell? w _ hx216_0)).trans hx216_0); (replace hx216_1 := (HB.out.cell (World.block_lt_of_cell? w _ hx216_1)).trans hx216_1); (replace hx216_2 := (HB.out.cell (World.block_lt_of_cell? w _ hx216_2)).trans hx216_2); (replace hx216_3 := (HB.out.cell (World.block_lt_of_cell? w _ hx216_3)).trans hx216_3); (replace hx216_4 := (HB.out.cell (World.block_lt_of_cell? w _ hx216_4)).trans hx216_4); (replace p216 := eq_true p216); (replace q216 := eq_true q216)); (case' zp13 => (subst c10); (have H1 : (some (wrap64 ((wrap64 (24 * ((rd_T81 l0_0 a1).f0))) + a1))) = some r := by rw [if_pos rfl] at H; exact H); (clear H); (have H := H1); (clear H1); (obtain rfl := Option.some.inj H); (have p216 : 0 ≤ (a1 : Int) := of_decide_eq_true (by first|(with_reducible assumption)|assumption)); (have q216 : a1 < (l0_0.length : Int) := of_decide_eq_true (by first|(with_reducible assumption)|assumption)); (obtain ⟨ad216, e216, hx216_0, hx216_1, hx216_2, hx216_3, hx216_4⟩ := at_T81 HR0_0.out a1 p216 q216); ((try rw [← Nbq9.out] at hx216_1)); (cases e216); (replace hx216_0 := (HB.out.cell (World.block_lt_of_cell? w _ hx216_0)).trans hx216_0); (replace hx216_1 := (HB.out.cell (World.block_lt_of_cell? w _ hx216_1)).trans hx216_1); (replace hx216_2 := (HB.out.cell (World.block_lt_of_cell? w _ hx216_2)).trans hx216_2); (replace hx216_3 := (HB.out.cell (World.block_lt_of_cell? w _ hx216_3)).trans hx216_3); (replace hx216_4 := (HB.out.cell (World.block_lt_of_cell? w _ hx216_4)).trans hx216_4); (replace p216 := eq_true p216); (replace q216 := eq_true q216); (have p217 : 0 ≤ (a1 : Int) := of_decide_eq_true (by first|(with_reducible assumption)|assumption)); (have q217 : a1 < (l0_0.length : Int) := of_decide_eq_true (by first|(with_reducible assumption)|assumption)); (obtain ⟨ad217, e217, hx217_0, hx217_1, hx217_2, hx217_3, hx217_4⟩ := at_T81 HR0_0.out a1 p217 q217); ((try rw [← Nbq9.out] at hx217_1)); (obtain rfl : ad216 = ad217 := (by injection e217)); (replace hx217_0 := (HB.out.cell (World.block_lt_of_cell? w _ hx217_0)).trans hx217_0); (replace hx217_1 := (HB.out.cell (World.block_lt_of_cell? w _ hx217_1)).trans hx217_1); (replace hx217_2 := (HB.out.cell (World.block_lt_of_cell? w _ hx217_2)).trans hx217_2); (replace hx217_3 := (HB.out.cell (World.block_lt_of_cell? w _ hx217_3)).trans hx217_3); (replace hx217_4 := (HB.out.cell (World.block_lt_of_cell? w _ hx217_4)).trans hx217_4); (replace p217 := eq_true p217); (replace q217 := eq_true q217)))))))))))
  · go_ret
    exact ⟨by first|rfl|(simp [errW_none, errW_some] <;> rfl)|(simp [*, errW_none, errW_some] <;> rfl), by repeat (first|(with_reducible first|exact HB.out|apply zI|apply zG|apply zH|refine zJ ?_ GE213.out)|exact HB.out)⟩
  · go_ret
    exact ⟨by first|rfl|(simp [errW_none, errW_some] <;> rfl)|(simp [*, errW_none, errW_some] <;> rfl), by repeat (first|(with_reducible first|exact HB.out|apply zI|apply zG|apply zH|refine zJ ?_ GE213.out)|exact HB.out)⟩
  · go_ret
    exact ⟨by first|rfl|(simp [errW_none, errW_some] <;> rfl)|(simp [*, errW_none, errW_some] <;> rfl), by repeat (first|(with_reducible first|exact HB.out|apply zI|apply zG|apply zH|refine zJ ?_ GE213.out)|exact HB.out)⟩
  · go_ret
    exact ⟨by first|rfl|(simp [errW_none, errW_some] <;> rfl)|(simp [*, errW_none, errW_some] <;> rfl), by repeat (first|(with_reducible first|exact HB.out|apply zI|apply zG|apply zH|refine zJ ?_ GE213.out)|exact HB.out)⟩

end Go.Proofs.Ytjiekmbonmbhlaa.GFnLifts
