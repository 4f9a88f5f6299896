/- Walks of the functions that the law reaches: by programs of this session, over a tool's print. -/
import Derived.Test.YtjiekmbonmbhlaaGFnExactCountKeyx0
import Derived.Test.YtjiekmbonmbhlaaGFnExactCountKeyx1
namespace Go.Proofs.Ytjiekmbonmbhlaa.GFnExactCountKey
open Go.RowKit Go.Proofs.YtjiekmbonmbhlaaW.PrintWords Go.Proofs.YtjiekmbonmbhlaaW.PrintLast Go.Proofs.YtjiekmbonmbhlaaW.PrintMore
attribute [local go_sem] max2_int min2_int max_two min_two max_three min_three max_four min_four   -- for this text's walks alone
set_option linter.unusedVariables false
set_option linter.unusedSimpArgs false

/-! ### spec_CountKey: function 30 -/
mutual
def spec_CountKey.l0 : Nat → ByteArray → Int → List Int → Int → Option (List Int × Int)
 |0, _, _, _, _ => none
 |k + 1, x1, x6, x125000, x125001 => if x6 < 3 then ((spec_l05At.f k x1 x6).bind fun t126 => (if 0 ≤ t126 then (if t126 < (x125000.length : Int) then (if (rd x125000 t126) < 15 then (spec_CountKey.l0 k x1 (wrap64 (x6 + 1)) (x125000.set (t126 : Int).toNat (wrap64 ((rd x125000 t126) + 1))) x125001) else (spec_CountKey.l0 k x1 (wrap64 (x6 + 1)) x125000 x125001)) else (none)) else (none))) else (if (wrap64 (x125001 + 1)) = 100 then (spec_CountKey.l1 k 0 x125000 0) else (some (x125000, wrap64 (x125001 + 1))))
def spec_CountKey.l1 : Nat → Int → List Int → Int → Option (List Int × Int)
 |0, _, _, _ => none
 |k + 1, x8, x125000, x125001 => if x8 < (x125000.length : Int) then (if 0 ≤ x8 then (spec_CountKey.l1 k (wrap64 (x8 + 1)) (x125000.set (x8 : Int).toNat (wrap64 (Int.tdiv (rd x125000 x8) 2))) x125001) else (none)) else (some (x125000, x125001))
end
def spec_CountKey.f (k : Nat) (l0_0 : List Int) (a0_1 : Int) (a1 : ByteArray) : Option (List Int × Int) := (spec_l05Copy.f l0_0 a0_1).bind fun bt120 => ((spec_SketchOk.f k l0_0 a0_1).bind fun t125 => (if t125 = true then (spec_CountKey.l0 k a1 0 bt120.1 bt120.2) else (some (bt120.1, bt120.2))))
theorem spec_CountKey.mono_l : ∀ k, (∀ y0 y1 y2 y3, LeO (spec_CountKey.l0 k y0 y1 y2 y3) (spec_CountKey.l0 (k + 1) y0 y1 y2 y3)) ∧ (∀ y0 y1 y2, LeO (spec_CountKey.l1 k y0 y1 y2) (spec_CountKey.l1 (k + 1) y0 y1 y2))
 |0 => ⟨fun _ _ _ _ r h => by simp [spec_CountKey.l0] at h, fun _ _ _ r h => by simp [spec_CountKey.l1] at h⟩
 |k + 1 => by
    obtain ⟨ih0, ih1⟩ := spec_CountKey.mono_l k
    refine ⟨?_, ?_⟩
    · intro y0 y1 y2 y3
      unfold spec_CountKey.l0
      repeat' first
     |(with_reducible exact ih0 _ _ _ _)
     |(with_reducible exact ih1 _ _ _)
     |(with_reducible exact spec_SketchOk.mono _ _ _)
     |(with_reducible exact spec_l05At.mono _ _ _)
     |(with_reducible exact LeO.refl _)
     |(with_reducible exact LeO.none _)
     |(with_reducible refine LeO.ite ?_ ?_)
     |(with_reducible refine LeO.bind ?_ (fun _ => ?_))
     |exact ih0 _ _ _ _
     |exact ih1 _ _ _
     |exact spec_SketchOk.mono _ _ _
     |exact spec_l05At.mono _ _ _
     |exact LeO.none _
     |refine LeO.ite ?_ ?_
     |refine LeO.bind ?_ (fun _ => ?_)
    · intro y0 y1 y2
      unfold spec_CountKey.l1
      repeat' first
     |(with_reducible exact ih0 _ _ _ _)
     |(with_reducible exact ih1 _ _ _)
     |(with_reducible exact spec_SketchOk.mono _ _ _)
     |(with_reducible exact spec_l05At.mono _ _ _)
     |(with_reducible exact LeO.refl _)
     |(with_reducible exact LeO.none _)
     |(with_reducible refine LeO.ite ?_ ?_)
     |(with_reducible refine LeO.bind ?_ (fun _ => ?_))
     |exact ih0 _ _ _ _
     |exact ih1 _ _ _
     |exact spec_SketchOk.mono _ _ _
     |exact spec_l05At.mono _ _ _
     |exact LeO.none _
     |refine LeO.ite ?_ ?_
     |refine LeO.bind ?_ (fun _ => ?_)
theorem spec_CountKey.mono : ∀ a0 a1 a2 k, LeO (spec_CountKey.f k a0 a1 a2) (spec_CountKey.f (k + 1) a0 a1 a2) := by
  intro a0 a1 a2 k
  obtain ⟨ih0, ih1⟩ := spec_CountKey.mono_l k
  unfold spec_CountKey.f
  repeat' first
     |(with_reducible exact ih0 _ _ _ _)
     |(with_reducible exact ih1 _ _ _)
     |(with_reducible exact spec_SketchOk.mono _ _ _)
     |(with_reducible exact spec_l05At.mono _ _ _)
     |(with_reducible exact LeO.refl _)
     |(with_reducible exact LeO.none _)
     |(with_reducible refine LeO.ite ?_ ?_)
     |(with_reducible refine LeO.bind ?_ (fun _ => ?_))
     |exact ih0 _ _ _ _
     |exact ih1 _ _ _
     |exact spec_SketchOk.mono _ _ _
     |exact spec_l05At.mono _ _ _
     |exact LeO.none _
     |refine LeO.ite ?_ ?_
     |refine LeO.bind ?_ (fun _ => ?_)
def spec_CountKey.T9 : Bool × List (List Nat × List Nat) := (true, [([], []), ([0], [0]), ([], []), ([], []), ([3], [3]), ([], []), ([4, 5], [4, 5]), ([6], [6]), ([7], [7]), ([1, 2, 0, 1, 2, 3, 4, 5, 6, 7, 8], [1, 2]), ([9, 8, 0, 1, 2, 3, 4, 5, 6, 7, 8], [8, 9])])
def spec_CountKey.B9 : List Nat := [0, 1, 0, 0, 8, 0, 56, 120, 248, 511, 1023]
theorem spec_CountKey.tab9 : rtab .any (opsOf Try.f30 9) = spec_CountKey.T9 := by kernel_rfl
theorem spec_CountKey.bits9 : waitsOk spec_CountKey.T9.2 spec_CountKey.B9 = true := by kernel_rfl
def spec_CountKey.T16 : Bool × List (List Nat × List Nat) := (true, [([], []), ([0], [0]), ([], []), ([], []), ([3], [3]), ([], []), ([4, 5], [4, 5]), ([6], [6]), ([7], [7]), ([1, 2, 0, 1, 2, 3, 4, 5, 6, 7, 8], [1, 2]), ([9, 8, 0, 1, 2, 3, 4, 5, 6, 7, 8], [8, 9])])
def spec_CountKey.B16 : List Nat := [0, 1, 0, 0, 8, 0, 56, 120, 248, 511, 1023]
theorem spec_CountKey.tab16 : rtab .any (opsOf Try.f30 16) = spec_CountKey.T16 := by kernel_rfl
theorem spec_CountKey.bits16 : waitsOk spec_CountKey.T16.2 spec_CountKey.B16 = true := by kernel_rfl
set_option maxHeartbeats 8000000 in
set_option maxRecDepth 100000 in
theorem spec_CountKey.calls (k : Nat) (A0_0 : Option Addr) (c0_0 : Nat) (l0_0 : List Int) (a0_1 : Int) (a1 : ByteArray) (r1 : List Int) (r2 : Int) (w : World) (hr0_0 : Kd.C (Kd.int .i64) w A0_0 l0_0.length l0_0) (hc0_0 : l0_0.length ≤ c0_0) (h : spec_CountKey.f k l0_0 a0_1 a1 = some (r1, r2)) :
    Calls Try.prog 30 #[.agg #[.slice A0_0 l0_0.length c0_0, .int .i64 a0_1], .string a1] w fun e w' => ∃ v0_ : Value, e = .returned (.agg #[v0_, .int .i64 r2]) ∧ Kd.R (Kd.int .i64) 3 w' w.heap.size (fun _ => True) v0_ r1 ∧ Below w.heap.size w w' := by
  have hu46 := Try.underlying46
  have HR0_0 := Aside0.mk hr0_0
  have HC0_0 := Aside0.mk hc0_0
  clear hr0_0 hc0_0
  have HB := Aside0.mk (Below.refl w.heap.size w)
  have H : ((spec_l05Copy.f l0_0 a0_1).bind fun bt120 => ((spec_SketchOk.f k l0_0 a0_1).bind fun t125 => (if t125 = true then (spec_CountKey.l0 k a1 0 bt120.1 bt120.2) else (some (bt120.1, bt120.2))))) = some (r1, r2) := h
  clear h
  replace H := Option.bind_eq_some_iff.mp H
  obtain ⟨⟨t120, t123⟩, A30, H⟩ := H
  replace H : ((spec_SketchOk.f k l0_0 a0_1).bind fun t125 => (if t125 = true then (spec_CountKey.l0 k a1 0 t120 t123) else (some (t120, t123)))) = some (r1, r2) := H
  have A3 := Aside0.mk A30
  clear A30
  replace H := Option.bind_eq_some_iff.mp H
  obtain ⟨t125, A40, H⟩ := H
  replace H : (if t125 = true then (spec_CountKey.l0 k a1 0 t120 t123) else (some (t120, t123))) = some (r1, r2) := H
  have A4 := Aside0.mk A40
  clear A40
  by_cases c5 : t125 = true
  · subst c5
    have H1 : (spec_CountKey.l0 k a1 0 t120 t123) = some (r1, r2) := by rw [if_pos rfl] at H; exact H
    clear H
    have H := H1
    clear H1
    have H' := Aside0.mk H
    clear H
    go_enter Try.func30, Try.ntmps30
    go_wp2_with (first|((with_reducible refine gate_dst (N := 2) rfl ?_); refine box_event ?hg (N := 2) ?hd (cs := #[.slice A0_0 l0_0.length c0_0, .int .i64 a0_1]) (t := 46) ?hr ?_; (case hd => rfl); (case hg => rfl); (case hr => first|(go_simp; done)|(go_simp; rfl)); intro gb118 hg w6 hbox hb; have n0_ := Aside0.mk (zN (by repeat (first|(with_reducible first|exact HB.out|apply zI|apply zG|apply zH)|exact HB.out)) hb); have n1_ := Aside0.mk (hbox); have n2_ := Aside0.mk ((by rw [hg]; exact (below_size (by repeat (first|(with_reducible first|exact HB.out|apply zI|apply zG|apply zH)|exact HB.out))) : w.heap.size ≤ gb118)); have n3_ := Aside0.mk ((by rw [hg]; exact (below_size (by repeat (first|(with_reducible first|exact HB.out|apply zI|apply zG|apply zH)|exact HB.out))) : w.heap.size ≤ gb118)); clear HB; have HB := n0_; have BK118 := n1_; have GW118 := n2_; have GE118 := n3_; clear n0_ n1_ n2_ n3_; clear hb hbox hg)|((with_reducible refine gate_dst (N := 4) rfl ?_); refine box_event ?hg (N := 4) ?hd (cs := #[.slice none 0 0, .int .i64 0]) (t := 46) ?hr ?_; (case hd => rfl); (case hg => rfl); (case hr => first|(go_simp; done)|(go_simp; rfl)); intro gb119 hg w7 hbox hb; have n0_ := Aside0.mk (zK (g := gb118) (o := .cells #[.slice A0_0 l0_0.length c0_0, .int .i64 a0_1] 46 (0, 0)) (by (with_reducible repeat (first|refine zA ?_ _|refine zC ?_|refine zB ?_ _)); exact BK118.out) hb); have n1_ := Aside0.mk (zN (by repeat (first|(with_reducible first|exact HB.out|apply zI|apply zG|apply zH|refine zJ ?_ GE118.out)|exact HB.out)) hb); have n2_ := Aside0.mk (hbox); have n3_ := Aside0.mk ((by rw [hg]; exact (below_size (by repeat (first|(with_reducible first|exact HB.out|apply zI|apply zG|apply zH|refine zJ ?_ GE118.out)|exact HB.out))) : w.heap.size ≤ gb119)); have n4_ := Aside0.mk ((by rw [hg]; exact (below_size (by repeat (first|(with_reducible first|exact HB.out|apply zI|apply zG|apply zH|refine zJ ?_ GE118.out)|exact HB.out))) : w.heap.size ≤ gb119)); have n5_ := Aside0.mk ((by rw [hg]; exact Nat.ne_of_lt (blk_lt (g := gb118) (o := .cells #[.slice A0_0 l0_0.length c0_0, .int .i64 a0_1] 46 (0, 0)) (by (with_reducible repeat (first|refine zA ?_ _|refine zC ?_|refine zB ?_ _)); exact BK118.out)) : gb118 ≠ gb119)); have n6_ := Aside0.mk ((by rw [hg]; exact Nat.ne_of_gt (blk_lt (g := gb118) (o := .cells #[.slice A0_0 l0_0.length c0_0, .int .i64 a0_1] 46 (0, 0)) (by (with_reducible repeat (first|refine zA ?_ _|refine zC ?_|refine zB ?_ _)); exact BK118.out)) : gb119 ≠ gb118)); clear BK118; clear HB; have BK118 := n0_; have HB := n1_; have BK119 := n2_; have GW119 := n3_; have GE119 := n4_; have NB118_119 := n5_; have NB119_118 := n6_; clear n0_ n1_ n2_ n3_ n4_ n5_ n6_; clear hb hbox hg; have hnb8 := NB118_119.out; have hnc8 := NB119_118.out; have hcz9_0 : w7.cell? ⟨gb118, 0, none⟩ = some (.slice A0_0 l0_0.length c0_0) := (zO BK118.out 0).trans rfl; have hcz9_1 : w7.cell? ⟨gb118, 1, none⟩ = some (.int .i64 a0_1) := (zO BK118.out 1).trans rfl; have hfz9_0 := zP BK118.out 0; have hfz9_1 := zP BK118.out 1)|((with_reducible refine gate_callee (f := 78) rfl ?_); refine goesL_ (some 10) rfl rfl Try.func78 (by kernel_rfl) rfl #[.agg #[.slice A0_0 l0_0.length c0_0, .int .i64 a0_1]] rfl (by (try simp only [List.map_toArray, List.map_cons, List.map_nil]); first|done|rfl|(simp only [List.length_drop, List.length_take]; rfl)) ?_; (with_reducible refine (spec_l05Copy.calls _ _ l0_0 a0_1 t120 t123 _ ?side1 ?side2 A3.out).mono ?_); (case side1 => repeat (first|exact (Kd.C_below HR0_0.out HB.out)|(with_reducible refine Kd.C_alloc ?_ _)|(with_reducible refine Kd.C_drewN ?_ _)|(with_reducible refine Kd.C_drew ?_))); (case side2 => exact HC0_0.out); rintro e w10 ⟨v121, rfl, ho0, hb⟩; refine ⟨_, rfl, ?_⟩; have n0_ := Aside0.mk (Kd.R_lower ho0 (below_size (by repeat (first|(with_reducible first|exact HB.out|apply zI|apply zG|apply zH|refine zJ ?_ GE118.out|refine zJ ?_ GE119.out)|exact HB.out)))); have n1_ := Aside0.mk (zK (g := gb118) (o := .cells #[.slice A0_0 l0_0.length c0_0, .int .i64 a0_1] 46 (0, 0)) (by (with_reducible repeat (first|refine zA ?_ _|refine zC ?_|refine zB ?_ _)); exact BK118.out) hb); have n2_ := Aside0.mk (zK (g := gb119) (o := .cells #[.slice none 0 0, .int .i64 0] 46 (0, 0)) (by (with_reducible repeat (first|refine zA ?_ _|refine zC ?_|refine zB ?_ _)); exact BK119.out) hb); have n3_ := Aside0.mk (zN (by repeat (first|(with_reducible first|exact HB.out|apply zI|apply zG|apply zH|refine zJ ?_ GE118.out|refine zJ ?_ GE119.out)|exact HB.out)) hb); clear BK118; clear BK119; clear HB; have HO122 := n0_; have BK118 := n1_; have BK119 := n2_; have HB := n3_; clear n0_ n1_ n2_ n3_; (try clear hb); (try clear hb2); (try clear hk); (try clear hi); (try clear ho0))|((with_reducible refine gate_dst (N := 5) rfl ?_); refine box_event ?hg (N := 5) ?hd (cs := #[.slice none 0 0, .int .i64 0]) (t := 46) ?hr ?_; (case hd => rfl); (case hg => rfl); (case hr => first|(go_simp; done)|(go_simp; rfl)); intro gb124 hg w11 hbox hb; have n0_ := Aside0.mk (zM (by (with_reducible repeat (first|apply zE|apply zD|apply zF)); exact HO122.out) hb); have n1_ := Aside0.mk (zK (g := gb118) (o := .cells #[.slice A0_0 l0_0.length c0_0, .int .i64 a0_1] 46 (0, 0)) (by (with_reducible repeat (first|refine zA ?_ _|refine zC ?_|refine zB ?_ _)); exact BK118.out) hb); have n2_ := Aside0.mk (zK (g := gb119) (o := .cells #[.slice none 0 0, .int .i64 0] 46 (0, 0)) (by (with_reducible repeat (first|refine zA ?_ _|refine zC ?_|refine zB ?_ _)); exact BK119.out) hb); have n3_ := Aside0.mk (zN (by repeat (first|(with_reducible first|exact HB.out|apply zI|apply zG|apply zH|refine zJ ?_ GE118.out|refine zJ ?_ GE119.out)|exact HB.out)) hb); have n4_ := Aside0.mk (hbox); have n5_ := Aside0.mk ((by rw [hg]; exact (below_size (by repeat (first|(with_reducible first|exact HB.out|apply zI|apply zG|apply zH|refine zJ ?_ GE118.out|refine zJ ?_ GE119.out)|exact HB.out))) : w.heap.size ≤ gb124)); have n6_ := Aside0.mk ((by rw [hg]; exact (below_size (by repeat (first|(with_reducible first|exact HB.out|apply zI|apply zG|apply zH|refine zJ ?_ GE118.out|refine zJ ?_ GE119.out)|exact HB.out))) : w.heap.size ≤ gb124)); have n7_ := Aside0.mk ((by rw [hg]; exact Nat.ne_of_lt (blk_lt (g := gb118) (o := .cells #[.slice A0_0 l0_0.length c0_0, .int .i64 a0_1] 46 (0, 0)) (by (with_reducible repeat (first|refine zA ?_ _|refine zC ?_|refine zB ?_ _)); exact BK118.out)) : gb118 ≠ gb124)); have n8_ := Aside0.mk ((by rw [hg]; exact Nat.ne_of_gt (blk_lt (g := gb118) (o := .cells #[.slice A0_0 l0_0.length c0_0, .int .i64 a0_1] 46 (0, 0)) (by (with_reducible repeat (first|refine zA ?_ _|refine zC ?_|refine zB ?_ _)); exact BK118.out)) : gb124 ≠ gb118)); have n9_ := Aside0.mk ((by rw [hg]; exact Nat.ne_of_lt (blk_lt (g := gb119) (o := .cells #[.slice none 0 0, .int .i64 0] 46 (0, 0)) (by (with_reducible repeat (first|refine zA ?_ _|refine zC ?_|refine zB ?_ _)); exact BK119.out)) : gb119 ≠ gb124)); have n10_ := Aside0.mk ((by rw [hg]; exact Nat.ne_of_gt (blk_lt (g := gb119) (o := .cells #[.slice none 0 0, .int .i64 0] 46 (0, 0)) (by (with_reducible repeat (first|refine zA ?_ _|refine zC ?_|refine zB ?_ _)); exact BK119.out)) : gb124 ≠ gb119)); clear HO122; clear BK118; clear BK119; clear HB; have HO122 := n0_; have BK118 := n1_; have BK119 := n2_; have HB := n3_; have BK124 := n4_; have GW124 := n5_; have GE124 := n6_; have NB118_124 := n7_; have NB124_118 := n8_; have NB119_124 := n9_; have NB124_119 := n10_; clear n0_ n1_ n2_ n3_ n4_ n5_ n6_ n7_ n8_ n9_ n10_; clear hb hbox hg; obtain ⟨Ao12, co12, eo12⟩ := Kd.R_slice HO122.out; subst eo12; have hnb13 := NB124_118.out; have hnc13 := NB118_124.out; have hnb14 := NB124_119.out; have hnc14 := NB119_124.out; have hcz15_0 : w11.cell? ⟨gb124, 0, none⟩ = some (.slice none 0 0) := (zO BK124.out 0).trans rfl; have hcz15_1 : w11.cell? ⟨gb124, 1, none⟩ = some (.int .i64 0) := (zO BK124.out 1).trans rfl; have hfz15_0 := zP BK124.out 0; have hfz15_1 := zP BK124.out 1; have hcz16_0 : w11.cell? ⟨gb118, 0, none⟩ = some (.slice A0_0 l0_0.length c0_0) := (zO BK118.out 0).trans rfl; have hcz16_1 : w11.cell? ⟨gb118, 1, none⟩ = some (.int .i64 a0_1) := (zO BK118.out 1).trans rfl; have hfz16_0 := zP BK118.out 0; have hfz16_1 := zP BK118.out 1)|((with_reducible refine gate_callee (f := 79) rfl ?_); refine goesL_ (some 12) rfl rfl Try.func79 (by kernel_rfl) rfl #[.agg #[.slice A0_0 l0_0.length c0_0, .int .i64 a0_1]] rfl (by (try simp only [List.map_toArray, List.map_cons, List.map_nil]); first|done|rfl|(simp only [List.length_drop, List.length_take]; rfl)) ?_; (with_reducible refine (spec_SketchOk.calls k _ _ l0_0 a0_1 true _ ?side1 ?side2 A4.out).mono ?_); (case side1 => exact Kd.C_below HR0_0.out (by repeat (first|(with_reducible first|exact HB.out|apply zI|apply zG|apply zH|refine zJ ?_ GE118.out|refine zJ ?_ GE119.out|refine zJ ?_ GE124.out)|exact HB.out))); (case side2 => exact HC0_0.out); rintro e w17 ⟨rfl, hb⟩; refine ⟨_, rfl, ?_⟩; have n0_ := Aside0.mk (zM (by (with_reducible repeat (first|apply zE|apply zD|apply zF)); exact (zR (zL (p := ⟨gb124, 1, none⟩) (zL (p := ⟨gb124, 0, none⟩) (zQ HO122.out BK124.out (by decide)) (fun _ hk => hk.2) (.slice Ao12 t120.length co12)) (fun _ hk => hk.2) (.int .i64 t123)) (fun _ h_ => h_.1))) hb); have n1_ := Aside0.mk (zK (g := gb118) (o := .cells #[.slice A0_0 l0_0.length c0_0, .int .i64 a0_1] 46 (0, 0)) (by (with_reducible repeat (first|refine zA ?_ _|refine zC ?_|refine zB ?_ _)); refine zT ?_ NB118_124.out _; (with_reducible repeat (first|refine zA ?_ _|refine zC ?_|refine zB ?_ _)); refine zT ?_ NB118_124.out _; (with_reducible repeat (first|refine zA ?_ _|refine zC ?_|refine zB ?_ _)); exact BK118.out) hb); have n2_ := Aside0.mk (zK (g := gb119) (o := .cells #[.slice none 0 0, .int .i64 0] 46 (0, 0)) (by (with_reducible repeat (first|refine zA ?_ _|refine zC ?_|refine zB ?_ _)); refine zT ?_ NB119_124.out _; (with_reducible repeat (first|refine zA ?_ _|refine zC ?_|refine zB ?_ _)); refine zT ?_ NB119_124.out _; (with_reducible repeat (first|refine zA ?_ _|refine zC ?_|refine zB ?_ _)); exact BK119.out) hb); have n3_ := Aside0.mk (zK (g := gb124) (o := .cells #[.slice Ao12 t120.length co12, .int .i64 t123] 46 (0, 0)) (by (with_reducible repeat (first|refine zA ?_ _|refine zC ?_|refine zB ?_ _)); refine blk_put (cs := #[.slice Ao12 t120.length co12, .int .i64 0]) ?_ 1 _ rfl; (with_reducible repeat (first|refine zA ?_ _|refine zC ?_|refine zB ?_ _)); refine blk_put (cs := #[.slice none 0 0, .int .i64 0]) ?_ 0 _ rfl; (with_reducible repeat (first|refine zA ?_ _|refine zC ?_|refine zB ?_ _)); exact BK124.out) hb); have n4_ := Aside0.mk (zN (by repeat (first|(with_reducible first|exact HB.out|apply zI|apply zG|apply zH|refine zJ ?_ GE118.out|refine zJ ?_ GE119.out|refine zJ ?_ GE124.out)|exact HB.out)) hb); clear HO122; clear BK118; clear BK119; clear BK124; clear HB; have HO122 := n0_; have BK118 := n1_; have BK119 := n2_; have BK124 := n3_; have HB := n4_; clear n0_ n1_ n2_ n3_ n4_; (try clear hb); (try clear hb2); (try clear hk); (try clear hi)))
    go_loopg [6] k (fun kq v6 w' => ∃ (x6_1 : Int) (x125000_1 : List Int) (u125000 : Value), v6 = .int .i64 x6_1 ∧ Aside0 (spec_CountKey.l0 kq a1 x6_1 x125000_1 t123 = some (r1, r2)) ∧ Aside0 (kq ≤ k) ∧ Aside0 (Kd.R (Kd.int .i64) 3 w' w.heap.size (fun _ => True) u125000 x125000_1) ∧ Aside0 (w'.heap[gb118]? = some (.cells #[(.slice A0_0 l0_0.length c0_0), .int .i64 a0_1] 46 (0, 0))) ∧ Aside0 (w'.heap[gb119]? = some (.cells #[(.slice none 0 0), .int .i64 0] 46 (0, 0))) ∧ Aside0 (w'.heap[gb124]? = some (.cells #[u125000, .int .i64 t123] 46 (0, 0))) ∧ Aside0 (Below w.heap.size w w'))
    case atStart => exact ⟨(0), (t120), (.slice Ao12 t120.length co12), (by first|rfl|(simp; done)|(simp [*]; done)), H', ⟨Nat.le_refl _⟩, ⟨by (with_reducible repeat (first|apply zE|apply zD|apply zF)); exact HO122.out⟩, ⟨by (with_reducible repeat (first|refine zA ?_ _|refine zC ?_|refine zB ?_ _)); exact BK118.out⟩, ⟨by (with_reducible repeat (first|refine zA ?_ _|refine zC ?_|refine zB ?_ _)); exact BK119.out⟩, ⟨by (with_reducible repeat (first|refine zA ?_ _|refine zC ?_|refine zB ?_ _)); exact BK124.out⟩, ⟨by repeat (first|(with_reducible first|exact HB.out|apply zI|apply zG|apply zH|refine zJ ?_ GE118.out|refine zJ ?_ GE119.out|refine zJ ?_ GE124.out)|exact HB.out)⟩⟩
    case round =>
      clear H'
      try clear c1
      try clear p2
      try clear c3
      try clear c5
      try clear c7
      try clear c8
      try clear c13
      try clear c14
      try clear hcz15_0
      try clear hcz15_1
      try clear hcz16_0
      try clear hcz16_1
      try clear hcz9_0
      try clear hcz9_1
      try clear hfz15_0
      try clear hfz15_1
      try clear hfz16_0
      try clear hfz16_1
      try clear hfz9_0
      try clear hfz9_1
      obtain ⟨x6_1, x125000_1, u125000, rfl, HA, HK1, HO_125000, BK118, BK119, BK124, HB⟩ := hrel
      cases gk with
     |zero => exact absurd HA.out (by simp [spec_CountKey.l0])
     |succ k1 =>
        have H := HA.out
        clear HA
        simp only [spec_CountKey.l0] at H
        by_cases c18 : x6_1 < 3
        · rw [if_pos c18] at H
          have c18b0 : decide (x6_1 < 3) = true := decide_eq_true c18
          clear c18
          replace H := Option.bind_eq_some_iff.mp H
          obtain ⟨t126, A190, H⟩ := H
          replace H : (if 0 ≤ t126 then (if t126 < (x125000_1.length : Int) then (if (rd x125000_1 t126) < 15 then (spec_CountKey.l0 k1 a1 (wrap64 (x6_1 + 1)) (x125000_1.set (t126 : Int).toNat (wrap64 ((rd x125000_1 t126) + 1))) t123) else (spec_CountKey.l0 k1 a1 (wrap64 (x6_1 + 1)) x125000_1 t123)) else (none)) else (none)) = some (r1, r2) := H
          have A19 := Aside0.mk A190
          clear A190
          by_cases c20 : 0 ≤ t126
          · rw [if_pos c20] at H
            have c20b0 : decide (0 ≤ t126) = true := decide_eq_true c20
            clear c20
            by_cases c21 : t126 < (x125000_1.length : Int)
            · rw [if_pos c21] at H
              have c21b0 : decide (t126 < (x125000_1.length : Int)) = true := decide_eq_true c21
              clear c21
              by_cases c22 : (rd x125000_1 t126) < 15
              · rw [if_pos c22] at H
                have c22b0 : decide ((rd x125000_1 t126) < 15) = true := decide_eq_true c22
                clear c22
                obtain ⟨y129, hy129⟩ : ∃ y_ : List Int, y_ = (x125000_1.set (t126 : Int).toNat (wrap64 ((rd x125000_1 t126) + 1))) := ⟨_, rfl⟩
                replace H : (spec_CountKey.l0 k1 a1 (wrap64 (x6_1 + 1)) y129 t123) = some (r1, r2) := by first|(rw [hy129]; with_reducible exact H)|(have H2_ := (Option.bind_some _ _).symm.trans H; rw [hy129]; with_reducible exact H2_)|(have H2_ := (Option.bind_some _ _).symm.trans H; with_reducible exact H2_)|with_reducible exact H|(rw [hy129]; exact H)|exact H
                have Ny129 := Aside0.mk hy129
                clear hy129
                have H' := Aside0.mk H
                clear H
                try go_wp2_with (first|((with_reducible refine gate_callee (f := 80) rfl ?_); refine goesL_ (some 21) rfl rfl Try.func80 (by kernel_rfl) rfl #[.string a1, .int .i64 x6_1] rfl (by (try simp only [List.map_toArray, List.map_cons, List.map_nil]); first|done|rfl|(simp only [List.length_drop, List.length_take]; rfl)) ?_; (with_reducible refine (spec_l05At.calls k1 a1 x6_1 t126 _ A19.out).mono ?_); rintro e w' ⟨rfl, ⟨nd, rfl⟩⟩; refine ⟨_, rfl, ?_⟩; (try (rw [drewN_self wr]; generalize hq_ : World.drewN wr _ = wr; have n0_ : Aside0 (Kd.R (Kd.int .i64) 3 wr w.heap.size (fun _ => True) u125000 x125000_1) := ⟨by rw [← hq_]; exact (by (with_reducible repeat (first|apply zE|apply zD|apply zF)); exact HO_125000.out)⟩; have n1_ : Aside0 (wr.heap[gb118]? = some (.cells #[.slice A0_0 l0_0.length c0_0, .int .i64 a0_1] 46 (0, 0))) := ⟨by rw [← hq_]; exact (by (with_reducible repeat (first|refine zA ?_ _|refine zC ?_|refine zB ?_ _)); exact BK118.out)⟩; have n2_ : Aside0 (wr.heap[gb119]? = some (.cells #[.slice none 0 0, .int .i64 0] 46 (0, 0))) := ⟨by rw [← hq_]; exact (by (with_reducible repeat (first|refine zA ?_ _|refine zC ?_|refine zB ?_ _)); exact BK119.out)⟩; have n3_ : Aside0 (wr.heap[gb124]? = some (.cells #[u125000, .int .i64 t123] 46 (0, 0))) := ⟨by rw [← hq_]; exact (by (with_reducible repeat (first|refine zA ?_ _|refine zC ?_|refine zB ?_ _)); exact BK124.out)⟩; have n4_ : Aside0 (Below w.heap.size w wr) := ⟨by rw [← hq_]; exact (by repeat (first|(with_reducible first|exact HB.out|apply zI|apply zG|apply zH|refine zJ ?_ GE118.out|refine zJ ?_ GE119.out|refine zJ ?_ GE124.out)|exact HB.out))⟩; clear HO_125000 BK118 BK119 BK124 HB hq_; have HO_125000 := n0_; have BK118 := n1_; have BK119 := n2_; have BK124 := n3_; have HB := n4_; clear n0_ n1_ n2_ n3_ n4_)); have hnb24 := NB124_118.out; have hnc24 := NB118_124.out; have hnb25 := NB124_119.out; have hnc25 := NB119_124.out; have hcz26_0 : wr.cell? ⟨gb124, 0, none⟩ = some (u125000) := (zO BK124.out 0).trans rfl; have hcz26_1 : wr.cell? ⟨gb124, 1, none⟩ = some (.int .i64 t123) := (zO BK124.out 1).trans rfl; have hfz26_0 := zP BK124.out 0; have hfz26_1 := zP BK124.out 1; obtain ⟨Ao27, co27, eo27⟩ := Kd.R_slice HO_125000.out; subst eo27; have p127 : 0 ≤ (t126 : Int) := of_decide_eq_true (by first|(with_reducible assumption)|assumption); have q127 : t126 < (x125000_1.length : Int) := of_decide_eq_true (by first|(with_reducible assumption)|assumption); obtain ⟨ad127, e127, hx127_0⟩ := Kd.at_int (Kd.R_reads' HO_125000.out).2.2 t126 p127 q127; cases e127; replace p127 := eq_true p127; replace q127 := eq_true q127))
                have n0_ := Aside0.mk (zF HO_125000.out)
                have n1_ := Aside0.mk (zC BK118.out)
                have n2_ := Aside0.mk (zC BK119.out)
                have n3_ := Aside0.mk (zC BK124.out)
                have n4_ := Aside0.mk (zH HB.out)
                clear HO_125000
                clear BK118
                clear BK119
                clear BK124
                clear HB
                have HO_125000 := n0_
                have BK118 := n1_
                have BK119 := n2_
                have BK124 := n3_
                have HB := n4_
                clear n0_ n1_ n2_ n3_ n4_
                have p128 : 0 ≤ (t126 : Int) := of_decide_eq_true (by first|(with_reducible assumption)|assumption)
                have q128 : t126 < (x125000_1.length : Int) := of_decide_eq_true (by first|(with_reducible assumption)|assumption)
                obtain ⟨ad128, e128, hx128_0⟩ := Kd.at_int (Kd.R_reads' HO_125000.out).2.2 t126 p128 q128
                obtain rfl : ad127 = ad128 := (by injection e128)
                replace p128 := eq_true p128
                replace q128 := eq_true q128
                have p23 : 0 ≤ (t126 : Int) := of_decide_eq_true (by first|(with_reducible assumption)|assumption)
                have q23 : (t126 : Int) < ((x125000_1.length : Int) : Int) := of_decide_eq_true (by first|(with_reducible assumption)|assumption)
                obtain ⟨go23, co23, eo23, gb23, gl23, cl23, HG23⟩ := Kd.R_form HO_125000.out (by omega)
                (first|cases eo23|(injection eo23 with ea_ en_ ec_; (first|subst ea_|(injection ea_ with ea_; subst ea_)); subst ec_; clear en_))
                have GB23 := Aside0.mk gb23
                have GG23 := Aside0.mk HG23
                clear gb23 gl23 HG23
                (first|simp only [add_plain] at hx127_0|skip)
                (first|simp only [add_plain] at hx128_0|skip)
                obtain ⟨hx23_0, hf23_0⟩ := Kd.R_celln 0 HO_125000.out (t126 : Int) p23 q23
                replace p23 := eq_true p23
                replace q23 := eq_true q23
                have HP29 := Kd.R_putn HO_125000.out (t126 : Int) (wrap64 ((rd x125000_1 t126) + 1))
                rw [← Ny129.out] at HP29
                have HQ29 := Aside0.mk HP29
                clear HP29
                refine start_ (n := 11) (S := fun w' => w'.cell? ⟨gb124, 0, none⟩ = some (.slice (some ⟨go23, 0, none⟩) x125000_1.length co27) ∧ w'.cell? ⟨gb124, 1, none⟩ = some (.int .i64 t123) ∧ w'.cell? ⟨go23, (t126).toNat, none⟩ = some (.int .i64 (rd x125000_1 t126))) (ds := [10]) #[false, false, false, false, false, false, false, false, false, false, false] (by kernel_rfl) rfl rfl ⟨(zO BK124.out 0).trans rfl, (zO BK124.out 1).trans rfl, hx128_0⟩ (fun hHeld => ?_); refine with_tabW spec_CountKey.tab9 spec_CountKey.bits9 (fun HT_ HW_ => ?_)
                generalize wr.drew = w28 at HO_125000 BK118 BK119 BK124 HB GG23 HQ29 hf23_0 hx127_0 hx128_0 hx23_0 hHeld ⊢
                refine pure_ (i := 0) (N := some 28) (v := ?_) (a' := ?_) #[true, false, false, false, false, false, false, false, false, false, false] rfl rfl (any_of HT_.out (by kernel_rfl)) (fun _ _ _ h => h) (Or.inl ⟨by rfl, ?_⟩) ?_ ?_
                rotate_left
                · intro w'
                  go_simp
                  with_reducible rfl
                rotate_left
                · simp only [Act.put, List.setIfInBounds_toArray, List.set_cons_zero, List.set_cons_succ, i64_w, i32_w]
                  rfl
                refine pure_ (i := 2) (N := some 30) (v := ?_) (a' := ?_) #[true, false, true, false, false, false, false, false, false, false, false] rfl rfl (any_of HT_.out (by kernel_rfl)) (fun _ _ _ h => h) (Or.inl ⟨by rfl, ?_⟩) ?_ ?_
                rotate_left
                · intro w'
                  go_simp
                  with_reducible rfl
                rotate_left
                · simp only [Act.put, List.setIfInBounds_toArray, List.set_cons_zero, List.set_cons_succ, i64_w, i32_w]
                  rfl
                refine pure_ (i := 3) (N := some 31) (v := ?_) (a' := ?_) #[true, false, true, true, false, false, false, false, false, false, false] rfl rfl (any_of HT_.out (by kernel_rfl)) (fun _ _ _ h => h) (Or.inl ⟨by rfl, ?_⟩) ?_ ?_
                rotate_left
                · intro w'
                  go_simp
                  with_reducible rfl
                rotate_left
                · simp only [Act.put, List.setIfInBounds_toArray, List.set_cons_zero, List.set_cons_succ, i64_w, i32_w]
                  rfl
                refine pure_ (i := 5) (N := some 33) (v := ?_) (a' := ?_) #[true, false, true, true, false, true, false, false, false, false, false] rfl rfl (any_of HT_.out (by kernel_rfl)) (fun _ _ _ h => h) (Or.inl ⟨by rfl, ?_⟩) ?_ ?_
                rotate_left
                · intro w'
                  go_simp
                  with_reducible rfl
                rotate_left
                · simp only [Act.put, List.setIfInBounds_toArray, List.set_cons_zero, List.set_cons_succ, i64_w, i32_w]
                  rfl
                refine take_ (i := 1) (N := some 29) (v := ?_) (a' := ?_) #[true, true, true, true, false, true, false, false, false, false, false] rfl rfl (take_ofW HT_.out HW_.out (by kernel_rfl)) (fun _ _ _ h => h) (Or.inl ⟨by rfl, ?_⟩) hHeld ?_ ?_
                rotate_left
                · rintro w' ⟨s0, s1, s2⟩
                  go_simp
                  with_reducible rfl
                rotate_left
                · simp only [Act.put, List.setIfInBounds_toArray, List.set_cons_zero, List.set_cons_succ, i64_w, i32_w]
                  rfl
                refine take_ (i := 4) (N := some 32) (v := ?_) (a' := ?_) #[true, true, true, true, true, true, false, false, false, false, false] rfl rfl (take_ofW HT_.out HW_.out (by kernel_rfl)) (fun _ _ _ h => h) (Or.inl ⟨by rfl, ?_⟩) hHeld ?_ ?_
                rotate_left
                · rintro w' ⟨s0, s1, s2⟩
                  go_simp
                  with_reducible rfl
                rotate_left
                · simp only [Act.put, List.setIfInBounds_toArray, List.set_cons_zero, List.set_cons_succ, i64_w, i32_w]
                  rfl
                refine pure_ (i := 6) (N := some 34) (v := ?_) (a' := ?_) #[true, true, true, true, true, true, true, false, false, false, false] rfl rfl (any_of HT_.out (by kernel_rfl)) (fun _ _ _ h => h) (Or.inl ⟨by rfl, ?_⟩) ?_ ?_
                rotate_left
                · intro w'
                  go_simp
                  with_reducible rfl
                rotate_left
                · simp only [Act.put, List.setIfInBounds_toArray, List.set_cons_zero, List.set_cons_succ, i64_w, i32_w]
                  rfl
                refine take_ (i := 7) (N := some 35) (v := ?_) (a' := ?_) #[true, true, true, true, true, true, true, true, false, false, false] rfl rfl (take_ofW HT_.out HW_.out (by kernel_rfl)) (fun _ _ _ h => h) (Or.inl ⟨by rfl, ?_⟩) hHeld ?_ ?_
                rotate_left
                · rintro w' ⟨s0, s1, s2⟩
                  go_simp
                  with_reducible rfl
                rotate_left
                · simp only [Act.put, List.setIfInBounds_toArray, List.set_cons_zero, List.set_cons_succ, i64_w, i32_w]
                  rfl
                refine pure_ (i := 8) (N := some 36) (v := ?_) (a' := ?_) #[true, true, true, true, true, true, true, true, true, false, false] rfl rfl (any_of HT_.out (by kernel_rfl)) (fun _ _ _ h => h) (Or.inl ⟨by rfl, ?_⟩) ?_ ?_
                rotate_left
                · intro w'
                  go_simp
                  with_reducible rfl
                rotate_left
                · simp only [Act.put, List.setIfInBounds_toArray, List.set_cons_zero, List.set_cons_succ, i64_w, i32_w]
                  rfl
                refine pure_ (i := 9) (N := some 37) (v := ?_) (a' := ?_) #[true, true, true, true, true, true, true, true, true, true, false] rfl rfl (any_of HT_.out (by kernel_rfl)) (fun _ _ _ h => h) (Or.inl ⟨by rfl, ?_⟩) ?_ ?_
                rotate_left
                · intro w'
                  go_simp
                  with_reducible rfl
                rotate_left
                · simp only [Act.put, List.setIfInBounds_toArray, List.set_cons_zero, List.set_cons_succ, i64_w, i32_w]
                  rfl
                refine last_ (i := 10) (N := none) #[true, true, true, true, true, true, true, true, true, true, true] rfl rfl (one_of HT_.out (by kernel_rfl)) (by decide) (fun K hK => ?_)
                refine skip_ (w1 := ?_) (by rfl) rfl ?_ ?_
                rotate_left
                · go_simp
                  rfl
                refine hK.out _ _ ?_
                clear hK K
                refine done_ (done_of HT_.out (by kernel_rfl)) ?_
                try go_wp2
                go_roundg k1
                case measure => have := HK1.out; omega
                case rel => exact ⟨(wrap64 (x6_1 + 1)), (y129), (.slice (some ⟨go23, 0, none⟩) x125000_1.length co27), (by first|rfl|(simp; done)|(simp [*]; done)), H', ⟨by have := HK1.out; omega⟩, ⟨by (with_reducible repeat (first|apply zE|apply zD|apply zF)); exact HQ29.out⟩, ⟨by (with_reducible repeat (first|refine zA ?_ _|refine zC ?_|refine zB ?_ _)); refine zT ?_ (by have h_ := Kd.R_ne HO_125000.out BK118.out (by decide); intro e_; exact h_ (by rw [e_]; rfl)) _; (with_reducible repeat (first|refine zA ?_ _|refine zC ?_|refine zB ?_ _)); exact BK118.out⟩, ⟨by (with_reducible repeat (first|refine zA ?_ _|refine zC ?_|refine zB ?_ _)); refine zT ?_ (by have h_ := Kd.R_ne HO_125000.out BK119.out (by decide); intro e_; exact h_ (by rw [e_]; rfl)) _; (with_reducible repeat (first|refine zA ?_ _|refine zC ?_|refine zB ?_ _)); exact BK119.out⟩, ⟨by (with_reducible repeat (first|refine zA ?_ _|refine zC ?_|refine zB ?_ _)); refine zT ?_ (by have h_ := Kd.R_ne HO_125000.out BK124.out (by decide); intro e_; exact h_ (by rw [e_]; rfl)) _; (with_reducible repeat (first|refine zA ?_ _|refine zC ?_|refine zB ?_ _)); exact BK124.out⟩, ⟨by repeat (first|(with_reducible first|exact HB.out|apply zI|apply zG|apply zH|refine zJ ?_ GB23.out|refine zJ ?_ GE118.out|refine zJ ?_ GE119.out|refine zJ ?_ GE124.out)|exact HB.out)⟩⟩
              · rw [if_neg c22] at H
                have c22b0 : decide ((rd x125000_1 t126) < 15) = false := decide_eq_false c22
                clear c22
                have H' := Aside0.mk H
                clear H
                go_wp2_with (first|((with_reducible refine gate_callee (f := 80) rfl ?_); refine goesL_ (some 21) rfl rfl Try.func80 (by kernel_rfl) rfl #[.string a1, .int .i64 x6_1] rfl (by (try simp only [List.map_toArray, List.map_cons, List.map_nil]); first|done|rfl|(simp only [List.length_drop, List.length_take]; rfl)) ?_; (with_reducible refine (spec_l05At.calls k1 a1 x6_1 t126 _ A19.out).mono ?_); rintro e w' ⟨rfl, ⟨nd, rfl⟩⟩; refine ⟨_, rfl, ?_⟩; have hnb30 := NB124_118.out; have hnc30 := NB118_124.out; have hnb31 := NB124_119.out; have hnc31 := NB119_124.out; have hcz32_0 : wr.cell? ⟨gb124, 0, none⟩ = some (u125000) := (zO BK124.out 0).trans rfl; have hcz32_1 : wr.cell? ⟨gb124, 1, none⟩ = some (.int .i64 t123) := (zO BK124.out 1).trans rfl; have hfz32_0 := zP BK124.out 0; have hfz32_1 := zP BK124.out 1; obtain ⟨Ao33, co33, eo33⟩ := Kd.R_slice HO_125000.out; subst eo33; have p127 : 0 ≤ (t126 : Int) := of_decide_eq_true (by first|(with_reducible assumption)|assumption); have q127 : t126 < (x125000_1.length : Int) := of_decide_eq_true (by first|(with_reducible assumption)|assumption); obtain ⟨ad127, e127, hx127_0⟩ := Kd.at_int (Kd.R_reads' HO_125000.out).2.2 t126 p127 q127; cases e127; replace p127 := eq_true p127; replace q127 := eq_true q127))
                go_roundg k1
                case measure => have := HK1.out; omega
                case rel => exact ⟨(wrap64 (x6_1 + 1)), (x125000_1), (.slice (some ad127) x125000_1.length co33), (by first|rfl|(simp; done)|(simp [*]; done)), H', ⟨by have := HK1.out; omega⟩, ⟨by (with_reducible repeat (first|apply zE|apply zD|apply zF)); exact HO_125000.out⟩, ⟨by (with_reducible repeat (first|refine zA ?_ _|refine zC ?_|refine zB ?_ _)); exact BK118.out⟩, ⟨by (with_reducible repeat (first|refine zA ?_ _|refine zC ?_|refine zB ?_ _)); exact BK119.out⟩, ⟨by (with_reducible repeat (first|refine zA ?_ _|refine zC ?_|refine zB ?_ _)); exact BK124.out⟩, ⟨by repeat (first|(with_reducible first|exact HB.out|apply zI|apply zG|apply zH|refine zJ ?_ GE118.out|refine zJ ?_ GE119.out|refine zJ ?_ GE124.out)|exact HB.out)⟩⟩
            · rw [if_neg c21] at H
              exact absurd H (by simp)
          · rw [if_neg c20] at H
            exact absurd H (by simp)
        · rw [if_neg c18] at H
          have c18b0 : decide (x6_1 < 3) = false := decide_eq_false c18
          clear c18
          by_cases c34 : (wrap64 (t123 + 1)) = 100
          · rw [if_pos c34] at H
            have c34b0 : ((wrap64 (t123 + 1)) == 100) = true := beq_iff_eq.mpr c34
            have c34b1 : ((wrap64 (t123 + 1)) != 100) = false := bne_eq_false_iff_eq.mpr c34
            clear c34
            have H' := Aside0.mk H
            clear H
            have hnb35 := NB124_118.out
            have hnc35 := NB118_124.out
            have hnb36 := NB124_119.out
            have hnc36 := NB119_124.out
            have hcz37_0 : wr.cell? ⟨gb124, 0, none⟩ = some (u125000) := (zO BK124.out 0).trans rfl
            have hcz37_1 : wr.cell? ⟨gb124, 1, none⟩ = some (.int .i64 t123) := (zO BK124.out 1).trans rfl
            have hfz37_0 := zP BK124.out 0
            have hfz37_1 := zP BK124.out 1
            go_wp2
            go_loopg [8] k1 (fun kq v8 w' => ∃ (x8_2 : Int) (x125000_2 : List Int) (u125000 : Value), v8 = .int .i64 x8_2 ∧ Aside0 (spec_CountKey.l1 kq x8_2 x125000_2 0 = some (r1, r2)) ∧ Aside0 (kq ≤ k1) ∧ Aside0 (Kd.R (Kd.int .i64) 3 w' w.heap.size (fun _ => True) u125000 x125000_2) ∧ Aside0 (w'.heap[gb118]? = some (.cells #[(.slice A0_0 l0_0.length c0_0), .int .i64 a0_1] 46 (0, 0))) ∧ Aside0 (w'.heap[gb119]? = some (.cells #[(.slice none 0 0), .int .i64 0] 46 (0, 0))) ∧ Aside0 (w'.heap[gb124]? = some (.cells #[u125000, .int .i64 0] 46 (0, 0))) ∧ Aside0 (Below w.heap.size w w'))
            case atStart => exact ⟨(0), (x125000_1), (u125000), (by first|rfl|(simp; done)|(simp [*]; done)), H', ⟨Nat.le_refl _⟩, ⟨by (with_reducible repeat (first|apply zE|apply zD|apply zF)); exact zR (zL (p := ⟨gb124, 1, none⟩) (zL (p := ⟨gb124, 1, none⟩) (zQ HO_125000.out BK124.out (by decide)) (fun _ hk => hk.2) (.int .i64 (wrap64 (t123 + 1)))) (fun _ hk => hk.2) (.int .i64 0)) (fun _ hk => trivial)⟩, ⟨by (with_reducible repeat (first|refine zA ?_ _|refine zC ?_|refine zB ?_ _)); refine zT ?_ NB118_124.out _; (with_reducible repeat (first|refine zA ?_ _|refine zC ?_|refine zB ?_ _)); refine zT ?_ NB118_124.out _; (with_reducible repeat (first|refine zA ?_ _|refine zC ?_|refine zB ?_ _)); exact BK118.out⟩, ⟨by (with_reducible repeat (first|refine zA ?_ _|refine zC ?_|refine zB ?_ _)); refine zT ?_ NB119_124.out _; (with_reducible repeat (first|refine zA ?_ _|refine zC ?_|refine zB ?_ _)); refine zT ?_ NB119_124.out _; (with_reducible repeat (first|refine zA ?_ _|refine zC ?_|refine zB ?_ _)); exact BK119.out⟩, ⟨by (with_reducible repeat (first|refine zA ?_ _|refine zC ?_|refine zB ?_ _)); refine blk_put (cs := #[u125000, .int .i64 (wrap64 (t123 + 1))]) ?_ 1 _ rfl; (with_reducible repeat (first|refine zA ?_ _|refine zC ?_|refine zB ?_ _)); refine blk_put (cs := #[u125000, .int .i64 t123]) ?_ 1 _ rfl; (with_reducible repeat (first|refine zA ?_ _|refine zC ?_|refine zB ?_ _)); exact BK124.out⟩, ⟨by repeat (first|(with_reducible first|exact HB.out|apply zI|apply zG|apply zH|refine zJ ?_ GE118.out|refine zJ ?_ GE119.out|refine zJ ?_ GE124.out)|exact HB.out)⟩⟩
            case round =>
              clear H'
              try clear c1
              try clear p1
              try clear q1
              try clear hx1
              try clear c2
              try clear p2
              try clear q2
              try clear hx2
              try clear hf2
              try clear c3
              try clear c5
              try clear p6
              try clear c7
              try clear c8
              try clear p12
              try clear q12
              try clear hx12
              try clear c13
              try clear c14
              try clear c18
              try clear c18b0
              try clear c20
              try clear c20b0
              try clear c21
              try clear c21b0
              try clear c22
              try clear c22b0
              try clear p23
              try clear q23
              try clear hx23
              try clear hf23
              try clear c24
              try clear c25
              try clear c30
              try clear c31
              try clear c34
              try clear c34b0
              try clear c34b1
              try clear c35
              try clear c36
              try clear hcz15_0
              try clear hcz15_1
              try clear hcz16_0
              try clear hcz16_1
              try clear hcz26_0
              try clear hcz26_1
              try clear hcz32_0
              try clear hcz32_1
              try clear hcz37_0
              try clear hcz37_1
              try clear hcz9_0
              try clear hcz9_1
              try clear hfz15_0
              try clear hfz15_1
              try clear hfz16_0
              try clear hfz16_1
              try clear hfz26_0
              try clear hfz26_1
              try clear hfz32_0
              try clear hfz32_1
              try clear hfz37_0
              try clear hfz37_1
              try clear hfz9_0
              try clear hfz9_1
              try clear hx127_0
              try clear hx128_0
              try clear hx23_0
              try clear p127
              try clear p128
              try clear p2
              try clear p23
              try clear q127
              try clear q128
              try clear q23
              obtain ⟨x8_2, x125000_2, u125000, rfl, HA, HK2, HO_125000, BK118, BK119, BK124, HB⟩ := hrel
              cases gk with
             |zero => exact absurd HA.out (by simp [spec_CountKey.l1])
             |succ k2 =>
                have H := HA.out
                clear HA
                simp only [spec_CountKey.l1] at H
                by_cases c38 : x8_2 < (x125000_2.length : Int)
                · rw [if_pos c38] at H
                  have c38b0 : decide (x8_2 < (x125000_2.length : Int)) = true := decide_eq_true c38
                  clear c38
                  by_cases c39 : 0 ≤ x8_2
                  · rw [if_pos c39] at H
                    have c39b0 : decide (0 ≤ x8_2) = true := decide_eq_true c39
                    clear c39
                    obtain ⟨y131, hy131⟩ : ∃ y_ : List Int, y_ = (x125000_2.set (x8_2 : Int).toNat (wrap64 (Int.tdiv (rd x125000_2 x8_2) 2))) := ⟨_, rfl⟩
                    replace H : (spec_CountKey.l1 k2 (wrap64 (x8_2 + 1)) y131 0) = some (r1, r2) := by first|(rw [hy131]; with_reducible exact H)|(have H2_ := (Option.bind_some _ _).symm.trans H; rw [hy131]; with_reducible exact H2_)|(have H2_ := (Option.bind_some _ _).symm.trans H; with_reducible exact H2_)|with_reducible exact H|(rw [hy131]; exact H)|exact H
                    have Ny131 := Aside0.mk hy131
                    clear hy131
                    have H' := Aside0.mk H
                    clear H
                    have hnb41 := NB124_118.out
                    have hnc41 := NB118_124.out
                    have hnb42 := NB124_119.out
                    have hnc42 := NB119_124.out
                    have hcz43_0 : wr.cell? ⟨gb124, 0, none⟩ = some (u125000) := (zO BK124.out 0).trans rfl
                    have hcz43_1 : wr.cell? ⟨gb124, 1, none⟩ = some (.int .i64 0) := (zO BK124.out 1).trans rfl
                    have hfz43_0 := zP BK124.out 0
                    have hfz43_1 := zP BK124.out 1
                    obtain ⟨Ao44, co44, eo44⟩ := Kd.R_slice HO_125000.out
                    subst eo44
                    try go_wp2
                    have n0_ := Aside0.mk (zF HO_125000.out)
                    have n1_ := Aside0.mk (zC BK118.out)
                    have n2_ := Aside0.mk (zC BK119.out)
                    have n3_ := Aside0.mk (zC BK124.out)
                    have n4_ := Aside0.mk (zH HB.out)
                    clear HO_125000
                    clear BK118
                    clear BK119
                    clear BK124
                    clear HB
                    have HO_125000 := n0_
                    have BK118 := n1_
                    have BK119 := n2_
                    have BK124 := n3_
                    have HB := n4_
                    clear n0_ n1_ n2_ n3_ n4_
                    have p130 : 0 ≤ (x8_2 : Int) := of_decide_eq_true (by first|(with_reducible assumption)|assumption)
                    have q130 : x8_2 < (x125000_2.length : Int) := of_decide_eq_true (by first|(with_reducible assumption)|assumption)
                    obtain ⟨ad130, e130, hx130_0⟩ := Kd.at_int (Kd.R_reads' HO_125000.out).2.2 x8_2 p130 q130
                    cases e130
                    replace p130 := eq_true p130
                    replace q130 := eq_true q130
                    have p40 : 0 ≤ (x8_2 : Int) := of_decide_eq_true (by first|(with_reducible assumption)|assumption)
                    have q40 : (x8_2 : Int) < ((x125000_2.length : Int) : Int) := of_decide_eq_true (by first|(with_reducible assumption)|assumption)
                    obtain ⟨go40, co40, eo40, gb40, gl40, cl40, HG40⟩ := Kd.R_form HO_125000.out (by omega)
                    (first|cases eo40|(injection eo40 with ea_ en_ ec_; (first|subst ea_|(injection ea_ with ea_; subst ea_)); subst ec_; clear en_))
                    have GB40 := Aside0.mk gb40
                    have GG40 := Aside0.mk HG40
                    clear gb40 gl40 HG40
                    (first|simp only [add_plain] at hx130_0|skip)
                    obtain ⟨hx40_0, hf40_0⟩ := Kd.R_celln 0 HO_125000.out (x8_2 : Int) p40 q40
                    replace p40 := eq_true p40
                    replace q40 := eq_true q40
                    have HP46 := Kd.R_putn HO_125000.out (x8_2 : Int) (wrap64 (Int.tdiv (rd x125000_2 x8_2) 2))
                    rw [← Ny131.out] at HP46
                    have HQ46 := Aside0.mk HP46
                    clear HP46
                    refine start_ (n := 11) (S := fun w' => w'.cell? ⟨gb124, 0, none⟩ = some (.slice (some ⟨go40, 0, none⟩) x125000_2.length co44) ∧ w'.cell? ⟨gb124, 1, none⟩ = some (.int .i64 0) ∧ w'.cell? ⟨go40, (x8_2).toNat, none⟩ = some (.int .i64 (rd x125000_2 x8_2))) (ds := [10]) #[false, false, false, false, false, false, false, false, false, false, false] (by kernel_rfl) rfl rfl ⟨(zO BK124.out 0).trans rfl, (zO BK124.out 1).trans rfl, hx130_0⟩ (fun hHeld => ?_); refine with_tabW spec_CountKey.tab16 spec_CountKey.bits16 (fun HT_ HW_ => ?_)
                    generalize wr.drew = w45 at HO_125000 BK118 BK119 BK124 HB GG40 HQ46 hf40_0 hx130_0 hx40_0 hHeld ⊢
                    refine pure_ (i := 0) (N := some 53) (v := ?_) (a' := ?_) #[true, false, false, false, false, false, false, false, false, false, false] rfl rfl (any_of HT_.out (by kernel_rfl)) (fun _ _ _ h => h) (Or.inl ⟨by rfl, ?_⟩) ?_ ?_
                    rotate_left
                    · intro w'
                      go_simp
                      with_reducible rfl
                    rotate_left
                    · simp only [Act.put, List.setIfInBounds_toArray, List.set_cons_zero, List.set_cons_succ, i64_w, i32_w]
                      rfl
                    refine pure_ (i := 2) (N := some 55) (v := ?_) (a' := ?_) #[true, false, true, false, false, false, false, false, false, false, false] rfl rfl (any_of HT_.out (by kernel_rfl)) (fun _ _ _ h => h) (Or.inl ⟨by rfl, ?_⟩) ?_ ?_
                    rotate_left
                    · intro w'
                      go_simp
                      with_reducible rfl
                    rotate_left
                    · simp only [Act.put, List.setIfInBounds_toArray, List.set_cons_zero, List.set_cons_succ, i64_w, i32_w]
                      rfl
                    refine pure_ (i := 3) (N := some 56) (v := ?_) (a' := ?_) #[true, false, true, true, false, false, false, false, false, false, false] rfl rfl (any_of HT_.out (by kernel_rfl)) (fun _ _ _ h => h) (Or.inl ⟨by rfl, ?_⟩) ?_ ?_
                    rotate_left
                    · intro w'
                      go_simp
                      with_reducible rfl
                    rotate_left
                    · simp only [Act.put, List.setIfInBounds_toArray, List.set_cons_zero, List.set_cons_succ, i64_w, i32_w]
                      rfl
                    refine pure_ (i := 5) (N := some 58) (v := ?_) (a' := ?_) #[true, false, true, true, false, true, false, false, false, false, false] rfl rfl (any_of HT_.out (by kernel_rfl)) (fun _ _ _ h => h) (Or.inl ⟨by rfl, ?_⟩) ?_ ?_
                    rotate_left
                    · intro w'
                      go_simp
                      with_reducible rfl
                    rotate_left
                    · simp only [Act.put, List.setIfInBounds_toArray, List.set_cons_zero, List.set_cons_succ, i64_w, i32_w]
                      rfl
                    refine take_ (i := 1) (N := some 54) (v := ?_) (a' := ?_) #[true, true, true, true, false, true, false, false, false, false, false] rfl rfl (take_ofW HT_.out HW_.out (by kernel_rfl)) (fun _ _ _ h => h) (Or.inl ⟨by rfl, ?_⟩) hHeld ?_ ?_
                    rotate_left
                    · rintro w' ⟨s0, s1, s2⟩
                      go_simp
                      with_reducible rfl
                    rotate_left
                    · simp only [Act.put, List.setIfInBounds_toArray, List.set_cons_zero, List.set_cons_succ, i64_w, i32_w]
                      rfl
                    refine take_ (i := 4) (N := some 57) (v := ?_) (a' := ?_) #[true, true, true, true, true, true, false, false, false, false, false] rfl rfl (take_ofW HT_.out HW_.out (by kernel_rfl)) (fun _ _ _ h => h) (Or.inl ⟨by rfl, ?_⟩) hHeld ?_ ?_
                    rotate_left
                    · rintro w' ⟨s0, s1, s2⟩
                      go_simp
                      with_reducible rfl
                    rotate_left
                    · simp only [Act.put, List.setIfInBounds_toArray, List.set_cons_zero, List.set_cons_succ, i64_w, i32_w]
                      rfl
                    refine pure_ (i := 6) (N := some 59) (v := ?_) (a' := ?_) #[true, true, true, true, true, true, true, false, false, false, false] rfl rfl (any_of HT_.out (by kernel_rfl)) (fun _ _ _ h => h) (Or.inl ⟨by rfl, ?_⟩) ?_ ?_
                    rotate_left
                    · intro w'
                      go_simp
                      with_reducible rfl
                    rotate_left
                    · simp only [Act.put, List.setIfInBounds_toArray, List.set_cons_zero, List.set_cons_succ, i64_w, i32_w]
                      rfl
                    refine take_ (i := 7) (N := some 60) (v := ?_) (a' := ?_) #[true, true, true, true, true, true, true, true, false, false, false] rfl rfl (take_ofW HT_.out HW_.out (by kernel_rfl)) (fun _ _ _ h => h) (Or.inl ⟨by rfl, ?_⟩) hHeld ?_ ?_
                    rotate_left
                    · rintro w' ⟨s0, s1, s2⟩
                      go_simp
                      with_reducible rfl
                    rotate_left
                    · simp only [Act.put, List.setIfInBounds_toArray, List.set_cons_zero, List.set_cons_succ, i64_w, i32_w]
                      rfl
                    refine pure_ (i := 8) (N := some 61) (v := ?_) (a' := ?_) #[true, true, true, true, true, true, true, true, true, false, false] rfl rfl (any_of HT_.out (by kernel_rfl)) (fun _ _ _ h => h) (Or.inl ⟨by rfl, ?_⟩) ?_ ?_
                    rotate_left
                    · intro w'
                      go_simp
                      with_reducible rfl
                    rotate_left
                    · simp only [Act.put, List.setIfInBounds_toArray, List.set_cons_zero, List.set_cons_succ, i64_w, i32_w]
                      rfl
                    refine pure_ (i := 9) (N := some 62) (v := ?_) (a' := ?_) #[true, true, true, true, true, true, true, true, true, true, false] rfl rfl (any_of HT_.out (by kernel_rfl)) (fun _ _ _ h => h) (Or.inl ⟨by rfl, ?_⟩) ?_ ?_
                    rotate_left
                    · intro w'
                      go_simp
                      with_reducible rfl
                    rotate_left
                    · simp only [Act.put, List.setIfInBounds_toArray, List.set_cons_zero, List.set_cons_succ, i64_w, i32_w]
                      rfl
                    refine last_ (i := 10) (N := none) #[true, true, true, true, true, true, true, true, true, true, true] rfl rfl (one_of HT_.out (by kernel_rfl)) (by decide) (fun K hK => ?_)
                    refine skip_ (w1 := ?_) (by rfl) rfl ?_ ?_
                    rotate_left
                    · go_simp
                      rfl
                    refine hK.out _ _ ?_
                    clear hK K
                    refine done_ (done_of HT_.out (by kernel_rfl)) ?_
                    try go_wp2
                    go_roundg k2
                    case measure => have := HK1.out; have := HK2.out; omega
                    case rel => exact ⟨(wrap64 (x8_2 + 1)), (y131), (.slice (some ⟨go40, 0, none⟩) x125000_2.length co44), (by first|rfl|(simp; done)|(simp [*]; done)), H', ⟨by have := HK1.out; have := HK2.out; omega⟩, ⟨by (with_reducible repeat (first|apply zE|apply zD|apply zF)); exact HQ46.out⟩, ⟨by (with_reducible repeat (first|refine zA ?_ _|refine zC ?_|refine zB ?_ _)); refine zT ?_ (by have h_ := Kd.R_ne HO_125000.out BK118.out (by decide); intro e_; exact h_ (by rw [e_]; rfl)) _; (with_reducible repeat (first|refine zA ?_ _|refine zC ?_|refine zB ?_ _)); exact BK118.out⟩, ⟨by (with_reducible repeat (first|refine zA ?_ _|refine zC ?_|refine zB ?_ _)); refine zT ?_ (by have h_ := Kd.R_ne HO_125000.out BK119.out (by decide); intro e_; exact h_ (by rw [e_]; rfl)) _; (with_reducible repeat (first|refine zA ?_ _|refine zC ?_|refine zB ?_ _)); exact BK119.out⟩, ⟨by (with_reducible repeat (first|refine zA ?_ _|refine zC ?_|refine zB ?_ _)); refine zT ?_ (by have h_ := Kd.R_ne HO_125000.out BK124.out (by decide); intro e_; exact h_ (by rw [e_]; rfl)) _; (with_reducible repeat (first|refine zA ?_ _|refine zC ?_|refine zB ?_ _)); exact BK124.out⟩, ⟨by repeat (first|(with_reducible first|exact HB.out|apply zI|apply zG|apply zH|refine zJ ?_ GB40.out|refine zJ ?_ GE118.out|refine zJ ?_ GE119.out|refine zJ ?_ GE124.out)|exact HB.out)⟩⟩
                  · rw [if_neg c39] at H
                    exact absurd H (by simp)
                · rw [if_neg c38] at H
                  have c38b0 : decide (x8_2 < (x125000_2.length : Int)) = false := decide_eq_false c38
                  clear c38
                  simp only [Option.some.injEq, Prod.mk.injEq] at H
                  obtain ⟨rfl, rfl⟩ := H
                  have hnb47 := NB124_118.out
                  have hnc47 := NB118_124.out
                  have hnb48 := NB124_119.out
                  have hnc48 := NB119_124.out
                  have hcz49_0 : wr.cell? ⟨gb124, 0, none⟩ = some (u125000) := (zO BK124.out 0).trans rfl
                  have hcz49_1 : wr.cell? ⟨gb124, 1, none⟩ = some (.int .i64 0) := (zO BK124.out 1).trans rfl
                  have hfz49_0 := zP BK124.out 0
                  have hfz49_1 := zP BK124.out 1
                  obtain ⟨Ao50, co50, eo50⟩ := Kd.R_slice HO_125000.out
                  subst eo50
                  have hnb51 := NB119_118.out
                  have hnc51 := NB118_119.out
                  have hcz52_0 : wr.cell? ⟨gb119, 0, none⟩ = some (.slice none 0 0) := (zO BK119.out 0).trans rfl
                  have hcz52_1 : wr.cell? ⟨gb119, 1, none⟩ = some (.int .i64 0) := (zO BK119.out 1).trans rfl
                  have hfz52_0 := zP BK119.out 0
                  have hfz52_1 := zP BK119.out 1
                  go_wp2
                  refine bodyPost_ret (results_cell_row rfl _ _ gb119 46 #[.slice Ao50 x125000_2.length co50, .int .i64 0] (0, 0) _ rfl (by (with_reducible repeat (first|refine zA ?_ _|refine zC ?_|refine zB ?_ _)); refine blk_put (cs := #[.slice Ao50 x125000_2.length co50, .int .i64 0]) ?_ 1 _ rfl; (with_reducible repeat (first|refine zA ?_ _|refine zC ?_|refine zB ?_ _)); refine blk_put (cs := #[.slice none 0 0, .int .i64 0]) ?_ 0 _ rfl; (with_reducible repeat (first|refine zA ?_ _|refine zC ?_|refine zB ?_ _)); exact BK119.out) Try.underlying46 rfl (by kernel_rfl)) rfl ?_
                  exact ⟨_, by first|rfl|(simp [errW_none, errW_some] <;> rfl)|(simp [*, errW_none, errW_some] <;> rfl), by (with_reducible repeat (first|apply zE|apply zD|apply zF)); exact zR (zL (p := ⟨gb119, 1, none⟩) (zL (p := ⟨gb119, 0, none⟩) (zQ HO_125000.out BK119.out (by decide)) (fun _ hk => hk.2) (.slice Ao50 x125000_2.length co50)) (fun _ hk => hk.2) (.int .i64 0)) (fun _ hk => trivial), by repeat (first|(with_reducible first|exact HB.out|apply zI|apply zG|apply zH|refine zJ ?_ GE118.out|refine zJ ?_ GE119.out|refine zJ ?_ GE124.out)|exact HB.out)⟩
          · rw [if_neg c34] at H
            have c34b0 : ((wrap64 (t123 + 1)) == 100) = false := beq_eq_false_iff_ne.mpr c34
            have c34b1 : ((wrap64 (t123 + 1)) != 100) = true := bne_iff_ne.mpr c34
            simp only [Option.some.injEq, Prod.mk.injEq] at H
            obtain ⟨rfl, rfl⟩ := H
            have hnb53 := NB124_118.out
            have hnc53 := NB118_124.out
            have hnb54 := NB124_119.out
            have hnc54 := NB119_124.out
            have hcz55_0 : wr.cell? ⟨gb124, 0, none⟩ = some (u125000) := (zO BK124.out 0).trans rfl
            have hcz55_1 : wr.cell? ⟨gb124, 1, none⟩ = some (.int .i64 t123) := (zO BK124.out 1).trans rfl
            have hfz55_0 := zP BK124.out 0
            have hfz55_1 := zP BK124.out 1
            obtain ⟨Ao56, co56, eo56⟩ := Kd.R_slice HO_125000.out
            subst eo56
            have hnb57 := NB119_118.out
            have hnc57 := NB118_119.out
            have hcz58_0 : wr.cell? ⟨gb119, 0, none⟩ = some (.slice none 0 0) := (zO BK119.out 0).trans rfl
            have hcz58_1 : wr.cell? ⟨gb119, 1, none⟩ = some (.int .i64 0) := (zO BK119.out 1).trans rfl
            have hfz58_0 := zP BK119.out 0
            have hfz58_1 := zP BK119.out 1
            go_wp2
            refine bodyPost_ret (results_cell_row rfl _ _ gb119 46 #[.slice Ao56 x125000_1.length co56, .int .i64 (wrap64 (t123 + 1))] (0, 0) _ rfl (by (with_reducible repeat (first|refine zA ?_ _|refine zC ?_|refine zB ?_ _)); refine blk_put (cs := #[.slice Ao56 x125000_1.length co56, .int .i64 0]) ?_ 1 _ rfl; (with_reducible repeat (first|refine zA ?_ _|refine zC ?_|refine zB ?_ _)); refine blk_put (cs := #[.slice none 0 0, .int .i64 0]) ?_ 0 _ rfl; (with_reducible repeat (first|refine zA ?_ _|refine zC ?_|refine zB ?_ _)); refine zT ?_ NB119_124.out _; (with_reducible repeat (first|refine zA ?_ _|refine zC ?_|refine zB ?_ _)); exact BK119.out) Try.underlying46 rfl (by kernel_rfl)) rfl ?_
            exact ⟨_, by first|rfl|(simp [errW_none, errW_some] <;> rfl)|(simp [*, errW_none, errW_some] <;> rfl), by (with_reducible repeat (first|apply zE|apply zD|apply zF)); exact zR (zL (p := ⟨gb119, 1, none⟩) (zL (p := ⟨gb119, 0, none⟩) (zL (p := ⟨gb124, 1, none⟩) (zQ (zQ HO_125000.out BK124.out (by decide)) BK119.out (by decide)) (fun _ hk => hk.1.2) (.int .i64 (wrap64 (t123 + 1)))) (fun _ hk => hk.2) (.slice Ao56 x125000_1.length co56)) (fun _ hk => hk.2) (.int .i64 (wrap64 (t123 + 1)))) (fun _ hk => trivial), by repeat (first|(with_reducible first|exact HB.out|apply zI|apply zG|apply zH|refine zJ ?_ GE118.out|refine zJ ?_ GE119.out|refine zJ ?_ GE124.out)|exact HB.out)⟩
  · replace c5 := Bool.eq_false_iff.mpr c5
    subst c5
    have H1 : (some (t120, t123)) = some (r1, r2) := by rw [if_neg (show ¬ (false = true) by decide)] at H; exact H
    clear H
    have H := H1
    clear H1
    simp only [Option.some.injEq, Prod.mk.injEq] at H
    obtain ⟨rfl, rfl⟩ := H
    go_enter Try.func30, Try.ntmps30
    go_wp2_with (first|((with_reducible refine gate_dst (N := 2) rfl ?_); refine box_event ?hg (N := 2) ?hd (cs := #[.slice A0_0 l0_0.length c0_0, .int .i64 a0_1]) (t := 46) ?hr ?_; (case hd => rfl); (case hg => rfl); (case hr => first|(go_simp; done)|(go_simp; rfl)); intro gb118 hg w59 hbox hb; have n0_ := Aside0.mk (zN (by repeat (first|(with_reducible first|exact HB.out|apply zI|apply zG|apply zH)|exact HB.out)) hb); have n1_ := Aside0.mk (hbox); have n2_ := Aside0.mk ((by rw [hg]; exact (below_size (by repeat (first|(with_reducible first|exact HB.out|apply zI|apply zG|apply zH)|exact HB.out))) : w.heap.size ≤ gb118)); have n3_ := Aside0.mk ((by rw [hg]; exact (below_size (by repeat (first|(with_reducible first|exact HB.out|apply zI|apply zG|apply zH)|exact HB.out))) : w.heap.size ≤ gb118)); clear HB; have HB := n0_; have BK118 := n1_; have GW118 := n2_; have GE118 := n3_; clear n0_ n1_ n2_ n3_; clear hb hbox hg)|((with_reducible refine gate_dst (N := 4) rfl ?_); refine box_event ?hg (N := 4) ?hd (cs := #[.slice none 0 0, .int .i64 0]) (t := 46) ?hr ?_; (case hd => rfl); (case hg => rfl); (case hr => first|(go_simp; done)|(go_simp; rfl)); intro gb119 hg w60 hbox hb; have n0_ := Aside0.mk (zK (g := gb118) (o := .cells #[.slice A0_0 l0_0.length c0_0, .int .i64 a0_1] 46 (0, 0)) (by (with_reducible repeat (first|refine zA ?_ _|refine zC ?_|refine zB ?_ _)); exact BK118.out) hb); have n1_ := Aside0.mk (zN (by repeat (first|(with_reducible first|exact HB.out|apply zI|apply zG|apply zH|refine zJ ?_ GE118.out)|exact HB.out)) hb); have n2_ := Aside0.mk (hbox); have n3_ := Aside0.mk ((by rw [hg]; exact (below_size (by repeat (first|(with_reducible first|exact HB.out|apply zI|apply zG|apply zH|refine zJ ?_ GE118.out)|exact HB.out))) : w.heap.size ≤ gb119)); have n4_ := Aside0.mk ((by rw [hg]; exact (below_size (by repeat (first|(with_reducible first|exact HB.out|apply zI|apply zG|apply zH|refine zJ ?_ GE118.out)|exact HB.out))) : w.heap.size ≤ gb119)); have n5_ := Aside0.mk ((by rw [hg]; exact Nat.ne_of_lt (blk_lt (g := gb118) (o := .cells #[.slice A0_0 l0_0.length c0_0, .int .i64 a0_1] 46 (0, 0)) (by (with_reducible repeat (first|refine zA ?_ _|refine zC ?_|refine zB ?_ _)); exact BK118.out)) : gb118 ≠ gb119)); have n6_ := Aside0.mk ((by rw [hg]; exact Nat.ne_of_gt (blk_lt (g := gb118) (o := .cells #[.slice A0_0 l0_0.length c0_0, .int .i64 a0_1] 46 (0, 0)) (by (with_reducible repeat (first|refine zA ?_ _|refine zC ?_|refine zB ?_ _)); exact BK118.out)) : gb119 ≠ gb118)); clear BK118; clear HB; have BK118 := n0_; have HB := n1_; have BK119 := n2_; have GW119 := n3_; have GE119 := n4_; have NB118_119 := n5_; have NB119_118 := n6_; clear n0_ n1_ n2_ n3_ n4_ n5_ n6_; clear hb hbox hg; have hnb61 := NB118_119.out; have hnc61 := NB119_118.out; have hcz62_0 : w60.cell? ⟨gb118, 0, none⟩ = some (.slice A0_0 l0_0.length c0_0) := (zO BK118.out 0).trans rfl; have hcz62_1 : w60.cell? ⟨gb118, 1, none⟩ = some (.int .i64 a0_1) := (zO BK118.out 1).trans rfl; have hfz62_0 := zP BK118.out 0; have hfz62_1 := zP BK118.out 1)|((with_reducible refine gate_callee (f := 78) rfl ?_); refine goesL_ (some 10) rfl rfl Try.func78 (by kernel_rfl) rfl #[.agg #[.slice A0_0 l0_0.length c0_0, .int .i64 a0_1]] rfl (by (try simp only [List.map_toArray, List.map_cons, List.map_nil]); first|done|rfl|(simp only [List.length_drop, List.length_take]; rfl)) ?_; (with_reducible refine (spec_l05Copy.calls _ _ l0_0 a0_1 t120 t123 _ ?side1 ?side2 A3.out).mono ?_); (case side1 => repeat (first|exact (Kd.C_below HR0_0.out HB.out)|(with_reducible refine Kd.C_alloc ?_ _)|(with_reducible refine Kd.C_drewN ?_ _)|(with_reducible refine Kd.C_drew ?_))); (case side2 => exact HC0_0.out); rintro e w63 ⟨v121, rfl, ho0, hb⟩; refine ⟨_, rfl, ?_⟩; have n0_ := Aside0.mk (Kd.R_lower ho0 (below_size (by repeat (first|(with_reducible first|exact HB.out|apply zI|apply zG|apply zH|refine zJ ?_ GE118.out|refine zJ ?_ GE119.out)|exact HB.out)))); have n1_ := Aside0.mk (zK (g := gb118) (o := .cells #[.slice A0_0 l0_0.length c0_0, .int .i64 a0_1] 46 (0, 0)) (by (with_reducible repeat (first|refine zA ?_ _|refine zC ?_|refine zB ?_ _)); exact BK118.out) hb); have n2_ := Aside0.mk (zK (g := gb119) (o := .cells #[.slice none 0 0, .int .i64 0] 46 (0, 0)) (by (with_reducible repeat (first|refine zA ?_ _|refine zC ?_|refine zB ?_ _)); exact BK119.out) hb); have n3_ := Aside0.mk (zN (by repeat (first|(with_reducible first|exact HB.out|apply zI|apply zG|apply zH|refine zJ ?_ GE118.out|refine zJ ?_ GE119.out)|exact HB.out)) hb); clear BK118; clear BK119; clear HB; have HO122 := n0_; have BK118 := n1_; have BK119 := n2_; have HB := n3_; clear n0_ n1_ n2_ n3_; (try clear hb); (try clear hb2); (try clear hk); (try clear hi); (try clear ho0))|((with_reducible refine gate_dst (N := 5) rfl ?_); refine box_event ?hg (N := 5) ?hd (cs := #[.slice none 0 0, .int .i64 0]) (t := 46) ?hr ?_; (case hd => rfl); (case hg => rfl); (case hr => first|(go_simp; done)|(go_simp; rfl)); intro gb124 hg w64 hbox hb; have n0_ := Aside0.mk (zM (by (with_reducible repeat (first|apply zE|apply zD|apply zF)); exact HO122.out) hb); have n1_ := Aside0.mk (zK (g := gb118) (o := .cells #[.slice A0_0 l0_0.length c0_0, .int .i64 a0_1] 46 (0, 0)) (by (with_reducible repeat (first|refine zA ?_ _|refine zC ?_|refine zB ?_ _)); exact BK118.out) hb); have n2_ := Aside0.mk (zK (g := gb119) (o := .cells #[.slice none 0 0, .int .i64 0] 46 (0, 0)) (by (with_reducible repeat (first|refine zA ?_ _|refine zC ?_|refine zB ?_ _)); exact BK119.out) hb); have n3_ := Aside0.mk (zN (by repeat (first|(with_reducible first|exact HB.out|apply zI|apply zG|apply zH|refine zJ ?_ GE118.out|refine zJ ?_ GE119.out)|exact HB.out)) hb); have n4_ := Aside0.mk (hbox); have n5_ := Aside0.mk ((by rw [hg]; exact (below_size (by repeat (first|(with_reducible first|exact HB.out|apply zI|apply zG|apply zH|refine zJ ?_ GE118.out|refine zJ ?_ GE119.out)|exact HB.out))) : w.heap.size ≤ gb124)); have n6_ := Aside0.mk ((by rw [hg]; exact (below_size (by repeat (first|(with_reducible first|exact HB.out|apply zI|apply zG|apply zH|refine zJ ?_ GE118.out|refine zJ ?_ GE119.out)|exact HB.out))) : w.heap.size ≤ gb124)); have n7_ := Aside0.mk ((by rw [hg]; exact Nat.ne_of_lt (blk_lt (g := gb118) (o := .cells #[.slice A0_0 l0_0.length c0_0, .int .i64 a0_1] 46 (0, 0)) (by (with_reducible repeat (first|refine zA ?_ _|refine zC ?_|refine zB ?_ _)); exact BK118.out)) : gb118 ≠ gb124)); have n8_ := Aside0.mk ((by rw [hg]; exact Nat.ne_of_gt (blk_lt (g := gb118) (o := .cells #[.slice A0_0 l0_0.length c0_0, .int .i64 a0_1] 46 (0, 0)) (by (with_reducible repeat (first|refine zA ?_ _|refine zC ?_|refine zB ?_ _)); exact BK118.out)) : gb124 ≠ gb118)); have n9_ := Aside0.mk ((by rw [hg]; exact Nat.ne_of_lt (blk_lt (g := gb119) (o := .cells #[.slice none 0 0, .int .i64 0] 46 (0, 0)) (by (with_reducible repeat (first|refine zA ?_ _|refine zC ?_|refine zB ?_ _)); exact BK119.out)) : gb119 ≠ gb124)); have n10_ := Aside0.mk ((by rw [hg]; exact Nat.ne_of_gt (blk_lt (g := gb119) (o := .cells #[.slice none 0 0, .int .i64 0] 46 (0, 0)) (by (with_reducible repeat (first|refine zA ?_ _|refine zC ?_|refine zB ?_ _)); exact BK119.out)) : gb124 ≠ gb119)); clear HO122; clear BK118; clear BK119; clear HB; have HO122 := n0_; have BK118 := n1_; have BK119 := n2_; have HB := n3_; have BK124 := n4_; have GW124 := n5_; have GE124 := n6_; have NB118_124 := n7_; have NB124_118 := n8_; have NB119_124 := n9_; have NB124_119 := n10_; clear n0_ n1_ n2_ n3_ n4_ n5_ n6_ n7_ n8_ n9_ n10_; clear hb hbox hg; obtain ⟨Ao65, co65, eo65⟩ := Kd.R_slice HO122.out; subst eo65; have hnb66 := NB124_118.out; have hnc66 := NB118_124.out; have hnb67 := NB124_119.out; have hnc67 := NB119_124.out; have hcz68_0 : w64.cell? ⟨gb124, 0, none⟩ = some (.slice none 0 0) := (zO BK124.out 0).trans rfl; have hcz68_1 : w64.cell? ⟨gb124, 1, none⟩ = some (.int .i64 0) := (zO BK124.out 1).trans rfl; have hfz68_0 := zP BK124.out 0; have hfz68_1 := zP BK124.out 1; have hcz69_0 : w64.cell? ⟨gb118, 0, none⟩ = some (.slice A0_0 l0_0.length c0_0) := (zO BK118.out 0).trans rfl; have hcz69_1 : w64.cell? ⟨gb118, 1, none⟩ = some (.int .i64 a0_1) := (zO BK118.out 1).trans rfl; have hfz69_0 := zP BK118.out 0; have hfz69_1 := zP BK118.out 1)|((with_reducible refine gate_callee (f := 79) rfl ?_); refine goesL_ (some 12) rfl rfl Try.func79 (by kernel_rfl) rfl #[.agg #[.slice A0_0 l0_0.length c0_0, .int .i64 a0_1]] rfl (by (try simp only [List.map_toArray, List.map_cons, List.map_nil]); first|done|rfl|(simp only [List.length_drop, List.length_take]; rfl)) ?_; (with_reducible refine (spec_SketchOk.calls k _ _ l0_0 a0_1 false _ ?side1 ?side2 A4.out).mono ?_); (case side1 => exact Kd.C_below HR0_0.out (by repeat (first|(with_reducible first|exact HB.out|apply zI|apply zG|apply zH|refine zJ ?_ GE118.out|refine zJ ?_ GE119.out|refine zJ ?_ GE124.out)|exact HB.out))); (case side2 => exact HC0_0.out); rintro e w70 ⟨rfl, hb⟩; refine ⟨_, rfl, ?_⟩; have n0_ := Aside0.mk (zM (by (with_reducible repeat (first|apply zE|apply zD|apply zF)); exact (zR (zL (p := ⟨gb124, 1, none⟩) (zL (p := ⟨gb124, 0, none⟩) (zQ HO122.out BK124.out (by decide)) (fun _ hk => hk.2) (.slice Ao65 t120.length co65)) (fun _ hk => hk.2) (.int .i64 t123)) (fun _ h_ => h_.1))) hb); have n1_ := Aside0.mk (zK (g := gb118) (o := .cells #[.slice A0_0 l0_0.length c0_0, .int .i64 a0_1] 46 (0, 0)) (by (with_reducible repeat (first|refine zA ?_ _|refine zC ?_|refine zB ?_ _)); refine zT ?_ NB118_124.out _; (with_reducible repeat (first|refine zA ?_ _|refine zC ?_|refine zB ?_ _)); refine zT ?_ NB118_124.out _; (with_reducible repeat (first|refine zA ?_ _|refine zC ?_|refine zB ?_ _)); exact BK118.out) hb); have n2_ := Aside0.mk (zK (g := gb119) (o := .cells #[.slice none 0 0, .int .i64 0] 46 (0, 0)) (by (with_reducible repeat (first|refine zA ?_ _|refine zC ?_|refine zB ?_ _)); refine zT ?_ NB119_124.out _; (with_reducible repeat (first|refine zA ?_ _|refine zC ?_|refine zB ?_ _)); refine zT ?_ NB119_124.out _; (with_reducible repeat (first|refine zA ?_ _|refine zC ?_|refine zB ?_ _)); exact BK119.out) hb); have n3_ := Aside0.mk (zK (g := gb124) (o := .cells #[.slice Ao65 t120.length co65, .int .i64 t123] 46 (0, 0)) (by (with_reducible repeat (first|refine zA ?_ _|refine zC ?_|refine zB ?_ _)); refine blk_put (cs := #[.slice Ao65 t120.length co65, .int .i64 0]) ?_ 1 _ rfl; (with_reducible repeat (first|refine zA ?_ _|refine zC ?_|refine zB ?_ _)); refine blk_put (cs := #[.slice none 0 0, .int .i64 0]) ?_ 0 _ rfl; (with_reducible repeat (first|refine zA ?_ _|refine zC ?_|refine zB ?_ _)); exact BK124.out) hb); have n4_ := Aside0.mk (zN (by repeat (first|(with_reducible first|exact HB.out|apply zI|apply zG|apply zH|refine zJ ?_ GE118.out|refine zJ ?_ GE119.out|refine zJ ?_ GE124.out)|exact HB.out)) hb); clear HO122; clear BK118; clear BK119; clear BK124; clear HB; have HO122 := n0_; have BK118 := n1_; have BK119 := n2_; have BK124 := n3_; have HB := n4_; clear n0_ n1_ n2_ n3_ n4_; (try clear hb); (try clear hb2); (try clear hk); (try clear hi); have hcz71_0 : w70.cell? ⟨gb124, 0, none⟩ = some (.slice Ao65 t120.length co65) := (zO BK124.out 0).trans rfl; have hcz71_1 : w70.cell? ⟨gb124, 1, none⟩ = some (.int .i64 t123) := (zO BK124.out 1).trans rfl; have hfz71_0 := zP BK124.out 0; have hfz71_1 := zP BK124.out 1; have hcz72_0 : w70.cell? ⟨gb119, 0, none⟩ = some (.slice none 0 0) := (zO BK119.out 0).trans rfl; have hcz72_1 : w70.cell? ⟨gb119, 1, none⟩ = some (.int .i64 0) := (zO BK119.out 1).trans rfl; have hfz72_0 := zP BK119.out 0; have hfz72_1 := zP BK119.out 1))
    refine bodyPost_ret (results_cell_row rfl _ _ gb119 46 #[.slice Ao65 t120.length co65, .int .i64 t123] (0, 0) _ rfl (by (with_reducible repeat (first|refine zA ?_ _|refine zC ?_|refine zB ?_ _)); refine blk_put (cs := #[.slice Ao65 t120.length co65, .int .i64 0]) ?_ 1 _ rfl; (with_reducible repeat (first|refine zA ?_ _|refine zC ?_|refine zB ?_ _)); refine blk_put (cs := #[.slice none 0 0, .int .i64 0]) ?_ 0 _ rfl; (with_reducible repeat (first|refine zA ?_ _|refine zC ?_|refine zB ?_ _)); exact BK119.out) Try.underlying46 rfl (by kernel_rfl)) rfl ?_
    exact ⟨_, by first|rfl|(simp [errW_none, errW_some] <;> rfl)|(simp [*, errW_none, errW_some] <;> rfl), by (with_reducible repeat (first|apply zE|apply zD|apply zF)); exact zR (zL (p := ⟨gb119, 1, none⟩) (zL (p := ⟨gb119, 0, none⟩) (zQ HO122.out BK119.out (by decide)) (fun _ hk => hk.2) (.slice Ao65 t120.length co65)) (fun _ hk => hk.2) (.int .i64 t123)) (fun _ hk => trivial), by repeat (first|(with_reducible first|exact HB.out|apply zI|apply zG|apply zH|refine zJ ?_ GE118.out|refine zJ ?_ GE119.out|refine zJ ?_ GE124.out)|exact HB.out)⟩

/-! ### laws_toIntS: function 81 -/
def laws_toIntS.l0 : Nat → List Int → List Int → Int → Option (List Int)
 |0, _, _, _ => none
 |k + 1, x0, x3, x4 => if x4 < (x0.length : Int) then (if 0 ≤ x4 then (if x4 < (x3.length : Int) then (laws_toIntS.l0 k x0 (x3.set (x4 : Int).toNat (rd x0 x4)) (wrap64 (x4 + 1))) else (none)) else (none)) else (some x3)
def laws_toIntS.f (k : Nat) (l0 : List Int) : Option (List Int) := if 0 ≤ (l0.length : Int) then (if ((l0.length : Int) : Int).toNat ≤ 35184372088832 then (laws_toIntS.l0 k l0 (List.replicate ((l0.length : Int) : Int).toNat 0) 0) else (none)) else (none)
theorem laws_toIntS.mono_l : ∀ k, (∀ y0 y1 y2, LeO (laws_toIntS.l0 k y0 y1 y2) (laws_toIntS.l0 (k + 1) y0 y1 y2))
 |0 => fun _ _ _ r h => by simp [laws_toIntS.l0] at h
 |k + 1 => by
    have ih0 := laws_toIntS.mono_l k
    · intro y0 y1 y2
      unfold laws_toIntS.l0
      repeat' first
     |(with_reducible exact ih0 _ _ _)
     |(with_reducible exact LeO.refl _)
     |(with_reducible exact LeO.none _)
     |(with_reducible refine LeO.ite ?_ ?_)
     |(with_reducible refine LeO.bind ?_ (fun _ => ?_))
     |exact ih0 _ _ _
     |exact LeO.none _
     |refine LeO.ite ?_ ?_
     |refine LeO.bind ?_ (fun _ => ?_)
theorem laws_toIntS.mono : ∀ a0 k, LeO (laws_toIntS.f k a0) (laws_toIntS.f (k + 1) a0) := by
  intro a0 k
  have ih0 := laws_toIntS.mono_l k
  unfold laws_toIntS.f
  repeat' first
     |(with_reducible exact ih0 _ _ _)
     |(with_reducible exact LeO.refl _)
     |(with_reducible exact LeO.none _)
     |(with_reducible refine LeO.ite ?_ ?_)
     |(with_reducible refine LeO.bind ?_ (fun _ => ?_))
     |exact ih0 _ _ _
     |exact LeO.none _
     |refine LeO.ite ?_ ?_
     |refine LeO.bind ?_ (fun _ => ?_)
set_option maxHeartbeats 8000000 in
set_option maxRecDepth 100000 in
theorem laws_toIntS.calls (k : Nat) (A0 : Option Addr) (c0 : Nat) (l0 : List Int) (r : List Int) (w : World) (hr0 : Kd.C (Kd.int .i64) w A0 l0.length l0) (hc0 : l0.length ≤ c0) (h : laws_toIntS.f k l0 = some r) :
    Calls Try.prog 81 #[.slice A0 l0.length c0] w fun e w' => ∃ v0_ : Value, e = .returned (v0_) ∧ Kd.R (Kd.int .i64) 3 w' w.heap.size (fun _ => True) v0_ r ∧ Below w.heap.size w w' := by
  have HR0 := Aside0.mk hr0
  have HC0 := Aside0.mk hc0
  clear hr0 hc0
  have HB := Aside0.mk (Below.refl w.heap.size w)
  have H : (if 0 ≤ (l0.length : Int) then (if ((l0.length : Int) : Int).toNat ≤ 35184372088832 then (laws_toIntS.l0 k l0 (List.replicate ((l0.length : Int) : Int).toNat 0) 0) else (none)) else (none)) = some r := h
  clear h
  by_cases c2 : 0 ≤ (l0.length : Int)
  · rw [if_pos c2] at H
    have c2b0 := eq_true c2
    have c2b1 : decide (0 ≤ (l0.length : Int)) = true := decide_eq_true c2
    clear c2
    by_cases c3 : ((l0.length : Int) : Int).toNat ≤ 35184372088832
    · rw [if_pos c3] at H
      have c3b0 := eq_true c3
      have c3b1 : decide (((l0.length : Int) : Int).toNat ≤ 35184372088832) = true := decide_eq_true c3
      clear c3
      obtain ⟨y132, hy132⟩ : ∃ y_ : List Int, y_ = (List.replicate ((l0.length : Int) : Int).toNat 0) := ⟨_, rfl⟩
      replace H : (laws_toIntS.l0 k l0 y132 0) = some r := by first|(rw [hy132]; with_reducible exact H)|(have H2_ := (Option.bind_some _ _).symm.trans H; rw [hy132]; with_reducible exact H2_)|(have H2_ := (Option.bind_some _ _).symm.trans H; with_reducible exact H2_)|with_reducible exact H|(rw [hy132]; exact H)|exact H
      have Ny132 := Aside0.mk hy132
      clear hy132
      have H' := Aside0.mk H
      clear H
      go_enter Try.func81, Try.ntmps81
      go_wp2_with (first|((with_reducible refine gate_dst (N := 7) rfl ?_); refine Kd.R_make (Kd.int .i64) _ 3 rfl (N := 7) rfl 42 _ _ rfl (l0.length : Int) rfl rfl Try.underlying42 (.int .i64 0) 8 info3 rfl (by decide) (by omega) 0 (ok := fun _ => True) (okp := fun _ => True) rfl (fun _ hk => hk) trivial (of_decide_eq_true (by first|(with_reducible assumption)|assumption)) (Nat.le_trans (Nat.mul_le_mul_right _ (of_decide_eq_true (by first|(with_reducible assumption)|assumption) : (l0.length : Int).toNat ≤ 35184372088832)) (by omega)) (Below.refl _ _) (Nat.le_refl _) ?_; intro v133 w4 ho5 hb hg_ hnew_; clear hg_ hnew_; (first|rw [← Ny132.out] at ho5|(simp only [Int.reduceToNat] at ho5; rw [← Ny132.out] at ho5)); have n0_ := Aside0.mk (Kd.R_lower ho5 (below_size (by repeat (first|(with_reducible first|exact HB.out|apply zI|apply zG|apply zH)|exact HB.out)))); have n1_ := Aside0.mk (zN (by repeat (first|(with_reducible first|exact HB.out|apply zI|apply zG|apply zH)|exact HB.out)) hb); clear HB; have HO134 := n0_; have HB := n1_; clear n0_ n1_; clear hb ho5))
      go_loopg [4] k (fun kq v4 w' => ∃ (x3_1 : List Int) (x4_1 : Int), v4 = .int .i64 x4_1 ∧ Aside0 (laws_toIntS.l0 kq l0 x3_1 x4_1 = some r) ∧ Aside0 (kq ≤ k) ∧ Aside0 (Kd.R (Kd.int .i64) 3 w' w.heap.size (fun _ => True) v133 x3_1) ∧ Aside0 (Below w.heap.size w w'))
      case atStart => exact ⟨(y132), (0), (by first|rfl|(simp; done)|(simp [*]; done)), H', ⟨Nat.le_refl _⟩, ⟨by (with_reducible repeat (first|apply zE|apply zD|apply zF)); exact HO134.out⟩, ⟨by repeat (first|(with_reducible first|exact HB.out|apply zI|apply zG|apply zH)|exact HB.out)⟩⟩
      case round =>
        clear H'
        try clear c2
        try clear c2b0
        try clear c2b1
        try clear p2
        try clear c3
        try clear c3b0
        try clear c3b1
        obtain ⟨x3_1, x4_1, rfl, HA, HK1, HO_3, HB⟩ := hrel
        cases gk with
       |zero => exact absurd HA.out (by simp [laws_toIntS.l0])
       |succ k1 =>
          have H := HA.out
          clear HA
          simp only [laws_toIntS.l0] at H
          by_cases c6 : x4_1 < (l0.length : Int)
          · rw [if_pos c6] at H
            have c6b0 : decide (x4_1 < (l0.length : Int)) = true := decide_eq_true c6
            clear c6
            by_cases c7 : 0 ≤ x4_1
            · rw [if_pos c7] at H
              have c7b0 : decide (0 ≤ x4_1) = true := decide_eq_true c7
              clear c7
              by_cases c8 : x4_1 < (x3_1.length : Int)
              · rw [if_pos c8] at H
                have c8b0 : decide (x4_1 < (x3_1.length : Int)) = true := decide_eq_true c8
                clear c8
                obtain ⟨y136, hy136⟩ : ∃ y_ : List Int, y_ = (x3_1.set (x4_1 : Int).toNat (rd l0 x4_1)) := ⟨_, rfl⟩
                replace H : (laws_toIntS.l0 k1 l0 y136 (wrap64 (x4_1 + 1))) = some r := by first|(rw [hy136]; with_reducible exact H)|(have H2_ := (Option.bind_some _ _).symm.trans H; rw [hy136]; with_reducible exact H2_)|(have H2_ := (Option.bind_some _ _).symm.trans H; with_reducible exact H2_)|with_reducible exact H|(rw [hy136]; exact H)|exact H
                have Ny136 := Aside0.mk hy136
                clear hy136
                have H' := Aside0.mk H
                clear H
                have p135 : 0 ≤ (x4_1 : Int) := of_decide_eq_true (by first|(with_reducible assumption)|assumption)
                have q135 : x4_1 < (l0.length : Int) := of_decide_eq_true (by first|(with_reducible assumption)|assumption)
                obtain ⟨ad135, e135, hx135_0⟩ := Kd.at_int HR0.out x4_1 p135 q135
                cases e135
                replace hx135_0 := (HB.out.cell (World.block_lt_of_cell? w _ hx135_0)).trans hx135_0
                replace p135 := eq_true p135
                replace q135 := eq_true q135
                have p9 : 0 ≤ (x4_1 : Int) := of_decide_eq_true (by first|(with_reducible assumption)|assumption)
                have q9 : (x4_1 : Int) < ((x3_1.length : Int) : Int) := of_decide_eq_true (by first|(with_reducible assumption)|assumption)
                obtain ⟨go9, co9, eo9, gb9, gl9, cl9, HG9⟩ := Kd.R_form HO_3.out (by omega)
                (first|cases eo9|(injection eo9 with ea_ en_ ec_; (first|subst ea_|(injection ea_ with ea_; subst ea_)); subst ec_; clear en_))
                have GB9 := Aside0.mk gb9
                have GG9 := Aside0.mk HG9
                clear gb9 gl9 HG9
                obtain ⟨hx9_0, hf9_0⟩ := Kd.R_celln 0 HO_3.out (x4_1 : Int) p9 q9
                replace p9 := eq_true p9
                replace q9 := eq_true q9
                have HP10 := Kd.R_putg HO_3.out (x4_1 : Int) (rd l0 x4_1)
                go_wp2_with (first|((with_reducible refine gate_store (t := 3) (p := 20) rfl ?_); refine store_event (t := 3) (p := 20) (v := ?vo_w11) (w1 := (wr.setCell ⟨go9, (x4_1 : Int).toNat, none⟩ (.int .i64 (rd l0 x4_1)))) ?hg ?ho ?hn ?hr ?_; (case ho => rfl); (case hg => rfl); (case hn => rfl); (case hr => first|(go_simp; done)|(go_simp; rfl)); intro w11 hw; have hg : wr.grownBy w11 (some go9) := (by rw [hw]; exact HP10.2); have hp_ : Kd.R (Kd.int .i64) 3 w11 w.heap.size (fun _ => True) (.slice (some ⟨go9, 0, none⟩) x3_1.length co9) y136 := (by rw [hw, Ny136.out]; exact HP10.1); clear HP10; have n0_ := Aside0.mk (hp_); have n1_ := Aside0.mk ((by rw [hw]; exact zJ (HB.out) GB9.out : Below w.heap.size w w11)); clear HO_3; clear HB; have HO_3 := n0_; have HB := n1_; clear n0_ n1_; clear hg hw hp_))
                go_roundg k1
                case measure => have := HK1.out; omega
                case rel => exact ⟨(y136), (wrap64 (x4_1 + 1)), (by first|rfl|(simp; done)|(simp [*]; done)), H', ⟨by have := HK1.out; omega⟩, ⟨by (with_reducible repeat (first|apply zE|apply zD|apply zF)); exact HO_3.out⟩, ⟨by repeat (first|(with_reducible first|exact HB.out|apply zI|apply zG|apply zH)|exact HB.out)⟩⟩
              · rw [if_neg c8] at H
                exact absurd H (by simp)
            · rw [if_neg c7] at H
              exact absurd H (by simp)
          · rw [if_neg c6] at H
            have c6b0 : decide (x4_1 < (l0.length : Int)) = false := decide_eq_false c6
            clear c6
            obtain rfl := Option.some.inj H
            go_wp2
            go_ret
            exact ⟨_, by first|rfl|(simp [errW_none, errW_some] <;> rfl)|(simp [*, errW_none, errW_some] <;> rfl), by (with_reducible repeat (first|apply zE|apply zD|apply zF)); exact HO_3.out, by repeat (first|(with_reducible first|exact HB.out|apply zI|apply zG|apply zH)|exact HB.out)⟩
    · rw [if_neg c3] at H
      exact absurd H (by simp)
  · rw [if_neg c2] at H
    exact absurd H (by simp)

/-! ### laws_toSketch: function 31 -/
def laws_toSketch.f (k : Nat) (l0_0 : List Int) (a0_1 : Int) : Option (List Int × Int) := (laws_toIntS.f k l0_0).bind fun t140 => (some (t140, a0_1))
theorem laws_toSketch.mono : ∀ a0 a1 k, LeO (laws_toSketch.f k a0 a1) (laws_toSketch.f (k + 1) a0 a1) := by
  intro a0 a1 k
  unfold laws_toSketch.f
  repeat' first
     |(with_reducible exact laws_toIntS.mono _ _)
     |(with_reducible exact LeO.refl _)
     |(with_reducible exact LeO.none _)
     |(with_reducible refine LeO.ite ?_ ?_)
     |(with_reducible refine LeO.bind ?_ (fun _ => ?_))
     |exact laws_toIntS.mono _ _
     |exact LeO.none _
     |refine LeO.ite ?_ ?_
     |refine LeO.bind ?_ (fun _ => ?_)
set_option maxHeartbeats 8000000 in
set_option maxRecDepth 100000 in
theorem laws_toSketch.calls (k : Nat) (A0_0 : Option Addr) (c0_0 : Nat) (l0_0 : List Int) (a0_1 : Int) (r1 : List Int) (r2 : Int) (w : World) (hr0_0 : Kd.C (Kd.int .i64) w A0_0 l0_0.length l0_0) (hc0_0 : l0_0.length ≤ c0_0) (h : laws_toSketch.f k l0_0 a0_1 = some (r1, r2)) :
    Calls Try.prog 31 #[.agg #[.slice A0_0 l0_0.length c0_0, .int .i64 a0_1]] w fun e w' => ∃ v0_ : Value, e = .returned (.agg #[v0_, .int .i64 r2]) ∧ Kd.R (Kd.int .i64) 3 w' w.heap.size (fun _ => True) v0_ r1 ∧ Below w.heap.size w w' := by
  have hu44 := Try.underlying44
  have hu46 := Try.underlying46
  have HR0_0 := Aside0.mk hr0_0
  have HC0_0 := Aside0.mk hc0_0
  clear hr0_0 hc0_0
  have HB := Aside0.mk (Below.refl w.heap.size w)
  have H : ((laws_toIntS.f k l0_0).bind fun t140 => (some (t140, a0_1))) = some (r1, r2) := h
  clear h
  replace H := Option.bind_eq_some_iff.mp H
  obtain ⟨t140, A20, H⟩ := H
  replace H : (some (t140, a0_1)) = some (r1, r2) := H
  have A2 := Aside0.mk A20
  clear A20
  simp only [Option.some.injEq, Prod.mk.injEq] at H
  obtain ⟨rfl, rfl⟩ := H
  go_enter Try.func31, Try.ntmps31
  go_wp2_with (first|((with_reducible refine gate_dst (N := 1) rfl ?_); refine box_event ?hg (N := 1) ?hd (cs := #[.slice A0_0 l0_0.length c0_0, .int .i64 a0_1]) (t := 44) ?hr ?_; (case hd => rfl); (case hg => rfl); (case hr => first|(go_simp; done)|(go_simp; rfl)); intro gb137 hg w3 hbox hb; have n0_ := Aside0.mk (zN (by repeat (first|(with_reducible first|exact HB.out|apply zI|apply zG|apply zH)|exact HB.out)) hb); have n1_ := Aside0.mk (hbox); have n2_ := Aside0.mk ((by rw [hg]; exact (below_size (by repeat (first|(with_reducible first|exact HB.out|apply zI|apply zG|apply zH)|exact HB.out))) : w.heap.size ≤ gb137)); have n3_ := Aside0.mk ((by rw [hg]; exact (below_size (by repeat (first|(with_reducible first|exact HB.out|apply zI|apply zG|apply zH)|exact HB.out))) : w.heap.size ≤ gb137)); clear HB; have HB := n0_; have BK137 := n1_; have GW137 := n2_; have GE137 := n3_; clear n0_ n1_ n2_ n3_; clear hb hbox hg)|((with_reducible refine gate_dst (N := 2) rfl ?_); refine box_event ?hg (N := 2) ?hd (cs := #[.slice none 0 0, .int .i64 0]) (t := 46) ?hr ?_; (case hd => rfl); (case hg => rfl); (case hr => first|(go_simp; done)|(go_simp; rfl)); intro gb138 hg w4 hbox hb; have n0_ := Aside0.mk (zK (g := gb137) (o := .cells #[.slice A0_0 l0_0.length c0_0, .int .i64 a0_1] 44 (0, 0)) (by (with_reducible repeat (first|refine zA ?_ _|refine zC ?_|refine zB ?_ _)); exact BK137.out) hb); have n1_ := Aside0.mk (zN (by repeat (first|(with_reducible first|exact HB.out|apply zI|apply zG|apply zH|refine zJ ?_ GE137.out)|exact HB.out)) hb); have n2_ := Aside0.mk (hbox); have n3_ := Aside0.mk ((by rw [hg]; exact (below_size (by repeat (first|(with_reducible first|exact HB.out|apply zI|apply zG|apply zH|refine zJ ?_ GE137.out)|exact HB.out))) : w.heap.size ≤ gb138)); have n4_ := Aside0.mk ((by rw [hg]; exact (below_size (by repeat (first|(with_reducible first|exact HB.out|apply zI|apply zG|apply zH|refine zJ ?_ GE137.out)|exact HB.out))) : w.heap.size ≤ gb138)); have n5_ := Aside0.mk ((by rw [hg]; exact Nat.ne_of_lt (blk_lt (g := gb137) (o := .cells #[.slice A0_0 l0_0.length c0_0, .int .i64 a0_1] 44 (0, 0)) (by (with_reducible repeat (first|refine zA ?_ _|refine zC ?_|refine zB ?_ _)); exact BK137.out)) : gb137 ≠ gb138)); have n6_ := Aside0.mk ((by rw [hg]; exact Nat.ne_of_gt (blk_lt (g := gb137) (o := .cells #[.slice A0_0 l0_0.length c0_0, .int .i64 a0_1] 44 (0, 0)) (by (with_reducible repeat (first|refine zA ?_ _|refine zC ?_|refine zB ?_ _)); exact BK137.out)) : gb138 ≠ gb137)); clear BK137; clear HB; have BK137 := n0_; have HB := n1_; have BK138 := n2_; have GW138 := n3_; have GE138 := n4_; have NB137_138 := n5_; have NB138_137 := n6_; clear n0_ n1_ n2_ n3_ n4_ n5_ n6_; clear hb hbox hg)|((with_reducible refine gate_dst (N := 3) rfl ?_); refine box_event ?hg (N := 3) ?hd (cs := #[.slice none 0 0, .int .i64 0]) (t := 46) ?hr ?_; (case hd => rfl); (case hg => rfl); (case hr => first|(go_simp; done)|(go_simp; rfl)); intro gb139 hg w5 hbox hb; have n0_ := Aside0.mk (zK (g := gb137) (o := .cells #[.slice A0_0 l0_0.length c0_0, .int .i64 a0_1] 44 (0, 0)) (by (with_reducible repeat (first|refine zA ?_ _|refine zC ?_|refine zB ?_ _)); exact BK137.out) hb); have n1_ := Aside0.mk (zK (g := gb138) (o := .cells #[.slice none 0 0, .int .i64 0] 46 (0, 0)) (by (with_reducible repeat (first|refine zA ?_ _|refine zC ?_|refine zB ?_ _)); exact BK138.out) hb); have n2_ := Aside0.mk (zN (by repeat (first|(with_reducible first|exact HB.out|apply zI|apply zG|apply zH|refine zJ ?_ GE137.out|refine zJ ?_ GE138.out)|exact HB.out)) hb); have n3_ := Aside0.mk (hbox); have n4_ := Aside0.mk ((by rw [hg]; exact (below_size (by repeat (first|(with_reducible first|exact HB.out|apply zI|apply zG|apply zH|refine zJ ?_ GE137.out|refine zJ ?_ GE138.out)|exact HB.out))) : w.heap.size ≤ gb139)); have n5_ := Aside0.mk ((by rw [hg]; exact (below_size (by repeat (first|(with_reducible first|exact HB.out|apply zI|apply zG|apply zH|refine zJ ?_ GE137.out|refine zJ ?_ GE138.out)|exact HB.out))) : w.heap.size ≤ gb139)); have n6_ := Aside0.mk ((by rw [hg]; exact Nat.ne_of_lt (blk_lt (g := gb137) (o := .cells #[.slice A0_0 l0_0.length c0_0, .int .i64 a0_1] 44 (0, 0)) (by (with_reducible repeat (first|refine zA ?_ _|refine zC ?_|refine zB ?_ _)); exact BK137.out)) : gb137 ≠ gb139)); have n7_ := Aside0.mk ((by rw [hg]; exact Nat.ne_of_gt (blk_lt (g := gb137) (o := .cells #[.slice A0_0 l0_0.length c0_0, .int .i64 a0_1] 44 (0, 0)) (by (with_reducible repeat (first|refine zA ?_ _|refine zC ?_|refine zB ?_ _)); exact BK137.out)) : gb139 ≠ gb137)); have n8_ := Aside0.mk ((by rw [hg]; exact Nat.ne_of_lt (blk_lt (g := gb138) (o := .cells #[.slice none 0 0, .int .i64 0] 46 (0, 0)) (by (with_reducible repeat (first|refine zA ?_ _|refine zC ?_|refine zB ?_ _)); exact BK138.out)) : gb138 ≠ gb139)); have n9_ := Aside0.mk ((by rw [hg]; exact Nat.ne_of_gt (blk_lt (g := gb138) (o := .cells #[.slice none 0 0, .int .i64 0] 46 (0, 0)) (by (with_reducible repeat (first|refine zA ?_ _|refine zC ?_|refine zB ?_ _)); exact BK138.out)) : gb139 ≠ gb138)); clear BK137; clear BK138; clear HB; have BK137 := n0_; have BK138 := n1_; have HB := n2_; have BK139 := n3_; have GW139 := n4_; have GE139 := n5_; have NB137_139 := n6_; have NB139_137 := n7_; have NB138_139 := n8_; have NB139_138 := n9_; clear n0_ n1_ n2_ n3_ n4_ n5_ n6_ n7_ n8_ n9_; clear hb hbox hg; have hnb6 := NB137_138.out; have hnc6 := NB138_137.out; have hnb7 := NB137_139.out; have hnc7 := NB139_137.out; have hcz8_0 : w5.cell? ⟨gb137, 0, none⟩ = some (.slice A0_0 l0_0.length c0_0) := (zO BK137.out 0).trans rfl; have hcz8_1 : w5.cell? ⟨gb137, 1, none⟩ = some (.int .i64 a0_1) := (zO BK137.out 1).trans rfl; have hfz8_0 := zP BK137.out 0; have hfz8_1 := zP BK137.out 1)|((with_reducible refine gate_callee (f := 81) rfl ?_); refine goesL_ (some 6) rfl rfl Try.func81 (by kernel_rfl) rfl #[.slice A0_0 l0_0.length c0_0] rfl (by (try simp only [List.map_toArray, List.map_cons, List.map_nil]); first|done|rfl|(simp only [List.length_drop, List.length_take]; rfl)) ?_; (with_reducible refine (laws_toIntS.calls k _ _ l0_0 t140 _ ?side1 ?side2 A2.out).mono ?_); (case side1 => repeat (first|exact (Kd.C_below HR0_0.out HB.out)|(with_reducible refine Kd.C_alloc ?_ _)|(with_reducible refine Kd.C_drewN ?_ _)|(with_reducible refine Kd.C_drew ?_))); (case side2 => exact HC0_0.out); rintro e w9 ⟨v141, rfl, ho0, hb⟩; refine ⟨_, rfl, ?_⟩; have n0_ := Aside0.mk (Kd.R_lower ho0 (below_size (by repeat (first|(with_reducible first|exact HB.out|apply zI|apply zG|apply zH|refine zJ ?_ GE137.out|refine zJ ?_ GE138.out|refine zJ ?_ GE139.out)|exact HB.out)))); have n1_ := Aside0.mk (zK (g := gb137) (o := .cells #[.slice A0_0 l0_0.length c0_0, .int .i64 a0_1] 44 (0, 0)) (by (with_reducible repeat (first|refine zA ?_ _|refine zC ?_|refine zB ?_ _)); exact BK137.out) hb); have n2_ := Aside0.mk (zK (g := gb138) (o := .cells #[.slice none 0 0, .int .i64 0] 46 (0, 0)) (by (with_reducible repeat (first|refine zA ?_ _|refine zC ?_|refine zB ?_ _)); exact BK138.out) hb); have n3_ := Aside0.mk (zK (g := gb139) (o := .cells #[.slice none 0 0, .int .i64 0] 46 (0, 0)) (by (with_reducible repeat (first|refine zA ?_ _|refine zC ?_|refine zB ?_ _)); exact BK139.out) hb); have n4_ := Aside0.mk (zN (by repeat (first|(with_reducible first|exact HB.out|apply zI|apply zG|apply zH|refine zJ ?_ GE137.out|refine zJ ?_ GE138.out|refine zJ ?_ GE139.out)|exact HB.out)) hb); clear BK137; clear BK138; clear BK139; clear HB; have HO142 := n0_; have BK137 := n1_; have BK138 := n2_; have BK139 := n3_; have HB := n4_; clear n0_ n1_ n2_ n3_ n4_; (try clear hb); (try clear hb2); (try clear hk); (try clear hi); (try clear ho0); obtain ⟨Ao10, co10, eo10⟩ := Kd.R_slice HO142.out; subst eo10; have hnb11 := NB139_138.out; have hnc11 := NB138_139.out; have hcz12_0 : w9.cell? ⟨gb139, 0, none⟩ = some (.slice none 0 0) := (zO BK139.out 0).trans rfl; have hcz12_1 : w9.cell? ⟨gb139, 1, none⟩ = some (.int .i64 0) := (zO BK139.out 1).trans rfl; have hfz12_0 := zP BK139.out 0; have hfz12_1 := zP BK139.out 1; have hcz13_0 : w9.cell? ⟨gb137, 0, none⟩ = some (.slice A0_0 l0_0.length c0_0) := (zO BK137.out 0).trans rfl; have hcz13_1 : w9.cell? ⟨gb137, 1, none⟩ = some (.int .i64 a0_1) := (zO BK137.out 1).trans rfl; have hfz13_0 := zP BK137.out 0; have hfz13_1 := zP BK137.out 1; have hcz14_0 : w9.cell? ⟨gb138, 0, none⟩ = some (.slice none 0 0) := (zO BK138.out 0).trans rfl; have hcz14_1 : w9.cell? ⟨gb138, 1, none⟩ = some (.int .i64 0) := (zO BK138.out 1).trans rfl; have hfz14_0 := zP BK138.out 0; have hfz14_1 := zP BK138.out 1))
  refine bodyPost_ret (results_cell_row rfl _ _ gb138 46 #[.slice Ao10 t140.length co10, .int .i64 a0_1] (0, 0) _ rfl (by (with_reducible repeat (first|refine zA ?_ _|refine zC ?_|refine zB ?_ _)); refine blk_put (cs := #[.slice Ao10 t140.length co10, .int .i64 0]) ?_ 1 _ rfl; (with_reducible repeat (first|refine zA ?_ _|refine zC ?_|refine zB ?_ _)); refine blk_put (cs := #[.slice none 0 0, .int .i64 0]) ?_ 0 _ rfl; (with_reducible repeat (first|refine zA ?_ _|refine zC ?_|refine zB ?_ _)); refine zT ?_ NB138_139.out _; (with_reducible repeat (first|refine zA ?_ _|refine zC ?_|refine zB ?_ _)); refine zT ?_ NB138_139.out _; (with_reducible repeat (first|refine zA ?_ _|refine zC ?_|refine zB ?_ _)); exact BK138.out) Try.underlying46 rfl (by kernel_rfl)) rfl ?_
  exact ⟨_, by first|rfl|(simp [errW_none, errW_some] <;> rfl)|(simp [*, errW_none, errW_some] <;> rfl), by (with_reducible repeat (first|apply zE|apply zD|apply zF)); exact zR (zL (p := ⟨gb138, 1, none⟩) (zL (p := ⟨gb138, 0, none⟩) (zL (p := ⟨gb139, 1, none⟩) (zL (p := ⟨gb139, 0, none⟩) (zQ (zQ HO142.out BK139.out (by decide)) BK138.out (by decide)) (fun _ hk => hk.1.2) (.slice Ao10 t140.length co10)) (fun _ hk => hk.1.2) (.int .i64 a0_1)) (fun _ hk => hk.2) (.slice Ao10 t140.length co10)) (fun _ hk => hk.2) (.int .i64 a0_1)) (fun _ hk => trivial), by repeat (first|(with_reducible first|exact HB.out|apply zI|apply zG|apply zH|refine zJ ?_ GE137.out|refine zJ ?_ GE138.out|refine zJ ?_ GE139.out)|exact HB.out)⟩

/-! ### impl_inRange: function 76 -/
def impl_inRange.f (a0 : Int) (a1 : Int) (a2 : Int) : Option (Bool) := if a0 ≥ a1 then (some (decide (a0 ≤ a2))) else (some false)
set_option maxHeartbeats 8000000 in
set_option maxRecDepth 100000 in
theorem impl_inRange.calls (a0 : Int) (a1 : Int) (a2 : Int) (r : Bool) (w : World) (h : impl_inRange.f a0 a1 a2 = some r) :
    Calls Try.prog 76 #[.int .i64 a0, .int .i64 a1, .int .i64 a2] w fun e w' => e = .returned (.bool r) ∧ Drawn0 w w' := by
  have H : (if a0 ≥ a1 then (some (decide (a0 ≤ a2))) else (some false)) = some r := h
  clear h
  by_cases c4 : a0 ≥ a1
  · rw [if_pos c4] at H
    have c4b0 : decide (a1 ≤ a0) = true := decide_eq_true c4
    clear c4
    obtain rfl := Option.some.inj H
    go_enter Try.func76, Try.ntmps76
    go_wp2
    go_ret
    exact ⟨by first|rfl|(simp; done)|(simp [*]; done), by repeat (first|exact Drawn0.refl _|apply Drawn0.step)⟩
  · rw [if_neg c4] at H
    have c4b0 : decide (a1 ≤ a0) = false := decide_eq_false c4
    clear c4
    obtain rfl := Option.some.inj H
    go_enter Try.func76, Try.ntmps76
    go_wp2
    go_ret
    exact ⟨by first|rfl|(simp; done)|(simp [*]; done), by repeat (first|exact Drawn0.refl _|apply Drawn0.step)⟩

end Go.Proofs.Ytjiekmbonmbhlaa.GFnExactCountKey
