/- Walks of the functions that the law reaches: by programs of this session, over a tool's print. -/
import Derived.Test.YtjiekmbonmbhlaaGFnLiftsx0
import Derived.Test.YtjiekmbonmbhlaaGFnLiftsx4
import Derived.Test.YtjiekmbonmbhlaaGFnLiftsx5
import Derived.Test.YtjiekmbonmbhlaaGFnLiftsx6
import Derived.Test.YtjiekmbonmbhlaaGFnLiftsx7
namespace Go.Proofs.Ytjiekmbonmbhlaa.GFnLifts
open Go.RowKit Go.Proofs.YtjiekmbonmbhlaaW.PrintWords Go.Proofs.YtjiekmbonmbhlaaW.PrintLast Go.Proofs.YtjiekmbonmbhlaaW.PrintMore
attribute [local go_sem] max2_int min2_int max_two min_two max_three min_three max_four min_four   -- for this text's walks alone
set_option linter.unusedVariables false
set_option linter.unusedSimpArgs false

/-! ### spec_l03Arena: function 98 -/
mutual
def spec_l03Arena.l0 : Nat → Int → List Int → Int → Int → List (S81) → Int → Option ((List (S81)) × Int × Int × Int)
 |0, _, _, _, _, _, _ => none
 |k + 1, x5, x1000, x1001, x1002, x228000, x228001 => (spec_l01Below.f x1000 x1001 x1002 24).bind fun bt228 => (if x5 < bt228.1 then ((spec_l01Below.f x1000 bt228.2.1 bt228.2.2 (x228000.length : Int)).bind fun bt231 => (if 0 ≤ bt231.1 then (if bt231.1 < (x228000.length : Int) then (if (rd_T81 x228000 bt231.1).f1 = true then ((spec_l01Once.f x1000 bt231.2.1 bt231.2.2 2).bind fun bt235 => (spec_l03Arena.j1 k x5 bt231.1 bt235.1 x1000 bt235.2.1 bt235.2.2 x228000 x228001)) else (spec_l03Arena.j1 k x5 bt231.1 false x1000 bt231.2.1 bt231.2.2 x228000 x228001)) else (none)) else (none))) else ((spec_l01Once.f x1000 bt228.2.1 bt228.2.2 12).bind fun bt257 => (if bt257.1 = true then ((spec_l03Copy.f x228000 x228001).bind fun bt260 => ((spec_l01Below.f x1000 bt257.2.1 bt257.2.2 (bt260.1.length : Int)).bind fun bt264 => (if 0 ≤ bt264.1 then (if bt264.1 < (bt260.1.length : Int) then (some ((bt260.1.set (bt264.1 : Int).toNat (⟨41666665, (rd_T81 bt260.1 bt264.1).f1, (rd_T81 bt260.1 bt264.1).f2, (rd_T81 bt260.1 bt264.1).f3, (rd_T81 bt260.1 bt264.1).f4⟩ : S81)), bt260.2, bt264.2.1, bt264.2.2)) else (none)) else (none)))) else (some (x228000, x228001, bt257.2.1, bt257.2.2)))))
def spec_l03Arena.j1 : Nat → Int → Int → Bool → List Int → Int → Int → List (S81) → Int → Option ((List (S81)) × Int × Int × Int)
 |0, _, _, _, _, _, _, _, _ => none
 |k + 1, x5, x6, x37, x1000, x1001, x1002, x228000, x228001 => if x37 = true then ((spec_HandleOf.f k x228000 x228001 x6).bind fun t238 => ((spec_Lift.f k x228000 x228001 t238).bind fun bt239 => (spec_l03Arena.l0 k (wrap64 (x5 + 1)) x1000 x1001 x1002 bt239.1 bt239.2.1))) else ((spec_l03Key.f x1000 x1001 x1002).bind fun bt244 => ((spec_l03Val.f x1000 bt244.2.1 bt244.2.2).bind fun bt247 => ((spec_Lay.f k x228000 x228001 bt244.1 bt247.1).bind fun bt250 => (if bt250.2.2.2 = true then (spec_l03Arena.l0 k (wrap64 (x5 + 1)) x1000 bt247.2.1 bt247.2.2 bt250.1 bt250.2.1) else (spec_l03Arena.l0 k (wrap64 (x5 + 1)) x1000 bt247.2.1 bt247.2.2 x228000 x228001)))))
end
def spec_l03Arena.f (k : Nat) (s0_0 : List Int) (s0_1 : Int) (s0_2 : Int) : Option ((List (S81)) × Int × Int × Int) := (spec_l01Below.f s0_0 s0_1 s0_2 9).bind fun bt219 => ((spec_ArenaNew.f k (wrap64 (1 + bt219.1))).bind fun bt222 => (spec_l03Arena.l0 k 0 s0_0 bt219.2.1 bt219.2.2 bt222.1 bt222.2.1))
theorem spec_l03Arena.mono_l : ∀ k, (∀ y0 y1 y2 y3 y4 y5, LeO (spec_l03Arena.l0 k y0 y1 y2 y3 y4 y5) (spec_l03Arena.l0 (k + 1) y0 y1 y2 y3 y4 y5)) ∧ (∀ y0 y1 y2 y3 y4 y5 y6 y7, LeO (spec_l03Arena.j1 k y0 y1 y2 y3 y4 y5 y6 y7) (spec_l03Arena.j1 (k + 1) y0 y1 y2 y3 y4 y5 y6 y7))
 |0 => ⟨fun _ _ _ _ _ _ r h => by simp [spec_l03Arena.l0] at h, fun _ _ _ _ _ _ _ _ r h => by simp [spec_l03Arena.j1] at h⟩
 |k + 1 => by
    obtain ⟨ih0, ih1⟩ := spec_l03Arena.mono_l k
    refine ⟨?_, ?_⟩
    · intro y0 y1 y2 y3 y4 y5
      unfold spec_l03Arena.l0
      repeat' first
     |(with_reducible exact ih0 _ _ _ _ _ _)
     |(with_reducible exact ih1 _ _ _ _ _ _ _ _)
     |(with_reducible exact spec_ArenaNew.mono _ _)
     |(with_reducible exact spec_HandleOf.mono _ _ _ _)
     |(with_reducible exact spec_Lay.mono _ _ _ _ _)
     |(with_reducible exact spec_Lift.mono _ _ _ _)
     |(with_reducible exact LeO.refl _)
     |(with_reducible exact LeO.none _)
     |(with_reducible refine LeO.ite ?_ ?_)
     |(with_reducible refine LeO.bind ?_ (fun _ => ?_))
     |exact ih0 _ _ _ _ _ _
     |exact ih1 _ _ _ _ _ _ _ _
     |exact spec_ArenaNew.mono _ _
     |exact spec_HandleOf.mono _ _ _ _
     |exact spec_Lay.mono _ _ _ _ _
     |exact spec_Lift.mono _ _ _ _
     |exact LeO.none _
     |refine LeO.ite ?_ ?_
     |refine LeO.bind ?_ (fun _ => ?_)
    · intro y0 y1 y2 y3 y4 y5 y6 y7
      unfold spec_l03Arena.j1
      repeat' first
     |(with_reducible exact ih0 _ _ _ _ _ _)
     |(with_reducible exact ih1 _ _ _ _ _ _ _ _)
     |(with_reducible exact spec_ArenaNew.mono _ _)
     |(with_reducible exact spec_HandleOf.mono _ _ _ _)
     |(with_reducible exact spec_Lay.mono _ _ _ _ _)
     |(with_reducible exact spec_Lift.mono _ _ _ _)
     |(with_reducible exact LeO.refl _)
     |(with_reducible exact LeO.none _)
     |(with_reducible refine LeO.ite ?_ ?_)
     |(with_reducible refine LeO.bind ?_ (fun _ => ?_))
     |exact ih0 _ _ _ _ _ _
     |exact ih1 _ _ _ _ _ _ _ _
     |exact spec_ArenaNew.mono _ _
     |exact spec_HandleOf.mono _ _ _ _
     |exact spec_Lay.mono _ _ _ _ _
     |exact spec_Lift.mono _ _ _ _
     |exact LeO.none _
     |refine LeO.ite ?_ ?_
     |refine LeO.bind ?_ (fun _ => ?_)
theorem spec_l03Arena.mono : ∀ a0 a1 a2 k, LeO (spec_l03Arena.f k a0 a1 a2) (spec_l03Arena.f (k + 1) a0 a1 a2) := by
  intro a0 a1 a2 k
  obtain ⟨ih0, ih1⟩ := spec_l03Arena.mono_l k
  unfold spec_l03Arena.f
  repeat' first
     |(with_reducible exact ih0 _ _ _ _ _ _)
     |(with_reducible exact ih1 _ _ _ _ _ _ _ _)
     |(with_reducible exact spec_ArenaNew.mono _ _)
     |(with_reducible exact spec_HandleOf.mono _ _ _ _)
     |(with_reducible exact spec_Lay.mono _ _ _ _ _)
     |(with_reducible exact spec_Lift.mono _ _ _ _)
     |(with_reducible exact LeO.refl _)
     |(with_reducible exact LeO.none _)
     |(with_reducible refine LeO.ite ?_ ?_)
     |(with_reducible refine LeO.bind ?_ (fun _ => ?_))
     |exact ih0 _ _ _ _ _ _
     |exact ih1 _ _ _ _ _ _ _ _
     |exact spec_ArenaNew.mono _ _
     |exact spec_HandleOf.mono _ _ _ _
     |exact spec_Lay.mono _ _ _ _ _
     |exact spec_Lift.mono _ _ _ _
     |exact LeO.none _
     |refine LeO.ite ?_ ?_
     |refine LeO.bind ?_ (fun _ => ?_)
def spec_l03Arena.T7 : Bool × List (List Nat × List Nat) := (true, [([], []), ([], []), ([], []), ([1, 2], [1, 2]), ([0, 3, 3], [0, 3]), ([4], [4]), ([5], [5]), ([5], [5]), ([6, 4, 0, 1, 2, 3, 4, 5, 6], [6])])
def spec_l03Arena.B7 : List Nat := [0, 0, 0, 6, 15, 31, 63, 63, 127]
theorem spec_l03Arena.tab7 : rtab .any (opsOf Try.f98 7) = spec_l03Arena.T7 := by kernel_rfl
theorem spec_l03Arena.bits7 : waitsOk spec_l03Arena.T7.2 spec_l03Arena.B7 = true := by kernel_rfl
def spec_l03Arena.T8 : Bool × List (List Nat × List Nat) := (true, [([], []), ([], []), ([1], [1]), ([], []), ([3, 2], [3]), ([0, 2, 4, 4], [0, 2, 4]), ([5], [5]), ([6], [6]), ([6], [6]), ([6], [6]), ([], []), ([10, 7, 5, 0, 1, 2, 3, 4, 5, 6, 7, 10], [7, 10]), ([8, 11, 0, 1, 2, 3, 4, 5, 6, 7, 8, 10, 11], [8]), ([9, 12, 0, 1, 2, 3, 4, 5, 6, 7, 8, 9, 10, 11, 12], [9])])
def spec_l03Arena.B8 : List Nat := [0, 0, 2, 0, 14, 31, 63, 127, 127, 127, 0, 1279, 3583, 8191]
theorem spec_l03Arena.tab8 : rtab .any (opsOf Try.f98 8) = spec_l03Arena.T8 := by kernel_rfl
theorem spec_l03Arena.bits8 : waitsOk spec_l03Arena.T8.2 spec_l03Arena.B8 = true := by kernel_rfl
def spec_l03Arena.T13 : Bool × List (List Nat × List Nat) := (true, [([], []), ([0], [0]), ([], []), ([], []), ([3], [3]), ([4], [4]), ([2, 5], [2, 5]), ([1, 6, 0, 1, 2, 3, 4, 5, 6], [1, 6]), ([7, 0, 1, 2, 3, 4, 5, 6], [7]), ([8, 6, 0, 1, 2, 3, 4, 5, 6], [8])])
def spec_l03Arena.B13 : List Nat := [0, 1, 0, 0, 8, 24, 60, 127, 255, 511]
theorem spec_l03Arena.tab13 : rtab .any (opsOf Try.f98 13) = spec_l03Arena.T13 := by kernel_rfl
theorem spec_l03Arena.bits13 : waitsOk spec_l03Arena.T13.2 spec_l03Arena.B13 = true := by kernel_rfl
set_option maxHeartbeats 8000000 in
set_option maxRecDepth 100000 in
theorem spec_l03Arena.calls (k : Nat) (g : Nat) (s0_0 : List Int) (s0_1 : Int) (s0_2 : Int) (r1 : List (S81)) (r2 : Int) (r3 : Int) (r4 : Int) (w0 w : World) (hI : IsS119 w0 w g s0_0 s0_1 s0_2) (hB : Below w0.heap.size w0 w) (h : spec_l03Arena.f k s0_0 s0_1 s0_2 = some (r1, r2, r3, r4)) :
    Calls Try.prog 98 #[.pointer (some ⟨g, 0, none⟩)] w fun e w' => ∃ v0_ : Value, e = .returned (.agg #[v0_, .int .i64 r2]) ∧ Kd.R k81 81 w' w.heap.size (fun _ => True) v0_ r1 ∧ IsS119 w0 w' g s0_0 r3 r4 ∧ Below w0.heap.size w0 w' ∧ KeepBut w w' g none := by
  have hu65 := Try.underlying65
  have HI0 := Aside0.mk hI
  have HK := Aside0.mk (KeepBut.refl w g none)
  have HL := Aside0.mk hB.size
  clear hI
  have HW0 := Aside0.mk hB.size
  have HB := Aside0.mk hB
  clear hB
  have H : ((spec_l01Below.f s0_0 s0_1 s0_2 9).bind fun bt219 => ((spec_ArenaNew.f k (wrap64 (1 + bt219.1))).bind fun bt222 => (spec_l03Arena.l0 k 0 s0_0 bt219.2.1 bt219.2.2 bt222.1 bt222.2.1))) = some (r1, r2, r3, r4) := h
  clear h
  replace H := Option.bind_eq_some_iff.mp H
  obtain ⟨⟨t219, t220, t221⟩, A20, H⟩ := H
  replace H : ((spec_ArenaNew.f k (wrap64 (1 + t219))).bind fun bt222 => (spec_l03Arena.l0 k 0 s0_0 t220 t221 bt222.1 bt222.2.1)) = some (r1, r2, r3, r4) := H
  have A2 := Aside0.mk A20
  clear A20
  replace H := Option.bind_eq_some_iff.mp H
  obtain ⟨⟨t222, t225, t226⟩, A30, H⟩ := H
  replace H : (spec_l03Arena.l0 k 0 s0_0 t220 t221 t222 t225) = some (r1, r2, r3, r4) := H
  have A3 := Aside0.mk A30
  clear A30
  have H' := Aside0.mk H
  clear H
  go_enter Try.func98, Try.ntmps98
  go_wp2_with (first|((with_reducible refine gate_dst (N := 2) rfl ?_); refine box_event ?hg (N := 2) ?hd (cs := #[.slice none 0 0, .int .i64 0]) (t := 65) ?hr ?_; (case hd => rfl); (case hg => rfl); (case hr => first|(go_simp; done)|(go_simp; rfl)); intro gb218 hg w4 hbox hb; have n0_ := Aside0.mk (IsS119.below (by repeat (first|(with_reducible first|exact HI0.out|apply IsS119.alloc|apply IsS119.drewN|apply IsS119.drew|apply IsS119.set_1|apply IsS119.set_2)|exact HI0.out)) hb); have n1_ := Aside0.mk (KeepBut.trans (by repeat (first|(with_reducible first|exact HK.out|apply KeepBut.set_|apply keep_drewN|apply keep_drew|apply keep_alloc)|exact HK.out)) (KeepBut.of_below hb g none) (.inl rfl)); have n2_ := Aside0.mk (zN (by repeat (first|(with_reducible first|exact HB.out|apply zI|apply zG|apply zH|refine zJ ?_ (IsS119.ge HI0.out))|exact HB.out)) hb); have n3_ := Aside0.mk (hbox); have n4_ := Aside0.mk ((by rw [hg]; exact (keep_size (w := w) (g := g) (row := none) (by repeat (first|(with_reducible first|exact HK.out|apply KeepBut.set_|apply keep_drewN|apply keep_drew|apply keep_alloc)|exact HK.out))) : w.heap.size ≤ gb218)); have n5_ := Aside0.mk ((Nat.le_trans HW0.out (by rw [hg]; exact (keep_size (w := w) (g := g) (row := none) (by repeat (first|(with_reducible first|exact HK.out|apply KeepBut.set_|apply keep_drewN|apply keep_drew|apply keep_alloc)|exact HK.out))) : w.heap.size ≤ gb218) : w0.heap.size ≤ gb218)); have n6_ := Aside0.mk ((by rw [hg]; exact Nat.ne_of_lt (IsS119.lt (show IsS119 w0 _ g s0_0 s0_1 s0_2 from by repeat (first|(with_reducible first|exact HI0.out|apply IsS119.alloc|apply IsS119.drewN|apply IsS119.drew|apply IsS119.set_1|apply IsS119.set_2)|exact HI0.out))) : g ≠ gb218)); have n7_ := Aside0.mk ((by rw [hg]; exact Nat.ne_of_gt (IsS119.lt (show IsS119 w0 _ g s0_0 s0_1 s0_2 from by repeat (first|(with_reducible first|exact HI0.out|apply IsS119.alloc|apply IsS119.drewN|apply IsS119.drew|apply IsS119.set_1|apply IsS119.set_2)|exact HI0.out))) : gb218 ≠ g)); clear HI0; clear HK; clear HB; have HI0 := n0_; have HK := n1_; have HB := n2_; have BK218 := n3_; have GW218 := n4_; have GE218 := n5_; have NB0_218 := n6_; have NB218_0 := n7_; clear n0_ n1_ n2_ n3_ n4_ n5_ n6_ n7_; clear hb hbox hg)|((with_reducible refine gate_callee (f := 73) rfl ?_); refine goesL_ (some 12) rfl rfl Try.func73 (by kernel_rfl) rfl #[.pointer (some ⟨g, 0, none⟩), .int .i64 9] rfl (by (try simp only [List.map_toArray, List.map_cons, List.map_nil]); first|done|rfl|(simp only [List.length_drop, List.length_take]; rfl)) ?_; (with_reducible refine (spec_l01Below.calls g s0_0 s0_1 s0_2 9 t219 t220 t221 w0 _ ?side1 ?side2 A2.out).mono ?_); (case side1 => repeat (first|(with_reducible first|exact HI0.out|apply IsS119.alloc|apply IsS119.drewN|apply IsS119.drew|apply IsS119.set_1|apply IsS119.set_2|refine IsS119.far ?_ NB0_218.out _)|exact HI0.out)); (case side2 => repeat (first|(with_reducible first|exact HB.out|apply zI|apply zG|apply zH|refine zJ ?_ (IsS119.ge HI0.out)|refine zJ ?_ GE218.out)|exact HB.out)); rintro e w5 ⟨rfl, hi, hb, hk⟩; refine ⟨_, rfl, ?_⟩; have n0_ := Aside0.mk (KeepBut.blk hk (g' := gb218) (o := .cells #[.slice none 0 0, .int .i64 0] 65 (0, 0)) (by (with_reducible repeat (first|refine zA ?_ _|refine zC ?_|refine zB ?_ _)); exact BK218.out) NB218_0.out (by simp)); have n1_ := Aside0.mk (KeepBut.trans (by repeat (first|(with_reducible first|exact HK.out|apply KeepBut.set_|apply keep_drewN|apply keep_drew|apply keep_alloc|refine keep_far ?_ GW218.out _)|exact HK.out)) hk (.inl rfl)); have n2_ := Aside0.mk (hb); have n3_ := Aside0.mk (hi); clear BK218; clear HK; clear HB; clear HI0; have BK218 := n0_; have HK := n1_; have HB := n2_; have HI0 := n3_; clear n0_ n1_ n2_ n3_; (try clear hb); (try clear hb2); (try clear hk); (try clear hi))|((with_reducible refine gate_callee (f := 124) rfl ?_); refine goesL_ (some 14) rfl rfl Try.func124 (by kernel_rfl) rfl #[.int .i64 (wrap64 (1 + t219))] rfl (by (try simp only [List.map_toArray, List.map_cons, List.map_nil]); first|done|rfl|(simp only [List.length_drop, List.length_take]; rfl)) ?_; (with_reducible refine (spec_ArenaNew.calls k (wrap64 (1 + t219)) t222 t225 t226 _ A3.out).mono ?_); rintro e w6 ⟨v223, rfl, ho0, hb⟩; refine ⟨_, rfl, ?_⟩; have n0_ := Aside0.mk (Kd.R_lower ho0 (keep_size (w := w) (g := g) (row := none) (by repeat (first|(with_reducible first|exact HK.out|apply KeepBut.set_|apply keep_drewN|apply keep_drew|apply keep_alloc|refine keep_far ?_ GW218.out _)|exact HK.out)))); have n1_ := Aside0.mk (IsS119.below (by repeat (first|(with_reducible first|exact HI0.out|apply IsS119.alloc|apply IsS119.drewN|apply IsS119.drew|apply IsS119.set_1|apply IsS119.set_2|refine IsS119.far ?_ NB0_218.out _)|exact HI0.out)) hb); have n2_ := Aside0.mk (zK (g := gb218) (o := .cells #[.slice none 0 0, .int .i64 0] 65 (0, 0)) (by (with_reducible repeat (first|refine zA ?_ _|refine zC ?_|refine zB ?_ _)); exact BK218.out) hb); have n3_ := Aside0.mk (KeepBut.trans (by repeat (first|(with_reducible first|exact HK.out|apply KeepBut.set_|apply keep_drewN|apply keep_drew|apply keep_alloc|refine keep_far ?_ GW218.out _)|exact HK.out)) (KeepBut.of_below hb g none) (.inl rfl)); have n4_ := Aside0.mk (zN (by repeat (first|(with_reducible first|exact HB.out|apply zI|apply zG|apply zH|refine zJ ?_ (IsS119.ge HI0.out)|refine zJ ?_ GE218.out)|exact HB.out)) hb); clear HI0; clear BK218; clear HK; clear HB; have HO224 := n0_; have HI0 := n1_; have BK218 := n2_; have HK := n3_; have HB := n4_; clear n0_ n1_ n2_ n3_ n4_; (try clear hb); (try clear hb2); (try clear hk); (try clear hi); (try clear ho0))|((with_reducible refine gate_dst (N := 3) rfl ?_); refine box_event ?hg (N := 3) ?hd (cs := #[.slice none 0 0, .int .i64 0]) (t := 65) ?hr ?_; (case hd => rfl); (case hg => rfl); (case hr => first|(go_simp; done)|(go_simp; rfl)); intro gb227 hg w7 hbox hb; have n0_ := Aside0.mk (zM (by (with_reducible repeat (first|apply zE|apply zD|apply zF)); exact HO224.out) hb); have n1_ := Aside0.mk (IsS119.below (by repeat (first|(with_reducible first|exact HI0.out|apply IsS119.alloc|apply IsS119.drewN|apply IsS119.drew|apply IsS119.set_1|apply IsS119.set_2|refine IsS119.far ?_ NB0_218.out _)|exact HI0.out)) hb); have n2_ := Aside0.mk (zK (g := gb218) (o := .cells #[.slice none 0 0, .int .i64 0] 65 (0, 0)) (by (with_reducible repeat (first|refine zA ?_ _|refine zC ?_|refine zB ?_ _)); exact BK218.out) hb); have n3_ := Aside0.mk (KeepBut.trans (by repeat (first|(with_reducible first|exact HK.out|apply KeepBut.set_|apply keep_drewN|apply keep_drew|apply keep_alloc|refine keep_far ?_ GW218.out _)|exact HK.out)) (KeepBut.of_below hb g none) (.inl rfl)); have n4_ := Aside0.mk (zN (by repeat (first|(with_reducible first|exact HB.out|apply zI|apply zG|apply zH|refine zJ ?_ (IsS119.ge HI0.out)|refine zJ ?_ GE218.out)|exact HB.out)) hb); have n5_ := Aside0.mk (hbox); have n6_ := Aside0.mk ((by rw [hg]; exact (keep_size (w := w) (g := g) (row := none) (by repeat (first|(with_reducible first|exact HK.out|apply KeepBut.set_|apply keep_drewN|apply keep_drew|apply keep_alloc|refine keep_far ?_ GW218.out _)|exact HK.out))) : w.heap.size ≤ gb227)); have n7_ := Aside0.mk ((Nat.le_trans HW0.out (by rw [hg]; exact (keep_size (w := w) (g := g) (row := none) (by repeat (first|(with_reducible first|exact HK.out|apply KeepBut.set_|apply keep_drewN|apply keep_drew|apply keep_alloc|refine keep_far ?_ GW218.out _)|exact HK.out))) : w.heap.size ≤ gb227) : w0.heap.size ≤ gb227)); have n8_ := Aside0.mk ((by rw [hg]; exact Nat.ne_of_lt (blk_lt (g := gb218) (o := .cells #[.slice none 0 0, .int .i64 0] 65 (0, 0)) (by (with_reducible repeat (first|refine zA ?_ _|refine zC ?_|refine zB ?_ _)); exact BK218.out)) : gb218 ≠ gb227)); have n9_ := Aside0.mk ((by rw [hg]; exact Nat.ne_of_gt (blk_lt (g := gb218) (o := .cells #[.slice none 0 0, .int .i64 0] 65 (0, 0)) (by (with_reducible repeat (first|refine zA ?_ _|refine zC ?_|refine zB ?_ _)); exact BK218.out)) : gb227 ≠ gb218)); have n10_ := Aside0.mk ((by rw [hg]; exact Nat.ne_of_lt (IsS119.lt (show IsS119 w0 _ g s0_0 t220 t221 from by repeat (first|(with_reducible first|exact HI0.out|apply IsS119.alloc|apply IsS119.drewN|apply IsS119.drew|apply IsS119.set_1|apply IsS119.set_2|refine IsS119.far ?_ NB0_218.out _)|exact HI0.out))) : g ≠ gb227)); have n11_ := Aside0.mk ((by rw [hg]; exact Nat.ne_of_gt (IsS119.lt (show IsS119 w0 _ g s0_0 t220 t221 from by repeat (first|(with_reducible first|exact HI0.out|apply IsS119.alloc|apply IsS119.drewN|apply IsS119.drew|apply IsS119.set_1|apply IsS119.set_2|refine IsS119.far ?_ NB0_218.out _)|exact HI0.out))) : gb227 ≠ g)); clear HO224; clear HI0; clear BK218; clear HK; clear HB; have HO224 := n0_; have HI0 := n1_; have BK218 := n2_; have HK := n3_; have HB := n4_; have BK227 := n5_; have GW227 := n6_; have GE227 := n7_; have NB218_227 := n8_; have NB227_218 := n9_; have NB0_227 := n10_; have NB227_0 := n11_; clear n0_ n1_ n2_ n3_ n4_ n5_ n6_ n7_ n8_ n9_ n10_ n11_; clear hb hbox hg; obtain ⟨Ao8, co8, eo8⟩ := Kd.R_slice HO224.out; subst eo8; have hnb9 := NB227_218.out; have hnc9 := NB218_227.out; have hnb10 := NB227_0.out; have hnc10 := NB0_227.out; obtain ⟨hcz11_0, hcz11_1, hfz11_0, hfz11_1⟩ := zb2 BK227.out))
  go_loopg [5] k (fun kq v5 w' => ∃ (x5_1 : Int) (x1001_1 : Int) (x1002_1 : Int) (x228000_1 : List (S81)) (x228001_1 : Int) (u228000 : Value), v5 = .int .i64 x5_1 ∧ Aside0 (spec_l03Arena.l0 kq x5_1 s0_0 x1001_1 x1002_1 x228000_1 x228001_1 = some (r1, r2, r3, r4)) ∧ Aside0 (kq ≤ k) ∧ Aside0 (Kd.R k81 81 w' w.heap.size (fun _ => True) u228000 x228000_1) ∧ Aside0 (w'.heap[gb218]? = some (.cells #[(.slice none 0 0), .int .i64 0] 65 (0, 0))) ∧ Aside0 (w'.heap[gb227]? = some (.cells #[u228000, .int .i64 x228001_1] 65 (0, 0))) ∧ Aside0 (IsS119 w0 w' g s0_0 x1001_1 x1002_1) ∧ Aside0 (KeepBut w w' g none) ∧ Aside0 (Below w0.heap.size w0 w'))
  case atStart => exact ⟨(0), (t220), (t221), (t222), (t225), (.slice Ao8 t222.length co8), (by first|rfl|(simp; done)|(simp [*]; done)), H', ⟨Nat.le_refl _⟩, ⟨by (with_reducible repeat (first|apply zE|apply zD|apply zF)); exact zR (zL (p := ⟨gb227, 1, none⟩) (zL (p := ⟨gb227, 0, none⟩) (zQ HO224.out BK227.out (by decide)) (fun _ hk => hk.2) (.slice Ao8 t222.length co8)) (fun _ hk => hk.2) (.int .i64 t225)) (fun _ hk => trivial)⟩, ⟨by (with_reducible repeat (first|refine zA ?_ _|refine zC ?_|refine zB ?_ _)); refine zT ?_ NB218_227.out _; (with_reducible repeat (first|refine zA ?_ _|refine zC ?_|refine zB ?_ _)); refine zT ?_ NB218_227.out _; (with_reducible repeat (first|refine zA ?_ _|refine zC ?_|refine zB ?_ _)); exact BK218.out⟩, ⟨by (with_reducible repeat (first|refine zA ?_ _|refine zC ?_|refine zB ?_ _)); refine blk_put (cs := #[.slice Ao8 t222.length co8, .int .i64 0]) ?_ 1 _ rfl; (with_reducible repeat (first|refine zA ?_ _|refine zC ?_|refine zB ?_ _)); refine blk_put (cs := #[.slice none 0 0, .int .i64 0]) ?_ 0 _ rfl; (with_reducible repeat (first|refine zA ?_ _|refine zC ?_|refine zB ?_ _)); exact BK227.out⟩, ⟨by repeat (first|(with_reducible first|exact HI0.out|apply IsS119.alloc|apply IsS119.drewN|apply IsS119.drew|apply IsS119.set_1|apply IsS119.set_2|refine IsS119.far ?_ NB0_218.out _|refine IsS119.far ?_ NB0_227.out _)|exact HI0.out)⟩, ⟨by repeat (first|(with_reducible first|exact HK.out|apply KeepBut.set_|apply keep_drewN|apply keep_drew|apply keep_alloc|refine keep_far ?_ GW218.out _|refine keep_far ?_ GW227.out _)|exact HK.out)⟩, ⟨by repeat (first|(with_reducible first|exact HB.out|apply zI|apply zG|apply zH|refine zJ ?_ (IsS119.ge HI0.out)|refine zJ ?_ GE218.out|refine zJ ?_ GE227.out)|exact HB.out)⟩⟩
  case round =>
    clear H'
    try clear c1
    try clear p2
    try clear p6
    try clear c7
    try clear c9
    try clear c10
    try clear hcz11_0
    try clear hcz11_1
    try clear hfz11_0
    try clear hfz11_1
    obtain ⟨x5_1, x1001_1, x1002_1, x228000_1, x228001_1, u228000, rfl, HA, HK1, HO_228000, BK218, BK227, HI0, HK, HB⟩ := hrel
    cases gk with
   |zero => exact absurd HA.out (by simp [spec_l03Arena.l0])
   |succ k1 =>
      have H := HA.out
      clear HA
      simp only [spec_l03Arena.l0] at H
      replace H := Option.bind_eq_some_iff.mp H
      obtain ⟨⟨t228, t229, t230⟩, A120, H⟩ := H
      replace H : (if x5_1 < t228 then ((spec_l01Below.f s0_0 t229 t230 (x228000_1.length : Int)).bind fun bt231 => (if 0 ≤ bt231.1 then (if bt231.1 < (x228000_1.length : Int) then (if (rd_T81 x228000_1 bt231.1).f1 = true then ((spec_l01Once.f s0_0 bt231.2.1 bt231.2.2 2).bind fun bt235 => (spec_l03Arena.j1 k1 x5_1 bt231.1 bt235.1 s0_0 bt235.2.1 bt235.2.2 x228000_1 x228001_1)) else (spec_l03Arena.j1 k1 x5_1 bt231.1 false s0_0 bt231.2.1 bt231.2.2 x228000_1 x228001_1)) else (none)) else (none))) else ((spec_l01Once.f s0_0 t229 t230 12).bind fun bt257 => (if bt257.1 = true then ((spec_l03Copy.f x228000_1 x228001_1).bind fun bt260 => ((spec_l01Below.f s0_0 bt257.2.1 bt257.2.2 (bt260.1.length : Int)).bind fun bt264 => (if 0 ≤ bt264.1 then (if bt264.1 < (bt260.1.length : Int) then (some ((bt260.1.set (bt264.1 : Int).toNat (⟨41666665, (rd_T81 bt260.1 bt264.1).f1, (rd_T81 bt260.1 bt264.1).f2, (rd_T81 bt260.1 bt264.1).f3, (rd_T81 bt260.1 bt264.1).f4⟩ : S81)), bt260.2, bt264.2.1, bt264.2.2)) else (none)) else (none)))) else (some (x228000_1, x228001_1, bt257.2.1, bt257.2.2))))) = some (r1, r2, r3, r4) := H
      have A12 := Aside0.mk A120
      clear A120
      by_cases c13 : x5_1 < t228
      · rw [if_pos c13] at H
        have c13b0 : decide (x5_1 < t228) = true := decide_eq_true c13
        clear c13
        replace H := Option.bind_eq_some_iff.mp H
        obtain ⟨⟨t231, t232, t233⟩, A140, H⟩ := H
        replace H : (if 0 ≤ t231 then (if t231 < (x228000_1.length : Int) then (if (rd_T81 x228000_1 t231).f1 = true then ((spec_l01Once.f s0_0 t232 t233 2).bind fun bt235 => (spec_l03Arena.j1 k1 x5_1 t231 bt235.1 s0_0 bt235.2.1 bt235.2.2 x228000_1 x228001_1)) else (spec_l03Arena.j1 k1 x5_1 t231 false s0_0 t232 t233 x228000_1 x228001_1)) else (none)) else (none)) = some (r1, r2, r3, r4) := H
        have A14 := Aside0.mk A140
        clear A140
        have HC15 := Aside0.mk H
        clear H
        go_upto_region 6 with (first|((with_reducible refine gate_callee (f := 73) rfl ?_); refine goesL_ (some 19) rfl rfl Try.func73 (by kernel_rfl) rfl #[.pointer (some ⟨g, 0, none⟩), .int .i64 24] rfl (by (try simp only [List.map_toArray, List.map_cons, List.map_nil]); first|done|rfl|(simp only [List.length_drop, List.length_take]; rfl)) ?_; (with_reducible refine (spec_l01Below.calls g s0_0 x1001_1 x1002_1 24 t228 t229 t230 w0 _ ?side1 ?side2 A12.out).mono ?_); (case side1 => repeat (first|(with_reducible first|exact HI0.out|apply IsS119.alloc|apply IsS119.drewN|apply IsS119.drew|apply IsS119.set_1|apply IsS119.set_2|refine IsS119.far ?_ NB0_218.out _|refine IsS119.far ?_ NB0_227.out _)|exact HI0.out)); (case side2 => repeat (first|(with_reducible first|exact HB.out|apply zI|apply zG|apply zH|refine zJ ?_ (IsS119.ge HI0.out)|refine zJ ?_ GE218.out|refine zJ ?_ GE227.out)|exact HB.out)); rintro e w16 ⟨rfl, hi, hb, hk⟩; refine ⟨_, rfl, ?_⟩; have n0_ := Aside0.mk (zR (Kd.R_keep (IsS119.apart (show IsS119 w0 _ g s0_0 x1001_1 x1002_1 from by repeat (first|(with_reducible first|exact HI0.out|apply IsS119.alloc|apply IsS119.drewN|apply IsS119.drew|apply IsS119.set_1|apply IsS119.set_2|refine IsS119.far ?_ NB0_218.out _|refine IsS119.far ?_ NB0_227.out _)|exact HI0.out)) (by (with_reducible repeat (first|apply zE|apply zD|apply zF)); exact HO_228000.out) (by decide)) hk (fun _ h => h.2)) (fun _ h => h.1)); have n1_ := Aside0.mk (KeepBut.blk hk (g' := gb218) (o := .cells #[.slice none 0 0, .int .i64 0] 65 (0, 0)) (by (with_reducible repeat (first|refine zA ?_ _|refine zC ?_|refine zB ?_ _)); exact BK218.out) NB218_0.out (by simp)); have n2_ := Aside0.mk (KeepBut.blk hk (g' := gb227) (o := .cells #[u228000, .int .i64 x228001_1] 65 (0, 0)) (by (with_reducible repeat (first|refine zA ?_ _|refine zC ?_|refine zB ?_ _)); exact BK227.out) NB227_0.out (by simp)); have n3_ := Aside0.mk (KeepBut.trans (by repeat (first|(with_reducible first|exact HK.out|apply KeepBut.set_|apply keep_drewN|apply keep_drew|apply keep_alloc|refine keep_far ?_ GW218.out _|refine keep_far ?_ GW227.out _)|exact HK.out)) hk (.inl rfl)); have n4_ := Aside0.mk (hb); have n5_ := Aside0.mk (hi); clear HO_228000; clear BK218; clear BK227; clear HK; clear HB; clear HI0; have HO_228000 := n0_; have BK218 := n1_; have BK227 := n2_; have HK := n3_; have HB := n4_; have HI0 := n5_; clear n0_ n1_ n2_ n3_ n4_ n5_; (try clear hb); (try clear hb2); (try clear hk); (try clear hi); have hnb17 := NB227_218.out; have hnc17 := NB218_227.out; have hnb18 := NB227_0.out; have hnc18 := NB0_227.out; obtain ⟨hcz19_0, hcz19_1, hfz19_0, hfz19_1⟩ := zb2 BK227.out; obtain ⟨Ao20, co20, eo20⟩ := Kd.R_slice HO_228000.out; subst eo20)|((with_reducible refine gate_callee (f := 73) rfl ?_); refine goesL_ (some 27) rfl rfl Try.func73 (by kernel_rfl) rfl #[.pointer (some ⟨g, 0, none⟩), .int .i64 (x228000_1.length : Int)] rfl (by (try simp only [List.map_toArray, List.map_cons, List.map_nil]); first|done|rfl|(simp only [List.length_drop, List.length_take]; rfl)) ?_; (with_reducible refine (spec_l01Below.calls g s0_0 t229 t230 (x228000_1.length : Int) t231 t232 t233 w0 _ ?side1 ?side2 A14.out).mono ?_); (case side1 => repeat (first|(with_reducible first|exact HI0.out|apply IsS119.alloc|apply IsS119.drewN|apply IsS119.drew|apply IsS119.set_1|apply IsS119.set_2|refine IsS119.far ?_ NB0_218.out _|refine IsS119.far ?_ NB0_227.out _)|exact HI0.out)); (case side2 => repeat (first|(with_reducible first|exact HB.out|apply zI|apply zG|apply zH|refine zJ ?_ (IsS119.ge HI0.out)|refine zJ ?_ GE218.out|refine zJ ?_ GE227.out)|exact HB.out)); rintro e w21 ⟨rfl, hi, hb, hk⟩; refine ⟨_, rfl, ?_⟩; have n0_ := Aside0.mk (zR (Kd.R_keep (IsS119.apart (show IsS119 w0 _ g s0_0 t229 t230 from by repeat (first|(with_reducible first|exact HI0.out|apply IsS119.alloc|apply IsS119.drewN|apply IsS119.drew|apply IsS119.set_1|apply IsS119.set_2|refine IsS119.far ?_ NB0_218.out _|refine IsS119.far ?_ NB0_227.out _)|exact HI0.out)) (by (with_reducible repeat (first|apply zE|apply zD|apply zF)); exact HO_228000.out) (by decide)) hk (fun _ h => h.2)) (fun _ h => h.1)); have n1_ := Aside0.mk (KeepBut.blk hk (g' := gb218) (o := .cells #[.slice none 0 0, .int .i64 0] 65 (0, 0)) (by (with_reducible repeat (first|refine zA ?_ _|refine zC ?_|refine zB ?_ _)); exact BK218.out) NB218_0.out (by simp)); have n2_ := Aside0.mk (KeepBut.blk hk (g' := gb227) (o := .cells #[.slice Ao20 x228000_1.length co20, .int .i64 x228001_1] 65 (0, 0)) (by (with_reducible repeat (first|refine zA ?_ _|refine zC ?_|refine zB ?_ _)); exact BK227.out) NB227_0.out (by simp)); have n3_ := Aside0.mk (KeepBut.trans (by repeat (first|(with_reducible first|exact HK.out|apply KeepBut.set_|apply keep_drewN|apply keep_drew|apply keep_alloc|refine keep_far ?_ GW218.out _|refine keep_far ?_ GW227.out _)|exact HK.out)) hk (.inl rfl)); have n4_ := Aside0.mk (hb); have n5_ := Aside0.mk (hi); clear HO_228000; clear BK218; clear BK227; clear HK; clear HB; clear HI0; have HO_228000 := n0_; have BK218 := n1_; have BK227 := n2_; have HK := n3_; have HB := n4_; have HI0 := n5_; clear n0_ n1_ n2_ n3_ n4_ n5_; (try clear hb); (try clear hb2); (try clear hk); (try clear hi)))
        (try simp only [Act.put, List.setIfInBounds_toArray, List.set_cons_zero, List.set_cons_succ])
        go_cut [37] (fun v37 wc => ∃ (kq : Nat) (x37_14 : Bool) (x1001_14 : Int) (x1002_14 : Int), v37 = .bool x37_14 ∧ Aside0 (spec_l03Arena.j1 kq x5_1 t231 x37_14 s0_0 x1001_14 x1002_14 x228000_1 x228001_1 = some (r1, r2, r3, r4)) ∧ Aside0 (kq ≤ k1) ∧ Aside0 (Kd.R k81 81 wc w.heap.size (fun _ => True) (.slice Ao20 x228000_1.length co20) x228000_1) ∧ Aside0 (wc.heap[gb218]? = some (.cells #[(.slice none 0 0), .int .i64 0] 65 (0, 0))) ∧ Aside0 (wc.heap[gb227]? = some (.cells #[(.slice Ao20 x228000_1.length co20), .int .i64 x228001_1] 65 (0, 0))) ∧ Aside0 (IsS119 w0 wc g s0_0 x1001_14 x1002_14) ∧ Aside0 (KeepBut w wc g none) ∧ Aside0 (Below w0.heap.size w0 wc))
        case first =>
          have H := HC15.out
          clear HC15
          by_cases c22 : 0 ≤ t231
          · rw [if_pos c22] at H
            have c22b0 : decide (0 ≤ t231) = true := decide_eq_true c22
            clear c22
            (first|rw [c22b0]|(simp only [i64_w, i32_w]; rw [c22b0])|skip)
            by_cases c23 : t231 < (x228000_1.length : Int)
            · rw [if_pos c23] at H
              have c23b0 : decide (t231 < (x228000_1.length : Int)) = true := decide_eq_true c23
              clear c23
              obtain ⟨bq24, hbq24⟩ : ∃ b_ : Bool, b_ = ((rd_T81 x228000_1 t231).f1) := ⟨_, rfl⟩
              replace H : (if bq24 = true then ((spec_l01Once.f s0_0 t232 t233 2).bind fun bt235 => (spec_l03Arena.j1 k1 x5_1 t231 bt235.1 s0_0 bt235.2.1 bt235.2.2 x228000_1 x228001_1)) else (spec_l03Arena.j1 k1 x5_1 t231 false s0_0 t232 t233 x228000_1 x228001_1)) = some (r1, r2, r3, r4) := by rw [← hbq24] at H; exact H
              have Nbq24 := Aside0.mk hbq24
              clear hbq24
              by_cases c25 : bq24 = true
              · subst c25
                have H1 : ((spec_l01Once.f s0_0 t232 t233 2).bind fun bt235 => (spec_l03Arena.j1 k1 x5_1 t231 bt235.1 s0_0 bt235.2.1 bt235.2.2 x228000_1 x228001_1)) = some (r1, r2, r3, r4) := by rw [if_pos rfl] at H; exact H
                clear H
                have H := H1
                clear H1
                replace H := Option.bind_eq_some_iff.mp H
                obtain ⟨⟨t235, t236, t237⟩, A260, H⟩ := H
                replace H : (spec_l03Arena.j1 k1 x5_1 t231 t235 s0_0 t236 t237 x228000_1 x228001_1) = some (r1, r2, r3, r4) := H
                have A26 := Aside0.mk A260
                clear A260
                have H' := Aside0.mk H
                clear H
                have hnb27 := NB227_218.out
                have hnc27 := NB218_227.out
                have hnb28 := NB227_0.out
                have hnc28 := NB0_227.out
                obtain ⟨hcz29_0, hcz29_1, hfz29_0, hfz29_1⟩ := zb2 BK227.out
                have p234 : 0 ≤ (t231 : Int) := of_decide_eq_true (by first|(with_reducible assumption)|assumption)
                have q234 : t231 < (x228000_1.length : Int) := of_decide_eq_true (by first|(with_reducible assumption)|assumption)
                obtain ⟨ad234, e234, hx234_0, hx234_1, hx234_2, hx234_3, hx234_4⟩ := at_T81 (Kd.R_reads' HO_228000.out).2.2 t231 p234 q234
                (try rw [← Nbq24.out] at hx234_1)
                cases e234
                replace p234 := eq_true p234
                replace q234 := eq_true q234
                go_wp2_with (first|(go_at_call 118; (with_reducible refine (spec_l01Once.calls g s0_0 t232 t233 2 t235 t236 t237 w0 _ ?side1 ?side2 A26.out).mono ?_); (case side1 => repeat (first|(with_reducible first|exact HI0.out|apply IsS119.alloc|apply IsS119.drewN|apply IsS119.drew|apply IsS119.set_1|apply IsS119.set_2|refine IsS119.far ?_ NB0_218.out _|refine IsS119.far ?_ NB0_227.out _)|exact HI0.out)); (case side2 => repeat (first|(with_reducible first|exact HB.out|apply zI|apply zG|apply zH|refine zJ ?_ (IsS119.ge HI0.out)|refine zJ ?_ GE218.out|refine zJ ?_ GE227.out)|exact HB.out)); rintro e w30 ⟨rfl, hi, hb, hk⟩; have n0_ := Aside0.mk (zR (Kd.R_keep (IsS119.apart (show IsS119 w0 _ g s0_0 t232 t233 from by repeat (first|(with_reducible first|exact HI0.out|apply IsS119.alloc|apply IsS119.drewN|apply IsS119.drew|apply IsS119.set_1|apply IsS119.set_2|refine IsS119.far ?_ NB0_218.out _|refine IsS119.far ?_ NB0_227.out _)|exact HI0.out)) (by (with_reducible repeat (first|apply zE|apply zD|apply zF)); exact HO_228000.out) (by decide)) hk (fun _ h => h.2)) (fun _ h => h.1)); have n1_ := Aside0.mk (KeepBut.blk hk (g' := gb218) (o := .cells #[.slice none 0 0, .int .i64 0] 65 (0, 0)) (by (with_reducible repeat (first|refine zA ?_ _|refine zC ?_|refine zB ?_ _)); exact BK218.out) NB218_0.out (by simp)); have n2_ := Aside0.mk (KeepBut.blk hk (g' := gb227) (o := .cells #[.slice (some ad234) x228000_1.length co20, .int .i64 x228001_1] 65 (0, 0)) (by (with_reducible repeat (first|refine zA ?_ _|refine zC ?_|refine zB ?_ _)); exact BK227.out) NB227_0.out (by simp)); have n3_ := Aside0.mk (KeepBut.trans (by repeat (first|(with_reducible first|exact HK.out|apply KeepBut.set_|apply keep_drewN|apply keep_drew|apply keep_alloc|refine keep_far ?_ GW218.out _|refine keep_far ?_ GW227.out _)|exact HK.out)) hk (.inl rfl)); have n4_ := Aside0.mk (hb); have n5_ := Aside0.mk (hi); clear HO_228000; clear BK218; clear BK227; clear HK; clear HB; clear HI0; have HO_228000 := n0_; have BK218 := n1_; have BK227 := n2_; have HK := n3_; have HB := n4_; have HI0 := n5_; clear n0_ n1_ n2_ n3_ n4_ n5_; (try clear hb); (try clear hb2); (try clear hk); (try clear hi)))
                go_meet
                case rel => exact ⟨_, (t235), (t236), (t237), (by first|rfl|(simp; done)|(simp [*]; done)), H', ⟨by have := HK1.out; first|omega|exact Nat.le_refl _⟩, ⟨by (with_reducible repeat (first|apply zE|apply zD|apply zF)); exact HO_228000.out⟩, ⟨by (with_reducible repeat (first|refine zA ?_ _|refine zC ?_|refine zB ?_ _)); exact BK218.out⟩, ⟨by (with_reducible repeat (first|refine zA ?_ _|refine zC ?_|refine zB ?_ _)); exact BK227.out⟩, ⟨by repeat (first|(with_reducible first|exact HI0.out|apply IsS119.alloc|apply IsS119.drewN|apply IsS119.drew|apply IsS119.set_1|apply IsS119.set_2|refine IsS119.far ?_ NB0_218.out _|refine IsS119.far ?_ NB0_227.out _)|exact HI0.out)⟩, ⟨by repeat (first|(with_reducible first|exact HK.out|apply KeepBut.set_|apply keep_drewN|apply keep_drew|apply keep_alloc|refine keep_far ?_ GW218.out _|refine keep_far ?_ GW227.out _)|exact HK.out)⟩, ⟨by repeat (first|(with_reducible first|exact HB.out|apply zI|apply zG|apply zH|refine zJ ?_ (IsS119.ge HI0.out)|refine zJ ?_ GE218.out|refine zJ ?_ GE227.out)|exact HB.out)⟩⟩
              · replace c25 := Bool.eq_false_iff.mpr c25
                subst c25
                have H1 : (spec_l03Arena.j1 k1 x5_1 t231 false s0_0 t232 t233 x228000_1 x228001_1) = some (r1, r2, r3, r4) := by rw [if_neg (show ¬ (false = true) by decide)] at H; exact H
                clear H
                have H := H1
                clear H1
                have H' := Aside0.mk H
                clear H
                have hnb31 := NB227_218.out
                have hnc31 := NB218_227.out
                have hnb32 := NB227_0.out
                have hnc32 := NB0_227.out
                obtain ⟨hcz33_0, hcz33_1, hfz33_0, hfz33_1⟩ := zb2 BK227.out
                have p234 : 0 ≤ (t231 : Int) := of_decide_eq_true (by first|(with_reducible assumption)|assumption)
                have q234 : t231 < (x228000_1.length : Int) := of_decide_eq_true (by first|(with_reducible assumption)|assumption)
                obtain ⟨ad234, e234, hx234_0, hx234_1, hx234_2, hx234_3, hx234_4⟩ := at_T81 (Kd.R_reads' HO_228000.out).2.2 t231 p234 q234
                (try rw [← Nbq24.out] at hx234_1)
                cases e234
                replace p234 := eq_true p234
                replace q234 := eq_true q234
                go_wp2
                go_meet
                case rel => exact ⟨_, (false), (t232), (t233), (by first|rfl|(simp; done)|(simp [*]; done)), H', ⟨by have := HK1.out; first|omega|exact Nat.le_refl _⟩, ⟨by (with_reducible repeat (first|apply zE|apply zD|apply zF)); exact HO_228000.out⟩, ⟨by (with_reducible repeat (first|refine zA ?_ _|refine zC ?_|refine zB ?_ _)); exact BK218.out⟩, ⟨by (with_reducible repeat (first|refine zA ?_ _|refine zC ?_|refine zB ?_ _)); exact BK227.out⟩, ⟨by repeat (first|(with_reducible first|exact HI0.out|apply IsS119.alloc|apply IsS119.drewN|apply IsS119.drew|apply IsS119.set_1|apply IsS119.set_2|refine IsS119.far ?_ NB0_218.out _|refine IsS119.far ?_ NB0_227.out _)|exact HI0.out)⟩, ⟨by repeat (first|(with_reducible first|exact HK.out|apply KeepBut.set_|apply keep_drewN|apply keep_drew|apply keep_alloc|refine keep_far ?_ GW218.out _|refine keep_far ?_ GW227.out _)|exact HK.out)⟩, ⟨by repeat (first|(with_reducible first|exact HB.out|apply zI|apply zG|apply zH|refine zJ ?_ (IsS119.ge HI0.out)|refine zJ ?_ GE218.out|refine zJ ?_ GE227.out)|exact HB.out)⟩⟩
            · rw [if_neg c23] at H
              exact absurd H (by simp)
          · rw [if_neg c22] at H
            exact absurd H (by simp)
        case rest =>
          clear HC15
          try clear c1
          try clear c2
          try clear p2
          try clear q2
          try clear hx2
          try clear c3
          try clear p6
          try clear c7
          try clear c9
          try clear c10
          try clear c12
          try clear c13
          try clear c13b0
          try clear c17
          try clear c18
          try clear c22
          try clear c22b0
          try clear c23
          try clear c23b0
          try clear p23
          try clear q23
          try clear hx23
          try clear q24
          try clear c25
          try clear c27
          try clear c28
          try clear c31
          try clear c32
          try clear hcz11_0
          try clear hcz11_1
          try clear hcz19_0
          try clear hcz19_1
          try clear hcz29_0
          try clear hcz29_1
          try clear hcz33_0
          try clear hcz33_1
          try clear hfz11_0
          try clear hfz11_1
          try clear hfz19_0
          try clear hfz19_1
          try clear hfz29_0
          try clear hfz29_1
          try clear hfz33_0
          try clear hfz33_1
          try clear hx234_0
          try clear hx234_1
          try clear hx234_2
          try clear hx234_3
          try clear hx234_4
          try clear p2
          try clear p234
          try clear p6
          try clear q234
          obtain ⟨kq, x37_14, x1001_14, x1002_14, rfl, HA, HJ14, HO_228000, BK218, BK227, HI0, HK, HB⟩ := hcut
          cases kq with
         |zero => exact absurd HA.out (by simp [spec_l03Arena.j1])
         |succ kj14 =>
            have H := HA.out
            clear HA
            simp only [spec_l03Arena.j1] at H
            by_cases c34 : x37_14 = true
            · subst c34
              have H1 : ((spec_HandleOf.f kj14 x228000_1 x228001_1 t231).bind fun t238 => ((spec_Lift.f kj14 x228000_1 x228001_1 t238).bind fun bt239 => (spec_l03Arena.l0 kj14 (wrap64 (x5_1 + 1)) s0_0 x1001_14 x1002_14 bt239.1 bt239.2.1))) = some (r1, r2, r3, r4) := by rw [if_pos rfl] at H; exact H
              clear H
              have H := H1
              clear H1
              replace H := Option.bind_eq_some_iff.mp H
              obtain ⟨t238, A350, H⟩ := H
              replace H : ((spec_Lift.f kj14 x228000_1 x228001_1 t238).bind fun bt239 => (spec_l03Arena.l0 kj14 (wrap64 (x5_1 + 1)) s0_0 x1001_14 x1002_14 bt239.1 bt239.2.1)) = some (r1, r2, r3, r4) := H
              have A35 := Aside0.mk A350
              clear A350
              replace H := Option.bind_eq_some_iff.mp H
              obtain ⟨⟨t239, t242, t243⟩, A360, H⟩ := H
              replace H : (spec_l03Arena.l0 kj14 (wrap64 (x5_1 + 1)) s0_0 x1001_14 x1002_14 t239 t242) = some (r1, r2, r3, r4) := H
              have A36 := Aside0.mk A360
              clear A360
              have H' := Aside0.mk H
              clear H
              try go_wp2
              have n0_ := Aside0.mk (zF HO_228000.out)
              have n1_ := Aside0.mk (zC BK218.out)
              have n2_ := Aside0.mk (zC BK227.out)
              have n3_ := Aside0.mk (IsS119.drew HI0.out)
              have n4_ := Aside0.mk (keep_drew HK.out)
              have n5_ := Aside0.mk (zH HB.out)
              clear HO_228000
              clear BK218
              clear BK227
              clear HI0
              clear HK
              clear HB
              have HO_228000 := n0_
              have BK218 := n1_
              have BK227 := n2_
              have HI0 := n3_
              have HK := n4_
              have HB := n5_
              clear n0_ n1_ n2_ n3_ n4_ n5_
              refine start_ (n := 9) (S := fun w' => w'.cell? ⟨gb227, 0, none⟩ = some (.slice Ao20 x228000_1.length co20) ∧ w'.cell? ⟨gb227, 1, none⟩ = some (.int .i64 x228001_1)) (ds := [8]) #[false, false, false, false, false, false, false, false, false] (by kernel_rfl) rfl rfl ⟨(zO BK227.out 0).trans rfl, (zO BK227.out 1).trans rfl⟩ (fun hHeld => ?_); refine with_tabW spec_l03Arena.tab7 spec_l03Arena.bits7 (fun HT_ HW_ => ?_)
              generalize wc.drew = w37 at HO_228000 BK218 BK227 HI0 HK HB hHeld ⊢
              refine pure_ (i := 2) (N := some 41) (v := ?_) (a' := ?_) #[false, false, true, false, false, false, false, false, false] rfl rfl (any_of HT_.out (by kernel_rfl)) (fun _ _ _ h => h) (Or.inl ⟨by rfl, ?_⟩) ?_ ?_
              rotate_left
              · intro w'
                go_simp
                with_reducible rfl
              rotate_left
              · simp only [Act.put, List.setIfInBounds_toArray, List.set_cons_zero, List.set_cons_succ, i64_w, i32_w]
                rfl
              refine take_ (i := 0) (N := some 39) (v := ?_) (a' := ?_) #[true, false, true, false, false, false, false, false, false] rfl rfl (take_ofW HT_.out HW_.out (by kernel_rfl)) (fun _ _ _ h => h) (Or.inl ⟨by rfl, ?_⟩) hHeld ?_ ?_
              rotate_left
              · rintro w' ⟨s0, s1⟩
                go_simp
                with_reducible rfl
              rotate_left
              · simp only [Act.put, List.setIfInBounds_toArray, List.set_cons_zero, List.set_cons_succ, i64_w, i32_w]
                rfl
              refine take_ (i := 1) (N := some 40) (v := ?_) (a' := ?_) #[true, true, true, false, false, false, false, false, false] rfl rfl (take_ofW HT_.out HW_.out (by kernel_rfl)) (fun _ _ _ h => h) (Or.inl ⟨by rfl, ?_⟩) hHeld ?_ ?_
              rotate_left
              · rintro w' ⟨s0, s1⟩
                go_simp
                with_reducible rfl
              rotate_left
              · simp only [Act.put, List.setIfInBounds_toArray, List.set_cons_zero, List.set_cons_succ, i64_w, i32_w]
                rfl
              refine one_ (i := 3) (N := some 42) #[true, true, true, true, false, false, false, false, false] rfl rfl (one_of HT_.out (by kernel_rfl)) (by decide) (fun K hK => ?_)
              refine goes_ Try.func126 (by kernel_rfl) rfl #[.agg #[.slice Ao20 x228000_1.length co20, .int .i64 x228001_1], .int .i64 t231] (by rfl) rfl rfl (by (try simp only [List.map_toArray, List.map_cons, List.map_nil]); first|done|rfl|(simp only [List.length_drop, List.length_take]; rfl)) ?_
              with_reducible refine (spec_HandleOf.calls kj14 _ _ x228000_1 x228001_1 t231 t238 _ ?side1 ?side2 A35.out).mono ?_
              (case side1 => repeat (first|exact (Kd.R_reads' HO_228000.out).2.2|(with_reducible refine Kd.C_alloc ?_ _)|(with_reducible refine Kd.C_drewN ?_ _)|(with_reducible refine Kd.C_drew ?_)))
              (case side2 => exact (Kd.R_reads' HO_228000.out).2.1)
              rintro e w38 ⟨rfl, hb⟩
              refine ⟨_, rfl, ?_⟩
              have n0_ := Aside0.mk (zM (by (with_reducible repeat (first|apply zE|apply zD|apply zF)); exact HO_228000.out) hb)
              have n1_ := Aside0.mk (zK (g := gb218) (o := .cells #[.slice none 0 0, .int .i64 0] 65 (0, 0)) (by (with_reducible repeat (first|refine zA ?_ _|refine zC ?_|refine zB ?_ _)); exact BK218.out) hb)
              have n2_ := Aside0.mk (zK (g := gb227) (o := .cells #[.slice Ao20 x228000_1.length co20, .int .i64 x228001_1] 65 (0, 0)) (by (with_reducible repeat (first|refine zA ?_ _|refine zC ?_|refine zB ?_ _)); exact BK227.out) hb)
              have n3_ := Aside0.mk (IsS119.below (by repeat (first|(with_reducible first|exact HI0.out|apply IsS119.alloc|apply IsS119.drewN|apply IsS119.drew|apply IsS119.set_1|apply IsS119.set_2|refine IsS119.far ?_ NB0_218.out _|refine IsS119.far ?_ NB0_227.out _)|exact HI0.out)) hb)
              have n4_ := Aside0.mk (KeepBut.trans (by repeat (first|(with_reducible first|exact HK.out|apply KeepBut.set_|apply keep_drewN|apply keep_drew|apply keep_alloc|refine keep_far ?_ GW218.out _|refine keep_far ?_ GW227.out _)|exact HK.out)) (KeepBut.of_below hb g none) (.inl rfl))
              have n5_ := Aside0.mk (zN (by repeat (first|(with_reducible first|exact HB.out|apply zI|apply zG|apply zH|refine zJ ?_ (IsS119.ge HI0.out)|refine zJ ?_ GE218.out|refine zJ ?_ GE227.out)|exact HB.out)) hb)
              clear HO_228000
              clear BK218
              clear BK227
              clear HI0
              clear HK
              clear HB
              have HO_228000 := n0_
              have BK218 := n1_
              have BK227 := n2_
              have HI0 := n3_
              have HK := n4_
              have HB := n5_
              clear n0_ n1_ n2_ n3_ n4_ n5_
              (try clear hb)
              (try clear hb2)
              (try clear hk)
              (try clear hi)
              refine hK.out _ _ ⟨(zO BK227.out 0).trans rfl, (zO BK227.out 1).trans rfl⟩ (fun hHeld => ?_)
              clear hK K
              refine norm_ (a' := ?_) ?_ ?_
              rotate_left
              · show Act.put _ (some 42) _ = _
                simp only [Act.put, List.setIfInBounds_toArray, List.set_cons_zero, List.set_cons_succ, i64_w, i32_w]
                rfl
              refine one_ (i := 4) (N := some 43) #[true, true, true, true, true, false, false, false, false] rfl rfl (one_of HT_.out (by kernel_rfl)) (by decide) (fun K hK => ?_)
              refine goes_ Try.func125 (by kernel_rfl) rfl #[.agg #[.slice Ao20 x228000_1.length co20, .int .i64 x228001_1], .int .i64 t238] (by rfl) rfl rfl (by (try simp only [List.map_toArray, List.map_cons, List.map_nil]); first|done|rfl|(simp only [List.length_drop, List.length_take]; rfl)) ?_
              with_reducible refine (spec_Lift.calls kj14 _ _ x228000_1 x228001_1 t238 t239 t242 t243 _ ?side1 ?side2 A36.out).mono ?_
              (case side1 => repeat (first|exact (Kd.R_reads' HO_228000.out).2.2|(with_reducible refine Kd.C_alloc ?_ _)|(with_reducible refine Kd.C_drewN ?_ _)|(with_reducible refine Kd.C_drew ?_)))
              (case side2 => exact (Kd.R_reads' HO_228000.out).2.1)
              rintro e w39 ⟨v240, rfl, ho0, hb⟩
              refine ⟨_, rfl, ?_⟩
              have n0_ := Aside0.mk (Kd.R_elder' (by (with_reducible repeat (first|apply zE|apply zD|apply zF)); exact HO_228000.out) (Kd.R_base ho0) hb)
              have n1_ := Aside0.mk (Kd.R_lower (Kd.R_new' ho0 (Kd.R_lt (by (with_reducible repeat (first|apply zE|apply zD|apply zF)); exact HO_228000.out))) (keep_size (w := w) (g := g) (row := none) (by repeat (first|(with_reducible first|exact HK.out|apply KeepBut.set_|apply keep_drewN|apply keep_drew|apply keep_alloc|refine keep_far ?_ GW218.out _|refine keep_far ?_ GW227.out _)|exact HK.out))))
              have n2_ := Aside0.mk (zK (g := gb218) (o := .cells #[.slice none 0 0, .int .i64 0] 65 (0, 0)) (by (with_reducible repeat (first|refine zA ?_ _|refine zC ?_|refine zB ?_ _)); exact BK218.out) hb)
              have n3_ := Aside0.mk (zK (g := gb227) (o := .cells #[.slice Ao20 x228000_1.length co20, .int .i64 x228001_1] 65 (0, 0)) (by (with_reducible repeat (first|refine zA ?_ _|refine zC ?_|refine zB ?_ _)); exact BK227.out) hb)
              have n4_ := Aside0.mk (IsS119.below (by repeat (first|(with_reducible first|exact HI0.out|apply IsS119.alloc|apply IsS119.drewN|apply IsS119.drew|apply IsS119.set_1|apply IsS119.set_2|refine IsS119.far ?_ NB0_218.out _|refine IsS119.far ?_ NB0_227.out _)|exact HI0.out)) hb)
              have n5_ := Aside0.mk (KeepBut.trans (by repeat (first|(with_reducible first|exact HK.out|apply KeepBut.set_|apply keep_drewN|apply keep_drew|apply keep_alloc|refine keep_far ?_ GW218.out _|refine keep_far ?_ GW227.out _)|exact HK.out)) (KeepBut.of_below hb g none) (.inl rfl))
              have n6_ := Aside0.mk (zN (by repeat (first|(with_reducible first|exact HB.out|apply zI|apply zG|apply zH|refine zJ ?_ (IsS119.ge HI0.out)|refine zJ ?_ GE218.out|refine zJ ?_ GE227.out)|exact HB.out)) hb)
              clear HO_228000
              clear BK218
              clear BK227
              clear HI0
              clear HK
              clear HB
              have HO_228000 := n0_
              have HO241 := n1_
              have BK218 := n2_
              have BK227 := n3_
              have HI0 := n4_
              have HK := n5_
              have HB := n6_
              clear n0_ n1_ n2_ n3_ n4_ n5_ n6_
              (try clear hb)
              (try clear hb2)
              (try clear hk)
              (try clear hi)
              (try clear ho0)
              obtain ⟨Ao40, co40, eo40⟩ := Kd.R_slice HO241.out
              (first|subst eo40|(injection eo40 with f1_ f2_ f3_; have f4_ := f1_.symm; have f5_ := f3_.symm; clear f1_ f2_ f3_; subst f4_; subst f5_))
              refine hK.out _ _ ⟨(zO BK227.out 0).trans rfl, (zO BK227.out 1).trans rfl⟩ (fun hHeld => ?_)
              clear hK K
              refine norm_ (a' := ?_) ?_ ?_
              rotate_left
              · show Act.put _ (some 43) _ = _
                simp only [Act.put, List.setIfInBounds_toArray, List.set_cons_zero, List.set_cons_succ, i64_w, i32_w]
                rfl
              refine pure_ (i := 5) (N := some 38) (v := ?_) (a' := ?_) #[true, true, true, true, true, true, false, false, false] rfl rfl (any_of HT_.out (by kernel_rfl)) (fun _ _ _ h => h) (Or.inl ⟨by rfl, ?_⟩) ?_ ?_
              rotate_left
              · intro w'
                go_simp
                with_reducible rfl
              rotate_left
              · simp only [Act.put, List.setIfInBounds_toArray, List.set_cons_zero, List.set_cons_succ, i64_w, i32_w]
                rfl
              refine pure_ (i := 6) (N := some 44) (v := ?_) (a' := ?_) #[true, true, true, true, true, true, true, false, false] rfl rfl (any_of HT_.out (by kernel_rfl)) (fun _ _ _ h => h) (Or.inl ⟨by rfl, ?_⟩) ?_ ?_
              rotate_left
              · intro w'
                go_simp
                with_reducible rfl
              rotate_left
              · simp only [Act.put, List.setIfInBounds_toArray, List.set_cons_zero, List.set_cons_succ, i64_w, i32_w]
                rfl
              refine pure_ (i := 7) (N := some 45) (v := ?_) (a' := ?_) #[true, true, true, true, true, true, true, true, false] rfl rfl (any_of HT_.out (by kernel_rfl)) (fun _ _ _ h => h) (Or.inl ⟨by rfl, ?_⟩) ?_ ?_
              rotate_left
              · intro w'
                go_simp
                with_reducible rfl
              rotate_left
              · simp only [Act.put, List.setIfInBounds_toArray, List.set_cons_zero, List.set_cons_succ, i64_w, i32_w]
                rfl
              refine last_ (i := 8) (N := none) #[true, true, true, true, true, true, true, true, true] rfl rfl (one_of HT_.out (by kernel_rfl)) (by decide) (fun K hK => ?_)
              have hs41 : w39.cell? ⟨gb227, 0, none⟩ = some (.slice Ao20 x228000_1.length co20) := (zO BK227.out 0).trans rfl
              have hfs41 := zP BK227.out 0
              have hns41_0 := NB218_227.out
              have hms41_0 := NB227_218.out
              have hs42 : w39.cell? ⟨gb227, 1, none⟩ = some (.int .i64 x228001_1) := (zO BK227.out 1).trans rfl
              have hfs42 := zP BK227.out 1
              have hns42_0 := NB218_227.out
              have hms42_0 := NB227_218.out
              refine skip_ (w1 := ?_) (by rfl) rfl ?_ ?_
              rotate_left
              · go_simp
                rfl
              refine hK.out _ _ ?_
              clear hK K
              refine done_ (done_of HT_.out (by kernel_rfl)) ?_
              try go_wp2
              go_roundg kj14
              case measure => have := HK1.out; have := HJ14.out; omega
              case rel => exact ⟨(wrap64 (x5_1 + 1)), (x1001_14), (x1002_14), (t239), (t242), (.slice Ao40 t239.length co40), (by first|rfl|(simp; done)|(simp [*]; done)), H', ⟨by have := HK1.out; have := HJ14.out; omega⟩, ⟨by (with_reducible repeat (first|apply zE|apply zD|apply zF)); exact zR (zL (p := ⟨gb227, 1, none⟩) (zL (p := ⟨gb227, 0, none⟩) (zQ HO241.out BK227.out (by decide)) (fun _ hk => hk.2) (.slice Ao40 t239.length co40)) (fun _ hk => hk.2) (.int .i64 t242)) (fun _ hk => trivial)⟩, ⟨by (with_reducible repeat (first|refine zA ?_ _|refine zC ?_|refine zB ?_ _)); refine zT ?_ NB218_227.out _; (with_reducible repeat (first|refine zA ?_ _|refine zC ?_|refine zB ?_ _)); refine zT ?_ NB218_227.out _; (with_reducible repeat (first|refine zA ?_ _|refine zC ?_|refine zB ?_ _)); exact BK218.out⟩, ⟨by (with_reducible repeat (first|refine zA ?_ _|refine zC ?_|refine zB ?_ _)); refine blk_put (cs := #[.slice Ao40 t239.length co40, .int .i64 x228001_1]) ?_ 1 _ rfl; (with_reducible repeat (first|refine zA ?_ _|refine zC ?_|refine zB ?_ _)); refine blk_put (cs := #[.slice Ao20 x228000_1.length co20, .int .i64 x228001_1]) ?_ 0 _ rfl; (with_reducible repeat (first|refine zA ?_ _|refine zC ?_|refine zB ?_ _)); exact BK227.out⟩, ⟨by repeat (first|(with_reducible first|exact HI0.out|apply IsS119.alloc|apply IsS119.drewN|apply IsS119.drew|apply IsS119.set_1|apply IsS119.set_2|refine IsS119.far ?_ NB0_218.out _|refine IsS119.far ?_ NB0_227.out _)|exact HI0.out)⟩, ⟨by repeat (first|(with_reducible first|exact HK.out|apply KeepBut.set_|apply keep_drewN|apply keep_drew|apply keep_alloc|refine keep_far ?_ GW218.out _|refine keep_far ?_ GW227.out _)|exact HK.out)⟩, ⟨by repeat (first|(with_reducible first|exact HB.out|apply zI|apply zG|apply zH|refine zJ ?_ (IsS119.ge HI0.out)|refine zJ ?_ GE218.out|refine zJ ?_ GE227.out)|exact HB.out)⟩⟩
            · replace c34 := Bool.eq_false_iff.mpr c34
              subst c34
              have H1 : ((spec_l03Key.f s0_0 x1001_14 x1002_14).bind fun bt244 => ((spec_l03Val.f s0_0 bt244.2.1 bt244.2.2).bind fun bt247 => ((spec_Lay.f kj14 x228000_1 x228001_1 bt244.1 bt247.1).bind fun bt250 => (if bt250.2.2.2 = true then (spec_l03Arena.l0 kj14 (wrap64 (x5_1 + 1)) s0_0 bt247.2.1 bt247.2.2 bt250.1 bt250.2.1) else (spec_l03Arena.l0 kj14 (wrap64 (x5_1 + 1)) s0_0 bt247.2.1 bt247.2.2 x228000_1 x228001_1))))) = some (r1, r2, r3, r4) := by rw [if_neg (show ¬ (false = true) by decide)] at H; exact H
              clear H
              have H := H1
              clear H1
              replace H := Option.bind_eq_some_iff.mp H
              obtain ⟨⟨t244, t245, t246⟩, A430, H⟩ := H
              replace H : ((spec_l03Val.f s0_0 t245 t246).bind fun bt247 => ((spec_Lay.f kj14 x228000_1 x228001_1 t244 bt247.1).bind fun bt250 => (if bt250.2.2.2 = true then (spec_l03Arena.l0 kj14 (wrap64 (x5_1 + 1)) s0_0 bt247.2.1 bt247.2.2 bt250.1 bt250.2.1) else (spec_l03Arena.l0 kj14 (wrap64 (x5_1 + 1)) s0_0 bt247.2.1 bt247.2.2 x228000_1 x228001_1)))) = some (r1, r2, r3, r4) := H
              have A43 := Aside0.mk A430
              clear A430
              replace H := Option.bind_eq_some_iff.mp H
              obtain ⟨⟨t247, t248, t249⟩, A440, H⟩ := H
              replace H : ((spec_Lay.f kj14 x228000_1 x228001_1 t244 t247).bind fun bt250 => (if bt250.2.2.2 = true then (spec_l03Arena.l0 kj14 (wrap64 (x5_1 + 1)) s0_0 t248 t249 bt250.1 bt250.2.1) else (spec_l03Arena.l0 kj14 (wrap64 (x5_1 + 1)) s0_0 t248 t249 x228000_1 x228001_1))) = some (r1, r2, r3, r4) := H
              have A44 := Aside0.mk A440
              clear A440
              replace H := Option.bind_eq_some_iff.mp H
              obtain ⟨⟨t250, t253, t254, t255⟩, A450, H⟩ := H
              replace H : (if t255 = true then (spec_l03Arena.l0 kj14 (wrap64 (x5_1 + 1)) s0_0 t248 t249 t250 t253) else (spec_l03Arena.l0 kj14 (wrap64 (x5_1 + 1)) s0_0 t248 t249 x228000_1 x228001_1)) = some (r1, r2, r3, r4) := H
              have A45 := Aside0.mk A450
              clear A450
              by_cases c46 : t255 = true
              · subst c46
                have H1 : (spec_l03Arena.l0 kj14 (wrap64 (x5_1 + 1)) s0_0 t248 t249 t250 t253) = some (r1, r2, r3, r4) := by rw [if_pos rfl] at H; exact H
                clear H
                have H := H1
                clear H1
                have H' := Aside0.mk H
                clear H
                try go_wp2
                have n0_ := Aside0.mk (zF HO_228000.out)
                have n1_ := Aside0.mk (zC BK218.out)
                have n2_ := Aside0.mk (zC BK227.out)
                have n3_ := Aside0.mk (IsS119.drew HI0.out)
                have n4_ := Aside0.mk (keep_drew HK.out)
                have n5_ := Aside0.mk (zH HB.out)
                clear HO_228000
                clear BK218
                clear BK227
                clear HI0
                clear HK
                clear HB
                have HO_228000 := n0_
                have BK218 := n1_
                have BK227 := n2_
                have HI0 := n3_
                have HK := n4_
                have HB := n5_
                clear n0_ n1_ n2_ n3_ n4_ n5_
                refine start_ (n := 14) (S := fun w' => w'.cell? ⟨gb227, 0, none⟩ = some (.slice Ao20 x228000_1.length co20) ∧ w'.cell? ⟨gb227, 1, none⟩ = some (.int .i64 x228001_1)) (ds := []) #[false, false, false, false, false, false, false, false, false, false, false, false, false, false] (by kernel_rfl) rfl rfl ⟨(zO BK227.out 0).trans rfl, (zO BK227.out 1).trans rfl⟩ (fun hHeld => ?_); refine with_tabW spec_l03Arena.tab8 spec_l03Arena.bits8 (fun HT_ HW_ => ?_)
                generalize wc.drew = w47 at HO_228000 BK218 BK227 HI0 HK HB hHeld ⊢
                refine pure_ (i := 1) (N := some 48) (v := ?_) (a' := ?_) #[false, true, false, false, false, false, false, false, false, false, false, false, false, false] rfl rfl (any_of HT_.out (by kernel_rfl)) (fun _ _ _ h => h) (Or.inl ⟨by rfl, ?_⟩) ?_ ?_
                rotate_left
                · intro w'
                  go_simp
                  with_reducible rfl
                rotate_left
                · simp only [Act.put, List.setIfInBounds_toArray, List.set_cons_zero, List.set_cons_succ, i64_w, i32_w]
                  rfl
                refine pure_ (i := 3) (N := some 50) (v := ?_) (a' := ?_) #[false, true, false, true, false, false, false, false, false, false, false, false, false, false] rfl rfl (any_of HT_.out (by kernel_rfl)) (fun _ _ _ h => h) (Or.inl ⟨by rfl, ?_⟩) ?_ ?_
                rotate_left
                · intro w'
                  go_simp
                  with_reducible rfl
                rotate_left
                · simp only [Act.put, List.setIfInBounds_toArray, List.set_cons_zero, List.set_cons_succ, i64_w, i32_w]
                  rfl
                refine take_ (i := 0) (N := some 47) (v := ?_) (a' := ?_) #[true, true, false, true, false, false, false, false, false, false, false, false, false, false] rfl rfl (take_ofW HT_.out HW_.out (by kernel_rfl)) (fun _ _ _ h => h) (Or.inl ⟨by rfl, ?_⟩) hHeld ?_ ?_
                rotate_left
                · rintro w' ⟨s0, s1⟩
                  go_simp
                  with_reducible rfl
                rotate_left
                · simp only [Act.put, List.setIfInBounds_toArray, List.set_cons_zero, List.set_cons_succ, i64_w, i32_w]
                  rfl
                refine join_ (σ := Value × Nat) 3 #[true, true, true, true, true, true, true, true, true, true, true, false, false, false] (fun s_ => [(49, .string t244), (51, .string t247), (52, .tuple #[.agg #[s_.1, .int .i64 t253], .int .i64 t254, .bool true]), (7, .pointer (some ⟨s_.2, 0, none⟩)), (46, .tuple #[.agg #[s_.1, .int .i64 t253], .int .i64 t254, .bool true]), (53, .agg #[s_.1, .int .i64 t253]), (54, .int .i64 t254), (55, .bool true)]) (fun s_ w' => (w'.cell? ⟨gb227, 0, none⟩ = some (.slice Ao20 x228000_1.length co20) ∧ w'.cell? ⟨gb227, 1, none⟩ = some (.int .i64 x228001_1)) ∧ (Kd.R k81 81 w' w.heap.size (fun k_ => some k_ ≠ (.slice Ao20 x228000_1.length co20 : Value).ownBlock) s_.1 t250) ∧ (Kd.R k81 81 w' w.heap.size (fun k_ => some k_ ≠ (s_.1 : Value).ownBlock) (.slice Ao20 x228000_1.length co20) x228000_1) ∧ (w'.heap[gb218]? = some (.cells #[.slice none 0 0, .int .i64 0] 65 (0, 0))) ∧ (w'.heap[gb227]? = some (.cells #[.slice Ao20 x228000_1.length co20, .int .i64 x228001_1] 65 (0, 0))) ∧ (w'.heap[s_.2]? = some (.cells #[.slice none 0 0, .int .i64 0] 65 (0, 0))) ∧ (w.heap.size ≤ s_.2) ∧ (w0.heap.size ≤ s_.2) ∧ (g ≠ s_.2) ∧ (s_.2 ≠ g) ∧ (gb218 ≠ s_.2) ∧ (s_.2 ≠ gb218) ∧ (gb227 ≠ s_.2) ∧ (s_.2 ≠ gb227) ∧ (IsS119 w0 w' g s0_0 t248 t249) ∧ (KeepBut w w' g none) ∧ (Below w0.heap.size w0 w')) ?_ ?_
                rotate_left
                · intro hCont
                  refine two_ (i := 2) (j := 10) (Ni := some 49) (Nj := some 7) #[true, true, true, true, false, false, false, false, false, false, false, false, false, false] #[true, true, false, true, false, false, false, false, false, false, true, false, false, false] rfl rfl rfl rfl (two_of HT_.out (by kernel_rfl)) (by decide) (by decide) (fun K hK => ?_) (fun K hK => ?_)
                  · skip
                    refine goes_ Try.func74 (by kernel_rfl) rfl #[.pointer (some ⟨g, 0, none⟩)] (by rfl) rfl rfl (by (try simp only [List.map_toArray, List.map_cons, List.map_nil]); first|done|rfl|(simp only [List.length_drop, List.length_take]; rfl)) ?_
                    with_reducible refine (spec_l03Key.calls g s0_0 x1001_14 x1002_14 t244 t245 t246 w0 _ ?side1 ?side2 A43.out).mono ?_
                    (case side1 => repeat (first|(with_reducible first|exact HI0.out|apply IsS119.alloc|apply IsS119.drewN|apply IsS119.drew|apply IsS119.set_1|apply IsS119.set_2|refine IsS119.far ?_ NB0_218.out _|refine IsS119.far ?_ NB0_227.out _)|exact HI0.out))
                    (case side2 => repeat (first|(with_reducible first|exact HB.out|apply zI|apply zG|apply zH|refine zJ ?_ (IsS119.ge HI0.out)|refine zJ ?_ GE218.out|refine zJ ?_ GE227.out)|exact HB.out))
                    rintro e w48 ⟨rfl, hi, hb, hk⟩
                    refine ⟨_, rfl, ?_⟩
                    have n0_ := Aside0.mk (zR (Kd.R_keep (IsS119.apart (show IsS119 w0 _ g s0_0 x1001_14 x1002_14 from by repeat (first|(with_reducible first|exact HI0.out|apply IsS119.alloc|apply IsS119.drewN|apply IsS119.drew|apply IsS119.set_1|apply IsS119.set_2|refine IsS119.far ?_ NB0_218.out _|refine IsS119.far ?_ NB0_227.out _)|exact HI0.out)) (by (with_reducible repeat (first|apply zE|apply zD|apply zF)); exact HO_228000.out) (by decide)) hk (fun _ h => h.2)) (fun _ h => h.1))
                    have n1_ := Aside0.mk (KeepBut.blk hk (g' := gb218) (o := .cells #[.slice none 0 0, .int .i64 0] 65 (0, 0)) (by (with_reducible repeat (first|refine zA ?_ _|refine zC ?_|refine zB ?_ _)); exact BK218.out) NB218_0.out (by simp))
                    have n2_ := Aside0.mk (KeepBut.blk hk (g' := gb227) (o := .cells #[.slice Ao20 x228000_1.length co20, .int .i64 x228001_1] 65 (0, 0)) (by (with_reducible repeat (first|refine zA ?_ _|refine zC ?_|refine zB ?_ _)); exact BK227.out) NB227_0.out (by simp))
                    have n3_ := Aside0.mk (KeepBut.trans (by repeat (first|(with_reducible first|exact HK.out|apply KeepBut.set_|apply keep_drewN|apply keep_drew|apply keep_alloc|refine keep_far ?_ GW218.out _|refine keep_far ?_ GW227.out _)|exact HK.out)) hk (.inl rfl))
                    have n4_ := Aside0.mk (hb)
                    have n5_ := Aside0.mk (hi)
                    clear HO_228000
                    clear BK218
                    clear BK227
                    clear HK
                    clear HB
                    clear HI0
                    have HO_228000 := n0_
                    have BK218 := n1_
                    have BK227 := n2_
                    have HK := n3_
                    have HB := n4_
                    have HI0 := n5_
                    clear n0_ n1_ n2_ n3_ n4_ n5_
                    (try clear hb)
                    (try clear hb2)
                    (try clear hk)
                    (try clear hi)
                    refine hK.out _ _ ⟨(zO BK227.out 0).trans rfl, (zO BK227.out 1).trans rfl⟩ (fun hHeld => ?_)
                    clear hK K
                    refine norm_ (a' := ?_) ?_ ?_
                    rotate_left
                    · show Act.put _ (some 49) _ = _
                      simp only [Act.put, List.setIfInBounds_toArray, List.set_cons_zero, List.set_cons_succ, i64_w, i32_w]
                      rfl
                    refine two_ (i := 4) (j := 10) (Ni := some 51) (Nj := some 7) #[true, true, true, true, true, false, false, false, false, false, false, false, false, false] #[true, true, true, true, false, false, false, false, false, false, true, false, false, false] rfl rfl rfl rfl (two_of HT_.out (by kernel_rfl)) (by decide) (by decide) (fun K hK => ?_) (fun K hK => ?_)
                    · skip
                      refine goes_ Try.func99 (by kernel_rfl) rfl #[.pointer (some ⟨g, 0, none⟩)] (by rfl) rfl rfl (by (try simp only [List.map_toArray, List.map_cons, List.map_nil]); first|done|rfl|(simp only [List.length_drop, List.length_take]; rfl)) ?_
                      with_reducible refine (spec_l03Val.calls g s0_0 t245 t246 t247 t248 t249 w0 _ ?side1 ?side2 A44.out).mono ?_
                      (case side1 => repeat (first|(with_reducible first|exact HI0.out|apply IsS119.alloc|apply IsS119.drewN|apply IsS119.drew|apply IsS119.set_1|apply IsS119.set_2|refine IsS119.far ?_ NB0_218.out _|refine IsS119.far ?_ NB0_227.out _)|exact HI0.out))
                      (case side2 => repeat (first|(with_reducible first|exact HB.out|apply zI|apply zG|apply zH|refine zJ ?_ (IsS119.ge HI0.out)|refine zJ ?_ GE218.out|refine zJ ?_ GE227.out)|exact HB.out))
                      rintro e w49 ⟨rfl, hi, hb, hk⟩
                      refine ⟨_, rfl, ?_⟩
                      have n0_ := Aside0.mk (zR (Kd.R_keep (IsS119.apart (show IsS119 w0 _ g s0_0 t245 t246 from by repeat (first|(with_reducible first|exact HI0.out|apply IsS119.alloc|apply IsS119.drewN|apply IsS119.drew|apply IsS119.set_1|apply IsS119.set_2|refine IsS119.far ?_ NB0_218.out _|refine IsS119.far ?_ NB0_227.out _)|exact HI0.out)) (by (with_reducible repeat (first|apply zE|apply zD|apply zF)); exact HO_228000.out) (by decide)) hk (fun _ h => h.2)) (fun _ h => h.1))
                      have n1_ := Aside0.mk (KeepBut.blk hk (g' := gb218) (o := .cells #[.slice none 0 0, .int .i64 0] 65 (0, 0)) (by (with_reducible repeat (first|refine zA ?_ _|refine zC ?_|refine zB ?_ _)); exact BK218.out) NB218_0.out (by simp))
                      have n2_ := Aside0.mk (KeepBut.blk hk (g' := gb227) (o := .cells #[.slice Ao20 x228000_1.length co20, .int .i64 x228001_1] 65 (0, 0)) (by (with_reducible repeat (first|refine zA ?_ _|refine zC ?_|refine zB ?_ _)); exact BK227.out) NB227_0.out (by simp))
                      have n3_ := Aside0.mk (KeepBut.trans (by repeat (first|(with_reducible first|exact HK.out|apply KeepBut.set_|apply keep_drewN|apply keep_drew|apply keep_alloc|refine keep_far ?_ GW218.out _|refine keep_far ?_ GW227.out _)|exact HK.out)) hk (.inl rfl))
                      have n4_ := Aside0.mk (hb)
                      have n5_ := Aside0.mk (hi)
                      clear HO_228000
                      clear BK218
                      clear BK227
                      clear HK
                      clear HB
                      clear HI0
                      have HO_228000 := n0_
                      have BK218 := n1_
                      have BK227 := n2_
                      have HK := n3_
                      have HB := n4_
                      have HI0 := n5_
                      clear n0_ n1_ n2_ n3_ n4_ n5_
                      (try clear hb)
                      (try clear hb2)
                      (try clear hk)
                      (try clear hi)
                      refine hK.out _ _ ⟨(zO BK227.out 0).trans rfl, (zO BK227.out 1).trans rfl⟩ (fun hHeld => ?_)
                      clear hK K
                      refine norm_ (a' := ?_) ?_ ?_
                      rotate_left
                      · show Act.put _ (some 51) _ = _
                        simp only [Act.put, List.setIfInBounds_toArray, List.set_cons_zero, List.set_cons_succ, i64_w, i32_w]
                        rfl
                      refine two_ (i := 5) (j := 10) (Ni := some 52) (Nj := some 7) #[true, true, true, true, true, true, false, false, false, false, false, false, false, false] #[true, true, true, true, true, false, false, false, false, false, true, false, false, false] rfl rfl rfl rfl (two_of HT_.out (by kernel_rfl)) (by decide) (by decide) (fun K hK => ?_) (fun K hK => ?_)
                      · skip
                        refine goes_ Try.func44 (by kernel_rfl) rfl #[.agg #[.slice Ao20 x228000_1.length co20, .int .i64 x228001_1], .string t244, .string t247] (by rfl) rfl rfl (by (try simp only [List.map_toArray, List.map_cons, List.map_nil]); first|done|rfl|(simp only [List.length_drop, List.length_take]; rfl)) ?_
                        with_reducible refine (spec_Lay.calls kj14 _ _ x228000_1 x228001_1 t244 t247 t250 t253 t254 true _ ?side1 ?side2 A45.out).mono ?_
                        (case side1 => repeat (first|exact (Kd.R_reads' HO_228000.out).2.2|(with_reducible refine Kd.C_alloc ?_ _)|(with_reducible refine Kd.C_drewN ?_ _)|(with_reducible refine Kd.C_drew ?_)))
                        (case side2 => exact (Kd.R_reads' HO_228000.out).2.1)
                        rintro e w50 ⟨v251, rfl, ho0, hb⟩
                        refine ⟨_, rfl, ?_⟩
                        have n0_ := Aside0.mk (Kd.R_elder' (by (with_reducible repeat (first|apply zE|apply zD|apply zF)); exact HO_228000.out) (Kd.R_base ho0) hb)
                        have n1_ := Aside0.mk (Kd.R_lower (Kd.R_new' ho0 (Kd.R_lt (by (with_reducible repeat (first|apply zE|apply zD|apply zF)); exact HO_228000.out))) (keep_size (w := w) (g := g) (row := none) (by repeat (first|(with_reducible first|exact HK.out|apply KeepBut.set_|apply keep_drewN|apply keep_drew|apply keep_alloc|refine keep_far ?_ GW218.out _|refine keep_far ?_ GW227.out _)|exact HK.out))))
                        have n2_ := Aside0.mk (zK (g := gb218) (o := .cells #[.slice none 0 0, .int .i64 0] 65 (0, 0)) (by (with_reducible repeat (first|refine zA ?_ _|refine zC ?_|refine zB ?_ _)); exact BK218.out) hb)
                        have n3_ := Aside0.mk (zK (g := gb227) (o := .cells #[.slice Ao20 x228000_1.length co20, .int .i64 x228001_1] 65 (0, 0)) (by (with_reducible repeat (first|refine zA ?_ _|refine zC ?_|refine zB ?_ _)); exact BK227.out) hb)
                        have n4_ := Aside0.mk (IsS119.below (by repeat (first|(with_reducible first|exact HI0.out|apply IsS119.alloc|apply IsS119.drewN|apply IsS119.drew|apply IsS119.set_1|apply IsS119.set_2|refine IsS119.far ?_ NB0_218.out _|refine IsS119.far ?_ NB0_227.out _)|exact HI0.out)) hb)
                        have n5_ := Aside0.mk (KeepBut.trans (by repeat (first|(with_reducible first|exact HK.out|apply KeepBut.set_|apply keep_drewN|apply keep_drew|apply keep_alloc|refine keep_far ?_ GW218.out _|refine keep_far ?_ GW227.out _)|exact HK.out)) (KeepBut.of_below hb g none) (.inl rfl))
                        have n6_ := Aside0.mk (zN (by repeat (first|(with_reducible first|exact HB.out|apply zI|apply zG|apply zH|refine zJ ?_ (IsS119.ge HI0.out)|refine zJ ?_ GE218.out|refine zJ ?_ GE227.out)|exact HB.out)) hb)
                        clear HO_228000
                        clear BK218
                        clear BK227
                        clear HI0
                        clear HK
                        clear HB
                        have HO_228000 := n0_
                        have HO252 := n1_
                        have BK218 := n2_
                        have BK227 := n3_
                        have HI0 := n4_
                        have HK := n5_
                        have HB := n6_
                        clear n0_ n1_ n2_ n3_ n4_ n5_ n6_
                        (try clear hb)
                        (try clear hb2)
                        (try clear hk)
                        (try clear hi)
                        (try clear ho0)
                        refine hK.out _ _ ⟨(zO BK227.out 0).trans rfl, (zO BK227.out 1).trans rfl⟩ (fun hHeld => ?_)
                        clear hK K
                        refine norm_ (a' := ?_) ?_ ?_
                        rotate_left
                        · show Act.put _ (some 52) _ = _
                          simp only [Act.put, List.setIfInBounds_toArray, List.set_cons_zero, List.set_cons_succ, i64_w, i32_w]
                          rfl
                        refine pure_ (i := 6) (N := some 46) (v := ?_) (a' := ?_) #[true, true, true, true, true, true, true, false, false, false, false, false, false, false] rfl rfl (any_of HT_.out (by kernel_rfl)) (fun _ _ _ h => h) (Or.inl ⟨by rfl, ?_⟩) ?_ ?_
                        rotate_left
                        · intro w'
                          go_simp
                          with_reducible rfl
                        rotate_left
                        · simp only [Act.put, List.setIfInBounds_toArray, List.set_cons_zero, List.set_cons_succ, i64_w, i32_w]
                          rfl
                        refine pure_ (i := 7) (N := some 53) (v := ?_) (a' := ?_) #[true, true, true, true, true, true, true, true, false, false, false, false, false, false] rfl rfl (any_of HT_.out (by kernel_rfl)) (fun _ _ _ h => h) (Or.inl ⟨by rfl, ?_⟩) ?_ ?_
                        rotate_left
                        · intro w'
                          go_simp
                          with_reducible rfl
                        rotate_left
                        · simp only [Act.put, List.setIfInBounds_toArray, List.set_cons_zero, List.set_cons_succ, i64_w, i32_w]
                          rfl
                        refine pure_ (i := 8) (N := some 54) (v := ?_) (a' := ?_) #[true, true, true, true, true, true, true, true, true, false, false, false, false, false] rfl rfl (any_of HT_.out (by kernel_rfl)) (fun _ _ _ h => h) (Or.inl ⟨by rfl, ?_⟩) ?_ ?_
                        rotate_left
                        · intro w'
                          go_simp
                          with_reducible rfl
                        rotate_left
                        · simp only [Act.put, List.setIfInBounds_toArray, List.set_cons_zero, List.set_cons_succ, i64_w, i32_w]
                          rfl
                        refine pure_ (i := 9) (N := some 55) (v := ?_) (a' := ?_) #[true, true, true, true, true, true, true, true, true, true, false, false, false, false] rfl rfl (any_of HT_.out (by kernel_rfl)) (fun _ _ _ h => h) (Or.inl ⟨by rfl, ?_⟩) ?_ ?_
                        rotate_left
                        · intro w'
                          go_simp
                          with_reducible rfl
                        rotate_left
                        · simp only [Act.put, List.setIfInBounds_toArray, List.set_cons_zero, List.set_cons_succ, i64_w, i32_w]
                          rfl
                        refine one_ (i := 10) (N := some 7) #[true, true, true, true, true, true, true, true, true, true, true, false, false, false] rfl rfl (one_of HT_.out (by kernel_rfl)) (by decide) (fun K hK => ?_)
                        refine box_step ?hg (N := 7) ?hd (cs := #[.slice none 0 0, .int .i64 0]) (t := 65) ?hr ?_; (case hd => rfl); (case hg => rfl); (case hr => first|(go_simp; done)|(go_simp; rfl))
                        intro gb256 hg w51 hbox hb
                        have n0_ := Aside0.mk (zM (by (with_reducible repeat (first|apply zE|apply zD|apply zF)); exact HO_228000.out) hb)
                        have n1_ := Aside0.mk (zM (by (with_reducible repeat (first|apply zE|apply zD|apply zF)); exact HO252.out) hb)
                        have n2_ := Aside0.mk (zK (g := gb218) (o := .cells #[.slice none 0 0, .int .i64 0] 65 (0, 0)) (by (with_reducible repeat (first|refine zA ?_ _|refine zC ?_|refine zB ?_ _)); exact BK218.out) hb)
                        have n3_ := Aside0.mk (zK (g := gb227) (o := .cells #[.slice Ao20 x228000_1.length co20, .int .i64 x228001_1] 65 (0, 0)) (by (with_reducible repeat (first|refine zA ?_ _|refine zC ?_|refine zB ?_ _)); exact BK227.out) hb)
                        have n4_ := Aside0.mk (IsS119.below (by repeat (first|(with_reducible first|exact HI0.out|apply IsS119.alloc|apply IsS119.drewN|apply IsS119.drew|apply IsS119.set_1|apply IsS119.set_2|refine IsS119.far ?_ NB0_218.out _|refine IsS119.far ?_ NB0_227.out _)|exact HI0.out)) hb)
                        have n5_ := Aside0.mk (KeepBut.trans (by repeat (first|(with_reducible first|exact HK.out|apply KeepBut.set_|apply keep_drewN|apply keep_drew|apply keep_alloc|refine keep_far ?_ GW218.out _|refine keep_far ?_ GW227.out _)|exact HK.out)) (KeepBut.of_below hb g none) (.inl rfl))
                        have n6_ := Aside0.mk (zN (by repeat (first|(with_reducible first|exact HB.out|apply zI|apply zG|apply zH|refine zJ ?_ (IsS119.ge HI0.out)|refine zJ ?_ GE218.out|refine zJ ?_ GE227.out)|exact HB.out)) hb)
                        have n7_ := Aside0.mk (hbox)
                        have n8_ := Aside0.mk ((by rw [hg]; exact (keep_size (w := w) (g := g) (row := none) (by repeat (first|(with_reducible first|exact HK.out|apply KeepBut.set_|apply keep_drewN|apply keep_drew|apply keep_alloc|refine keep_far ?_ GW218.out _|refine keep_far ?_ GW227.out _)|exact HK.out))) : w.heap.size ≤ gb256))
                        have n9_ := Aside0.mk ((Nat.le_trans HW0.out (by rw [hg]; exact (keep_size (w := w) (g := g) (row := none) (by repeat (first|(with_reducible first|exact HK.out|apply KeepBut.set_|apply keep_drewN|apply keep_drew|apply keep_alloc|refine keep_far ?_ GW218.out _|refine keep_far ?_ GW227.out _)|exact HK.out))) : w.heap.size ≤ gb256) : w0.heap.size ≤ gb256))
                        have n10_ := Aside0.mk ((by rw [hg]; exact Nat.ne_of_lt (blk_lt (g := gb218) (o := .cells #[.slice none 0 0, .int .i64 0] 65 (0, 0)) (by (with_reducible repeat (first|refine zA ?_ _|refine zC ?_|refine zB ?_ _)); exact BK218.out)) : gb218 ≠ gb256))
                        have n11_ := Aside0.mk ((by rw [hg]; exact Nat.ne_of_gt (blk_lt (g := gb218) (o := .cells #[.slice none 0 0, .int .i64 0] 65 (0, 0)) (by (with_reducible repeat (first|refine zA ?_ _|refine zC ?_|refine zB ?_ _)); exact BK218.out)) : gb256 ≠ gb218))
                        have n12_ := Aside0.mk ((by rw [hg]; exact Nat.ne_of_lt (blk_lt (g := gb227) (o := .cells #[.slice Ao20 x228000_1.length co20, .int .i64 x228001_1] 65 (0, 0)) (by (with_reducible repeat (first|refine zA ?_ _|refine zC ?_|refine zB ?_ _)); exact BK227.out)) : gb227 ≠ gb256))
                        have n13_ := Aside0.mk ((by rw [hg]; exact Nat.ne_of_gt (blk_lt (g := gb227) (o := .cells #[.slice Ao20 x228000_1.length co20, .int .i64 x228001_1] 65 (0, 0)) (by (with_reducible repeat (first|refine zA ?_ _|refine zC ?_|refine zB ?_ _)); exact BK227.out)) : gb256 ≠ gb227))
                        have n14_ := Aside0.mk ((by rw [hg]; exact Nat.ne_of_lt (IsS119.lt (show IsS119 w0 _ g s0_0 t248 t249 from by repeat (first|(with_reducible first|exact HI0.out|apply IsS119.alloc|apply IsS119.drewN|apply IsS119.drew|apply IsS119.set_1|apply IsS119.set_2|refine IsS119.far ?_ NB0_218.out _|refine IsS119.far ?_ NB0_227.out _)|exact HI0.out))) : g ≠ gb256))
                        have n15_ := Aside0.mk ((by rw [hg]; exact Nat.ne_of_gt (IsS119.lt (show IsS119 w0 _ g s0_0 t248 t249 from by repeat (first|(with_reducible first|exact HI0.out|apply IsS119.alloc|apply IsS119.drewN|apply IsS119.drew|apply IsS119.set_1|apply IsS119.set_2|refine IsS119.far ?_ NB0_218.out _|refine IsS119.far ?_ NB0_227.out _)|exact HI0.out))) : gb256 ≠ g))
                        clear HO_228000
                        clear HO252
                        clear BK218
                        clear BK227
                        clear HI0
                        clear HK
                        clear HB
                        have HO_228000 := n0_
                        have HO252 := n1_
                        have BK218 := n2_
                        have BK227 := n3_
                        have HI0 := n4_
                        have HK := n5_
                        have HB := n6_
                        have BK256 := n7_
                        have GW256 := n8_
                        have GE256 := n9_
                        have NB218_256 := n10_
                        have NB256_218 := n11_
                        have NB227_256 := n12_
                        have NB256_227 := n13_
                        have NB0_256 := n14_
                        have NB256_0 := n15_
                        clear n0_ n1_ n2_ n3_ n4_ n5_ n6_ n7_ n8_ n9_ n10_ n11_ n12_ n13_ n14_ n15_
                        clear hb hbox hg
                        refine hK.out _ _ ⟨(zO BK227.out 0).trans rfl, (zO BK227.out 1).trans rfl⟩ (fun hHeld => ?_)
                        clear hK K
                        refine norm_ (a' := ?_) ?_ ?_
                        rotate_left
                        · show Act.put _ (some 7) _ = _
                          simp only [Act.put, List.setIfInBounds_toArray, List.set_cons_zero, List.set_cons_succ, i64_w, i32_w]
                          rfl
                        exact norm_ (by simp only [putAll, Act.put, List.setIfInBounds_toArray, List.set_cons_zero, List.set_cons_succ]) (hCont (v251, gb256) _ ⟨hHeld, (by (with_reducible repeat (first|apply zE|apply zD|apply zF)); exact zR HO252.out (fun _ hk => hk.2)), (by (with_reducible repeat (first|apply zE|apply zD|apply zF)); exact zR HO_228000.out (fun _ hk => hk.2)), (by (with_reducible repeat (first|refine zA ?_ _|refine zC ?_|refine zB ?_ _)); exact BK218.out), (by (with_reducible repeat (first|refine zA ?_ _|refine zC ?_|refine zB ?_ _)); exact BK227.out), (by (with_reducible repeat (first|refine zA ?_ _|refine zC ?_|refine zB ?_ _)); exact BK256.out), GW256.out, GE256.out, NB0_256.out, NB256_0.out, NB218_256.out, NB256_218.out, NB227_256.out, NB256_227.out, (by repeat (first|(with_reducible first|exact HI0.out|apply IsS119.alloc|apply IsS119.drewN|apply IsS119.drew|apply IsS119.set_1|apply IsS119.set_2|refine IsS119.far ?_ NB0_218.out _|refine IsS119.far ?_ NB0_227.out _|refine IsS119.far ?_ NB0_256.out _)|exact HI0.out)), (by repeat (first|(with_reducible first|exact HK.out|apply KeepBut.set_|apply keep_drewN|apply keep_drew|apply keep_alloc|refine keep_far ?_ GW218.out _|refine keep_far ?_ GW227.out _|refine keep_far ?_ GW256.out _)|exact HK.out)), (by repeat (first|(with_reducible first|exact HB.out|apply zI|apply zG|apply zH|refine zJ ?_ (IsS119.ge HI0.out)|refine zJ ?_ GE218.out|refine zJ ?_ GE227.out|refine zJ ?_ GE256.out)|exact HB.out))⟩)
                      · skip
                        refine box_step ?hg (N := 7) ?hd (cs := #[.slice none 0 0, .int .i64 0]) (t := 65) ?hr ?_; (case hd => rfl); (case hg => rfl); (case hr => first|(go_simp; done)|(go_simp; rfl))
                        intro gb256 hg w50 hbox hb
                        have n0_ := Aside0.mk (zM (by (with_reducible repeat (first|apply zE|apply zD|apply zF)); exact HO_228000.out) hb)
                        have n1_ := Aside0.mk (zK (g := gb218) (o := .cells #[.slice none 0 0, .int .i64 0] 65 (0, 0)) (by (with_reducible repeat (first|refine zA ?_ _|refine zC ?_|refine zB ?_ _)); exact BK218.out) hb)
                        have n2_ := Aside0.mk (zK (g := gb227) (o := .cells #[.slice Ao20 x228000_1.length co20, .int .i64 x228001_1] 65 (0, 0)) (by (with_reducible repeat (first|refine zA ?_ _|refine zC ?_|refine zB ?_ _)); exact BK227.out) hb)
                        have n3_ := Aside0.mk (IsS119.below (by repeat (first|(with_reducible first|exact HI0.out|apply IsS119.alloc|apply IsS119.drewN|apply IsS119.drew|apply IsS119.set_1|apply IsS119.set_2|refine IsS119.far ?_ NB0_218.out _|refine IsS119.far ?_ NB0_227.out _)|exact HI0.out)) hb)
                        have n4_ := Aside0.mk (KeepBut.trans (by repeat (first|(with_reducible first|exact HK.out|apply KeepBut.set_|apply keep_drewN|apply keep_drew|apply keep_alloc|refine keep_far ?_ GW218.out _|refine keep_far ?_ GW227.out _)|exact HK.out)) (KeepBut.of_below hb g none) (.inl rfl))
                        have n5_ := Aside0.mk (zN (by repeat (first|(with_reducible first|exact HB.out|apply zI|apply zG|apply zH|refine zJ ?_ (IsS119.ge HI0.out)|refine zJ ?_ GE218.out|refine zJ ?_ GE227.out)|exact HB.out)) hb)
                        have n6_ := Aside0.mk (hbox)
                        have n7_ := Aside0.mk ((by rw [hg]; exact (keep_size (w := w) (g := g) (row := none) (by repeat (first|(with_reducible first|exact HK.out|apply KeepBut.set_|apply keep_drewN|apply keep_drew|apply keep_alloc|refine keep_far ?_ GW218.out _|refine keep_far ?_ GW227.out _)|exact HK.out))) : w.heap.size ≤ gb256))
                        have n8_ := Aside0.mk ((Nat.le_trans HW0.out (by rw [hg]; exact (keep_size (w := w) (g := g) (row := none) (by repeat (first|(with_reducible first|exact HK.out|apply KeepBut.set_|apply keep_drewN|apply keep_drew|apply keep_alloc|refine keep_far ?_ GW218.out _|refine keep_far ?_ GW227.out _)|exact HK.out))) : w.heap.size ≤ gb256) : w0.heap.size ≤ gb256))
                        have n9_ := Aside0.mk ((by rw [hg]; exact Nat.ne_of_lt (blk_lt (g := gb218) (o := .cells #[.slice none 0 0, .int .i64 0] 65 (0, 0)) (by (with_reducible repeat (first|refine zA ?_ _|refine zC ?_|refine zB ?_ _)); exact BK218.out)) : gb218 ≠ gb256))
                        have n10_ := Aside0.mk ((by rw [hg]; exact Nat.ne_of_gt (blk_lt (g := gb218) (o := .cells #[.slice none 0 0, .int .i64 0] 65 (0, 0)) (by (with_reducible repeat (first|refine zA ?_ _|refine zC ?_|refine zB ?_ _)); exact BK218.out)) : gb256 ≠ gb218))
                        have n11_ := Aside0.mk ((by rw [hg]; exact Nat.ne_of_lt (blk_lt (g := gb227) (o := .cells #[.slice Ao20 x228000_1.length co20, .int .i64 x228001_1] 65 (0, 0)) (by (with_reducible repeat (first|refine zA ?_ _|refine zC ?_|refine zB ?_ _)); exact BK227.out)) : gb227 ≠ gb256))
                        have n12_ := Aside0.mk ((by rw [hg]; exact Nat.ne_of_gt (blk_lt (g := gb227) (o := .cells #[.slice Ao20 x228000_1.length co20, .int .i64 x228001_1] 65 (0, 0)) (by (with_reducible repeat (first|refine zA ?_ _|refine zC ?_|refine zB ?_ _)); exact BK227.out)) : gb256 ≠ gb227))
                        have n13_ := Aside0.mk ((by rw [hg]; exact Nat.ne_of_lt (IsS119.lt (show IsS119 w0 _ g s0_0 t248 t249 from by repeat (first|(with_reducible first|exact HI0.out|apply IsS119.alloc|apply IsS119.drewN|apply IsS119.drew|apply IsS119.set_1|apply IsS119.set_2|refine IsS119.far ?_ NB0_218.out _|refine IsS119.far ?_ NB0_227.out _)|exact HI0.out))) : g ≠ gb256))
                        have n14_ := Aside0.mk ((by rw [hg]; exact Nat.ne_of_gt (IsS119.lt (show IsS119 w0 _ g s0_0 t248 t249 from by repeat (first|(with_reducible first|exact HI0.out|apply IsS119.alloc|apply IsS119.drewN|apply IsS119.drew|apply IsS119.set_1|apply IsS119.set_2|refine IsS119.far ?_ NB0_218.out _|refine IsS119.far ?_ NB0_227.out _)|exact HI0.out))) : gb256 ≠ g))
                        clear HO_228000
                        clear BK218
                        clear BK227
                        clear HI0
                        clear HK
                        clear HB
                        have HO_228000 := n0_
                        have BK218 := n1_
                        have BK227 := n2_
                        have HI0 := n3_
                        have HK := n4_
                        have HB := n5_
                        have BK256 := n6_
                        have GW256 := n7_
                        have GE256 := n8_
                        have NB218_256 := n9_
                        have NB256_218 := n10_
                        have NB227_256 := n11_
                        have NB256_227 := n12_
                        have NB0_256 := n13_
                        have NB256_0 := n14_
                        clear n0_ n1_ n2_ n3_ n4_ n5_ n6_ n7_ n8_ n9_ n10_ n11_ n12_ n13_ n14_
                        clear hb hbox hg
                        refine hK.out _ _ ⟨(zO BK227.out 0).trans rfl, (zO BK227.out 1).trans rfl⟩ (fun hHeld => ?_)
                        clear hK K
                        refine norm_ (a' := ?_) ?_ ?_
                        rotate_left
                        · show Act.put _ (some 7) _ = _
                          simp only [Act.put, List.setIfInBounds_toArray, List.set_cons_zero, List.set_cons_succ, i64_w, i32_w]
                          rfl
                        refine one_ (i := 5) (N := some 52) #[true, true, true, true, true, true, false, false, false, false, true, false, false, false] rfl rfl (one_of HT_.out (by kernel_rfl)) (by decide) (fun K hK => ?_)
                        refine goes_ Try.func44 (by kernel_rfl) rfl #[.agg #[.slice Ao20 x228000_1.length co20, .int .i64 x228001_1], .string t244, .string t247] (by rfl) rfl rfl (by (try simp only [List.map_toArray, List.map_cons, List.map_nil]); first|done|rfl|(simp only [List.length_drop, List.length_take]; rfl)) ?_
                        with_reducible refine (spec_Lay.calls kj14 _ _ x228000_1 x228001_1 t244 t247 t250 t253 t254 true _ ?side1 ?side2 A45.out).mono ?_
                        (case side1 => repeat (first|exact (Kd.R_reads' HO_228000.out).2.2|(with_reducible refine Kd.C_alloc ?_ _)|(with_reducible refine Kd.C_drewN ?_ _)|(with_reducible refine Kd.C_drew ?_)))
                        (case side2 => exact (Kd.R_reads' HO_228000.out).2.1)
                        rintro e w51 ⟨v251, rfl, ho0, hb⟩
                        refine ⟨_, rfl, ?_⟩
                        have n0_ := Aside0.mk (Kd.R_elder' (by (with_reducible repeat (first|apply zE|apply zD|apply zF)); exact HO_228000.out) (Kd.R_base ho0) hb)
                        have n1_ := Aside0.mk (Kd.R_lower (Kd.R_new' ho0 (Kd.R_lt (by (with_reducible repeat (first|apply zE|apply zD|apply zF)); exact HO_228000.out))) (keep_size (w := w) (g := g) (row := none) (by repeat (first|(with_reducible first|exact HK.out|apply KeepBut.set_|apply keep_drewN|apply keep_drew|apply keep_alloc|refine keep_far ?_ GW218.out _|refine keep_far ?_ GW227.out _|refine keep_far ?_ GW256.out _)|exact HK.out))))
                        have n2_ := Aside0.mk (zK (g := gb218) (o := .cells #[.slice none 0 0, .int .i64 0] 65 (0, 0)) (by (with_reducible repeat (first|refine zA ?_ _|refine zC ?_|refine zB ?_ _)); exact BK218.out) hb)
                        have n3_ := Aside0.mk (zK (g := gb227) (o := .cells #[.slice Ao20 x228000_1.length co20, .int .i64 x228001_1] 65 (0, 0)) (by (with_reducible repeat (first|refine zA ?_ _|refine zC ?_|refine zB ?_ _)); exact BK227.out) hb)
                        have n4_ := Aside0.mk (IsS119.below (by repeat (first|(with_reducible first|exact HI0.out|apply IsS119.alloc|apply IsS119.drewN|apply IsS119.drew|apply IsS119.set_1|apply IsS119.set_2|refine IsS119.far ?_ NB0_218.out _|refine IsS119.far ?_ NB0_227.out _|refine IsS119.far ?_ NB0_256.out _)|exact HI0.out)) hb)
                        have n5_ := Aside0.mk (zK (g := gb256) (o := .cells #[.slice none 0 0, .int .i64 0] 65 (0, 0)) (by (with_reducible repeat (first|refine zA ?_ _|refine zC ?_|refine zB ?_ _)); exact BK256.out) hb)
                        have n6_ := Aside0.mk (KeepBut.trans (by repeat (first|(with_reducible first|exact HK.out|apply KeepBut.set_|apply keep_drewN|apply keep_drew|apply keep_alloc|refine keep_far ?_ GW218.out _|refine keep_far ?_ GW227.out _|refine keep_far ?_ GW256.out _)|exact HK.out)) (KeepBut.of_below hb g none) (.inl rfl))
                        have n7_ := Aside0.mk (zN (by repeat (first|(with_reducible first|exact HB.out|apply zI|apply zG|apply zH|refine zJ ?_ (IsS119.ge HI0.out)|refine zJ ?_ GE218.out|refine zJ ?_ GE227.out|refine zJ ?_ GE256.out)|exact HB.out)) hb)
                        clear HO_228000
                        clear BK218
                        clear BK227
                        clear HI0
                        clear BK256
                        clear HK
                        clear HB
                        have HO_228000 := n0_
                        have HO252 := n1_
                        have BK218 := n2_
                        have BK227 := n3_
                        have HI0 := n4_
                        have BK256 := n5_
                        have HK := n6_
                        have HB := n7_
                        clear n0_ n1_ n2_ n3_ n4_ n5_ n6_ n7_
                        (try clear hb)
                        (try clear hb2)
                        (try clear hk)
                        (try clear hi)
                        (try clear ho0)
                        refine hK.out _ _ ⟨(zO BK227.out 0).trans rfl, (zO BK227.out 1).trans rfl⟩ (fun hHeld => ?_)
                        clear hK K
                        refine norm_ (a' := ?_) ?_ ?_
                        rotate_left
                        · show Act.put _ (some 52) _ = _
                          simp only [Act.put, List.setIfInBounds_toArray, List.set_cons_zero, List.set_cons_succ, i64_w, i32_w]
                          rfl
                        refine pure_ (i := 6) (N := some 46) (v := ?_) (a' := ?_) #[true, true, true, true, true, true, true, false, false, false, true, false, false, false] rfl rfl (any_of HT_.out (by kernel_rfl)) (fun _ _ _ h => h) (Or.inl ⟨by rfl, ?_⟩) ?_ ?_
                        rotate_left
                        · intro w'
                          go_simp
                          with_reducible rfl
                        rotate_left
                        · simp only [Act.put, List.setIfInBounds_toArray, List.set_cons_zero, List.set_cons_succ, i64_w, i32_w]
                          rfl
                        refine pure_ (i := 7) (N := some 53) (v := ?_) (a' := ?_) #[true, true, true, true, true, true, true, true, false, false, true, false, false, false] rfl rfl (any_of HT_.out (by kernel_rfl)) (fun _ _ _ h => h) (Or.inl ⟨by rfl, ?_⟩) ?_ ?_
                        rotate_left
                        · intro w'
                          go_simp
                          with_reducible rfl
                        rotate_left
                        · simp only [Act.put, List.setIfInBounds_toArray, List.set_cons_zero, List.set_cons_succ, i64_w, i32_w]
                          rfl
                        refine pure_ (i := 8) (N := some 54) (v := ?_) (a' := ?_) #[true, true, true, true, true, true, true, true, true, false, true, false, false, false] rfl rfl (any_of HT_.out (by kernel_rfl)) (fun _ _ _ h => h) (Or.inl ⟨by rfl, ?_⟩) ?_ ?_
                        rotate_left
                        · intro w'
                          go_simp
                          with_reducible rfl
                        rotate_left
                        · simp only [Act.put, List.setIfInBounds_toArray, List.set_cons_zero, List.set_cons_succ, i64_w, i32_w]
                          rfl
                        refine pure_ (i := 9) (N := some 55) (v := ?_) (a' := ?_) #[true, true, true, true, true, true, true, true, true, true, true, false, false, false] rfl rfl (any_of HT_.out (by kernel_rfl)) (fun _ _ _ h => h) (Or.inl ⟨by rfl, ?_⟩) ?_ ?_
                        rotate_left
                        · intro w'
                          go_simp
                          with_reducible rfl
                        rotate_left
                        · simp only [Act.put, List.setIfInBounds_toArray, List.set_cons_zero, List.set_cons_succ, i64_w, i32_w]
                          rfl
                        exact norm_ (by simp only [putAll, Act.put, List.setIfInBounds_toArray, List.set_cons_zero, List.set_cons_succ]) (hCont (v251, gb256) _ ⟨hHeld, (by (with_reducible repeat (first|apply zE|apply zD|apply zF)); exact zR HO252.out (fun _ hk => hk.2)), (by (with_reducible repeat (first|apply zE|apply zD|apply zF)); exact zR HO_228000.out (fun _ hk => hk.2)), (by (with_reducible repeat (first|refine zA ?_ _|refine zC ?_|refine zB ?_ _)); exact BK218.out), (by (with_reducible repeat (first|refine zA ?_ _|refine zC ?_|refine zB ?_ _)); exact BK227.out), (by (with_reducible repeat (first|refine zA ?_ _|refine zC ?_|refine zB ?_ _)); exact BK256.out), GW256.out, GE256.out, NB0_256.out, NB256_0.out, NB218_256.out, NB256_218.out, NB227_256.out, NB256_227.out, (by repeat (first|(with_reducible first|exact HI0.out|apply IsS119.alloc|apply IsS119.drewN|apply IsS119.drew|apply IsS119.set_1|apply IsS119.set_2|refine IsS119.far ?_ NB0_218.out _|refine IsS119.far ?_ NB0_227.out _|refine IsS119.far ?_ NB0_256.out _)|exact HI0.out)), (by repeat (first|(with_reducible first|exact HK.out|apply KeepBut.set_|apply keep_drewN|apply keep_drew|apply keep_alloc|refine keep_far ?_ GW218.out _|refine keep_far ?_ GW227.out _|refine keep_far ?_ GW256.out _)|exact HK.out)), (by repeat (first|(with_reducible first|exact HB.out|apply zI|apply zG|apply zH|refine zJ ?_ (IsS119.ge HI0.out)|refine zJ ?_ GE218.out|refine zJ ?_ GE227.out|refine zJ ?_ GE256.out)|exact HB.out))⟩)
                    · skip
                      refine box_step ?hg (N := 7) ?hd (cs := #[.slice none 0 0, .int .i64 0]) (t := 65) ?hr ?_; (case hd => rfl); (case hg => rfl); (case hr => first|(go_simp; done)|(go_simp; rfl))
                      intro gb256 hg w49 hbox hb
                      have n0_ := Aside0.mk (zM (by (with_reducible repeat (first|apply zE|apply zD|apply zF)); exact HO_228000.out) hb)
                      have n1_ := Aside0.mk (zK (g := gb218) (o := .cells #[.slice none 0 0, .int .i64 0] 65 (0, 0)) (by (with_reducible repeat (first|refine zA ?_ _|refine zC ?_|refine zB ?_ _)); exact BK218.out) hb)
                      have n2_ := Aside0.mk (zK (g := gb227) (o := .cells #[.slice Ao20 x228000_1.length co20, .int .i64 x228001_1] 65 (0, 0)) (by (with_reducible repeat (first|refine zA ?_ _|refine zC ?_|refine zB ?_ _)); exact BK227.out) hb)
                      have n3_ := Aside0.mk (IsS119.below (by repeat (first|(with_reducible first|exact HI0.out|apply IsS119.alloc|apply IsS119.drewN|apply IsS119.drew|apply IsS119.set_1|apply IsS119.set_2|refine IsS119.far ?_ NB0_218.out _|refine IsS119.far ?_ NB0_227.out _)|exact HI0.out)) hb)
                      have n4_ := Aside0.mk (KeepBut.trans (by repeat (first|(with_reducible first|exact HK.out|apply KeepBut.set_|apply keep_drewN|apply keep_drew|apply keep_alloc|refine keep_far ?_ GW218.out _|refine keep_far ?_ GW227.out _)|exact HK.out)) (KeepBut.of_below hb g none) (.inl rfl))
                      have n5_ := Aside0.mk (zN (by repeat (first|(with_reducible first|exact HB.out|apply zI|apply zG|apply zH|refine zJ ?_ (IsS119.ge HI0.out)|refine zJ ?_ GE218.out|refine zJ ?_ GE227.out)|exact HB.out)) hb)
                      have n6_ := Aside0.mk (hbox)
                      have n7_ := Aside0.mk ((by rw [hg]; exact (keep_size (w := w) (g := g) (row := none) (by repeat (first|(with_reducible first|exact HK.out|apply KeepBut.set_|apply keep_drewN|apply keep_drew|apply keep_alloc|refine keep_far ?_ GW218.out _|refine keep_far ?_ GW227.out _)|exact HK.out))) : w.heap.size ≤ gb256))
                      have n8_ := Aside0.mk ((Nat.le_trans HW0.out (by rw [hg]; exact (keep_size (w := w) (g := g) (row := none) (by repeat (first|(with_reducible first|exact HK.out|apply KeepBut.set_|apply keep_drewN|apply keep_drew|apply keep_alloc|refine keep_far ?_ GW218.out _|refine keep_far ?_ GW227.out _)|exact HK.out))) : w.heap.size ≤ gb256) : w0.heap.size ≤ gb256))
                      have n9_ := Aside0.mk ((by rw [hg]; exact Nat.ne_of_lt (blk_lt (g := gb218) (o := .cells #[.slice none 0 0, .int .i64 0] 65 (0, 0)) (by (with_reducible repeat (first|refine zA ?_ _|refine zC ?_|refine zB ?_ _)); exact BK218.out)) : gb218 ≠ gb256))
                      have n10_ := Aside0.mk ((by rw [hg]; exact Nat.ne_of_gt (blk_lt (g := gb218) (o := .cells #[.slice none 0 0, .int .i64 0] 65 (0, 0)) (by (with_reducible repeat (first|refine zA ?_ _|refine zC ?_|refine zB ?_ _)); exact BK218.out)) : gb256 ≠ gb218))
                      have n11_ := Aside0.mk ((by rw [hg]; exact Nat.ne_of_lt (blk_lt (g := gb227) (o := .cells #[.slice Ao20 x228000_1.length co20, .int .i64 x228001_1] 65 (0, 0)) (by (with_reducible repeat (first|refine zA ?_ _|refine zC ?_|refine zB ?_ _)); exact BK227.out)) : gb227 ≠ gb256))
                      have n12_ := Aside0.mk ((by rw [hg]; exact Nat.ne_of_gt (blk_lt (g := gb227) (o := .cells #[.slice Ao20 x228000_1.length co20, .int .i64 x228001_1] 65 (0, 0)) (by (with_reducible repeat (first|refine zA ?_ _|refine zC ?_|refine zB ?_ _)); exact BK227.out)) : gb256 ≠ gb227))
                      have n13_ := Aside0.mk ((by rw [hg]; exact Nat.ne_of_lt (IsS119.lt (show IsS119 w0 _ g s0_0 t245 t246 from by repeat (first|(with_reducible first|exact HI0.out|apply IsS119.alloc|apply IsS119.drewN|apply IsS119.drew|apply IsS119.set_1|apply IsS119.set_2|refine IsS119.far ?_ NB0_218.out _|refine IsS119.far ?_ NB0_227.out _)|exact HI0.out))) : g ≠ gb256))
                      have n14_ := Aside0.mk ((by rw [hg]; exact Nat.ne_of_gt (IsS119.lt (show IsS119 w0 _ g s0_0 t245 t246 from by repeat (first|(with_reducible first|exact HI0.out|apply IsS119.alloc|apply IsS119.drewN|apply IsS119.drew|apply IsS119.set_1|apply IsS119.set_2|refine IsS119.far ?_ NB0_218.out _|refine IsS119.far ?_ NB0_227.out _)|exact HI0.out))) : gb256 ≠ g))
                      clear HO_228000
                      clear BK218
                      clear BK227
                      clear HI0
                      clear HK
                      clear HB
                      have HO_228000 := n0_
                      have BK218 := n1_
                      have BK227 := n2_
                      have HI0 := n3_
                      have HK := n4_
                      have HB := n5_
                      have BK256 := n6_
                      have GW256 := n7_
                      have GE256 := n8_
                      have NB218_256 := n9_
                      have NB256_218 := n10_
                      have NB227_256 := n11_
                      have NB256_227 := n12_
                      have NB0_256 := n13_
                      have NB256_0 := n14_
                      clear n0_ n1_ n2_ n3_ n4_ n5_ n6_ n7_ n8_ n9_ n10_ n11_ n12_ n13_ n14_
                      clear hb hbox hg
                      refine hK.out _ _ ⟨(zO BK227.out 0).trans rfl, (zO BK227.out 1).trans rfl⟩ (fun hHeld => ?_)
                      clear hK K
                      refine norm_ (a' := ?_) ?_ ?_
                      rotate_left
                      · show Act.put _ (some 7) _ = _
                        simp only [Act.put, List.setIfInBounds_toArray, List.set_cons_zero, List.set_cons_succ, i64_w, i32_w]
                        rfl
                      refine one_ (i := 4) (N := some 51) #[true, true, true, true, true, false, false, false, false, false, true, false, false, false] rfl rfl (one_of HT_.out (by kernel_rfl)) (by decide) (fun K hK => ?_)
                      refine goes_ Try.func99 (by kernel_rfl) rfl #[.pointer (some ⟨g, 0, none⟩)] (by rfl) rfl rfl (by (try simp only [List.map_toArray, List.map_cons, List.map_nil]); first|done|rfl|(simp only [List.length_drop, List.length_take]; rfl)) ?_
                      with_reducible refine (spec_l03Val.calls g s0_0 t245 t246 t247 t248 t249 w0 _ ?side1 ?side2 A44.out).mono ?_
                      (case side1 => repeat (first|(with_reducible first|exact HI0.out|apply IsS119.alloc|apply IsS119.drewN|apply IsS119.drew|apply IsS119.set_1|apply IsS119.set_2|refine IsS119.far ?_ NB0_218.out _|refine IsS119.far ?_ NB0_227.out _|refine IsS119.far ?_ NB0_256.out _)|exact HI0.out))
                      (case side2 => repeat (first|(with_reducible first|exact HB.out|apply zI|apply zG|apply zH|refine zJ ?_ (IsS119.ge HI0.out)|refine zJ ?_ GE218.out|refine zJ ?_ GE227.out|refine zJ ?_ GE256.out)|exact HB.out))
                      rintro e w50 ⟨rfl, hi, hb, hk⟩
                      refine ⟨_, rfl, ?_⟩
                      have n0_ := Aside0.mk (zR (Kd.R_keep (IsS119.apart (show IsS119 w0 _ g s0_0 t245 t246 from by repeat (first|(with_reducible first|exact HI0.out|apply IsS119.alloc|apply IsS119.drewN|apply IsS119.drew|apply IsS119.set_1|apply IsS119.set_2|refine IsS119.far ?_ NB0_218.out _|refine IsS119.far ?_ NB0_227.out _|refine IsS119.far ?_ NB0_256.out _)|exact HI0.out)) (by (with_reducible repeat (first|apply zE|apply zD|apply zF)); exact HO_228000.out) (by decide)) hk (fun _ h => h.2)) (fun _ h => h.1))
                      have n1_ := Aside0.mk (KeepBut.blk hk (g' := gb218) (o := .cells #[.slice none 0 0, .int .i64 0] 65 (0, 0)) (by (with_reducible repeat (first|refine zA ?_ _|refine zC ?_|refine zB ?_ _)); exact BK218.out) NB218_0.out (by simp))
                      have n2_ := Aside0.mk (KeepBut.blk hk (g' := gb227) (o := .cells #[.slice Ao20 x228000_1.length co20, .int .i64 x228001_1] 65 (0, 0)) (by (with_reducible repeat (first|refine zA ?_ _|refine zC ?_|refine zB ?_ _)); exact BK227.out) NB227_0.out (by simp))
                      have n3_ := Aside0.mk (KeepBut.blk hk (g' := gb256) (o := .cells #[.slice none 0 0, .int .i64 0] 65 (0, 0)) (by (with_reducible repeat (first|refine zA ?_ _|refine zC ?_|refine zB ?_ _)); exact BK256.out) NB256_0.out (by simp))
                      have n4_ := Aside0.mk (KeepBut.trans (by repeat (first|(with_reducible first|exact HK.out|apply KeepBut.set_|apply keep_drewN|apply keep_drew|apply keep_alloc|refine keep_far ?_ GW218.out _|refine keep_far ?_ GW227.out _|refine keep_far ?_ GW256.out _)|exact HK.out)) hk (.inl rfl))
                      have n5_ := Aside0.mk (hb)
                      have n6_ := Aside0.mk (hi)
                      clear HO_228000
                      clear BK218
                      clear BK227
                      clear BK256
                      clear HK
                      clear HB
                      clear HI0
                      have HO_228000 := n0_
                      have BK218 := n1_
                      have BK227 := n2_
                      have BK256 := n3_
                      have HK := n4_
                      have HB := n5_
                      have HI0 := n6_
                      clear n0_ n1_ n2_ n3_ n4_ n5_ n6_
                      (try clear hb)
                      (try clear hb2)
                      (try clear hk)
                      (try clear hi)
                      refine hK.out _ _ ⟨(zO BK227.out 0).trans rfl, (zO BK227.out 1).trans rfl⟩ (fun hHeld => ?_)
                      clear hK K
                      refine norm_ (a' := ?_) ?_ ?_
                      rotate_left
                      · show Act.put _ (some 51) _ = _
                        simp only [Act.put, List.setIfInBounds_toArray, List.set_cons_zero, List.set_cons_succ, i64_w, i32_w]
                        rfl
                      refine one_ (i := 5) (N := some 52) #[true, true, true, true, true, true, false, false, false, false, true, false, false, false] rfl rfl (one_of HT_.out (by kernel_rfl)) (by decide) (fun K hK => ?_)
                      refine goes_ Try.func44 (by kernel_rfl) rfl #[.agg #[.slice Ao20 x228000_1.length co20, .int .i64 x228001_1], .string t244, .string t247] (by rfl) rfl rfl (by (try simp only [List.map_toArray, List.map_cons, List.map_nil]); first|done|rfl|(simp only [List.length_drop, List.length_take]; rfl)) ?_
                      with_reducible refine (spec_Lay.calls kj14 _ _ x228000_1 x228001_1 t244 t247 t250 t253 t254 true _ ?side1 ?side2 A45.out).mono ?_
                      (case side1 => repeat (first|exact (Kd.R_reads' HO_228000.out).2.2|(with_reducible refine Kd.C_alloc ?_ _)|(with_reducible refine Kd.C_drewN ?_ _)|(with_reducible refine Kd.C_drew ?_)))
                      (case side2 => exact (Kd.R_reads' HO_228000.out).2.1)
                      rintro e w51 ⟨v251, rfl, ho0, hb⟩
                      refine ⟨_, rfl, ?_⟩
                      have n0_ := Aside0.mk (Kd.R_elder' (by (with_reducible repeat (first|apply zE|apply zD|apply zF)); exact HO_228000.out) (Kd.R_base ho0) hb)
                      have n1_ := Aside0.mk (Kd.R_lower (Kd.R_new' ho0 (Kd.R_lt (by (with_reducible repeat (first|apply zE|apply zD|apply zF)); exact HO_228000.out))) (keep_size (w := w) (g := g) (row := none) (by repeat (first|(with_reducible first|exact HK.out|apply KeepBut.set_|apply keep_drewN|apply keep_drew|apply keep_alloc|refine keep_far ?_ GW218.out _|refine keep_far ?_ GW227.out _|refine keep_far ?_ GW256.out _)|exact HK.out))))
                      have n2_ := Aside0.mk (zK (g := gb218) (o := .cells #[.slice none 0 0, .int .i64 0] 65 (0, 0)) (by (with_reducible repeat (first|refine zA ?_ _|refine zC ?_|refine zB ?_ _)); exact BK218.out) hb)
                      have n3_ := Aside0.mk (zK (g := gb227) (o := .cells #[.slice Ao20 x228000_1.length co20, .int .i64 x228001_1] 65 (0, 0)) (by (with_reducible repeat (first|refine zA ?_ _|refine zC ?_|refine zB ?_ _)); exact BK227.out) hb)
                      have n4_ := Aside0.mk (IsS119.below (by repeat (first|(with_reducible first|exact HI0.out|apply IsS119.alloc|apply IsS119.drewN|apply IsS119.drew|apply IsS119.set_1|apply IsS119.set_2|refine IsS119.far ?_ NB0_218.out _|refine IsS119.far ?_ NB0_227.out _|refine IsS119.far ?_ NB0_256.out _)|exact HI0.out)) hb)
                      have n5_ := Aside0.mk (zK (g := gb256) (o := .cells #[.slice none 0 0, .int .i64 0] 65 (0, 0)) (by (with_reducible repeat (first|refine zA ?_ _|refine zC ?_|refine zB ?_ _)); exact BK256.out) hb)
                      have n6_ := Aside0.mk (KeepBut.trans (by repeat (first|(with_reducible first|exact HK.out|apply KeepBut.set_|apply keep_drewN|apply keep_drew|apply keep_alloc|refine keep_far ?_ GW218.out _|refine keep_far ?_ GW227.out _|refine keep_far ?_ GW256.out _)|exact HK.out)) (KeepBut.of_below hb g none) (.inl rfl))
                      have n7_ := Aside0.mk (zN (by repeat (first|(with_reducible first|exact HB.out|apply zI|apply zG|apply zH|refine zJ ?_ (IsS119.ge HI0.out)|refine zJ ?_ GE218.out|refine zJ ?_ GE227.out|refine zJ ?_ GE256.out)|exact HB.out)) hb)
                      clear HO_228000
                      clear BK218
                      clear BK227
                      clear HI0
                      clear BK256
                      clear HK
                      clear HB
                      have HO_228000 := n0_
                      have HO252 := n1_
                      have BK218 := n2_
                      have BK227 := n3_
                      have HI0 := n4_
                      have BK256 := n5_
                      have HK := n6_
                      have HB := n7_
                      clear n0_ n1_ n2_ n3_ n4_ n5_ n6_ n7_
                      (try clear hb)
                      (try clear hb2)
                      (try clear hk)
                      (try clear hi)
                      (try clear ho0)
                      refine hK.out _ _ ⟨(zO BK227.out 0).trans rfl, (zO BK227.out 1).trans rfl⟩ (fun hHeld => ?_)
                      clear hK K
                      refine norm_ (a' := ?_) ?_ ?_
                      rotate_left
                      · show Act.put _ (some 52) _ = _
                        simp only [Act.put, List.setIfInBounds_toArray, List.set_cons_zero, List.set_cons_succ, i64_w, i32_w]
                        rfl
                      refine pure_ (i := 6) (N := some 46) (v := ?_) (a' := ?_) #[true, true, true, true, true, true, true, false, false, false, true, false, false, false] rfl rfl (any_of HT_.out (by kernel_rfl)) (fun _ _ _ h => h) (Or.inl ⟨by rfl, ?_⟩) ?_ ?_
                      rotate_left
                      · intro w'
                        go_simp
                        with_reducible rfl
                      rotate_left
                      · simp only [Act.put, List.setIfInBounds_toArray, List.set_cons_zero, List.set_cons_succ, i64_w, i32_w]
                        rfl
                      refine pure_ (i := 7) (N := some 53) (v := ?_) (a' := ?_) #[true, true, true, true, true, true, true, true, false, false, true, false, false, false] rfl rfl (any_of HT_.out (by kernel_rfl)) (fun _ _ _ h => h) (Or.inl ⟨by rfl, ?_⟩) ?_ ?_
                      rotate_left
                      · intro w'
                        go_simp
                        with_reducible rfl
                      rotate_left
                      · simp only [Act.put, List.setIfInBounds_toArray, List.set_cons_zero, List.set_cons_succ, i64_w, i32_w]
                        rfl
                      refine pure_ (i := 8) (N := some 54) (v := ?_) (a' := ?_) #[true, true, true, true, true, true, true, true, true, false, true, false, false, false] rfl rfl (any_of HT_.out (by kernel_rfl)) (fun _ _ _ h => h) (Or.inl ⟨by rfl, ?_⟩) ?_ ?_
                      rotate_left
                      · intro w'
                        go_simp
                        with_reducible rfl
                      rotate_left
                      · simp only [Act.put, List.setIfInBounds_toArray, List.set_cons_zero, List.set_cons_succ, i64_w, i32_w]
                        rfl
                      refine pure_ (i := 9) (N := some 55) (v := ?_) (a' := ?_) #[true, true, true, true, true, true, true, true, true, true, true, false, false, false] rfl rfl (any_of HT_.out (by kernel_rfl)) (fun _ _ _ h => h) (Or.inl ⟨by rfl, ?_⟩) ?_ ?_
                      rotate_left
                      · intro w'
                        go_simp
                        with_reducible rfl
                      rotate_left
                      · simp only [Act.put, List.setIfInBounds_toArray, List.set_cons_zero, List.set_cons_succ, i64_w, i32_w]
                        rfl
                      exact norm_ (by simp only [putAll, Act.put, List.setIfInBounds_toArray, List.set_cons_zero, List.set_cons_succ]) (hCont (v251, gb256) _ ⟨hHeld, (by (with_reducible repeat (first|apply zE|apply zD|apply zF)); exact zR HO252.out (fun _ hk => hk.2)), (by (with_reducible repeat (first|apply zE|apply zD|apply zF)); exact zR HO_228000.out (fun _ hk => hk.2)), (by (with_reducible repeat (first|refine zA ?_ _|refine zC ?_|refine zB ?_ _)); exact BK218.out), (by (with_reducible repeat (first|refine zA ?_ _|refine zC ?_|refine zB ?_ _)); exact BK227.out), (by (with_reducible repeat (first|refine zA ?_ _|refine zC ?_|refine zB ?_ _)); exact BK256.out), GW256.out, GE256.out, NB0_256.out, NB256_0.out, NB218_256.out, NB256_218.out, NB227_256.out, NB256_227.out, (by repeat (first|(with_reducible first|exact HI0.out|apply IsS119.alloc|apply IsS119.drewN|apply IsS119.drew|apply IsS119.set_1|apply IsS119.set_2|refine IsS119.far ?_ NB0_218.out _|refine IsS119.far ?_ NB0_227.out _|refine IsS119.far ?_ NB0_256.out _)|exact HI0.out)), (by repeat (first|(with_reducible first|exact HK.out|apply KeepBut.set_|apply keep_drewN|apply keep_drew|apply keep_alloc|refine keep_far ?_ GW218.out _|refine keep_far ?_ GW227.out _|refine keep_far ?_ GW256.out _)|exact HK.out)), (by repeat (first|(with_reducible first|exact HB.out|apply zI|apply zG|apply zH|refine zJ ?_ (IsS119.ge HI0.out)|refine zJ ?_ GE218.out|refine zJ ?_ GE227.out|refine zJ ?_ GE256.out)|exact HB.out))⟩)
                  · skip
                    refine box_step ?hg (N := 7) ?hd (cs := #[.slice none 0 0, .int .i64 0]) (t := 65) ?hr ?_; (case hd => rfl); (case hg => rfl); (case hr => first|(go_simp; done)|(go_simp; rfl))
                    intro gb256 hg w48 hbox hb
                    have n0_ := Aside0.mk (zM (by (with_reducible repeat (first|apply zE|apply zD|apply zF)); exact HO_228000.out) hb)
                    have n1_ := Aside0.mk (zK (g := gb218) (o := .cells #[.slice none 0 0, .int .i64 0] 65 (0, 0)) (by (with_reducible repeat (first|refine zA ?_ _|refine zC ?_|refine zB ?_ _)); exact BK218.out) hb)
                    have n2_ := Aside0.mk (zK (g := gb227) (o := .cells #[.slice Ao20 x228000_1.length co20, .int .i64 x228001_1] 65 (0, 0)) (by (with_reducible repeat (first|refine zA ?_ _|refine zC ?_|refine zB ?_ _)); exact BK227.out) hb)
                    have n3_ := Aside0.mk (IsS119.below (by repeat (first|(with_reducible first|exact HI0.out|apply IsS119.alloc|apply IsS119.drewN|apply IsS119.drew|apply IsS119.set_1|apply IsS119.set_2|refine IsS119.far ?_ NB0_218.out _|refine IsS119.far ?_ NB0_227.out _)|exact HI0.out)) hb)
                    have n4_ := Aside0.mk (KeepBut.trans (by repeat (first|(with_reducible first|exact HK.out|apply KeepBut.set_|apply keep_drewN|apply keep_drew|apply keep_alloc|refine keep_far ?_ GW218.out _|refine keep_far ?_ GW227.out _)|exact HK.out)) (KeepBut.of_below hb g none) (.inl rfl))
                    have n5_ := Aside0.mk (zN (by repeat (first|(with_reducible first|exact HB.out|apply zI|apply zG|apply zH|refine zJ ?_ (IsS119.ge HI0.out)|refine zJ ?_ GE218.out|refine zJ ?_ GE227.out)|exact HB.out)) hb)
                    have n6_ := Aside0.mk (hbox)
                    have n7_ := Aside0.mk ((by rw [hg]; exact (keep_size (w := w) (g := g) (row := none) (by repeat (first|(with_reducible first|exact HK.out|apply KeepBut.set_|apply keep_drewN|apply keep_drew|apply keep_alloc|refine keep_far ?_ GW218.out _|refine keep_far ?_ GW227.out _)|exact HK.out))) : w.heap.size ≤ gb256))
                    have n8_ := Aside0.mk ((Nat.le_trans HW0.out (by rw [hg]; exact (keep_size (w := w) (g := g) (row := none) (by repeat (first|(with_reducible first|exact HK.out|apply KeepBut.set_|apply keep_drewN|apply keep_drew|apply keep_alloc|refine keep_far ?_ GW218.out _|refine keep_far ?_ GW227.out _)|exact HK.out))) : w.heap.size ≤ gb256) : w0.heap.size ≤ gb256))
                    have n9_ := Aside0.mk ((by rw [hg]; exact Nat.ne_of_lt (blk_lt (g := gb218) (o := .cells #[.slice none 0 0, .int .i64 0] 65 (0, 0)) (by (with_reducible repeat (first|refine zA ?_ _|refine zC ?_|refine zB ?_ _)); exact BK218.out)) : gb218 ≠ gb256))
                    have n10_ := Aside0.mk ((by rw [hg]; exact Nat.ne_of_gt (blk_lt (g := gb218) (o := .cells #[.slice none 0 0, .int .i64 0] 65 (0, 0)) (by (with_reducible repeat (first|refine zA ?_ _|refine zC ?_|refine zB ?_ _)); exact BK218.out)) : gb256 ≠ gb218))
                    have n11_ := Aside0.mk ((by rw [hg]; exact Nat.ne_of_lt (blk_lt (g := gb227) (o := .cells #[.slice Ao20 x228000_1.length co20, .int .i64 x228001_1] 65 (0, 0)) (by (with_reducible repeat (first|refine zA ?_ _|refine zC ?_|refine zB ?_ _)); exact BK227.out)) : gb227 ≠ gb256))
                    have n12_ := Aside0.mk ((by rw [hg]; exact Nat.ne_of_gt (blk_lt (g := gb227) (o := .cells #[.slice Ao20 x228000_1.length co20, .int .i64 x228001_1] 65 (0, 0)) (by (with_reducible repeat (first|refine zA ?_ _|refine zC ?_|refine zB ?_ _)); exact BK227.out)) : gb256 ≠ gb227))
                    have n13_ := Aside0.mk ((by rw [hg]; exact Nat.ne_of_lt (IsS119.lt (show IsS119 w0 _ g s0_0 x1001_14 x1002_14 from by repeat (first|(with_reducible first|exact HI0.out|apply IsS119.alloc|apply IsS119.drewN|apply IsS119.drew|apply IsS119.set_1|apply IsS119.set_2|refine IsS119.far ?_ NB0_218.out _|refine IsS119.far ?_ NB0_227.out _)|exact HI0.out))) : g ≠ gb256))
                    have n14_ := Aside0.mk ((by rw [hg]; exact Nat.ne_of_gt (IsS119.lt (show IsS119 w0 _ g s0_0 x1001_14 x1002_14 from by repeat (first|(with_reducible first|exact HI0.out|apply IsS119.alloc|apply IsS119.drewN|apply IsS119.drew|apply IsS119.set_1|apply IsS119.set_2|refine IsS119.far ?_ NB0_218.out _|refine IsS119.far ?_ NB0_227.out _)|exact HI0.out))) : gb256 ≠ g))
                    clear HO_228000
                    clear BK218
                    clear BK227
                    clear HI0
                    clear HK
                    clear HB
                    have HO_228000 := n0_
                    have BK218 := n1_
                    have BK227 := n2_
                    have HI0 := n3_
                    have HK := n4_
                    have HB := n5_
                    have BK256 := n6_
                    have GW256 := n7_
                    have GE256 := n8_
                    have NB218_256 := n9_
                    have NB256_218 := n10_
                    have NB227_256 := n11_
                    have NB256_227 := n12_
                    have NB0_256 := n13_
                    have NB256_0 := n14_
                    clear n0_ n1_ n2_ n3_ n4_ n5_ n6_ n7_ n8_ n9_ n10_ n11_ n12_ n13_ n14_
                    clear hb hbox hg
                    refine hK.out _ _ ⟨(zO BK227.out 0).trans rfl, (zO BK227.out 1).trans rfl⟩ (fun hHeld => ?_)
                    clear hK K
                    refine norm_ (a' := ?_) ?_ ?_
                    rotate_left
                    · show Act.put _ (some 7) _ = _
                      simp only [Act.put, List.setIfInBounds_toArray, List.set_cons_zero, List.set_cons_succ, i64_w, i32_w]
                      rfl
                    refine one_ (i := 2) (N := some 49) #[true, true, true, true, false, false, false, false, false, false, true, false, false, false] rfl rfl (one_of HT_.out (by kernel_rfl)) (by decide) (fun K hK => ?_)
                    refine goes_ Try.func74 (by kernel_rfl) rfl #[.pointer (some ⟨g, 0, none⟩)] (by rfl) rfl rfl (by (try simp only [List.map_toArray, List.map_cons, List.map_nil]); first|done|rfl|(simp only [List.length_drop, List.length_take]; rfl)) ?_
                    with_reducible refine (spec_l03Key.calls g s0_0 x1001_14 x1002_14 t244 t245 t246 w0 _ ?side1 ?side2 A43.out).mono ?_
                    (case side1 => repeat (first|(with_reducible first|exact HI0.out|apply IsS119.alloc|apply IsS119.drewN|apply IsS119.drew|apply IsS119.set_1|apply IsS119.set_2|refine IsS119.far ?_ NB0_218.out _|refine IsS119.far ?_ NB0_227.out _|refine IsS119.far ?_ NB0_256.out _)|exact HI0.out))
                    (case side2 => repeat (first|(with_reducible first|exact HB.out|apply zI|apply zG|apply zH|refine zJ ?_ (IsS119.ge HI0.out)|refine zJ ?_ GE218.out|refine zJ ?_ GE227.out|refine zJ ?_ GE256.out)|exact HB.out))
                    rintro e w49 ⟨rfl, hi, hb, hk⟩
                    refine ⟨_, rfl, ?_⟩
                    have n0_ := Aside0.mk (zR (Kd.R_keep (IsS119.apart (show IsS119 w0 _ g s0_0 x1001_14 x1002_14 from by repeat (first|(with_reducible first|exact HI0.out|apply IsS119.alloc|apply IsS119.drewN|apply IsS119.drew|apply IsS119.set_1|apply IsS119.set_2|refine IsS119.far ?_ NB0_218.out _|refine IsS119.far ?_ NB0_227.out _|refine IsS119.far ?_ NB0_256.out _)|exact HI0.out)) (by (with_reducible repeat (first|apply zE|apply zD|apply zF)); exact HO_228000.out) (by decide)) hk (fun _ h => h.2)) (fun _ h => h.1))
                    have n1_ := Aside0.mk (KeepBut.blk hk (g' := gb218) (o := .cells #[.slice none 0 0, .int .i64 0] 65 (0, 0)) (by (with_reducible repeat (first|refine zA ?_ _|refine zC ?_|refine zB ?_ _)); exact BK218.out) NB218_0.out (by simp))
                    have n2_ := Aside0.mk (KeepBut.blk hk (g' := gb227) (o := .cells #[.slice Ao20 x228000_1.length co20, .int .i64 x228001_1] 65 (0, 0)) (by (with_reducible repeat (first|refine zA ?_ _|refine zC ?_|refine zB ?_ _)); exact BK227.out) NB227_0.out (by simp))
                    have n3_ := Aside0.mk (KeepBut.blk hk (g' := gb256) (o := .cells #[.slice none 0 0, .int .i64 0] 65 (0, 0)) (by (with_reducible repeat (first|refine zA ?_ _|refine zC ?_|refine zB ?_ _)); exact BK256.out) NB256_0.out (by simp))
                    have n4_ := Aside0.mk (KeepBut.trans (by repeat (first|(with_reducible first|exact HK.out|apply KeepBut.set_|apply keep_drewN|apply keep_drew|apply keep_alloc|refine keep_far ?_ GW218.out _|refine keep_far ?_ GW227.out _|refine keep_far ?_ GW256.out _)|exact HK.out)) hk (.inl rfl))
                    have n5_ := Aside0.mk (hb)
                    have n6_ := Aside0.mk (hi)
                    clear HO_228000
                    clear BK218
                    clear BK227
                    clear BK256
                    clear HK
                    clear HB
                    clear HI0
                    have HO_228000 := n0_
                    have BK218 := n1_
                    have BK227 := n2_
                    have BK256 := n3_
                    have HK := n4_
                    have HB := n5_
                    have HI0 := n6_
                    clear n0_ n1_ n2_ n3_ n4_ n5_ n6_
                    (try clear hb)
                    (try clear hb2)
                    (try clear hk)
                    (try clear hi)
                    refine hK.out _ _ ⟨(zO BK227.out 0).trans rfl, (zO BK227.out 1).trans rfl⟩ (fun hHeld => ?_)
                    clear hK K
                    refine norm_ (a' := ?_) ?_ ?_
                    rotate_left
                    · show Act.put _ (some 49) _ = _
                      simp only [Act.put, List.setIfInBounds_toArray, List.set_cons_zero, List.set_cons_succ, i64_w, i32_w]
                      rfl
                    refine one_ (i := 4) (N := some 51) #[true, true, true, true, true, false, false, false, false, false, true, false, false, false] rfl rfl (one_of HT_.out (by kernel_rfl)) (by decide) (fun K hK => ?_)
                    refine goes_ Try.func99 (by kernel_rfl) rfl #[.pointer (some ⟨g, 0, none⟩)] (by rfl) rfl rfl (by (try simp only [List.map_toArray, List.map_cons, List.map_nil]); first|done|rfl|(simp only [List.length_drop, List.length_take]; rfl)) ?_
                    with_reducible refine (spec_l03Val.calls g s0_0 t245 t246 t247 t248 t249 w0 _ ?side1 ?side2 A44.out).mono ?_
                    (case side1 => repeat (first|(with_reducible first|exact HI0.out|apply IsS119.alloc|apply IsS119.drewN|apply IsS119.drew|apply IsS119.set_1|apply IsS119.set_2|refine IsS119.far ?_ NB0_218.out _|refine IsS119.far ?_ NB0_227.out _|refine IsS119.far ?_ NB0_256.out _)|exact HI0.out))
                    (case side2 => repeat (first|(with_reducible first|exact HB.out|apply zI|apply zG|apply zH|refine zJ ?_ (IsS119.ge HI0.out)|refine zJ ?_ GE218.out|refine zJ ?_ GE227.out|refine zJ ?_ GE256.out)|exact HB.out))
                    rintro e w50 ⟨rfl, hi, hb, hk⟩
                    refine ⟨_, rfl, ?_⟩
                    have n0_ := Aside0.mk (zR (Kd.R_keep (IsS119.apart (show IsS119 w0 _ g s0_0 t245 t246 from by repeat (first|(with_reducible first|exact HI0.out|apply IsS119.alloc|apply IsS119.drewN|apply IsS119.drew|apply IsS119.set_1|apply IsS119.set_2|refine IsS119.far ?_ NB0_218.out _|refine IsS119.far ?_ NB0_227.out _|refine IsS119.far ?_ NB0_256.out _)|exact HI0.out)) (by (with_reducible repeat (first|apply zE|apply zD|apply zF)); exact HO_228000.out) (by decide)) hk (fun _ h => h.2)) (fun _ h => h.1))
                    have n1_ := Aside0.mk (KeepBut.blk hk (g' := gb218) (o := .cells #[.slice none 0 0, .int .i64 0] 65 (0, 0)) (by (with_reducible repeat (first|refine zA ?_ _|refine zC ?_|refine zB ?_ _)); exact BK218.out) NB218_0.out (by simp))
                    have n2_ := Aside0.mk (KeepBut.blk hk (g' := gb227) (o := .cells #[.slice Ao20 x228000_1.length co20, .int .i64 x228001_1] 65 (0, 0)) (by (with_reducible repeat (first|refine zA ?_ _|refine zC ?_|refine zB ?_ _)); exact BK227.out) NB227_0.out (by simp))
                    have n3_ := Aside0.mk (KeepBut.blk hk (g' := gb256) (o := .cells #[.slice none 0 0, .int .i64 0] 65 (0, 0)) (by (with_reducible repeat (first|refine zA ?_ _|refine zC ?_|refine zB ?_ _)); exact BK256.out) NB256_0.out (by simp))
                    have n4_ := Aside0.mk (KeepBut.trans (by repeat (first|(with_reducible first|exact HK.out|apply KeepBut.set_|apply keep_drewN|apply keep_drew|apply keep_alloc|refine keep_far ?_ GW218.out _|refine keep_far ?_ GW227.out _|refine keep_far ?_ GW256.out _)|exact HK.out)) hk (.inl rfl))
                    have n5_ := Aside0.mk (hb)
                    have n6_ := Aside0.mk (hi)
                    clear HO_228000
                    clear BK218
                    clear BK227
                    clear BK256
                    clear HK
                    clear HB
                    clear HI0
                    have HO_228000 := n0_
                    have BK218 := n1_
                    have BK227 := n2_
                    have BK256 := n3_
                    have HK := n4_
                    have HB := n5_
                    have HI0 := n6_
                    clear n0_ n1_ n2_ n3_ n4_ n5_ n6_
                    (try clear hb)
                    (try clear hb2)
                    (try clear hk)
                    (try clear hi)
                    refine hK.out _ _ ⟨(zO BK227.out 0).trans rfl, (zO BK227.out 1).trans rfl⟩ (fun hHeld => ?_)
                    clear hK K
                    refine norm_ (a' := ?_) ?_ ?_
                    rotate_left
                    · show Act.put _ (some 51) _ = _
                      simp only [Act.put, List.setIfInBounds_toArray, List.set_cons_zero, List.set_cons_succ, i64_w, i32_w]
                      rfl
                    refine one_ (i := 5) (N := some 52) #[true, true, true, true, true, true, false, false, false, false, true, false, false, false] rfl rfl (one_of HT_.out (by kernel_rfl)) (by decide) (fun K hK => ?_)
                    refine goes_ Try.func44 (by kernel_rfl) rfl #[.agg #[.slice Ao20 x228000_1.length co20, .int .i64 x228001_1], .string t244, .string t247] (by rfl) rfl rfl (by (try simp only [List.map_toArray, List.map_cons, List.map_nil]); first|done|rfl|(simp only [List.length_drop, List.length_take]; rfl)) ?_
                    with_reducible refine (spec_Lay.calls kj14 _ _ x228000_1 x228001_1 t244 t247 t250 t253 t254 true _ ?side1 ?side2 A45.out).mono ?_
                    (case side1 => repeat (first|exact (Kd.R_reads' HO_228000.out).2.2|(with_reducible refine Kd.C_alloc ?_ _)|(with_reducible refine Kd.C_drewN ?_ _)|(with_reducible refine Kd.C_drew ?_)))
                    (case side2 => exact (Kd.R_reads' HO_228000.out).2.1)
                    rintro e w51 ⟨v251, rfl, ho0, hb⟩
                    refine ⟨_, rfl, ?_⟩
                    have n0_ := Aside0.mk (Kd.R_elder' (by (with_reducible repeat (first|apply zE|apply zD|apply zF)); exact HO_228000.out) (Kd.R_base ho0) hb)
                    have n1_ := Aside0.mk (Kd.R_lower (Kd.R_new' ho0 (Kd.R_lt (by (with_reducible repeat (first|apply zE|apply zD|apply zF)); exact HO_228000.out))) (keep_size (w := w) (g := g) (row := none) (by repeat (first|(with_reducible first|exact HK.out|apply KeepBut.set_|apply keep_drewN|apply keep_drew|apply keep_alloc|refine keep_far ?_ GW218.out _|refine keep_far ?_ GW227.out _|refine keep_far ?_ GW256.out _)|exact HK.out))))
                    have n2_ := Aside0.mk (zK (g := gb218) (o := .cells #[.slice none 0 0, .int .i64 0] 65 (0, 0)) (by (with_reducible repeat (first|refine zA ?_ _|refine zC ?_|refine zB ?_ _)); exact BK218.out) hb)
                    have n3_ := Aside0.mk (zK (g := gb227) (o := .cells #[.slice Ao20 x228000_1.length co20, .int .i64 x228001_1] 65 (0, 0)) (by (with_reducible repeat (first|refine zA ?_ _|refine zC ?_|refine zB ?_ _)); exact BK227.out) hb)
                    have n4_ := Aside0.mk (IsS119.below (by repeat (first|(with_reducible first|exact HI0.out|apply IsS119.alloc|apply IsS119.drewN|apply IsS119.drew|apply IsS119.set_1|apply IsS119.set_2|refine IsS119.far ?_ NB0_218.out _|refine IsS119.far ?_ NB0_227.out _|refine IsS119.far ?_ NB0_256.out _)|exact HI0.out)) hb)
                    have n5_ := Aside0.mk (zK (g := gb256) (o := .cells #[.slice none 0 0, .int .i64 0] 65 (0, 0)) (by (with_reducible repeat (first|refine zA ?_ _|refine zC ?_|refine zB ?_ _)); exact BK256.out) hb)
                    have n6_ := Aside0.mk (KeepBut.trans (by repeat (first|(with_reducible first|exact HK.out|apply KeepBut.set_|apply keep_drewN|apply keep_drew|apply keep_alloc|refine keep_far ?_ GW218.out _|refine keep_far ?_ GW227.out _|refine keep_far ?_ GW256.out _)|exact HK.out)) (KeepBut.of_below hb g none) (.inl rfl))
                    have n7_ := Aside0.mk (zN (by repeat (first|(with_reducible first|exact HB.out|apply zI|apply zG|apply zH|refine zJ ?_ (IsS119.ge HI0.out)|refine zJ ?_ GE218.out|refine zJ ?_ GE227.out|refine zJ ?_ GE256.out)|exact HB.out)) hb)
                    clear HO_228000
                    clear BK218
                    clear BK227
                    clear HI0
                    clear BK256
                    clear HK
                    clear HB
                    have HO_228000 := n0_
                    have HO252 := n1_
                    have BK218 := n2_
                    have BK227 := n3_
                    have HI0 := n4_
                    have BK256 := n5_
                    have HK := n6_
                    have HB := n7_
                    clear n0_ n1_ n2_ n3_ n4_ n5_ n6_ n7_
                    (try clear hb)
                    (try clear hb2)
                    (try clear hk)
                    (try clear hi)
                    (try clear ho0)
                    refine hK.out _ _ ⟨(zO BK227.out 0).trans rfl, (zO BK227.out 1).trans rfl⟩ (fun hHeld => ?_)
                    clear hK K
                    refine norm_ (a' := ?_) ?_ ?_
                    rotate_left
                    · show Act.put _ (some 52) _ = _
                      simp only [Act.put, List.setIfInBounds_toArray, List.set_cons_zero, List.set_cons_succ, i64_w, i32_w]
                      rfl
                    refine pure_ (i := 6) (N := some 46) (v := ?_) (a' := ?_) #[true, true, true, true, true, true, true, false, false, false, true, false, false, false] rfl rfl (any_of HT_.out (by kernel_rfl)) (fun _ _ _ h => h) (Or.inl ⟨by rfl, ?_⟩) ?_ ?_
                    rotate_left
                    · intro w'
                      go_simp
                      with_reducible rfl
                    rotate_left
                    · simp only [Act.put, List.setIfInBounds_toArray, List.set_cons_zero, List.set_cons_succ, i64_w, i32_w]
                      rfl
                    refine pure_ (i := 7) (N := some 53) (v := ?_) (a' := ?_) #[true, true, true, true, true, true, true, true, false, false, true, false, false, false] rfl rfl (any_of HT_.out (by kernel_rfl)) (fun _ _ _ h => h) (Or.inl ⟨by rfl, ?_⟩) ?_ ?_
                    rotate_left
                    · intro w'
                      go_simp
                      with_reducible rfl
                    rotate_left
                    · simp only [Act.put, List.setIfInBounds_toArray, List.set_cons_zero, List.set_cons_succ, i64_w, i32_w]
                      rfl
                    refine pure_ (i := 8) (N := some 54) (v := ?_) (a' := ?_) #[true, true, true, true, true, true, true, true, true, false, true, false, false, false] rfl rfl (any_of HT_.out (by kernel_rfl)) (fun _ _ _ h => h) (Or.inl ⟨by rfl, ?_⟩) ?_ ?_
                    rotate_left
                    · intro w'
                      go_simp
                      with_reducible rfl
                    rotate_left
                    · simp only [Act.put, List.setIfInBounds_toArray, List.set_cons_zero, List.set_cons_succ, i64_w, i32_w]
                      rfl
                    refine pure_ (i := 9) (N := some 55) (v := ?_) (a' := ?_) #[true, true, true, true, true, true, true, true, true, true, true, false, false, false] rfl rfl (any_of HT_.out (by kernel_rfl)) (fun _ _ _ h => h) (Or.inl ⟨by rfl, ?_⟩) ?_ ?_
                    rotate_left
                    · intro w'
                      go_simp
                      with_reducible rfl
                    rotate_left
                    · simp only [Act.put, List.setIfInBounds_toArray, List.set_cons_zero, List.set_cons_succ, i64_w, i32_w]
                      rfl
                    exact norm_ (by simp only [putAll, Act.put, List.setIfInBounds_toArray, List.set_cons_zero, List.set_cons_succ]) (hCont (v251, gb256) _ ⟨hHeld, (by (with_reducible repeat (first|apply zE|apply zD|apply zF)); exact zR HO252.out (fun _ hk => hk.2)), (by (with_reducible repeat (first|apply zE|apply zD|apply zF)); exact zR HO_228000.out (fun _ hk => hk.2)), (by (with_reducible repeat (first|refine zA ?_ _|refine zC ?_|refine zB ?_ _)); exact BK218.out), (by (with_reducible repeat (first|refine zA ?_ _|refine zC ?_|refine zB ?_ _)); exact BK227.out), (by (with_reducible repeat (first|refine zA ?_ _|refine zC ?_|refine zB ?_ _)); exact BK256.out), GW256.out, GE256.out, NB0_256.out, NB256_0.out, NB218_256.out, NB256_218.out, NB227_256.out, NB256_227.out, (by repeat (first|(with_reducible first|exact HI0.out|apply IsS119.alloc|apply IsS119.drewN|apply IsS119.drew|apply IsS119.set_1|apply IsS119.set_2|refine IsS119.far ?_ NB0_218.out _|refine IsS119.far ?_ NB0_227.out _|refine IsS119.far ?_ NB0_256.out _)|exact HI0.out)), (by repeat (first|(with_reducible first|exact HK.out|apply KeepBut.set_|apply keep_drewN|apply keep_drew|apply keep_alloc|refine keep_far ?_ GW218.out _|refine keep_far ?_ GW227.out _|refine keep_far ?_ GW256.out _)|exact HK.out)), (by repeat (first|(with_reducible first|exact HB.out|apply zI|apply zG|apply zH|refine zJ ?_ (IsS119.ge HI0.out)|refine zJ ?_ GE218.out|refine zJ ?_ GE227.out|refine zJ ?_ GE256.out)|exact HB.out))⟩)
                rintro ⟨v251, gb256⟩ w52 ⟨hS_, h0_, h1_, h2_, h3_, h4_, h5_, h6_, h7_, h8_, h9_, h10_, h11_, h12_, h13_, h14_, h15_⟩
                have n0_ : Aside0 (Kd.R k81 81 w52 w.heap.size (fun k_ => some k_ ≠ (.slice Ao20 x228000_1.length co20 : Value).ownBlock) v251 t250) := ⟨h0_⟩
                have n1_ : Aside0 (Kd.R k81 81 w52 w.heap.size (fun k_ => some k_ ≠ (v251 : Value).ownBlock) (.slice Ao20 x228000_1.length co20) x228000_1) := ⟨h1_⟩
                have n2_ : Aside0 (w52.heap[gb218]? = some (.cells #[.slice none 0 0, .int .i64 0] 65 (0, 0))) := ⟨h2_⟩
                have n3_ : Aside0 (w52.heap[gb227]? = some (.cells #[.slice Ao20 x228000_1.length co20, .int .i64 x228001_1] 65 (0, 0))) := ⟨h3_⟩
                have n4_ : Aside0 (w52.heap[gb256]? = some (.cells #[.slice none 0 0, .int .i64 0] 65 (0, 0))) := ⟨h4_⟩
                have n5_ : Aside0 (w.heap.size ≤ gb256) := ⟨h5_⟩
                have n6_ : Aside0 (w0.heap.size ≤ gb256) := ⟨h6_⟩
                have n7_ : Aside0 (g ≠ gb256) := ⟨h7_⟩
                have n8_ : Aside0 (gb256 ≠ g) := ⟨h8_⟩
                have n9_ : Aside0 (gb218 ≠ gb256) := ⟨h9_⟩
                have n10_ : Aside0 (gb256 ≠ gb218) := ⟨h10_⟩
                have n11_ : Aside0 (gb227 ≠ gb256) := ⟨h11_⟩
                have n12_ : Aside0 (gb256 ≠ gb227) := ⟨h12_⟩
                have n13_ : Aside0 (IsS119 w0 w52 g s0_0 t248 t249) := ⟨h13_⟩
                have n14_ : Aside0 (KeepBut w w52 g none) := ⟨h14_⟩
                have n15_ : Aside0 (Below w0.heap.size w0 w52) := ⟨h15_⟩
                clear HO_228000
                clear BK218
                clear BK227
                clear HI0
                clear HK
                clear HB
                clear h0_ h1_ h2_ h3_ h4_ h5_ h6_ h7_ h8_ h9_ h10_ h11_ h12_ h13_ h14_ h15_
                have HO252 := n0_
                have HO_228000 := n1_
                have BK218 := n2_
                have BK227 := n3_
                have BK256 := n4_
                have GW256 := n5_
                have GE256 := n6_
                have NB0_256 := n7_
                have NB256_0 := n8_
                have NB218_256 := n9_
                have NB256_218 := n10_
                have NB227_256 := n11_
                have NB256_227 := n12_
                have HI0 := n13_
                have HK := n14_
                have HB := n15_
                clear n0_ n1_ n2_ n3_ n4_ n5_ n6_ n7_ n8_ n9_ n10_ n11_ n12_ n13_ n14_ n15_
                have hHeld : w52.cell? ⟨gb227, 0, none⟩ = some (.slice Ao20 x228000_1.length co20) ∧ w52.cell? ⟨gb227, 1, none⟩ = some (.int .i64 x228001_1) := hS_
                obtain ⟨Ao53, co53, eo53⟩ := Kd.R_slice HO252.out
                (first|subst eo53|(injection eo53 with f1_ f2_ f3_; have f4_ := f1_.symm; have f5_ := f3_.symm; clear f1_ f2_ f3_; subst f4_; subst f5_))
                refine norm_ (a' := ?_) ?_ ?_
                rotate_left
                · simp only [putAll, Act.put, List.setIfInBounds_toArray, List.set_cons_zero, List.set_cons_succ]
                  rfl
                refine one_ (i := 11) (N := none) #[true, true, true, true, true, true, true, true, true, true, true, true, false, false] rfl rfl (one_of HT_.out (by kernel_rfl)) (by decide) (fun K hK => ?_)
                have hs54 : w52.cell? ⟨gb256, 0, none⟩ = some (.slice none 0 0) := (zO BK256.out 0).trans rfl
                have hfs54 := zP BK256.out 0
                have hns54_0 := NB218_256.out
                have hns54_1 := NB227_256.out
                have hms54_0 := NB256_218.out
                have hms54_1 := NB256_227.out
                have hs55 : w52.cell? ⟨gb256, 1, none⟩ = some (.int .i64 0) := (zO BK256.out 1).trans rfl
                have hfs55 := zP BK256.out 1
                have hns55_0 := NB218_256.out
                have hns55_1 := NB227_256.out
                have hms55_0 := NB256_218.out
                have hms55_1 := NB256_227.out
                refine skip_ (w1 := ?_) (by rfl) rfl ?_ ?_
                rotate_left
                · go_simp
                  rfl
                refine hK.out _ _ ⟨((cell_far (p := ⟨gb256, _, none⟩) NB227_256.out _).trans (((cell_far (p := ⟨gb256, _, none⟩) NB227_256.out _).trans (hHeld.1)))), ((cell_far (p := ⟨gb256, _, none⟩) NB227_256.out _).trans (((cell_far (p := ⟨gb256, _, none⟩) NB227_256.out _).trans (hHeld.2))))⟩ (fun hHeld => ?_)
                clear hK K
                refine pure_ (i := 12) (N := some 8) (v := ?_) (a' := ?_) #[true, true, true, true, true, true, true, true, true, true, true, true, true, false] rfl rfl (any_of HT_.out (by kernel_rfl)) (fun _ _ _ h => h) (Or.inl ⟨by rfl, ?_⟩) ?_ ?_
                rotate_left
                · intro w'
                  go_simp
                  with_reducible rfl
                rotate_left
                · simp only [Act.put, List.setIfInBounds_toArray, List.set_cons_zero, List.set_cons_succ, i64_w, i32_w]
                  rfl
                refine pure_ (i := 13) (N := some 9) (v := ?_) (a' := ?_) #[true, true, true, true, true, true, true, true, true, true, true, true, true, true] rfl rfl (any_of HT_.out (by kernel_rfl)) (fun _ _ _ h => h) (Or.inl ⟨by rfl, ?_⟩) ?_ ?_
                rotate_left
                · intro w'
                  go_simp
                  with_reducible rfl
                rotate_left
                · simp only [Act.put, List.setIfInBounds_toArray, List.set_cons_zero, List.set_cons_succ, i64_w, i32_w]
                  rfl
                refine done_ (done_of HT_.out (by kernel_rfl)) ?_
                have hnb56 := NB256_218.out
                have hnc56 := NB218_256.out
                have hnb57 := NB256_227.out
                have hnc57 := NB227_256.out
                have hnb58 := NB256_0.out
                have hnc58 := NB0_256.out
                obtain ⟨hcz59_0, hcz59_1, hfz59_0, hfz59_1⟩ := zb2 BK256.out
                have hnb60 := NB227_218.out
                have hnc60 := NB218_227.out
                have hnb61 := NB227_0.out
                have hnc61 := NB0_227.out
                obtain ⟨hcz62_0, hcz62_1, hfz62_0, hfz62_1⟩ := zb2 BK227.out
                try go_wp2
                go_roundg kj14
                case measure => have := HK1.out; have := HJ14.out; omega
                case rel => exact ⟨(wrap64 (x5_1 + 1)), (t248), (t249), (t250), (t253), (.slice Ao53 t250.length co53), (by first|rfl|(simp; done)|(simp [*]; done)), H', ⟨by have := HK1.out; have := HJ14.out; omega⟩, ⟨by (with_reducible repeat (first|apply zE|apply zD|apply zF)); exact zR (zL (p := ⟨gb227, 1, none⟩) (zL (p := ⟨gb227, 0, none⟩) (zL (p := ⟨gb256, 1, none⟩) (zL (p := ⟨gb256, 0, none⟩) (zQ (zQ HO252.out BK256.out (by decide)) BK227.out (by decide)) (fun _ hk => hk.1.2) (.slice Ao53 t250.length co53)) (fun _ hk => hk.1.2) (.int .i64 t253)) (fun _ hk => hk.2) (.slice Ao53 t250.length co53)) (fun _ hk => hk.2) (.int .i64 t253)) (fun _ hk => trivial)⟩, ⟨by (with_reducible repeat (first|refine zA ?_ _|refine zC ?_|refine zB ?_ _)); refine zT ?_ NB218_227.out _; (with_reducible repeat (first|refine zA ?_ _|refine zC ?_|refine zB ?_ _)); refine zT ?_ NB218_227.out _; (with_reducible repeat (first|refine zA ?_ _|refine zC ?_|refine zB ?_ _)); refine zT ?_ NB218_256.out _; (with_reducible repeat (first|refine zA ?_ _|refine zC ?_|refine zB ?_ _)); refine zT ?_ NB218_256.out _; (with_reducible repeat (first|refine zA ?_ _|refine zC ?_|refine zB ?_ _)); exact BK218.out⟩, ⟨by (with_reducible repeat (first|refine zA ?_ _|refine zC ?_|refine zB ?_ _)); refine blk_put (cs := #[.slice Ao53 t250.length co53, .int .i64 x228001_1]) ?_ 1 _ rfl; (with_reducible repeat (first|refine zA ?_ _|refine zC ?_|refine zB ?_ _)); refine blk_put (cs := #[.slice Ao20 x228000_1.length co20, .int .i64 x228001_1]) ?_ 0 _ rfl; (with_reducible repeat (first|refine zA ?_ _|refine zC ?_|refine zB ?_ _)); refine zT ?_ NB227_256.out _; (with_reducible repeat (first|refine zA ?_ _|refine zC ?_|refine zB ?_ _)); refine zT ?_ NB227_256.out _; (with_reducible repeat (first|refine zA ?_ _|refine zC ?_|refine zB ?_ _)); exact BK227.out⟩, ⟨by repeat (first|(with_reducible first|exact HI0.out|apply IsS119.alloc|apply IsS119.drewN|apply IsS119.drew|apply IsS119.set_1|apply IsS119.set_2|refine IsS119.far ?_ NB0_218.out _|refine IsS119.far ?_ NB0_227.out _|refine IsS119.far ?_ NB0_256.out _)|exact HI0.out)⟩, ⟨by repeat (first|(with_reducible first|exact HK.out|apply KeepBut.set_|apply keep_drewN|apply keep_drew|apply keep_alloc|refine keep_far ?_ GW218.out _|refine keep_far ?_ GW227.out _|refine keep_far ?_ GW256.out _)|exact HK.out)⟩, ⟨by repeat (first|(with_reducible first|exact HB.out|apply zI|apply zG|apply zH|refine zJ ?_ (IsS119.ge HI0.out)|refine zJ ?_ GE218.out|refine zJ ?_ GE227.out|refine zJ ?_ GE256.out)|exact HB.out)⟩⟩
              · replace c46 := Bool.eq_false_iff.mpr c46
                subst c46
                have H1 : (spec_l03Arena.l0 kj14 (wrap64 (x5_1 + 1)) s0_0 t248 t249 x228000_1 x228001_1) = some (r1, r2, r3, r4) := by rw [if_neg (show ¬ (false = true) by decide)] at H; exact H
                clear H
                have H := H1
                clear H1
                have H' := Aside0.mk H
                clear H
                try go_wp2
                have n0_ := Aside0.mk (zF HO_228000.out)
                have n1_ := Aside0.mk (zC BK218.out)
                have n2_ := Aside0.mk (zC BK227.out)
                have n3_ := Aside0.mk (IsS119.drew HI0.out)
                have n4_ := Aside0.mk (keep_drew HK.out)
                have n5_ := Aside0.mk (zH HB.out)
                clear HO_228000
                clear BK218
                clear BK227
                clear HI0
                clear HK
                clear HB
                have HO_228000 := n0_
                have BK218 := n1_
                have BK227 := n2_
                have HI0 := n3_
                have HK := n4_
                have HB := n5_
                clear n0_ n1_ n2_ n3_ n4_ n5_
                refine start_ (n := 14) (S := fun w' => w'.cell? ⟨gb227, 0, none⟩ = some (.slice Ao20 x228000_1.length co20) ∧ w'.cell? ⟨gb227, 1, none⟩ = some (.int .i64 x228001_1)) (ds := []) #[false, false, false, false, false, false, false, false, false, false, false, false, false, false] (by kernel_rfl) rfl rfl ⟨(zO BK227.out 0).trans rfl, (zO BK227.out 1).trans rfl⟩ (fun hHeld => ?_); refine with_tabW spec_l03Arena.tab8 spec_l03Arena.bits8 (fun HT_ HW_ => ?_)
                generalize wc.drew = w63 at HO_228000 BK218 BK227 HI0 HK HB hHeld ⊢
                refine pure_ (i := 1) (N := some 48) (v := ?_) (a' := ?_) #[false, true, false, false, false, false, false, false, false, false, false, false, false, false] rfl rfl (any_of HT_.out (by kernel_rfl)) (fun _ _ _ h => h) (Or.inl ⟨by rfl, ?_⟩) ?_ ?_
                rotate_left
                · intro w'
                  go_simp
                  with_reducible rfl
                rotate_left
                · simp only [Act.put, List.setIfInBounds_toArray, List.set_cons_zero, List.set_cons_succ, i64_w, i32_w]
                  rfl
                refine pure_ (i := 3) (N := some 50) (v := ?_) (a' := ?_) #[false, true, false, true, false, false, false, false, false, false, false, false, false, false] rfl rfl (any_of HT_.out (by kernel_rfl)) (fun _ _ _ h => h) (Or.inl ⟨by rfl, ?_⟩) ?_ ?_
                rotate_left
                · intro w'
                  go_simp
                  with_reducible rfl
                rotate_left
                · simp only [Act.put, List.setIfInBounds_toArray, List.set_cons_zero, List.set_cons_succ, i64_w, i32_w]
                  rfl
                refine take_ (i := 0) (N := some 47) (v := ?_) (a' := ?_) #[true, true, false, true, false, false, false, false, false, false, false, false, false, false] rfl rfl (take_ofW HT_.out HW_.out (by kernel_rfl)) (fun _ _ _ h => h) (Or.inl ⟨by rfl, ?_⟩) hHeld ?_ ?_
                rotate_left
                · rintro w' ⟨s0, s1⟩
                  go_simp
                  with_reducible rfl
                rotate_left
                · simp only [Act.put, List.setIfInBounds_toArray, List.set_cons_zero, List.set_cons_succ, i64_w, i32_w]
                  rfl
                refine join_ (σ := Value × Nat) 3 #[true, true, true, true, true, true, true, true, true, true, true, false, false, false] (fun s_ => [(49, .string t244), (51, .string t247), (52, .tuple #[.agg #[s_.1, .int .i64 t253], .int .i64 t254, .bool false]), (7, .pointer (some ⟨s_.2, 0, none⟩)), (46, .tuple #[.agg #[s_.1, .int .i64 t253], .int .i64 t254, .bool false]), (53, .agg #[s_.1, .int .i64 t253]), (54, .int .i64 t254), (55, .bool false)]) (fun s_ w' => (w'.cell? ⟨gb227, 0, none⟩ = some (.slice Ao20 x228000_1.length co20) ∧ w'.cell? ⟨gb227, 1, none⟩ = some (.int .i64 x228001_1)) ∧ (Kd.R k81 81 w' w.heap.size (fun k_ => some k_ ≠ (.slice Ao20 x228000_1.length co20 : Value).ownBlock) s_.1 t250) ∧ (Kd.R k81 81 w' w.heap.size (fun k_ => some k_ ≠ (s_.1 : Value).ownBlock) (.slice Ao20 x228000_1.length co20) x228000_1) ∧ (w'.heap[gb218]? = some (.cells #[.slice none 0 0, .int .i64 0] 65 (0, 0))) ∧ (w'.heap[gb227]? = some (.cells #[.slice Ao20 x228000_1.length co20, .int .i64 x228001_1] 65 (0, 0))) ∧ (w'.heap[s_.2]? = some (.cells #[.slice none 0 0, .int .i64 0] 65 (0, 0))) ∧ (w.heap.size ≤ s_.2) ∧ (w0.heap.size ≤ s_.2) ∧ (g ≠ s_.2) ∧ (s_.2 ≠ g) ∧ (gb218 ≠ s_.2) ∧ (s_.2 ≠ gb218) ∧ (gb227 ≠ s_.2) ∧ (s_.2 ≠ gb227) ∧ (IsS119 w0 w' g s0_0 t248 t249) ∧ (KeepBut w w' g none) ∧ (Below w0.heap.size w0 w')) ?_ ?_
                rotate_left
                · intro hCont
                  refine two_ (i := 2) (j := 10) (Ni := some 49) (Nj := some 7) #[true, true, true, true, false, false, false, false, false, false, false, false, false, false] #[true, true, false, true, false, false, false, false, false, false, true, false, false, false] rfl rfl rfl rfl (two_of HT_.out (by kernel_rfl)) (by decide) (by decide) (fun K hK => ?_) (fun K hK => ?_)
                  · skip
                    refine goes_ Try.func74 (by kernel_rfl) rfl #[.pointer (some ⟨g, 0, none⟩)] (by rfl) rfl rfl (by (try simp only [List.map_toArray, List.map_cons, List.map_nil]); first|done|rfl|(simp only [List.length_drop, List.length_take]; rfl)) ?_
                    with_reducible refine (spec_l03Key.calls g s0_0 x1001_14 x1002_14 t244 t245 t246 w0 _ ?side1 ?side2 A43.out).mono ?_
                    (case side1 => repeat (first|(with_reducible first|exact HI0.out|apply IsS119.alloc|apply IsS119.drewN|apply IsS119.drew|apply IsS119.set_1|apply IsS119.set_2|refine IsS119.far ?_ NB0_218.out _|refine IsS119.far ?_ NB0_227.out _)|exact HI0.out))
                    (case side2 => repeat (first|(with_reducible first|exact HB.out|apply zI|apply zG|apply zH|refine zJ ?_ (IsS119.ge HI0.out)|refine zJ ?_ GE218.out|refine zJ ?_ GE227.out)|exact HB.out))
                    rintro e w64 ⟨rfl, hi, hb, hk⟩
                    refine ⟨_, rfl, ?_⟩
                    have n0_ := Aside0.mk (zR (Kd.R_keep (IsS119.apart (show IsS119 w0 _ g s0_0 x1001_14 x1002_14 from by repeat (first|(with_reducible first|exact HI0.out|apply IsS119.alloc|apply IsS119.drewN|apply IsS119.drew|apply IsS119.set_1|apply IsS119.set_2|refine IsS119.far ?_ NB0_218.out _|refine IsS119.far ?_ NB0_227.out _)|exact HI0.out)) (by (with_reducible repeat (first|apply zE|apply zD|apply zF)); exact HO_228000.out) (by decide)) hk (fun _ h => h.2)) (fun _ h => h.1))
                    have n1_ := Aside0.mk (KeepBut.blk hk (g' := gb218) (o := .cells #[.slice none 0 0, .int .i64 0] 65 (0, 0)) (by (with_reducible repeat (first|refine zA ?_ _|refine zC ?_|refine zB ?_ _)); exact BK218.out) NB218_0.out (by simp))
                    have n2_ := Aside0.mk (KeepBut.blk hk (g' := gb227) (o := .cells #[.slice Ao20 x228000_1.length co20, .int .i64 x228001_1] 65 (0, 0)) (by (with_reducible repeat (first|refine zA ?_ _|refine zC ?_|refine zB ?_ _)); exact BK227.out) NB227_0.out (by simp))
                    have n3_ := Aside0.mk (KeepBut.trans (by repeat (first|(with_reducible first|exact HK.out|apply KeepBut.set_|apply keep_drewN|apply keep_drew|apply keep_alloc|refine keep_far ?_ GW218.out _|refine keep_far ?_ GW227.out _)|exact HK.out)) hk (.inl rfl))
                    have n4_ := Aside0.mk (hb)
                    have n5_ := Aside0.mk (hi)
                    clear HO_228000
                    clear BK218
                    clear BK227
                    clear HK
                    clear HB
                    clear HI0
                    have HO_228000 := n0_
                    have BK218 := n1_
                    have BK227 := n2_
                    have HK := n3_
                    have HB := n4_
                    have HI0 := n5_
                    clear n0_ n1_ n2_ n3_ n4_ n5_
                    (try clear hb)
                    (try clear hb2)
                    (try clear hk)
                    (try clear hi)
                    refine hK.out _ _ ⟨(zO BK227.out 0).trans rfl, (zO BK227.out 1).trans rfl⟩ (fun hHeld => ?_)
                    clear hK K
                    refine norm_ (a' := ?_) ?_ ?_
                    rotate_left
                    · show Act.put _ (some 49) _ = _
                      simp only [Act.put, List.setIfInBounds_toArray, List.set_cons_zero, List.set_cons_succ, i64_w, i32_w]
                      rfl
                    refine two_ (i := 4) (j := 10) (Ni := some 51) (Nj := some 7) #[true, true, true, true, true, false, false, false, false, false, false, false, false, false] #[true, true, true, true, false, false, false, false, false, false, true, false, false, false] rfl rfl rfl rfl (two_of HT_.out (by kernel_rfl)) (by decide) (by decide) (fun K hK => ?_) (fun K hK => ?_)
                    · skip
                      refine goes_ Try.func99 (by kernel_rfl) rfl #[.pointer (some ⟨g, 0, none⟩)] (by rfl) rfl rfl (by (try simp only [List.map_toArray, List.map_cons, List.map_nil]); first|done|rfl|(simp only [List.length_drop, List.length_take]; rfl)) ?_
                      with_reducible refine (spec_l03Val.calls g s0_0 t245 t246 t247 t248 t249 w0 _ ?side1 ?side2 A44.out).mono ?_
                      (case side1 => repeat (first|(with_reducible first|exact HI0.out|apply IsS119.alloc|apply IsS119.drewN|apply IsS119.drew|apply IsS119.set_1|apply IsS119.set_2|refine IsS119.far ?_ NB0_218.out _|refine IsS119.far ?_ NB0_227.out _)|exact HI0.out))
                      (case side2 => repeat (first|(with_reducible first|exact HB.out|apply zI|apply zG|apply zH|refine zJ ?_ (IsS119.ge HI0.out)|refine zJ ?_ GE218.out|refine zJ ?_ GE227.out)|exact HB.out))
                      rintro e w65 ⟨rfl, hi, hb, hk⟩
                      refine ⟨_, rfl, ?_⟩
                      have n0_ := Aside0.mk (zR (Kd.R_keep (IsS119.apart (show IsS119 w0 _ g s0_0 t245 t246 from by repeat (first|(with_reducible first|exact HI0.out|apply IsS119.alloc|apply IsS119.drewN|apply IsS119.drew|apply IsS119.set_1|apply IsS119.set_2|refine IsS119.far ?_ NB0_218.out _|refine IsS119.far ?_ NB0_227.out _)|exact HI0.out)) (by (with_reducible repeat (first|apply zE|apply zD|apply zF)); exact HO_228000.out) (by decide)) hk (fun _ h => h.2)) (fun _ h => h.1))
                      have n1_ := Aside0.mk (KeepBut.blk hk (g' := gb218) (o := .cells #[.slice none 0 0, .int .i64 0] 65 (0, 0)) (by (with_reducible repeat (first|refine zA ?_ _|refine zC ?_|refine zB ?_ _)); exact BK218.out) NB218_0.out (by simp))
                      have n2_ := Aside0.mk (KeepBut.blk hk (g' := gb227) (o := .cells #[.slice Ao20 x228000_1.length co20, .int .i64 x228001_1] 65 (0, 0)) (by (with_reducible repeat (first|refine zA ?_ _|refine zC ?_|refine zB ?_ _)); exact BK227.out) NB227_0.out (by simp))
                      have n3_ := Aside0.mk (KeepBut.trans (by repeat (first|(with_reducible first|exact HK.out|apply KeepBut.set_|apply keep_drewN|apply keep_drew|apply keep_alloc|refine keep_far ?_ GW218.out _|refine keep_far ?_ GW227.out _)|exact HK.out)) hk (.inl rfl))
                      have n4_ := Aside0.mk (hb)
                      have n5_ := Aside0.mk (hi)
                      clear HO_228000
                      clear BK218
                      clear BK227
                      clear HK
                      clear HB
                      clear HI0
                      have HO_228000 := n0_
                      have BK218 := n1_
                      have BK227 := n2_
                      have HK := n3_
                      have HB := n4_
                      have HI0 := n5_
                      clear n0_ n1_ n2_ n3_ n4_ n5_
                      (try clear hb)
                      (try clear hb2)
                      (try clear hk)
                      (try clear hi)
                      refine hK.out _ _ ⟨(zO BK227.out 0).trans rfl, (zO BK227.out 1).trans rfl⟩ (fun hHeld => ?_)
                      clear hK K
                      refine norm_ (a' := ?_) ?_ ?_
                      rotate_left
                      · show Act.put _ (some 51) _ = _
                        simp only [Act.put, List.setIfInBounds_toArray, List.set_cons_zero, List.set_cons_succ, i64_w, i32_w]
                        rfl
                      refine two_ (i := 5) (j := 10) (Ni := some 52) (Nj := some 7) #[true, true, true, true, true, true, false, false, false, false, false, false, false, false] #[true, true, true, true, true, false, false, false, false, false, true, false, false, false] rfl rfl rfl rfl (two_of HT_.out (by kernel_rfl)) (by decide) (by decide) (fun K hK => ?_) (fun K hK => ?_)
                      · skip
                        refine goes_ Try.func44 (by kernel_rfl) rfl #[.agg #[.slice Ao20 x228000_1.length co20, .int .i64 x228001_1], .string t244, .string t247] (by rfl) rfl rfl (by (try simp only [List.map_toArray, List.map_cons, List.map_nil]); first|done|rfl|(simp only [List.length_drop, List.length_take]; rfl)) ?_
                        with_reducible refine (spec_Lay.calls kj14 _ _ x228000_1 x228001_1 t244 t247 t250 t253 t254 false _ ?side1 ?side2 A45.out).mono ?_
                        (case side1 => repeat (first|exact (Kd.R_reads' HO_228000.out).2.2|(with_reducible refine Kd.C_alloc ?_ _)|(with_reducible refine Kd.C_drewN ?_ _)|(with_reducible refine Kd.C_drew ?_)))
                        (case side2 => exact (Kd.R_reads' HO_228000.out).2.1)
                        rintro e w66 ⟨v251, rfl, ho0, hb⟩
                        refine ⟨_, rfl, ?_⟩
                        have n0_ := Aside0.mk (Kd.R_elder' (by (with_reducible repeat (first|apply zE|apply zD|apply zF)); exact HO_228000.out) (Kd.R_base ho0) hb)
                        have n1_ := Aside0.mk (Kd.R_lower (Kd.R_new' ho0 (Kd.R_lt (by (with_reducible repeat (first|apply zE|apply zD|apply zF)); exact HO_228000.out))) (keep_size (w := w) (g := g) (row := none) (by repeat (first|(with_reducible first|exact HK.out|apply KeepBut.set_|apply keep_drewN|apply keep_drew|apply keep_alloc|refine keep_far ?_ GW218.out _|refine keep_far ?_ GW227.out _)|exact HK.out))))
                        have n2_ := Aside0.mk (zK (g := gb218) (o := .cells #[.slice none 0 0, .int .i64 0] 65 (0, 0)) (by (with_reducible repeat (first|refine zA ?_ _|refine zC ?_|refine zB ?_ _)); exact BK218.out) hb)
                        have n3_ := Aside0.mk (zK (g := gb227) (o := .cells #[.slice Ao20 x228000_1.length co20, .int .i64 x228001_1] 65 (0, 0)) (by (with_reducible repeat (first|refine zA ?_ _|refine zC ?_|refine zB ?_ _)); exact BK227.out) hb)
                        have n4_ := Aside0.mk (IsS119.below (by repeat (first|(with_reducible first|exact HI0.out|apply IsS119.alloc|apply IsS119.drewN|apply IsS119.drew|apply IsS119.set_1|apply IsS119.set_2|refine IsS119.far ?_ NB0_218.out _|refine IsS119.far ?_ NB0_227.out _)|exact HI0.out)) hb)
                        have n5_ := Aside0.mk (KeepBut.trans (by repeat (first|(with_reducible first|exact HK.out|apply KeepBut.set_|apply keep_drewN|apply keep_drew|apply keep_alloc|refine keep_far ?_ GW218.out _|refine keep_far ?_ GW227.out _)|exact HK.out)) (KeepBut.of_below hb g none) (.inl rfl))
                        have n6_ := Aside0.mk (zN (by repeat (first|(with_reducible first|exact HB.out|apply zI|apply zG|apply zH|refine zJ ?_ (IsS119.ge HI0.out)|refine zJ ?_ GE218.out|refine zJ ?_ GE227.out)|exact HB.out)) hb)
                        clear HO_228000
                        clear BK218
                        clear BK227
                        clear HI0
                        clear HK
                        clear HB
                        have HO_228000 := n0_
                        have HO252 := n1_
                        have BK218 := n2_
                        have BK227 := n3_
                        have HI0 := n4_
                        have HK := n5_
                        have HB := n6_
                        clear n0_ n1_ n2_ n3_ n4_ n5_ n6_
                        (try clear hb)
                        (try clear hb2)
                        (try clear hk)
                        (try clear hi)
                        (try clear ho0)
                        refine hK.out _ _ ⟨(zO BK227.out 0).trans rfl, (zO BK227.out 1).trans rfl⟩ (fun hHeld => ?_)
                        clear hK K
                        refine norm_ (a' := ?_) ?_ ?_
                        rotate_left
                        · show Act.put _ (some 52) _ = _
                          simp only [Act.put, List.setIfInBounds_toArray, List.set_cons_zero, List.set_cons_succ, i64_w, i32_w]
                          rfl
                        refine pure_ (i := 6) (N := some 46) (v := ?_) (a' := ?_) #[true, true, true, true, true, true, true, false, false, false, false, false, false, false] rfl rfl (any_of HT_.out (by kernel_rfl)) (fun _ _ _ h => h) (Or.inl ⟨by rfl, ?_⟩) ?_ ?_
                        rotate_left
                        · intro w'
                          go_simp
                          with_reducible rfl
                        rotate_left
                        · simp only [Act.put, List.setIfInBounds_toArray, List.set_cons_zero, List.set_cons_succ, i64_w, i32_w]
                          rfl
                        refine pure_ (i := 7) (N := some 53) (v := ?_) (a' := ?_) #[true, true, true, true, true, true, true, true, false, false, false, false, false, false] rfl rfl (any_of HT_.out (by kernel_rfl)) (fun _ _ _ h => h) (Or.inl ⟨by rfl, ?_⟩) ?_ ?_
                        rotate_left
                        · intro w'
                          go_simp
                          with_reducible rfl
                        rotate_left
                        · simp only [Act.put, List.setIfInBounds_toArray, List.set_cons_zero, List.set_cons_succ, i64_w, i32_w]
                          rfl
                        refine pure_ (i := 8) (N := some 54) (v := ?_) (a' := ?_) #[true, true, true, true, true, true, true, true, true, false, false, false, false, false] rfl rfl (any_of HT_.out (by kernel_rfl)) (fun _ _ _ h => h) (Or.inl ⟨by rfl, ?_⟩) ?_ ?_
                        rotate_left
                        · intro w'
                          go_simp
                          with_reducible rfl
                        rotate_left
                        · simp only [Act.put, List.setIfInBounds_toArray, List.set_cons_zero, List.set_cons_succ, i64_w, i32_w]
                          rfl
                        refine pure_ (i := 9) (N := some 55) (v := ?_) (a' := ?_) #[true, true, true, true, true, true, true, true, true, true, false, false, false, false] rfl rfl (any_of HT_.out (by kernel_rfl)) (fun _ _ _ h => h) (Or.inl ⟨by rfl, ?_⟩) ?_ ?_
                        rotate_left
                        · intro w'
                          go_simp
                          with_reducible rfl
                        rotate_left
                        · simp only [Act.put, List.setIfInBounds_toArray, List.set_cons_zero, List.set_cons_succ, i64_w, i32_w]
                          rfl
                        refine one_ (i := 10) (N := some 7) #[true, true, true, true, true, true, true, true, true, true, true, false, false, false] rfl rfl (one_of HT_.out (by kernel_rfl)) (by decide) (fun K hK => ?_)
                        refine box_step ?hg (N := 7) ?hd (cs := #[.slice none 0 0, .int .i64 0]) (t := 65) ?hr ?_; (case hd => rfl); (case hg => rfl); (case hr => first|(go_simp; done)|(go_simp; rfl))
                        intro gb256 hg w67 hbox hb
                        have n0_ := Aside0.mk (zM (by (with_reducible repeat (first|apply zE|apply zD|apply zF)); exact HO_228000.out) hb)
                        have n1_ := Aside0.mk (zM (by (with_reducible repeat (first|apply zE|apply zD|apply zF)); exact HO252.out) hb)
                        have n2_ := Aside0.mk (zK (g := gb218) (o := .cells #[.slice none 0 0, .int .i64 0] 65 (0, 0)) (by (with_reducible repeat (first|refine zA ?_ _|refine zC ?_|refine zB ?_ _)); exact BK218.out) hb)
                        have n3_ := Aside0.mk (zK (g := gb227) (o := .cells #[.slice Ao20 x228000_1.length co20, .int .i64 x228001_1] 65 (0, 0)) (by (with_reducible repeat (first|refine zA ?_ _|refine zC ?_|refine zB ?_ _)); exact BK227.out) hb)
                        have n4_ := Aside0.mk (IsS119.below (by repeat (first|(with_reducible first|exact HI0.out|apply IsS119.alloc|apply IsS119.drewN|apply IsS119.drew|apply IsS119.set_1|apply IsS119.set_2|refine IsS119.far ?_ NB0_218.out _|refine IsS119.far ?_ NB0_227.out _)|exact HI0.out)) hb)
                        have n5_ := Aside0.mk (KeepBut.trans (by repeat (first|(with_reducible first|exact HK.out|apply KeepBut.set_|apply keep_drewN|apply keep_drew|apply keep_alloc|refine keep_far ?_ GW218.out _|refine keep_far ?_ GW227.out _)|exact HK.out)) (KeepBut.of_below hb g none) (.inl rfl))
                        have n6_ := Aside0.mk (zN (by repeat (first|(with_reducible first|exact HB.out|apply zI|apply zG|apply zH|refine zJ ?_ (IsS119.ge HI0.out)|refine zJ ?_ GE218.out|refine zJ ?_ GE227.out)|exact HB.out)) hb)
                        have n7_ := Aside0.mk (hbox)
                        have n8_ := Aside0.mk ((by rw [hg]; exact (keep_size (w := w) (g := g) (row := none) (by repeat (first|(with_reducible first|exact HK.out|apply KeepBut.set_|apply keep_drewN|apply keep_drew|apply keep_alloc|refine keep_far ?_ GW218.out _|refine keep_far ?_ GW227.out _)|exact HK.out))) : w.heap.size ≤ gb256))
                        have n9_ := Aside0.mk ((Nat.le_trans HW0.out (by rw [hg]; exact (keep_size (w := w) (g := g) (row := none) (by repeat (first|(with_reducible first|exact HK.out|apply KeepBut.set_|apply keep_drewN|apply keep_drew|apply keep_alloc|refine keep_far ?_ GW218.out _|refine keep_far ?_ GW227.out _)|exact HK.out))) : w.heap.size ≤ gb256) : w0.heap.size ≤ gb256))
                        have n10_ := Aside0.mk ((by rw [hg]; exact Nat.ne_of_lt (blk_lt (g := gb218) (o := .cells #[.slice none 0 0, .int .i64 0] 65 (0, 0)) (by (with_reducible repeat (first|refine zA ?_ _|refine zC ?_|refine zB ?_ _)); exact BK218.out)) : gb218 ≠ gb256))
                        have n11_ := Aside0.mk ((by rw [hg]; exact Nat.ne_of_gt (blk_lt (g := gb218) (o := .cells #[.slice none 0 0, .int .i64 0] 65 (0, 0)) (by (with_reducible repeat (first|refine zA ?_ _|refine zC ?_|refine zB ?_ _)); exact BK218.out)) : gb256 ≠ gb218))
                        have n12_ := Aside0.mk ((by rw [hg]; exact Nat.ne_of_lt (blk_lt (g := gb227) (o := .cells #[.slice Ao20 x228000_1.length co20, .int .i64 x228001_1] 65 (0, 0)) (by (with_reducible repeat (first|refine zA ?_ _|refine zC ?_|refine zB ?_ _)); exact BK227.out)) : gb227 ≠ gb256))
                        have n13_ := Aside0.mk ((by rw [hg]; exact Nat.ne_of_gt (blk_lt (g := gb227) (o := .cells #[.slice Ao20 x228000_1.length co20, .int .i64 x228001_1] 65 (0, 0)) (by (with_reducible repeat (first|refine zA ?_ _|refine zC ?_|refine zB ?_ _)); exact BK227.out)) : gb256 ≠ gb227))
                        have n14_ := Aside0.mk ((by rw [hg]; exact Nat.ne_of_lt (IsS119.lt (show IsS119 w0 _ g s0_0 t248 t249 from by repeat (first|(with_reducible first|exact HI0.out|apply IsS119.alloc|apply IsS119.drewN|apply IsS119.drew|apply IsS119.set_1|apply IsS119.set_2|refine IsS119.far ?_ NB0_218.out _|refine IsS119.far ?_ NB0_227.out _)|exact HI0.out))) : g ≠ gb256))
                        have n15_ := Aside0.mk ((by rw [hg]; exact Nat.ne_of_gt (IsS119.lt (show IsS119 w0 _ g s0_0 t248 t249 from by repeat (first|(with_reducible first|exact HI0.out|apply IsS119.alloc|apply IsS119.drewN|apply IsS119.drew|apply IsS119.set_1|apply IsS119.set_2|refine IsS119.far ?_ NB0_218.out _|refine IsS119.far ?_ NB0_227.out _)|exact HI0.out))) : gb256 ≠ g))
                        clear HO_228000
                        clear HO252
                        clear BK218
                        clear BK227
                        clear HI0
                        clear HK
                        clear HB
                        have HO_228000 := n0_
                        have HO252 := n1_
                        have BK218 := n2_
                        have BK227 := n3_
                        have HI0 := n4_
                        have HK := n5_
                        have HB := n6_
                        have BK256 := n7_
                        have GW256 := n8_
                        have GE256 := n9_
                        have NB218_256 := n10_
                        have NB256_218 := n11_
                        have NB227_256 := n12_
                        have NB256_227 := n13_
                        have NB0_256 := n14_
                        have NB256_0 := n15_
                        clear n0_ n1_ n2_ n3_ n4_ n5_ n6_ n7_ n8_ n9_ n10_ n11_ n12_ n13_ n14_ n15_
                        clear hb hbox hg
                        refine hK.out _ _ ⟨(zO BK227.out 0).trans rfl, (zO BK227.out 1).trans rfl⟩ (fun hHeld => ?_)
                        clear hK K
                        refine norm_ (a' := ?_) ?_ ?_
                        rotate_left
                        · show Act.put _ (some 7) _ = _
                          simp only [Act.put, List.setIfInBounds_toArray, List.set_cons_zero, List.set_cons_succ, i64_w, i32_w]
                          rfl
                        exact norm_ (by simp only [putAll, Act.put, List.setIfInBounds_toArray, List.set_cons_zero, List.set_cons_succ]) (hCont (v251, gb256) _ ⟨hHeld, (by (with_reducible repeat (first|apply zE|apply zD|apply zF)); exact zR HO252.out (fun _ hk => hk.2)), (by (with_reducible repeat (first|apply zE|apply zD|apply zF)); exact zR HO_228000.out (fun _ hk => hk.2)), (by (with_reducible repeat (first|refine zA ?_ _|refine zC ?_|refine zB ?_ _)); exact BK218.out), (by (with_reducible repeat (first|refine zA ?_ _|refine zC ?_|refine zB ?_ _)); exact BK227.out), (by (with_reducible repeat (first|refine zA ?_ _|refine zC ?_|refine zB ?_ _)); exact BK256.out), GW256.out, GE256.out, NB0_256.out, NB256_0.out, NB218_256.out, NB256_218.out, NB227_256.out, NB256_227.out, (by repeat (first|(with_reducible first|exact HI0.out|apply IsS119.alloc|apply IsS119.drewN|apply IsS119.drew|apply IsS119.set_1|apply IsS119.set_2|refine IsS119.far ?_ NB0_218.out _|refine IsS119.far ?_ NB0_227.out _|refine IsS119.far ?_ NB0_256.out _)|exact HI0.out)), (by repeat (first|(with_reducible first|exact HK.out|apply KeepBut.set_|apply keep_drewN|apply keep_drew|apply keep_alloc|refine keep_far ?_ GW218.out _|refine keep_far ?_ GW227.out _|refine keep_far ?_ GW256.out _)|exact HK.out)), (by repeat (first|(with_reducible first|exact HB.out|apply zI|apply zG|apply zH|refine zJ ?_ (IsS119.ge HI0.out)|refine zJ ?_ GE218.out|refine zJ ?_ GE227.out|refine zJ ?_ GE256.out)|exact HB.out))⟩)
                      · skip
                        refine box_step ?hg (N := 7) ?hd (cs := #[.slice none 0 0, .int .i64 0]) (t := 65) ?hr ?_; (case hd => rfl); (case hg => rfl); (case hr => first|(go_simp; done)|(go_simp; rfl))
                        intro gb256 hg w66 hbox hb
                        have n0_ := Aside0.mk (zM (by (with_reducible repeat (first|apply zE|apply zD|apply zF)); exact HO_228000.out) hb)
                        have n1_ := Aside0.mk (zK (g := gb218) (o := .cells #[.slice none 0 0, .int .i64 0] 65 (0, 0)) (by (with_reducible repeat (first|refine zA ?_ _|refine zC ?_|refine zB ?_ _)); exact BK218.out) hb)
                        have n2_ := Aside0.mk (zK (g := gb227) (o := .cells #[.slice Ao20 x228000_1.length co20, .int .i64 x228001_1] 65 (0, 0)) (by (with_reducible repeat (first|refine zA ?_ _|refine zC ?_|refine zB ?_ _)); exact BK227.out) hb)
                        have n3_ := Aside0.mk (IsS119.below (by repeat (first|(with_reducible first|exact HI0.out|apply IsS119.alloc|apply IsS119.drewN|apply IsS119.drew|apply IsS119.set_1|apply IsS119.set_2|refine IsS119.far ?_ NB0_218.out _|refine IsS119.far ?_ NB0_227.out _)|exact HI0.out)) hb)
                        have n4_ := Aside0.mk (KeepBut.trans (by repeat (first|(with_reducible first|exact HK.out|apply KeepBut.set_|apply keep_drewN|apply keep_drew|apply keep_alloc|refine keep_far ?_ GW218.out _|refine keep_far ?_ GW227.out _)|exact HK.out)) (KeepBut.of_below hb g none) (.inl rfl))
                        have n5_ := Aside0.mk (zN (by repeat (first|(with_reducible first|exact HB.out|apply zI|apply zG|apply zH|refine zJ ?_ (IsS119.ge HI0.out)|refine zJ ?_ GE218.out|refine zJ ?_ GE227.out)|exact HB.out)) hb)
                        have n6_ := Aside0.mk (hbox)
                        have n7_ := Aside0.mk ((by rw [hg]; exact (keep_size (w := w) (g := g) (row := none) (by repeat (first|(with_reducible first|exact HK.out|apply KeepBut.set_|apply keep_drewN|apply keep_drew|apply keep_alloc|refine keep_far ?_ GW218.out _|refine keep_far ?_ GW227.out _)|exact HK.out))) : w.heap.size ≤ gb256))
                        have n8_ := Aside0.mk ((Nat.le_trans HW0.out (by rw [hg]; exact (keep_size (w := w) (g := g) (row := none) (by repeat (first|(with_reducible first|exact HK.out|apply KeepBut.set_|apply keep_drewN|apply keep_drew|apply keep_alloc|refine keep_far ?_ GW218.out _|refine keep_far ?_ GW227.out _)|exact HK.out))) : w.heap.size ≤ gb256) : w0.heap.size ≤ gb256))
                        have n9_ := Aside0.mk ((by rw [hg]; exact Nat.ne_of_lt (blk_lt (g := gb218) (o := .cells #[.slice none 0 0, .int .i64 0] 65 (0, 0)) (by (with_reducible repeat (first|refine zA ?_ _|refine zC ?_|refine zB ?_ _)); exact BK218.out)) : gb218 ≠ gb256))
                        have n10_ := Aside0.mk ((by rw [hg]; exact Nat.ne_of_gt (blk_lt (g := gb218) (o := .cells #[.slice none 0 0, .int .i64 0] 65 (0, 0)) (by (with_reducible repeat (first|refine zA ?_ _|refine zC ?_|refine zB ?_ _)); exact BK218.out)) : gb256 ≠ gb218))
                        have n11_ := Aside0.mk ((by rw [hg]; exact Nat.ne_of_lt (blk_lt (g := gb227) (o := .cells #[.slice Ao20 x228000_1.length co20, .int .i64 x228001_1] 65 (0, 0)) (by (with_reducible repeat (first|refine zA ?_ _|refine zC ?_|refine zB ?_ _)); exact BK227.out)) : gb227 ≠ gb256))
                        have n12_ := Aside0.mk ((by rw [hg]; exact Nat.ne_of_gt (blk_lt (g := gb227) (o := .cells #[.slice Ao20 x228000_1.length co20, .int .i64 x228001_1] 65 (0, 0)) (by (with_reducible repeat (first|refine zA ?_ _|refine zC ?_|refine zB ?_ _)); exact BK227.out)) : gb256 ≠ gb227))
                        have n13_ := Aside0.mk ((by rw [hg]; exact Nat.ne_of_lt (IsS119.lt (show IsS119 w0 _ g s0_0 t248 t249 from by repeat (first|(with_reducible first|exact HI0.out|apply IsS119.alloc|apply IsS119.drewN|apply IsS119.drew|apply IsS119.set_1|apply IsS119.set_2|refine IsS119.far ?_ NB0_218.out _|refine IsS119.far ?_ NB0_227.out _)|exact HI0.out))) : g ≠ gb256))
                        have n14_ := Aside0.mk ((by rw [hg]; exact Nat.ne_of_gt (IsS119.lt (show IsS119 w0 _ g s0_0 t248 t249 from by repeat (first|(with_reducible first|exact HI0.out|apply IsS119.alloc|apply IsS119.drewN|apply IsS119.drew|apply IsS119.set_1|apply IsS119.set_2|refine IsS119.far ?_ NB0_218.out _|refine IsS119.far ?_ NB0_227.out _)|exact HI0.out))) : gb256 ≠ g))
                        clear HO_228000
                        clear BK218
                        clear BK227
                        clear HI0
                        clear HK
                        clear HB
                        have HO_228000 := n0_
                        have BK218 := n1_
                        have BK227 := n2_
                        have HI0 := n3_
                        have HK := n4_
                        have HB := n5_
                        have BK256 := n6_
                        have GW256 := n7_
                        have GE256 := n8_
                        have NB218_256 := n9_
                        have NB256_218 := n10_
                        have NB227_256 := n11_
                        have NB256_227 := n12_
                        have NB0_256 := n13_
                        have NB256_0 := n14_
                        clear n0_ n1_ n2_ n3_ n4_ n5_ n6_ n7_ n8_ n9_ n10_ n11_ n12_ n13_ n14_
                        clear hb hbox hg
                        refine hK.out _ _ ⟨(zO BK227.out 0).trans rfl, (zO BK227.out 1).trans rfl⟩ (fun hHeld => ?_)
                        clear hK K
                        refine norm_ (a' := ?_) ?_ ?_
                        rotate_left
                        · show Act.put _ (some 7) _ = _
                          simp only [Act.put, List.setIfInBounds_toArray, List.set_cons_zero, List.set_cons_succ, i64_w, i32_w]
                          rfl
                        refine one_ (i := 5) (N := some 52) #[true, true, true, true, true, true, false, false, false, false, true, false, false, false] rfl rfl (one_of HT_.out (by kernel_rfl)) (by decide) (fun K hK => ?_)
                        refine goes_ Try.func44 (by kernel_rfl) rfl #[.agg #[.slice Ao20 x228000_1.length co20, .int .i64 x228001_1], .string t244, .string t247] (by rfl) rfl rfl (by (try simp only [List.map_toArray, List.map_cons, List.map_nil]); first|done|rfl|(simp only [List.length_drop, List.length_take]; rfl)) ?_
                        with_reducible refine (spec_Lay.calls kj14 _ _ x228000_1 x228001_1 t244 t247 t250 t253 t254 false _ ?side1 ?side2 A45.out).mono ?_
                        (case side1 => repeat (first|exact (Kd.R_reads' HO_228000.out).2.2|(with_reducible refine Kd.C_alloc ?_ _)|(with_reducible refine Kd.C_drewN ?_ _)|(with_reducible refine Kd.C_drew ?_)))
                        (case side2 => exact (Kd.R_reads' HO_228000.out).2.1)
                        rintro e w67 ⟨v251, rfl, ho0, hb⟩
                        refine ⟨_, rfl, ?_⟩
                        have n0_ := Aside0.mk (Kd.R_elder' (by (with_reducible repeat (first|apply zE|apply zD|apply zF)); exact HO_228000.out) (Kd.R_base ho0) hb)
                        have n1_ := Aside0.mk (Kd.R_lower (Kd.R_new' ho0 (Kd.R_lt (by (with_reducible repeat (first|apply zE|apply zD|apply zF)); exact HO_228000.out))) (keep_size (w := w) (g := g) (row := none) (by repeat (first|(with_reducible first|exact HK.out|apply KeepBut.set_|apply keep_drewN|apply keep_drew|apply keep_alloc|refine keep_far ?_ GW218.out _|refine keep_far ?_ GW227.out _|refine keep_far ?_ GW256.out _)|exact HK.out))))
                        have n2_ := Aside0.mk (zK (g := gb218) (o := .cells #[.slice none 0 0, .int .i64 0] 65 (0, 0)) (by (with_reducible repeat (first|refine zA ?_ _|refine zC ?_|refine zB ?_ _)); exact BK218.out) hb)
                        have n3_ := Aside0.mk (zK (g := gb227) (o := .cells #[.slice Ao20 x228000_1.length co20, .int .i64 x228001_1] 65 (0, 0)) (by (with_reducible repeat (first|refine zA ?_ _|refine zC ?_|refine zB ?_ _)); exact BK227.out) hb)
                        have n4_ := Aside0.mk (IsS119.below (by repeat (first|(with_reducible first|exact HI0.out|apply IsS119.alloc|apply IsS119.drewN|apply IsS119.drew|apply IsS119.set_1|apply IsS119.set_2|refine IsS119.far ?_ NB0_218.out _|refine IsS119.far ?_ NB0_227.out _|refine IsS119.far ?_ NB0_256.out _)|exact HI0.out)) hb)
                        have n5_ := Aside0.mk (zK (g := gb256) (o := .cells #[.slice none 0 0, .int .i64 0] 65 (0, 0)) (by (with_reducible repeat (first|refine zA ?_ _|refine zC ?_|refine zB ?_ _)); exact BK256.out) hb)
                        have n6_ := Aside0.mk (KeepBut.trans (by repeat (first|(with_reducible first|exact HK.out|apply KeepBut.set_|apply keep_drewN|apply keep_drew|apply keep_alloc|refine keep_far ?_ GW218.out _|refine keep_far ?_ GW227.out _|refine keep_far ?_ GW256.out _)|exact HK.out)) (KeepBut.of_below hb g none) (.inl rfl))
                        have n7_ := Aside0.mk (zN (by repeat (first|(with_reducible first|exact HB.out|apply zI|apply zG|apply zH|refine zJ ?_ (IsS119.ge HI0.out)|refine zJ ?_ GE218.out|refine zJ ?_ GE227.out|refine zJ ?_ GE256.out)|exact HB.out)) hb)
                        clear HO_228000
                        clear BK218
                        clear BK227
                        clear HI0
                        clear BK256
                        clear HK
                        clear HB
                        have HO_228000 := n0_
                        have HO252 := n1_
                        have BK218 := n2_
                        have BK227 := n3_
                        have HI0 := n4_
                        have BK256 := n5_
                        have HK := n6_
                        have HB := n7_
                        clear n0_ n1_ n2_ n3_ n4_ n5_ n6_ n7_
                        (try clear hb)
                        (try clear hb2)
                        (try clear hk)
                        (try clear hi)
                        (try clear ho0)
                        refine hK.out _ _ ⟨(zO BK227.out 0).trans rfl, (zO BK227.out 1).trans rfl⟩ (fun hHeld => ?_)
                        clear hK K
                        refine norm_ (a' := ?_) ?_ ?_
                        rotate_left
                        · show Act.put _ (some 52) _ = _
                          simp only [Act.put, List.setIfInBounds_toArray, List.set_cons_zero, List.set_cons_succ, i64_w, i32_w]
                          rfl
                        refine pure_ (i := 6) (N := some 46) (v := ?_) (a' := ?_) #[true, true, true, true, true, true, true, false, false, false, true, false, false, false] rfl rfl (any_of HT_.out (by kernel_rfl)) (fun _ _ _ h => h) (Or.inl ⟨by rfl, ?_⟩) ?_ ?_
                        rotate_left
                        · intro w'
                          go_simp
                          with_reducible rfl
                        rotate_left
                        · simp only [Act.put, List.setIfInBounds_toArray, List.set_cons_zero, List.set_cons_succ, i64_w, i32_w]
                          rfl
                        refine pure_ (i := 7) (N := some 53) (v := ?_) (a' := ?_) #[true, true, true, true, true, true, true, true, false, false, true, false, false, false] rfl rfl (any_of HT_.out (by kernel_rfl)) (fun _ _ _ h => h) (Or.inl ⟨by rfl, ?_⟩) ?_ ?_
                        rotate_left
                        · intro w'
                          go_simp
                          with_reducible rfl
                        rotate_left
                        · simp only [Act.put, List.setIfInBounds_toArray, List.set_cons_zero, List.set_cons_succ, i64_w, i32_w]
                          rfl
                        refine pure_ (i := 8) (N := some 54) (v := ?_) (a' := ?_) #[true, true, true, true, true, true, true, true, true, false, true, false, false, false] rfl rfl (any_of HT_.out (by kernel_rfl)) (fun _ _ _ h => h) (Or.inl ⟨by rfl, ?_⟩) ?_ ?_
                        rotate_left
                        · intro w'
                          go_simp
                          with_reducible rfl
                        rotate_left
                        · simp only [Act.put, List.setIfInBounds_toArray, List.set_cons_zero, List.set_cons_succ, i64_w, i32_w]
                          rfl
                        refine pure_ (i := 9) (N := some 55) (v := ?_) (a' := ?_) #[true, true, true, true, true, true, true, true, true, true, true, false, false, false] rfl rfl (any_of HT_.out (by kernel_rfl)) (fun _ _ _ h => h) (Or.inl ⟨by rfl, ?_⟩) ?_ ?_
                        rotate_left
                        · intro w'
                          go_simp
                          with_reducible rfl
                        rotate_left
                        · simp only [Act.put, List.setIfInBounds_toArray, List.set_cons_zero, List.set_cons_succ, i64_w, i32_w]
                          rfl
                        exact norm_ (by simp only [putAll, Act.put, List.setIfInBounds_toArray, List.set_cons_zero, List.set_cons_succ]) (hCont (v251, gb256) _ ⟨hHeld, (by (with_reducible repeat (first|apply zE|apply zD|apply zF)); exact zR HO252.out (fun _ hk => hk.2)), (by (with_reducible repeat (first|apply zE|apply zD|apply zF)); exact zR HO_228000.out (fun _ hk => hk.2)), (by (with_reducible repeat (first|refine zA ?_ _|refine zC ?_|refine zB ?_ _)); exact BK218.out), (by (with_reducible repeat (first|refine zA ?_ _|refine zC ?_|refine zB ?_ _)); exact BK227.out), (by (with_reducible repeat (first|refine zA ?_ _|refine zC ?_|refine zB ?_ _)); exact BK256.out), GW256.out, GE256.out, NB0_256.out, NB256_0.out, NB218_256.out, NB256_218.out, NB227_256.out, NB256_227.out, (by repeat (first|(with_reducible first|exact HI0.out|apply IsS119.alloc|apply IsS119.drewN|apply IsS119.drew|apply IsS119.set_1|apply IsS119.set_2|refine IsS119.far ?_ NB0_218.out _|refine IsS119.far ?_ NB0_227.out _|refine IsS119.far ?_ NB0_256.out _)|exact HI0.out)), (by repeat (first|(with_reducible first|exact HK.out|apply KeepBut.set_|apply keep_drewN|apply keep_drew|apply keep_alloc|refine keep_far ?_ GW218.out _|refine keep_far ?_ GW227.out _|refine keep_far ?_ GW256.out _)|exact HK.out)), (by repeat (first|(with_reducible first|exact HB.out|apply zI|apply zG|apply zH|refine zJ ?_ (IsS119.ge HI0.out)|refine zJ ?_ GE218.out|refine zJ ?_ GE227.out|refine zJ ?_ GE256.out)|exact HB.out))⟩)
                    · skip
                      refine box_step ?hg (N := 7) ?hd (cs := #[.slice none 0 0, .int .i64 0]) (t := 65) ?hr ?_; (case hd => rfl); (case hg => rfl); (case hr => first|(go_simp; done)|(go_simp; rfl))
                      intro gb256 hg w65 hbox hb
                      have n0_ := Aside0.mk (zM (by (with_reducible repeat (first|apply zE|apply zD|apply zF)); exact HO_228000.out) hb)
                      have n1_ := Aside0.mk (zK (g := gb218) (o := .cells #[.slice none 0 0, .int .i64 0] 65 (0, 0)) (by (with_reducible repeat (first|refine zA ?_ _|refine zC ?_|refine zB ?_ _)); exact BK218.out) hb)
                      have n2_ := Aside0.mk (zK (g := gb227) (o := .cells #[.slice Ao20 x228000_1.length co20, .int .i64 x228001_1] 65 (0, 0)) (by (with_reducible repeat (first|refine zA ?_ _|refine zC ?_|refine zB ?_ _)); exact BK227.out) hb)
                      have n3_ := Aside0.mk (IsS119.below (by repeat (first|(with_reducible first|exact HI0.out|apply IsS119.alloc|apply IsS119.drewN|apply IsS119.drew|apply IsS119.set_1|apply IsS119.set_2|refine IsS119.far ?_ NB0_218.out _|refine IsS119.far ?_ NB0_227.out _)|exact HI0.out)) hb)
                      have n4_ := Aside0.mk (KeepBut.trans (by repeat (first|(with_reducible first|exact HK.out|apply KeepBut.set_|apply keep_drewN|apply keep_drew|apply keep_alloc|refine keep_far ?_ GW218.out _|refine keep_far ?_ GW227.out _)|exact HK.out)) (KeepBut.of_below hb g none) (.inl rfl))
                      have n5_ := Aside0.mk (zN (by repeat (first|(with_reducible first|exact HB.out|apply zI|apply zG|apply zH|refine zJ ?_ (IsS119.ge HI0.out)|refine zJ ?_ GE218.out|refine zJ ?_ GE227.out)|exact HB.out)) hb)
                      have n6_ := Aside0.mk (hbox)
                      have n7_ := Aside0.mk ((by rw [hg]; exact (keep_size (w := w) (g := g) (row := none) (by repeat (first|(with_reducible first|exact HK.out|apply KeepBut.set_|apply keep_drewN|apply keep_drew|apply keep_alloc|refine keep_far ?_ GW218.out _|refine keep_far ?_ GW227.out _)|exact HK.out))) : w.heap.size ≤ gb256))
                      have n8_ := Aside0.mk ((Nat.le_trans HW0.out (by rw [hg]; exact (keep_size (w := w) (g := g) (row := none) (by repeat (first|(with_reducible first|exact HK.out|apply KeepBut.set_|apply keep_drewN|apply keep_drew|apply keep_alloc|refine keep_far ?_ GW218.out _|refine keep_far ?_ GW227.out _)|exact HK.out))) : w.heap.size ≤ gb256) : w0.heap.size ≤ gb256))
                      have n9_ := Aside0.mk ((by rw [hg]; exact Nat.ne_of_lt (blk_lt (g := gb218) (o := .cells #[.slice none 0 0, .int .i64 0] 65 (0, 0)) (by (with_reducible repeat (first|refine zA ?_ _|refine zC ?_|refine zB ?_ _)); exact BK218.out)) : gb218 ≠ gb256))
                      have n10_ := Aside0.mk ((by rw [hg]; exact Nat.ne_of_gt (blk_lt (g := gb218) (o := .cells #[.slice none 0 0, .int .i64 0] 65 (0, 0)) (by (with_reducible repeat (first|refine zA ?_ _|refine zC ?_|refine zB ?_ _)); exact BK218.out)) : gb256 ≠ gb218))
                      have n11_ := Aside0.mk ((by rw [hg]; exact Nat.ne_of_lt (blk_lt (g := gb227) (o := .cells #[.slice Ao20 x228000_1.length co20, .int .i64 x228001_1] 65 (0, 0)) (by (with_reducible repeat (first|refine zA ?_ _|refine zC ?_|refine zB ?_ _)); exact BK227.out)) : gb227 ≠ gb256))
                      have n12_ := Aside0.mk ((by rw [hg]; exact Nat.ne_of_gt (blk_lt (g := gb227) (o := .cells #[.slice Ao20 x228000_1.length co20, .int .i64 x228001_1] 65 (0, 0)) (by (with_reducible repeat (first|refine zA ?_ _|refine zC ?_|refine zB ?_ _)); exact BK227.out)) : gb256 ≠ gb227))
                      have n13_ := Aside0.mk ((by rw [hg]; exact Nat.ne_of_lt (IsS119.lt (show IsS119 w0 _ g s0_0 t245 t246 from by repeat (first|(with_reducible first|exact HI0.out|apply IsS119.alloc|apply IsS119.drewN|apply IsS119.drew|apply IsS119.set_1|apply IsS119.set_2|refine IsS119.far ?_ NB0_218.out _|refine IsS119.far ?_ NB0_227.out _)|exact HI0.out))) : g ≠ gb256))
                      have n14_ := Aside0.mk ((by rw [hg]; exact Nat.ne_of_gt (IsS119.lt (show IsS119 w0 _ g s0_0 t245 t246 from by repeat (first|(with_reducible first|exact HI0.out|apply IsS119.alloc|apply IsS119.drewN|apply IsS119.drew|apply IsS119.set_1|apply IsS119.set_2|refine IsS119.far ?_ NB0_218.out _|refine IsS119.far ?_ NB0_227.out _)|exact HI0.out))) : gb256 ≠ g))
                      clear HO_228000
                      clear BK218
                      clear BK227
                      clear HI0
                      clear HK
                      clear HB
                      have HO_228000 := n0_
                      have BK218 := n1_
                      have BK227 := n2_
                      have HI0 := n3_
                      have HK := n4_
                      have HB := n5_
                      have BK256 := n6_
                      have GW256 := n7_
                      have GE256 := n8_
                      have NB218_256 := n9_
                      have NB256_218 := n10_
                      have NB227_256 := n11_
                      have NB256_227 := n12_
                      have NB0_256 := n13_
                      have NB256_0 := n14_
                      clear n0_ n1_ n2_ n3_ n4_ n5_ n6_ n7_ n8_ n9_ n10_ n11_ n12_ n13_ n14_
                      clear hb hbox hg
                      refine hK.out _ _ ⟨(zO BK227.out 0).trans rfl, (zO BK227.out 1).trans rfl⟩ (fun hHeld => ?_)
                      clear hK K
                      refine norm_ (a' := ?_) ?_ ?_
                      rotate_left
                      · show Act.put _ (some 7) _ = _
                        simp only [Act.put, List.setIfInBounds_toArray, List.set_cons_zero, List.set_cons_succ, i64_w, i32_w]
                        rfl
                      refine one_ (i := 4) (N := some 51) #[true, true, true, true, true, false, false, false, false, false, true, false, false, false] rfl rfl (one_of HT_.out (by kernel_rfl)) (by decide) (fun K hK => ?_)
                      refine goes_ Try.func99 (by kernel_rfl) rfl #[.pointer (some ⟨g, 0, none⟩)] (by rfl) rfl rfl (by (try simp only [List.map_toArray, List.map_cons, List.map_nil]); first|done|rfl|(simp only [List.length_drop, List.length_take]; rfl)) ?_
                      with_reducible refine (spec_l03Val.calls g s0_0 t245 t246 t247 t248 t249 w0 _ ?side1 ?side2 A44.out).mono ?_
                      (case side1 => repeat (first|(with_reducible first|exact HI0.out|apply IsS119.alloc|apply IsS119.drewN|apply IsS119.drew|apply IsS119.set_1|apply IsS119.set_2|refine IsS119.far ?_ NB0_218.out _|refine IsS119.far ?_ NB0_227.out _|refine IsS119.far ?_ NB0_256.out _)|exact HI0.out))
                      (case side2 => repeat (first|(with_reducible first|exact HB.out|apply zI|apply zG|apply zH|refine zJ ?_ (IsS119.ge HI0.out)|refine zJ ?_ GE218.out|refine zJ ?_ GE227.out|refine zJ ?_ GE256.out)|exact HB.out))
                      rintro e w66 ⟨rfl, hi, hb, hk⟩
                      refine ⟨_, rfl, ?_⟩
                      have n0_ := Aside0.mk (zR (Kd.R_keep (IsS119.apart (show IsS119 w0 _ g s0_0 t245 t246 from by repeat (first|(with_reducible first|exact HI0.out|apply IsS119.alloc|apply IsS119.drewN|apply IsS119.drew|apply IsS119.set_1|apply IsS119.set_2|refine IsS119.far ?_ NB0_218.out _|refine IsS119.far ?_ NB0_227.out _|refine IsS119.far ?_ NB0_256.out _)|exact HI0.out)) (by (with_reducible repeat (first|apply zE|apply zD|apply zF)); exact HO_228000.out) (by decide)) hk (fun _ h => h.2)) (fun _ h => h.1))
                      have n1_ := Aside0.mk (KeepBut.blk hk (g' := gb218) (o := .cells #[.slice none 0 0, .int .i64 0] 65 (0, 0)) (by (with_reducible repeat (first|refine zA ?_ _|refine zC ?_|refine zB ?_ _)); exact BK218.out) NB218_0.out (by simp))
                      have n2_ := Aside0.mk (KeepBut.blk hk (g' := gb227) (o := .cells #[.slice Ao20 x228000_1.length co20, .int .i64 x228001_1] 65 (0, 0)) (by (with_reducible repeat (first|refine zA ?_ _|refine zC ?_|refine zB ?_ _)); exact BK227.out) NB227_0.out (by simp))
                      have n3_ := Aside0.mk (KeepBut.blk hk (g' := gb256) (o := .cells #[.slice none 0 0, .int .i64 0] 65 (0, 0)) (by (with_reducible repeat (first|refine zA ?_ _|refine zC ?_|refine zB ?_ _)); exact BK256.out) NB256_0.out (by simp))
                      have n4_ := Aside0.mk (KeepBut.trans (by repeat (first|(with_reducible first|exact HK.out|apply KeepBut.set_|apply keep_drewN|apply keep_drew|apply keep_alloc|refine keep_far ?_ GW218.out _|refine keep_far ?_ GW227.out _|refine keep_far ?_ GW256.out _)|exact HK.out)) hk (.inl rfl))
                      have n5_ := Aside0.mk (hb)
                      have n6_ := Aside0.mk (hi)
                      clear HO_228000
                      clear BK218
                      clear BK227
                      clear BK256
                      clear HK
                      clear HB
                      clear HI0
                      have HO_228000 := n0_
                      have BK218 := n1_
                      have BK227 := n2_
                      have BK256 := n3_
                      have HK := n4_
                      have HB := n5_
                      have HI0 := n6_
                      clear n0_ n1_ n2_ n3_ n4_ n5_ n6_
                      (try clear hb)
                      (try clear hb2)
                      (try clear hk)
                      (try clear hi)
                      refine hK.out _ _ ⟨(zO BK227.out 0).trans rfl, (zO BK227.out 1).trans rfl⟩ (fun hHeld => ?_)
                      clear hK K
                      refine norm_ (a' := ?_) ?_ ?_
                      rotate_left
                      · show Act.put _ (some 51) _ = _
                        simp only [Act.put, List.setIfInBounds_toArray, List.set_cons_zero, List.set_cons_succ, i64_w, i32_w]
                        rfl
                      refine one_ (i := 5) (N := some 52) #[true, true, true, true, true, true, false, false, false, false, true, false, false, false] rfl rfl (one_of HT_.out (by kernel_rfl)) (by decide) (fun K hK => ?_)
                      refine goes_ Try.func44 (by kernel_rfl) rfl #[.agg #[.slice Ao20 x228000_1.length co20, .int .i64 x228001_1], .string t244, .string t247] (by rfl) rfl rfl (by (try simp only [List.map_toArray, List.map_cons, List.map_nil]); first|done|rfl|(simp only [List.length_drop, List.length_take]; rfl)) ?_
                      with_reducible refine (spec_Lay.calls kj14 _ _ x228000_1 x228001_1 t244 t247 t250 t253 t254 false _ ?side1 ?side2 A45.out).mono ?_
                      (case side1 => repeat (first|exact (Kd.R_reads' HO_228000.out).2.2|(with_reducible refine Kd.C_alloc ?_ _)|(with_reducible refine Kd.C_drewN ?_ _)|(with_reducible refine Kd.C_drew ?_)))
                      (case side2 => exact (Kd.R_reads' HO_228000.out).2.1)
                      rintro e w67 ⟨v251, rfl, ho0, hb⟩
                      refine ⟨_, rfl, ?_⟩
                      have n0_ := Aside0.mk (Kd.R_elder' (by (with_reducible repeat (first|apply zE|apply zD|apply zF)); exact HO_228000.out) (Kd.R_base ho0) hb)
                      have n1_ := Aside0.mk (Kd.R_lower (Kd.R_new' ho0 (Kd.R_lt (by (with_reducible repeat (first|apply zE|apply zD|apply zF)); exact HO_228000.out))) (keep_size (w := w) (g := g) (row := none) (by repeat (first|(with_reducible first|exact HK.out|apply KeepBut.set_|apply keep_drewN|apply keep_drew|apply keep_alloc|refine keep_far ?_ GW218.out _|refine keep_far ?_ GW227.out _|refine keep_far ?_ GW256.out _)|exact HK.out))))
                      have n2_ := Aside0.mk (zK (g := gb218) (o := .cells #[.slice none 0 0, .int .i64 0] 65 (0, 0)) (by (with_reducible repeat (first|refine zA ?_ _|refine zC ?_|refine zB ?_ _)); exact BK218.out) hb)
                      have n3_ := Aside0.mk (zK (g := gb227) (o := .cells #[.slice Ao20 x228000_1.length co20, .int .i64 x228001_1] 65 (0, 0)) (by (with_reducible repeat (first|refine zA ?_ _|refine zC ?_|refine zB ?_ _)); exact BK227.out) hb)
                      have n4_ := Aside0.mk (IsS119.below (by repeat (first|(with_reducible first|exact HI0.out|apply IsS119.alloc|apply IsS119.drewN|apply IsS119.drew|apply IsS119.set_1|apply IsS119.set_2|refine IsS119.far ?_ NB0_218.out _|refine IsS119.far ?_ NB0_227.out _|refine IsS119.far ?_ NB0_256.out _)|exact HI0.out)) hb)
                      have n5_ := Aside0.mk (zK (g := gb256) (o := .cells #[.slice none 0 0, .int .i64 0] 65 (0, 0)) (by (with_reducible repeat (first|refine zA ?_ _|refine zC ?_|refine zB ?_ _)); exact BK256.out) hb)
                      have n6_ := Aside0.mk (KeepBut.trans (by repeat (first|(with_reducible first|exact HK.out|apply KeepBut.set_|apply keep_drewN|apply keep_drew|apply keep_alloc|refine keep_far ?_ GW218.out _|refine keep_far ?_ GW227.out _|refine keep_far ?_ GW256.out _)|exact HK.out)) (KeepBut.of_below hb g none) (.inl rfl))
                      have n7_ := Aside0.mk (zN (by repeat (first|(with_reducible first|exact HB.out|apply zI|apply zG|apply zH|refine zJ ?_ (IsS119.ge HI0.out)|refine zJ ?_ GE218.out|refine zJ ?_ GE227.out|refine zJ ?_ GE256.out)|exact HB.out)) hb)
                      clear HO_228000
                      clear BK218
                      clear BK227
                      clear HI0
                      clear BK256
                      clear HK
                      clear HB
                      have HO_228000 := n0_
                      have HO252 := n1_
                      have BK218 := n2_
                      have BK227 := n3_
                      have HI0 := n4_
                      have BK256 := n5_
                      have HK := n6_
                      have HB := n7_
                      clear n0_ n1_ n2_ n3_ n4_ n5_ n6_ n7_
                      (try clear hb)
                      (try clear hb2)
                      (try clear hk)
                      (try clear hi)
                      (try clear ho0)
                      refine hK.out _ _ ⟨(zO BK227.out 0).trans rfl, (zO BK227.out 1).trans rfl⟩ (fun hHeld => ?_)
                      clear hK K
                      refine norm_ (a' := ?_) ?_ ?_
                      rotate_left
                      · show Act.put _ (some 52) _ = _
                        simp only [Act.put, List.setIfInBounds_toArray, List.set_cons_zero, List.set_cons_succ, i64_w, i32_w]
                        rfl
                      refine pure_ (i := 6) (N := some 46) (v := ?_) (a' := ?_) #[true, true, true, true, true, true, true, false, false, false, true, false, false, false] rfl rfl (any_of HT_.out (by kernel_rfl)) (fun _ _ _ h => h) (Or.inl ⟨by rfl, ?_⟩) ?_ ?_
                      rotate_left
                      · intro w'
                        go_simp
                        with_reducible rfl
                      rotate_left
                      · simp only [Act.put, List.setIfInBounds_toArray, List.set_cons_zero, List.set_cons_succ, i64_w, i32_w]
                        rfl
                      refine pure_ (i := 7) (N := some 53) (v := ?_) (a' := ?_) #[true, true, true, true, true, true, true, true, false, false, true, false, false, false] rfl rfl (any_of HT_.out (by kernel_rfl)) (fun _ _ _ h => h) (Or.inl ⟨by rfl, ?_⟩) ?_ ?_
                      rotate_left
                      · intro w'
                        go_simp
                        with_reducible rfl
                      rotate_left
                      · simp only [Act.put, List.setIfInBounds_toArray, List.set_cons_zero, List.set_cons_succ, i64_w, i32_w]
                        rfl
                      refine pure_ (i := 8) (N := some 54) (v := ?_) (a' := ?_) #[true, true, true, true, true, true, true, true, true, false, true, false, false, false] rfl rfl (any_of HT_.out (by kernel_rfl)) (fun _ _ _ h => h) (Or.inl ⟨by rfl, ?_⟩) ?_ ?_
                      rotate_left
                      · intro w'
                        go_simp
                        with_reducible rfl
                      rotate_left
                      · simp only [Act.put, List.setIfInBounds_toArray, List.set_cons_zero, List.set_cons_succ, i64_w, i32_w]
                        rfl
                      refine pure_ (i := 9) (N := some 55) (v := ?_) (a' := ?_) #[true, true, true, true, true, true, true, true, true, true, true, false, false, false] rfl rfl (any_of HT_.out (by kernel_rfl)) (fun _ _ _ h => h) (Or.inl ⟨by rfl, ?_⟩) ?_ ?_
                      rotate_left
                      · intro w'
                        go_simp
                        with_reducible rfl
                      rotate_left
                      · simp only [Act.put, List.setIfInBounds_toArray, List.set_cons_zero, List.set_cons_succ, i64_w, i32_w]
                        rfl
                      exact norm_ (by simp only [putAll, Act.put, List.setIfInBounds_toArray, List.set_cons_zero, List.set_cons_succ]) (hCont (v251, gb256) _ ⟨hHeld, (by (with_reducible repeat (first|apply zE|apply zD|apply zF)); exact zR HO252.out (fun _ hk => hk.2)), (by (with_reducible repeat (first|apply zE|apply zD|apply zF)); exact zR HO_228000.out (fun _ hk => hk.2)), (by (with_reducible repeat (first|refine zA ?_ _|refine zC ?_|refine zB ?_ _)); exact BK218.out), (by (with_reducible repeat (first|refine zA ?_ _|refine zC ?_|refine zB ?_ _)); exact BK227.out), (by (with_reducible repeat (first|refine zA ?_ _|refine zC ?_|refine zB ?_ _)); exact BK256.out), GW256.out, GE256.out, NB0_256.out, NB256_0.out, NB218_256.out, NB256_218.out, NB227_256.out, NB256_227.out, (by repeat (first|(with_reducible first|exact HI0.out|apply IsS119.alloc|apply IsS119.drewN|apply IsS119.drew|apply IsS119.set_1|apply IsS119.set_2|refine IsS119.far ?_ NB0_218.out _|refine IsS119.far ?_ NB0_227.out _|refine IsS119.far ?_ NB0_256.out _)|exact HI0.out)), (by repeat (first|(with_reducible first|exact HK.out|apply KeepBut.set_|apply keep_drewN|apply keep_drew|apply keep_alloc|refine keep_far ?_ GW218.out _|refine keep_far ?_ GW227.out _|refine keep_far ?_ GW256.out _)|exact HK.out)), (by repeat (first|(with_reducible first|exact HB.out|apply zI|apply zG|apply zH|refine zJ ?_ (IsS119.ge HI0.out)|refine zJ ?_ GE218.out|refine zJ ?_ GE227.out|refine zJ ?_ GE256.out)|exact HB.out))⟩)
                  · skip
                    refine box_step ?hg (N := 7) ?hd (cs := #[.slice none 0 0, .int .i64 0]) (t := 65) ?hr ?_; (case hd => rfl); (case hg => rfl); (case hr => first|(go_simp; done)|(go_simp; rfl))
                    intro gb256 hg w64 hbox hb
                    have n0_ := Aside0.mk (zM (by (with_reducible repeat (first|apply zE|apply zD|apply zF)); exact HO_228000.out) hb)
                    have n1_ := Aside0.mk (zK (g := gb218) (o := .cells #[.slice none 0 0, .int .i64 0] 65 (0, 0)) (by (with_reducible repeat (first|refine zA ?_ _|refine zC ?_|refine zB ?_ _)); exact BK218.out) hb)
                    have n2_ := Aside0.mk (zK (g := gb227) (o := .cells #[.slice Ao20 x228000_1.length co20, .int .i64 x228001_1] 65 (0, 0)) (by (with_reducible repeat (first|refine zA ?_ _|refine zC ?_|refine zB ?_ _)); exact BK227.out) hb)
                    have n3_ := Aside0.mk (IsS119.below (by repeat (first|(with_reducible first|exact HI0.out|apply IsS119.alloc|apply IsS119.drewN|apply IsS119.drew|apply IsS119.set_1|apply IsS119.set_2|refine IsS119.far ?_ NB0_218.out _|refine IsS119.far ?_ NB0_227.out _)|exact HI0.out)) hb)
                    have n4_ := Aside0.mk (KeepBut.trans (by repeat (first|(with_reducible first|exact HK.out|apply KeepBut.set_|apply keep_drewN|apply keep_drew|apply keep_alloc|refine keep_far ?_ GW218.out _|refine keep_far ?_ GW227.out _)|exact HK.out)) (KeepBut.of_below hb g none) (.inl rfl))
                    have n5_ := Aside0.mk (zN (by repeat (first|(with_reducible first|exact HB.out|apply zI|apply zG|apply zH|refine zJ ?_ (IsS119.ge HI0.out)|refine zJ ?_ GE218.out|refine zJ ?_ GE227.out)|exact HB.out)) hb)
                    have n6_ := Aside0.mk (hbox)
                    have n7_ := Aside0.mk ((by rw [hg]; exact (keep_size (w := w) (g := g) (row := none) (by repeat (first|(with_reducible first|exact HK.out|apply KeepBut.set_|apply keep_drewN|apply keep_drew|apply keep_alloc|refine keep_far ?_ GW218.out _|refine keep_far ?_ GW227.out _)|exact HK.out))) : w.heap.size ≤ gb256))
                    have n8_ := Aside0.mk ((Nat.le_trans HW0.out (by rw [hg]; exact (keep_size (w := w) (g := g) (row := none) (by repeat (first|(with_reducible first|exact HK.out|apply KeepBut.set_|apply keep_drewN|apply keep_drew|apply keep_alloc|refine keep_far ?_ GW218.out _|refine keep_far ?_ GW227.out _)|exact HK.out))) : w.heap.size ≤ gb256) : w0.heap.size ≤ gb256))
                    have n9_ := Aside0.mk ((by rw [hg]; exact Nat.ne_of_lt (blk_lt (g := gb218) (o := .cells #[.slice none 0 0, .int .i64 0] 65 (0, 0)) (by (with_reducible repeat (first|refine zA ?_ _|refine zC ?_|refine zB ?_ _)); exact BK218.out)) : gb218 ≠ gb256))
                    have n10_ := Aside0.mk ((by rw [hg]; exact Nat.ne_of_gt (blk_lt (g := gb218) (o := .cells #[.slice none 0 0, .int .i64 0] 65 (0, 0)) (by (with_reducible repeat (first|refine zA ?_ _|refine zC ?_|refine zB ?_ _)); exact BK218.out)) : gb256 ≠ gb218))
                    have n11_ := Aside0.mk ((by rw [hg]; exact Nat.ne_of_lt (blk_lt (g := gb227) (o := .cells #[.slice Ao20 x228000_1.length co20, .int .i64 x228001_1] 65 (0, 0)) (by (with_reducible repeat (first|refine zA ?_ _|refine zC ?_|refine zB ?_ _)); exact BK227.out)) : gb227 ≠ gb256))
                    have n12_ := Aside0.mk ((by rw [hg]; exact Nat.ne_of_gt (blk_lt (g := gb227) (o := .cells #[.slice Ao20 x228000_1.length co20, .int .i64 x228001_1] 65 (0, 0)) (by (with_reducible repeat (first|refine zA ?_ _|refine zC ?_|refine zB ?_ _)); exact BK227.out)) : gb256 ≠ gb227))
                    have n13_ := Aside0.mk ((by rw [hg]; exact Nat.ne_of_lt (IsS119.lt (show IsS119 w0 _ g s0_0 x1001_14 x1002_14 from by repeat (first|(with_reducible first|exact HI0.out|apply IsS119.alloc|apply IsS119.drewN|apply IsS119.drew|apply IsS119.set_1|apply IsS119.set_2|refine IsS119.far ?_ NB0_218.out _|refine IsS119.far ?_ NB0_227.out _)|exact HI0.out))) : g ≠ gb256))
                    have n14_ := Aside0.mk ((by rw [hg]; exact Nat.ne_of_gt (IsS119.lt (show IsS119 w0 _ g s0_0 x1001_14 x1002_14 from by repeat (first|(with_reducible first|exact HI0.out|apply IsS119.alloc|apply IsS119.drewN|apply IsS119.drew|apply IsS119.set_1|apply IsS119.set_2|refine IsS119.far ?_ NB0_218.out _|refine IsS119.far ?_ NB0_227.out _)|exact HI0.out))) : gb256 ≠ g))
                    clear HO_228000
                    clear BK218
                    clear BK227
                    clear HI0
                    clear HK
                    clear HB
                    have HO_228000 := n0_
                    have BK218 := n1_
                    have BK227 := n2_
                    have HI0 := n3_
                    have HK := n4_
                    have HB := n5_
                    have BK256 := n6_
                    have GW256 := n7_
                    have GE256 := n8_
                    have NB218_256 := n9_
                    have NB256_218 := n10_
                    have NB227_256 := n11_
                    have NB256_227 := n12_
                    have NB0_256 := n13_
                    have NB256_0 := n14_
                    clear n0_ n1_ n2_ n3_ n4_ n5_ n6_ n7_ n8_ n9_ n10_ n11_ n12_ n13_ n14_
                    clear hb hbox hg
                    refine hK.out _ _ ⟨(zO BK227.out 0).trans rfl, (zO BK227.out 1).trans rfl⟩ (fun hHeld => ?_)
                    clear hK K
                    refine norm_ (a' := ?_) ?_ ?_
                    rotate_left
                    · show Act.put _ (some 7) _ = _
                      simp only [Act.put, List.setIfInBounds_toArray, List.set_cons_zero, List.set_cons_succ, i64_w, i32_w]
                      rfl
                    refine one_ (i := 2) (N := some 49) #[true, true, true, true, false, false, false, false, false, false, true, false, false, false] rfl rfl (one_of HT_.out (by kernel_rfl)) (by decide) (fun K hK => ?_)
                    refine goes_ Try.func74 (by kernel_rfl) rfl #[.pointer (some ⟨g, 0, none⟩)] (by rfl) rfl rfl (by (try simp only [List.map_toArray, List.map_cons, List.map_nil]); first|done|rfl|(simp only [List.length_drop, List.length_take]; rfl)) ?_
                    with_reducible refine (spec_l03Key.calls g s0_0 x1001_14 x1002_14 t244 t245 t246 w0 _ ?side1 ?side2 A43.out).mono ?_
                    (case side1 => repeat (first|(with_reducible first|exact HI0.out|apply IsS119.alloc|apply IsS119.drewN|apply IsS119.drew|apply IsS119.set_1|apply IsS119.set_2|refine IsS119.far ?_ NB0_218.out _|refine IsS119.far ?_ NB0_227.out _|refine IsS119.far ?_ NB0_256.out _)|exact HI0.out))
                    (case side2 => repeat (first|(with_reducible first|exact HB.out|apply zI|apply zG|apply zH|refine zJ ?_ (IsS119.ge HI0.out)|refine zJ ?_ GE218.out|refine zJ ?_ GE227.out|refine zJ ?_ GE256.out)|exact HB.out))
                    rintro e w65 ⟨rfl, hi, hb, hk⟩
                    refine ⟨_, rfl, ?_⟩
                    have n0_ := Aside0.mk (zR (Kd.R_keep (IsS119.apart (show IsS119 w0 _ g s0_0 x1001_14 x1002_14 from by repeat (first|(with_reducible first|exact HI0.out|apply IsS119.alloc|apply IsS119.drewN|apply IsS119.drew|apply IsS119.set_1|apply IsS119.set_2|refine IsS119.far ?_ NB0_218.out _|refine IsS119.far ?_ NB0_227.out _|refine IsS119.far ?_ NB0_256.out _)|exact HI0.out)) (by (with_reducible repeat (first|apply zE|apply zD|apply zF)); exact HO_228000.out) (by decide)) hk (fun _ h => h.2)) (fun _ h => h.1))
                    have n1_ := Aside0.mk (KeepBut.blk hk (g' := gb218) (o := .cells #[.slice none 0 0, .int .i64 0] 65 (0, 0)) (by (with_reducible repeat (first|refine zA ?_ _|refine zC ?_|refine zB ?_ _)); exact BK218.out) NB218_0.out (by simp))
                    have n2_ := Aside0.mk (KeepBut.blk hk (g' := gb227) (o := .cells #[.slice Ao20 x228000_1.length co20, .int .i64 x228001_1] 65 (0, 0)) (by (with_reducible repeat (first|refine zA ?_ _|refine zC ?_|refine zB ?_ _)); exact BK227.out) NB227_0.out (by simp))
                    have n3_ := Aside0.mk (KeepBut.blk hk (g' := gb256) (o := .cells #[.slice none 0 0, .int .i64 0] 65 (0, 0)) (by (with_reducible repeat (first|refine zA ?_ _|refine zC ?_|refine zB ?_ _)); exact BK256.out) NB256_0.out (by simp))
                    have n4_ := Aside0.mk (KeepBut.trans (by repeat (first|(with_reducible first|exact HK.out|apply KeepBut.set_|apply keep_drewN|apply keep_drew|apply keep_alloc|refine keep_far ?_ GW218.out _|refine keep_far ?_ GW227.out _|refine keep_far ?_ GW256.out _)|exact HK.out)) hk (.inl rfl))
                    have n5_ := Aside0.mk (hb)
                    have n6_ := Aside0.mk (hi)
                    clear HO_228000
                    clear BK218
                    clear BK227
                    clear BK256
                    clear HK
                    clear HB
                    clear HI0
                    have HO_228000 := n0_
                    have BK218 := n1_
                    have BK227 := n2_
                    have BK256 := n3_
                    have HK := n4_
                    have HB := n5_
                    have HI0 := n6_
                    clear n0_ n1_ n2_ n3_ n4_ n5_ n6_
                    (try clear hb)
                    (try clear hb2)
                    (try clear hk)
                    (try clear hi)
                    refine hK.out _ _ ⟨(zO BK227.out 0).trans rfl, (zO BK227.out 1).trans rfl⟩ (fun hHeld => ?_)
                    clear hK K
                    refine norm_ (a' := ?_) ?_ ?_
                    rotate_left
                    · show Act.put _ (some 49) _ = _
                      simp only [Act.put, List.setIfInBounds_toArray, List.set_cons_zero, List.set_cons_succ, i64_w, i32_w]
                      rfl
                    refine one_ (i := 4) (N := some 51) #[true, true, true, true, true, false, false, false, false, false, true, false, false, false] rfl rfl (one_of HT_.out (by kernel_rfl)) (by decide) (fun K hK => ?_)
                    refine goes_ Try.func99 (by kernel_rfl) rfl #[.pointer (some ⟨g, 0, none⟩)] (by rfl) rfl rfl (by (try simp only [List.map_toArray, List.map_cons, List.map_nil]); first|done|rfl|(simp only [List.length_drop, List.length_take]; rfl)) ?_
                    with_reducible refine (spec_l03Val.calls g s0_0 t245 t246 t247 t248 t249 w0 _ ?side1 ?side2 A44.out).mono ?_
                    (case side1 => repeat (first|(with_reducible first|exact HI0.out|apply IsS119.alloc|apply IsS119.drewN|apply IsS119.drew|apply IsS119.set_1|apply IsS119.set_2|refine IsS119.far ?_ NB0_218.out _|refine IsS119.far ?_ NB0_227.out _|refine IsS119.far ?_ NB0_256.out _)|exact HI0.out))
                    (case side2 => repeat (first|(with_reducible first|exact HB.out|apply zI|apply zG|apply zH|refine zJ ?_ (IsS119.ge HI0.out)|refine zJ ?_ GE218.out|refine zJ ?_ GE227.out|refine zJ ?_ GE256.out)|exact HB.out))
                    rintro e w66 ⟨rfl, hi, hb, hk⟩
                    refine ⟨_, rfl, ?_⟩
                    have n0_ := Aside0.mk (zR (Kd.R_keep (IsS119.apart (show IsS119 w0 _ g s0_0 t245 t246 from by repeat (first|(with_reducible first|exact HI0.out|apply IsS119.alloc|apply IsS119.drewN|apply IsS119.drew|apply IsS119.set_1|apply IsS119.set_2|refine IsS119.far ?_ NB0_218.out _|refine IsS119.far ?_ NB0_227.out _|refine IsS119.far ?_ NB0_256.out _)|exact HI0.out)) (by (with_reducible repeat (first|apply zE|apply zD|apply zF)); exact HO_228000.out) (by decide)) hk (fun _ h => h.2)) (fun _ h => h.1))
                    have n1_ := Aside0.mk (KeepBut.blk hk (g' := gb218) (o := .cells #[.slice none 0 0, .int .i64 0] 65 (0, 0)) (by (with_reducible repeat (first|refine zA ?_ _|refine zC ?_|refine zB ?_ _)); exact BK218.out) NB218_0.out (by simp))
                    have n2_ := Aside0.mk (KeepBut.blk hk (g' := gb227) (o := .cells #[.slice Ao20 x228000_1.length co20, .int .i64 x228001_1] 65 (0, 0)) (by (with_reducible repeat (first|refine zA ?_ _|refine zC ?_|refine zB ?_ _)); exact BK227.out) NB227_0.out (by simp))
                    have n3_ := Aside0.mk (KeepBut.blk hk (g' := gb256) (o := .cells #[.slice none 0 0, .int .i64 0] 65 (0, 0)) (by (with_reducible repeat (first|refine zA ?_ _|refine zC ?_|refine zB ?_ _)); exact BK256.out) NB256_0.out (by simp))
                    have n4_ := Aside0.mk (KeepBut.trans (by repeat (first|(with_reducible first|exact HK.out|apply KeepBut.set_|apply keep_drewN|apply keep_drew|apply keep_alloc|refine keep_far ?_ GW218.out _|refine keep_far ?_ GW227.out _|refine keep_far ?_ GW256.out _)|exact HK.out)) hk (.inl rfl))
                    have n5_ := Aside0.mk (hb)
                    have n6_ := Aside0.mk (hi)
                    clear HO_228000
                    clear BK218
                    clear BK227
                    clear BK256
                    clear HK
                    clear HB
                    clear HI0
                    have HO_228000 := n0_
                    have BK218 := n1_
                    have BK227 := n2_
                    have BK256 := n3_
                    have HK := n4_
                    have HB := n5_
                    have HI0 := n6_
                    clear n0_ n1_ n2_ n3_ n4_ n5_ n6_
                    (try clear hb)
                    (try clear hb2)
                    (try clear hk)
                    (try clear hi)
                    refine hK.out _ _ ⟨(zO BK227.out 0).trans rfl, (zO BK227.out 1).trans rfl⟩ (fun hHeld => ?_)
                    clear hK K
                    refine norm_ (a' := ?_) ?_ ?_
                    rotate_left
                    · show Act.put _ (some 51) _ = _
                      simp only [Act.put, List.setIfInBounds_toArray, List.set_cons_zero, List.set_cons_succ, i64_w, i32_w]
                      rfl
                    refine one_ (i := 5) (N := some 52) #[true, true, true, true, true, true, false, false, false, false, true, false, false, false] rfl rfl (one_of HT_.out (by kernel_rfl)) (by decide) (fun K hK => ?_)
                    refine goes_ Try.func44 (by kernel_rfl) rfl #[.agg #[.slice Ao20 x228000_1.length co20, .int .i64 x228001_1], .string t244, .string t247] (by rfl) rfl rfl (by (try simp only [List.map_toArray, List.map_cons, List.map_nil]); first|done|rfl|(simp only [List.length_drop, List.length_take]; rfl)) ?_
                    with_reducible refine (spec_Lay.calls kj14 _ _ x228000_1 x228001_1 t244 t247 t250 t253 t254 false _ ?side1 ?side2 A45.out).mono ?_
                    (case side1 => repeat (first|exact (Kd.R_reads' HO_228000.out).2.2|(with_reducible refine Kd.C_alloc ?_ _)|(with_reducible refine Kd.C_drewN ?_ _)|(with_reducible refine Kd.C_drew ?_)))
                    (case side2 => exact (Kd.R_reads' HO_228000.out).2.1)
                    rintro e w67 ⟨v251, rfl, ho0, hb⟩
                    refine ⟨_, rfl, ?_⟩
                    have n0_ := Aside0.mk (Kd.R_elder' (by (with_reducible repeat (first|apply zE|apply zD|apply zF)); exact HO_228000.out) (Kd.R_base ho0) hb)
                    have n1_ := Aside0.mk (Kd.R_lower (Kd.R_new' ho0 (Kd.R_lt (by (with_reducible repeat (first|apply zE|apply zD|apply zF)); exact HO_228000.out))) (keep_size (w := w) (g := g) (row := none) (by repeat (first|(with_reducible first|exact HK.out|apply KeepBut.set_|apply keep_drewN|apply keep_drew|apply keep_alloc|refine keep_far ?_ GW218.out _|refine keep_far ?_ GW227.out _|refine keep_far ?_ GW256.out _)|exact HK.out))))
                    have n2_ := Aside0.mk (zK (g := gb218) (o := .cells #[.slice none 0 0, .int .i64 0] 65 (0, 0)) (by (with_reducible repeat (first|refine zA ?_ _|refine zC ?_|refine zB ?_ _)); exact BK218.out) hb)
                    have n3_ := Aside0.mk (zK (g := gb227) (o := .cells #[.slice Ao20 x228000_1.length co20, .int .i64 x228001_1] 65 (0, 0)) (by (with_reducible repeat (first|refine zA ?_ _|refine zC ?_|refine zB ?_ _)); exact BK227.out) hb)
                    have n4_ := Aside0.mk (IsS119.below (by repeat (first|(with_reducible first|exact HI0.out|apply IsS119.alloc|apply IsS119.drewN|apply IsS119.drew|apply IsS119.set_1|apply IsS119.set_2|refine IsS119.far ?_ NB0_218.out _|refine IsS119.far ?_ NB0_227.out _|refine IsS119.far ?_ NB0_256.out _)|exact HI0.out)) hb)
                    have n5_ := Aside0.mk (zK (g := gb256) (o := .cells #[.slice none 0 0, .int .i64 0] 65 (0, 0)) (by (with_reducible repeat (first|refine zA ?_ _|refine zC ?_|refine zB ?_ _)); exact BK256.out) hb)
                    have n6_ := Aside0.mk (KeepBut.trans (by repeat (first|(with_reducible first|exact HK.out|apply KeepBut.set_|apply keep_drewN|apply keep_drew|apply keep_alloc|refine keep_far ?_ GW218.out _|refine keep_far ?_ GW227.out _|refine keep_far ?_ GW256.out _)|exact HK.out)) (KeepBut.of_below hb g none) (.inl rfl))
                    have n7_ := Aside0.mk (zN (by repeat (first|(with_reducible first|exact HB.out|apply zI|apply zG|apply zH|refine zJ ?_ (IsS119.ge HI0.out)|refine zJ ?_ GE218.out|refine zJ ?_ GE227.out|refine zJ ?_ GE256.out)|exact HB.out)) hb)
                    clear HO_228000
                    clear BK218
                    clear BK227
                    clear HI0
                    clear BK256
                    clear HK
                    clear HB
                    have HO_228000 := n0_
                    have HO252 := n1_
                    have BK218 := n2_
                    have BK227 := n3_
                    have HI0 := n4_
                    have BK256 := n5_
                    have HK := n6_
                    have HB := n7_
                    clear n0_ n1_ n2_ n3_ n4_ n5_ n6_ n7_
                    (try clear hb)
                    (try clear hb2)
                    (try clear hk)
                    (try clear hi)
                    (try clear ho0)
                    refine hK.out _ _ ⟨(zO BK227.out 0).trans rfl, (zO BK227.out 1).trans rfl⟩ (fun hHeld => ?_)
                    clear hK K
                    refine norm_ (a' := ?_) ?_ ?_
                    rotate_left
                    · show Act.put _ (some 52) _ = _
                      simp only [Act.put, List.setIfInBounds_toArray, List.set_cons_zero, List.set_cons_succ, i64_w, i32_w]
                      rfl
                    refine pure_ (i := 6) (N := some 46) (v := ?_) (a' := ?_) #[true, true, true, true, true, true, true, false, false, false, true, false, false, false] rfl rfl (any_of HT_.out (by kernel_rfl)) (fun _ _ _ h => h) (Or.inl ⟨by rfl, ?_⟩) ?_ ?_
                    rotate_left
                    · intro w'
                      go_simp
                      with_reducible rfl
                    rotate_left
                    · simp only [Act.put, List.setIfInBounds_toArray, List.set_cons_zero, List.set_cons_succ, i64_w, i32_w]
                      rfl
                    refine pure_ (i := 7) (N := some 53) (v := ?_) (a' := ?_) #[true, true, true, true, true, true, true, true, false, false, true, false, false, false] rfl rfl (any_of HT_.out (by kernel_rfl)) (fun _ _ _ h => h) (Or.inl ⟨by rfl, ?_⟩) ?_ ?_
                    rotate_left
                    · intro w'
                      go_simp
                      with_reducible rfl
                    rotate_left
                    · simp only [Act.put, List.setIfInBounds_toArray, List.set_cons_zero, List.set_cons_succ, i64_w, i32_w]
                      rfl
                    refine pure_ (i := 8) (N := some 54) (v := ?_) (a' := ?_) #[true, true, true, true, true, true, true, true, true, false, true, false, false, false] rfl rfl (any_of HT_.out (by kernel_rfl)) (fun _ _ _ h => h) (Or.inl ⟨by rfl, ?_⟩) ?_ ?_
                    rotate_left
                    · intro w'
                      go_simp
                      with_reducible rfl
                    rotate_left
                    · simp only [Act.put, List.setIfInBounds_toArray, List.set_cons_zero, List.set_cons_succ, i64_w, i32_w]
                      rfl
                    refine pure_ (i := 9) (N := some 55) (v := ?_) (a' := ?_) #[true, true, true, true, true, true, true, true, true, true, true, false, false, false] rfl rfl (any_of HT_.out (by kernel_rfl)) (fun _ _ _ h => h) (Or.inl ⟨by rfl, ?_⟩) ?_ ?_
                    rotate_left
                    · intro w'
                      go_simp
                      with_reducible rfl
                    rotate_left
                    · simp only [Act.put, List.setIfInBounds_toArray, List.set_cons_zero, List.set_cons_succ, i64_w, i32_w]
                      rfl
                    exact norm_ (by simp only [putAll, Act.put, List.setIfInBounds_toArray, List.set_cons_zero, List.set_cons_succ]) (hCont (v251, gb256) _ ⟨hHeld, (by (with_reducible repeat (first|apply zE|apply zD|apply zF)); exact zR HO252.out (fun _ hk => hk.2)), (by (with_reducible repeat (first|apply zE|apply zD|apply zF)); exact zR HO_228000.out (fun _ hk => hk.2)), (by (with_reducible repeat (first|refine zA ?_ _|refine zC ?_|refine zB ?_ _)); exact BK218.out), (by (with_reducible repeat (first|refine zA ?_ _|refine zC ?_|refine zB ?_ _)); exact BK227.out), (by (with_reducible repeat (first|refine zA ?_ _|refine zC ?_|refine zB ?_ _)); exact BK256.out), GW256.out, GE256.out, NB0_256.out, NB256_0.out, NB218_256.out, NB256_218.out, NB227_256.out, NB256_227.out, (by repeat (first|(with_reducible first|exact HI0.out|apply IsS119.alloc|apply IsS119.drewN|apply IsS119.drew|apply IsS119.set_1|apply IsS119.set_2|refine IsS119.far ?_ NB0_218.out _|refine IsS119.far ?_ NB0_227.out _|refine IsS119.far ?_ NB0_256.out _)|exact HI0.out)), (by repeat (first|(with_reducible first|exact HK.out|apply KeepBut.set_|apply keep_drewN|apply keep_drew|apply keep_alloc|refine keep_far ?_ GW218.out _|refine keep_far ?_ GW227.out _|refine keep_far ?_ GW256.out _)|exact HK.out)), (by repeat (first|(with_reducible first|exact HB.out|apply zI|apply zG|apply zH|refine zJ ?_ (IsS119.ge HI0.out)|refine zJ ?_ GE218.out|refine zJ ?_ GE227.out|refine zJ ?_ GE256.out)|exact HB.out))⟩)
                rintro ⟨v251, gb256⟩ w68 ⟨hS_, h0_, h1_, h2_, h3_, h4_, h5_, h6_, h7_, h8_, h9_, h10_, h11_, h12_, h13_, h14_, h15_⟩
                have n0_ : Aside0 (Kd.R k81 81 w68 w.heap.size (fun k_ => some k_ ≠ (.slice Ao20 x228000_1.length co20 : Value).ownBlock) v251 t250) := ⟨h0_⟩
                have n1_ : Aside0 (Kd.R k81 81 w68 w.heap.size (fun k_ => some k_ ≠ (v251 : Value).ownBlock) (.slice Ao20 x228000_1.length co20) x228000_1) := ⟨h1_⟩
                have n2_ : Aside0 (w68.heap[gb218]? = some (.cells #[.slice none 0 0, .int .i64 0] 65 (0, 0))) := ⟨h2_⟩
                have n3_ : Aside0 (w68.heap[gb227]? = some (.cells #[.slice Ao20 x228000_1.length co20, .int .i64 x228001_1] 65 (0, 0))) := ⟨h3_⟩
                have n4_ : Aside0 (w68.heap[gb256]? = some (.cells #[.slice none 0 0, .int .i64 0] 65 (0, 0))) := ⟨h4_⟩
                have n5_ : Aside0 (w.heap.size ≤ gb256) := ⟨h5_⟩
                have n6_ : Aside0 (w0.heap.size ≤ gb256) := ⟨h6_⟩
                have n7_ : Aside0 (g ≠ gb256) := ⟨h7_⟩
                have n8_ : Aside0 (gb256 ≠ g) := ⟨h8_⟩
                have n9_ : Aside0 (gb218 ≠ gb256) := ⟨h9_⟩
                have n10_ : Aside0 (gb256 ≠ gb218) := ⟨h10_⟩
                have n11_ : Aside0 (gb227 ≠ gb256) := ⟨h11_⟩
                have n12_ : Aside0 (gb256 ≠ gb227) := ⟨h12_⟩
                have n13_ : Aside0 (IsS119 w0 w68 g s0_0 t248 t249) := ⟨h13_⟩
                have n14_ : Aside0 (KeepBut w w68 g none) := ⟨h14_⟩
                have n15_ : Aside0 (Below w0.heap.size w0 w68) := ⟨h15_⟩
                clear HO_228000
                clear BK218
                clear BK227
                clear HI0
                clear HK
                clear HB
                clear h0_ h1_ h2_ h3_ h4_ h5_ h6_ h7_ h8_ h9_ h10_ h11_ h12_ h13_ h14_ h15_
                have HO252 := n0_
                have HO_228000 := n1_
                have BK218 := n2_
                have BK227 := n3_
                have BK256 := n4_
                have GW256 := n5_
                have GE256 := n6_
                have NB0_256 := n7_
                have NB256_0 := n8_
                have NB218_256 := n9_
                have NB256_218 := n10_
                have NB227_256 := n11_
                have NB256_227 := n12_
                have HI0 := n13_
                have HK := n14_
                have HB := n15_
                clear n0_ n1_ n2_ n3_ n4_ n5_ n6_ n7_ n8_ n9_ n10_ n11_ n12_ n13_ n14_ n15_
                have hHeld : w68.cell? ⟨gb227, 0, none⟩ = some (.slice Ao20 x228000_1.length co20) ∧ w68.cell? ⟨gb227, 1, none⟩ = some (.int .i64 x228001_1) := hS_
                obtain ⟨Ao69, co69, eo69⟩ := Kd.R_slice HO252.out
                (first|subst eo69|(injection eo69 with f1_ f2_ f3_; have f4_ := f1_.symm; have f5_ := f3_.symm; clear f1_ f2_ f3_; subst f4_; subst f5_))
                refine norm_ (a' := ?_) ?_ ?_
                rotate_left
                · simp only [putAll, Act.put, List.setIfInBounds_toArray, List.set_cons_zero, List.set_cons_succ]
                  rfl
                refine one_ (i := 11) (N := none) #[true, true, true, true, true, true, true, true, true, true, true, true, false, false] rfl rfl (one_of HT_.out (by kernel_rfl)) (by decide) (fun K hK => ?_)
                have hs70 : w68.cell? ⟨gb256, 0, none⟩ = some (.slice none 0 0) := (zO BK256.out 0).trans rfl
                have hfs70 := zP BK256.out 0
                have hns70_0 := NB218_256.out
                have hns70_1 := NB227_256.out
                have hms70_0 := NB256_218.out
                have hms70_1 := NB256_227.out
                have hs71 : w68.cell? ⟨gb256, 1, none⟩ = some (.int .i64 0) := (zO BK256.out 1).trans rfl
                have hfs71 := zP BK256.out 1
                have hns71_0 := NB218_256.out
                have hns71_1 := NB227_256.out
                have hms71_0 := NB256_218.out
                have hms71_1 := NB256_227.out
                refine skip_ (w1 := ?_) (by rfl) rfl ?_ ?_
                rotate_left
                · go_simp
                  rfl
                refine hK.out _ _ ⟨((cell_far (p := ⟨gb256, _, none⟩) NB227_256.out _).trans (((cell_far (p := ⟨gb256, _, none⟩) NB227_256.out _).trans (hHeld.1)))), ((cell_far (p := ⟨gb256, _, none⟩) NB227_256.out _).trans (((cell_far (p := ⟨gb256, _, none⟩) NB227_256.out _).trans (hHeld.2))))⟩ (fun hHeld => ?_)
                clear hK K
                refine pure_ (i := 12) (N := some 8) (v := ?_) (a' := ?_) #[true, true, true, true, true, true, true, true, true, true, true, true, true, false] rfl rfl (any_of HT_.out (by kernel_rfl)) (fun _ _ _ h => h) (Or.inl ⟨by rfl, ?_⟩) ?_ ?_
                rotate_left
                · intro w'
                  go_simp
                  with_reducible rfl
                rotate_left
                · simp only [Act.put, List.setIfInBounds_toArray, List.set_cons_zero, List.set_cons_succ, i64_w, i32_w]
                  rfl
                refine pure_ (i := 13) (N := some 9) (v := ?_) (a' := ?_) #[true, true, true, true, true, true, true, true, true, true, true, true, true, true] rfl rfl (any_of HT_.out (by kernel_rfl)) (fun _ _ _ h => h) (Or.inl ⟨by rfl, ?_⟩) ?_ ?_
                rotate_left
                · intro w'
                  go_simp
                  with_reducible rfl
                rotate_left
                · simp only [Act.put, List.setIfInBounds_toArray, List.set_cons_zero, List.set_cons_succ, i64_w, i32_w]
                  rfl
                refine done_ (done_of HT_.out (by kernel_rfl)) ?_
                try go_wp2
                go_roundg kj14
                case measure => have := HK1.out; have := HJ14.out; omega
                case rel => exact ⟨(wrap64 (x5_1 + 1)), (t248), (t249), (x228000_1), (x228001_1), (.slice Ao20 x228000_1.length co20), (by first|rfl|(simp; done)|(simp [*]; done)), H', ⟨by have := HK1.out; have := HJ14.out; omega⟩, ⟨by (with_reducible repeat (first|apply zE|apply zD|apply zF)); exact zR (zL (p := ⟨gb256, 1, none⟩) (zL (p := ⟨gb256, 0, none⟩) (zQ HO_228000.out BK256.out (by decide)) (fun _ hk => hk.2) (.slice Ao69 t250.length co69)) (fun _ hk => hk.2) (.int .i64 t253)) (fun _ hk => trivial)⟩, ⟨by (with_reducible repeat (first|refine zA ?_ _|refine zC ?_|refine zB ?_ _)); refine zT ?_ NB218_256.out _; (with_reducible repeat (first|refine zA ?_ _|refine zC ?_|refine zB ?_ _)); refine zT ?_ NB218_256.out _; (with_reducible repeat (first|refine zA ?_ _|refine zC ?_|refine zB ?_ _)); exact BK218.out⟩, ⟨by (with_reducible repeat (first|refine zA ?_ _|refine zC ?_|refine zB ?_ _)); refine zT ?_ NB227_256.out _; (with_reducible repeat (first|refine zA ?_ _|refine zC ?_|refine zB ?_ _)); refine zT ?_ NB227_256.out _; (with_reducible repeat (first|refine zA ?_ _|refine zC ?_|refine zB ?_ _)); exact BK227.out⟩, ⟨by repeat (first|(with_reducible first|exact HI0.out|apply IsS119.alloc|apply IsS119.drewN|apply IsS119.drew|apply IsS119.set_1|apply IsS119.set_2|refine IsS119.far ?_ NB0_218.out _|refine IsS119.far ?_ NB0_227.out _|refine IsS119.far ?_ NB0_256.out _)|exact HI0.out)⟩, ⟨by repeat (first|(with_reducible first|exact HK.out|apply KeepBut.set_|apply keep_drewN|apply keep_drew|apply keep_alloc|refine keep_far ?_ GW218.out _|refine keep_far ?_ GW227.out _|refine keep_far ?_ GW256.out _)|exact HK.out)⟩, ⟨by repeat (first|(with_reducible first|exact HB.out|apply zI|apply zG|apply zH|refine zJ ?_ (IsS119.ge HI0.out)|refine zJ ?_ GE218.out|refine zJ ?_ GE227.out|refine zJ ?_ GE256.out)|exact HB.out)⟩⟩
      · rw [if_neg c13] at H
        have c13b0 : decide (x5_1 < t228) = false := decide_eq_false c13
        clear c13
        replace H := Option.bind_eq_some_iff.mp H
        obtain ⟨⟨t257, t258, t259⟩, A720, H⟩ := H
        replace H : (if t257 = true then ((spec_l03Copy.f x228000_1 x228001_1).bind fun bt260 => ((spec_l01Below.f s0_0 t258 t259 (bt260.1.length : Int)).bind fun bt264 => (if 0 ≤ bt264.1 then (if bt264.1 < (bt260.1.length : Int) then (some ((bt260.1.set (bt264.1 : Int).toNat (⟨41666665, (rd_T81 bt260.1 bt264.1).f1, (rd_T81 bt260.1 bt264.1).f2, (rd_T81 bt260.1 bt264.1).f3, (rd_T81 bt260.1 bt264.1).f4⟩ : S81)), bt260.2, bt264.2.1, bt264.2.2)) else (none)) else (none)))) else (some (x228000_1, x228001_1, t258, t259))) = some (r1, r2, r3, r4) := H
        have A72 := Aside0.mk A720
        clear A720
        by_cases c73 : t257 = true
        · subst c73
          have H1 : ((spec_l03Copy.f x228000_1 x228001_1).bind fun bt260 => ((spec_l01Below.f s0_0 t258 t259 (bt260.1.length : Int)).bind fun bt264 => (if 0 ≤ bt264.1 then (if bt264.1 < (bt260.1.length : Int) then (some ((bt260.1.set (bt264.1 : Int).toNat (⟨41666665, (rd_T81 bt260.1 bt264.1).f1, (rd_T81 bt260.1 bt264.1).f2, (rd_T81 bt260.1 bt264.1).f3, (rd_T81 bt260.1 bt264.1).f4⟩ : S81)), bt260.2, bt264.2.1, bt264.2.2)) else (none)) else (none)))) = some (r1, r2, r3, r4) := by rw [if_pos rfl] at H; exact H
          clear H
          have H := H1
          clear H1
          replace H := Option.bind_eq_some_iff.mp H
          obtain ⟨⟨t260, t263⟩, A740, H⟩ := H
          replace H : ((spec_l01Below.f s0_0 t258 t259 (t260.length : Int)).bind fun bt264 => (if 0 ≤ bt264.1 then (if bt264.1 < (t260.length : Int) then (some ((t260.set (bt264.1 : Int).toNat (⟨41666665, (rd_T81 t260 bt264.1).f1, (rd_T81 t260 bt264.1).f2, (rd_T81 t260 bt264.1).f3, (rd_T81 t260 bt264.1).f4⟩ : S81)), t263, bt264.2.1, bt264.2.2)) else (none)) else (none))) = some (r1, r2, r3, r4) := H
          have A74 := Aside0.mk A740
          clear A740
          replace H := Option.bind_eq_some_iff.mp H
          obtain ⟨⟨t264, t265, t266⟩, A750, H⟩ := H
          replace H : (if 0 ≤ t264 then (if t264 < (t260.length : Int) then (some ((t260.set (t264 : Int).toNat (⟨41666665, (rd_T81 t260 t264).f1, (rd_T81 t260 t264).f2, (rd_T81 t260 t264).f3, (rd_T81 t260 t264).f4⟩ : S81)), t263, t265, t266)) else (none)) else (none)) = some (r1, r2, r3, r4) := H
          have A75 := Aside0.mk A750
          clear A750
          by_cases c76 : 0 ≤ t264
          · rw [if_pos c76] at H
            have c76b0 : decide (0 ≤ t264) = true := decide_eq_true c76
            clear c76
            by_cases c77 : t264 < (t260.length : Int)
            · rw [if_pos c77] at H
              have c77b0 : decide (t264 < (t260.length : Int)) = true := decide_eq_true c77
              clear c77
              obtain ⟨y267, hy267⟩ : ∃ y_ : List (S81), y_ = (t260.set (t264 : Int).toNat (⟨41666665, (rd_T81 t260 t264).f1, (rd_T81 t260 t264).f2, (rd_T81 t260 t264).f3, (rd_T81 t260 t264).f4⟩ : S81)) := ⟨_, rfl⟩
              replace H : (some (y267, t263, t265, t266)) = some (r1, r2, r3, r4) := by first|(rw [hy267]; with_reducible exact H)|(have H2_ := (Option.bind_some _ _).symm.trans H; rw [hy267]; with_reducible exact H2_)|(have H2_ := (Option.bind_some _ _).symm.trans H; with_reducible exact H2_)|with_reducible exact H|(rw [hy267]; exact H)|exact H
              have Ny267 := Aside0.mk hy267
              clear hy267
              simp only [Option.some.injEq, Prod.mk.injEq] at H
              obtain ⟨rfl, rfl, rfl, rfl⟩ := H
              try go_wp2_with (first|((with_reducible refine gate_callee (f := 73) rfl ?_); refine goesL_ (some 19) rfl rfl Try.func73 (by kernel_rfl) rfl #[.pointer (some ⟨g, 0, none⟩), .int .i64 24] rfl (by (try simp only [List.map_toArray, List.map_cons, List.map_nil]); first|done|rfl|(simp only [List.length_drop, List.length_take]; rfl)) ?_; (with_reducible refine (spec_l01Below.calls g s0_0 x1001_1 x1002_1 24 t228 t229 t230 w0 _ ?side1 ?side2 A12.out).mono ?_); (case side1 => repeat (first|(with_reducible first|exact HI0.out|apply IsS119.alloc|apply IsS119.drewN|apply IsS119.drew|apply IsS119.set_1|apply IsS119.set_2|refine IsS119.far ?_ NB0_218.out _|refine IsS119.far ?_ NB0_227.out _)|exact HI0.out)); (case side2 => repeat (first|(with_reducible first|exact HB.out|apply zI|apply zG|apply zH|refine zJ ?_ (IsS119.ge HI0.out)|refine zJ ?_ GE218.out|refine zJ ?_ GE227.out)|exact HB.out)); rintro e w79 ⟨rfl, hi, hb, hk⟩; refine ⟨_, rfl, ?_⟩; have n0_ := Aside0.mk (zR (Kd.R_keep (IsS119.apart (show IsS119 w0 _ g s0_0 x1001_1 x1002_1 from by repeat (first|(with_reducible first|exact HI0.out|apply IsS119.alloc|apply IsS119.drewN|apply IsS119.drew|apply IsS119.set_1|apply IsS119.set_2|refine IsS119.far ?_ NB0_218.out _|refine IsS119.far ?_ NB0_227.out _)|exact HI0.out)) (by (with_reducible repeat (first|apply zE|apply zD|apply zF)); exact HO_228000.out) (by decide)) hk (fun _ h => h.2)) (fun _ h => h.1)); have n1_ := Aside0.mk (KeepBut.blk hk (g' := gb218) (o := .cells #[.slice none 0 0, .int .i64 0] 65 (0, 0)) (by (with_reducible repeat (first|refine zA ?_ _|refine zC ?_|refine zB ?_ _)); exact BK218.out) NB218_0.out (by simp)); have n2_ := Aside0.mk (KeepBut.blk hk (g' := gb227) (o := .cells #[u228000, .int .i64 x228001_1] 65 (0, 0)) (by (with_reducible repeat (first|refine zA ?_ _|refine zC ?_|refine zB ?_ _)); exact BK227.out) NB227_0.out (by simp)); have n3_ := Aside0.mk (KeepBut.trans (by repeat (first|(with_reducible first|exact HK.out|apply KeepBut.set_|apply keep_drewN|apply keep_drew|apply keep_alloc|refine keep_far ?_ GW218.out _|refine keep_far ?_ GW227.out _)|exact HK.out)) hk (.inl rfl)); have n4_ := Aside0.mk (hb); have n5_ := Aside0.mk (hi); clear HO_228000; clear BK218; clear BK227; clear HK; clear HB; clear HI0; have HO_228000 := n0_; have BK218 := n1_; have BK227 := n2_; have HK := n3_; have HB := n4_; have HI0 := n5_; clear n0_ n1_ n2_ n3_ n4_ n5_; (try clear hb); (try clear hb2); (try clear hk); (try clear hi))|((with_reducible refine gate_callee (f := 118) rfl ?_); refine goesL_ (some 59) rfl rfl Try.func118 (by kernel_rfl) rfl #[.pointer (some ⟨g, 0, none⟩), .int .i64 12] rfl (by (try simp only [List.map_toArray, List.map_cons, List.map_nil]); first|done|rfl|(simp only [List.length_drop, List.length_take]; rfl)) ?_; (with_reducible refine (spec_l01Once.calls g s0_0 t229 t230 12 true t258 t259 w0 _ ?side1 ?side2 A72.out).mono ?_); (case side1 => repeat (first|(with_reducible first|exact HI0.out|apply IsS119.alloc|apply IsS119.drewN|apply IsS119.drew|apply IsS119.set_1|apply IsS119.set_2|refine IsS119.far ?_ NB0_218.out _|refine IsS119.far ?_ NB0_227.out _)|exact HI0.out)); (case side2 => repeat (first|(with_reducible first|exact HB.out|apply zI|apply zG|apply zH|refine zJ ?_ (IsS119.ge HI0.out)|refine zJ ?_ GE218.out|refine zJ ?_ GE227.out)|exact HB.out)); rintro e w80 ⟨rfl, hi, hb, hk⟩; refine ⟨_, rfl, ?_⟩; have n0_ := Aside0.mk (zR (Kd.R_keep (IsS119.apart (show IsS119 w0 _ g s0_0 t229 t230 from by repeat (first|(with_reducible first|exact HI0.out|apply IsS119.alloc|apply IsS119.drewN|apply IsS119.drew|apply IsS119.set_1|apply IsS119.set_2|refine IsS119.far ?_ NB0_218.out _|refine IsS119.far ?_ NB0_227.out _)|exact HI0.out)) (by (with_reducible repeat (first|apply zE|apply zD|apply zF)); exact HO_228000.out) (by decide)) hk (fun _ h => h.2)) (fun _ h => h.1)); have n1_ := Aside0.mk (KeepBut.blk hk (g' := gb218) (o := .cells #[.slice none 0 0, .int .i64 0] 65 (0, 0)) (by (with_reducible repeat (first|refine zA ?_ _|refine zC ?_|refine zB ?_ _)); exact BK218.out) NB218_0.out (by simp)); have n2_ := Aside0.mk (KeepBut.blk hk (g' := gb227) (o := .cells #[u228000, .int .i64 x228001_1] 65 (0, 0)) (by (with_reducible repeat (first|refine zA ?_ _|refine zC ?_|refine zB ?_ _)); exact BK227.out) NB227_0.out (by simp)); have n3_ := Aside0.mk (KeepBut.trans (by repeat (first|(with_reducible first|exact HK.out|apply KeepBut.set_|apply keep_drewN|apply keep_drew|apply keep_alloc|refine keep_far ?_ GW218.out _|refine keep_far ?_ GW227.out _)|exact HK.out)) hk (.inl rfl)); have n4_ := Aside0.mk (hb); have n5_ := Aside0.mk (hi); clear HO_228000; clear BK218; clear BK227; clear HK; clear HB; clear HI0; have HO_228000 := n0_; have BK218 := n1_; have BK227 := n2_; have HK := n3_; have HB := n4_; have HI0 := n5_; clear n0_ n1_ n2_ n3_ n4_ n5_; (try clear hb); (try clear hb2); (try clear hk); (try clear hi); have hnb81 := NB227_218.out; have hnc81 := NB218_227.out; have hnb82 := NB227_0.out; have hnc82 := NB0_227.out; obtain ⟨hcz83_0, hcz83_1, hfz83_0, hfz83_1⟩ := zb2 BK227.out; obtain ⟨Ao84, co84, eo84⟩ := Kd.R_slice HO_228000.out; subst eo84)|((with_reducible refine gate_callee (f := 91) rfl ?_); refine goesL_ (some 61) rfl rfl Try.func91 (by kernel_rfl) rfl #[.agg #[.slice Ao84 x228000_1.length co84, .int .i64 x228001_1]] rfl (by (try simp only [List.map_toArray, List.map_cons, List.map_nil]); first|done|rfl|(simp only [List.length_drop, List.length_take]; rfl)) ?_; (with_reducible refine (spec_l03Copy.calls _ _ x228000_1 x228001_1 t260 t263 _ ?side1 ?side2 A74.out).mono ?_); (case side1 => repeat (first|exact (Kd.R_reads' HO_228000.out).2.2|(with_reducible refine Kd.C_alloc ?_ _)|(with_reducible refine Kd.C_drewN ?_ _)|(with_reducible refine Kd.C_drew ?_))); (case side2 => exact (Kd.R_reads' HO_228000.out).2.1); rintro e w85 ⟨v261, rfl, ho0, hb⟩; refine ⟨_, rfl, ?_⟩; have n0_ := Aside0.mk (Kd.R_elder' (by (with_reducible repeat (first|apply zE|apply zD|apply zF)); exact HO_228000.out) (Kd.R_base ho0) hb); have n1_ := Aside0.mk (Kd.R_lower (Kd.R_new' ho0 (Kd.R_lt (by (with_reducible repeat (first|apply zE|apply zD|apply zF)); exact HO_228000.out))) (keep_size (w := w) (g := g) (row := none) (by repeat (first|(with_reducible first|exact HK.out|apply KeepBut.set_|apply keep_drewN|apply keep_drew|apply keep_alloc|refine keep_far ?_ GW218.out _|refine keep_far ?_ GW227.out _)|exact HK.out)))); have n2_ := Aside0.mk (zK (g := gb218) (o := .cells #[.slice none 0 0, .int .i64 0] 65 (0, 0)) (by (with_reducible repeat (first|refine zA ?_ _|refine zC ?_|refine zB ?_ _)); exact BK218.out) hb); have n3_ := Aside0.mk (zK (g := gb227) (o := .cells #[.slice Ao84 x228000_1.length co84, .int .i64 x228001_1] 65 (0, 0)) (by (with_reducible repeat (first|refine zA ?_ _|refine zC ?_|refine zB ?_ _)); exact BK227.out) hb); have n4_ := Aside0.mk (IsS119.below (by repeat (first|(with_reducible first|exact HI0.out|apply IsS119.alloc|apply IsS119.drewN|apply IsS119.drew|apply IsS119.set_1|apply IsS119.set_2|refine IsS119.far ?_ NB0_218.out _|refine IsS119.far ?_ NB0_227.out _)|exact HI0.out)) hb); have n5_ := Aside0.mk (KeepBut.trans (by repeat (first|(with_reducible first|exact HK.out|apply KeepBut.set_|apply keep_drewN|apply keep_drew|apply keep_alloc|refine keep_far ?_ GW218.out _|refine keep_far ?_ GW227.out _)|exact HK.out)) (KeepBut.of_below hb g none) (.inl rfl)); have n6_ := Aside0.mk (zN (by repeat (first|(with_reducible first|exact HB.out|apply zI|apply zG|apply zH|refine zJ ?_ (IsS119.ge HI0.out)|refine zJ ?_ GE218.out|refine zJ ?_ GE227.out)|exact HB.out)) hb); clear HO_228000; clear BK218; clear BK227; clear HI0; clear HK; clear HB; have HO_228000 := n0_; have HO262 := n1_; have BK218 := n2_; have BK227 := n3_; have HI0 := n4_; have HK := n5_; have HB := n6_; clear n0_ n1_ n2_ n3_ n4_ n5_ n6_; (try clear hb); (try clear hb2); (try clear hk); (try clear hi); (try clear ho0); obtain ⟨Ao86, co86, eo86⟩ := Kd.R_slice HO262.out; subst eo86; obtain ⟨hcz87_0, hcz87_1, hfz87_0, hfz87_1⟩ := zb2 BK227.out))
              have n0_ : Aside0 (Kd.R k81 81 ((w85.setCell ⟨gb227, 0, none⟩ (.slice Ao86 t260.length co86)).setCell ⟨gb227, 1, none⟩ (.int .i64 t263)) w.heap.size (fun k_ => some k_ ≠ (.slice Ao86 t260.length co86 : Value).ownBlock) (.slice Ao84 x228000_1.length co84) x228000_1) := ⟨by (with_reducible repeat (first|apply zE|apply zD|apply zF)); exact zR (zL (p := ⟨gb227, 1, none⟩) (zL (p := ⟨gb227, 0, none⟩) (zQ HO_228000.out BK227.out (by decide)) (fun _ hk => hk.2) (.slice Ao86 t260.length co86)) (fun _ hk => hk.2) (.int .i64 t263)) (fun _ hk => hk.1.2)⟩
              have n1_ : Aside0 (Kd.R k81 81 ((w85.setCell ⟨gb227, 0, none⟩ (.slice Ao86 t260.length co86)).setCell ⟨gb227, 1, none⟩ (.int .i64 t263)) w.heap.size (fun k_ => some k_ ≠ (.slice Ao84 x228000_1.length co84 : Value).ownBlock) (.slice Ao86 t260.length co86) t260) := ⟨by (with_reducible repeat (first|apply zE|apply zD|apply zF)); exact zR (zL (p := ⟨gb227, 1, none⟩) (zL (p := ⟨gb227, 0, none⟩) (zQ HO262.out BK227.out (by decide)) (fun _ hk => hk.2) (.slice Ao86 t260.length co86)) (fun _ hk => hk.2) (.int .i64 t263)) (fun _ hk => hk.1.2)⟩
              have n2_ : Aside0 (((w85.setCell ⟨gb227, 0, none⟩ (.slice Ao86 t260.length co86)).setCell ⟨gb227, 1, none⟩ (.int .i64 t263)).heap[gb218]? = some (.cells #[.slice none 0 0, .int .i64 0] 65 (0, 0))) := ⟨by (with_reducible repeat (first|refine zA ?_ _|refine zC ?_|refine zB ?_ _)); refine zT ?_ NB218_227.out _; (with_reducible repeat (first|refine zA ?_ _|refine zC ?_|refine zB ?_ _)); refine zT ?_ NB218_227.out _; (with_reducible repeat (first|refine zA ?_ _|refine zC ?_|refine zB ?_ _)); exact BK218.out⟩
              have n3_ : Aside0 (((w85.setCell ⟨gb227, 0, none⟩ (.slice Ao86 t260.length co86)).setCell ⟨gb227, 1, none⟩ (.int .i64 t263)).heap[gb227]? = some (.cells #[.slice Ao86 t260.length co86, .int .i64 t263] 65 (0, 0))) := ⟨by (with_reducible repeat (first|refine zA ?_ _|refine zC ?_|refine zB ?_ _)); refine blk_put (cs := #[.slice Ao86 t260.length co86, .int .i64 x228001_1]) ?_ 1 _ rfl; (with_reducible repeat (first|refine zA ?_ _|refine zC ?_|refine zB ?_ _)); refine blk_put (cs := #[.slice Ao84 x228000_1.length co84, .int .i64 x228001_1]) ?_ 0 _ rfl; (with_reducible repeat (first|refine zA ?_ _|refine zC ?_|refine zB ?_ _)); exact BK227.out⟩
              have n4_ : Aside0 (IsS119 w0 ((w85.setCell ⟨gb227, 0, none⟩ (.slice Ao86 t260.length co86)).setCell ⟨gb227, 1, none⟩ (.int .i64 t263)) g s0_0 t258 t259) := ⟨by repeat (first|(with_reducible first|exact HI0.out|apply IsS119.alloc|apply IsS119.drewN|apply IsS119.drew|apply IsS119.set_1|apply IsS119.set_2|refine IsS119.far ?_ NB0_218.out _|refine IsS119.far ?_ NB0_227.out _)|exact HI0.out)⟩
              have n5_ : Aside0 (KeepBut w ((w85.setCell ⟨gb227, 0, none⟩ (.slice Ao86 t260.length co86)).setCell ⟨gb227, 1, none⟩ (.int .i64 t263)) g none) := ⟨by repeat (first|(with_reducible first|exact HK.out|apply KeepBut.set_|apply keep_drewN|apply keep_drew|apply keep_alloc|refine keep_far ?_ GW218.out _|refine keep_far ?_ GW227.out _)|exact HK.out)⟩
              have n6_ : Aside0 (Below w0.heap.size w0 ((w85.setCell ⟨gb227, 0, none⟩ (.slice Ao86 t260.length co86)).setCell ⟨gb227, 1, none⟩ (.int .i64 t263))) := ⟨by repeat (first|(with_reducible first|exact HB.out|apply zI|apply zG|apply zH|refine zJ ?_ (IsS119.ge HI0.out)|refine zJ ?_ GE218.out|refine zJ ?_ GE227.out)|exact HB.out)⟩
              (try clear HO_228000)
              (try clear HO262)
              (try clear BK218)
              (try clear BK227)
              (try clear HI0)
              (try clear HK)
              (try clear HB)
              generalize ((w85.setCell ⟨gb227, 0, none⟩ (.slice Ao86 t260.length co86)).setCell ⟨gb227, 1, none⟩ (.int .i64 t263)) = w88 at n0_ n1_ n2_ n3_ n4_ n5_ n6_ ⊢
              have HO_228000 := n0_
              have HO262 := n1_
              have BK218 := n2_
              have BK227 := n3_
              have HI0 := n4_
              have HK := n5_
              have HB := n6_
              clear n0_ n1_ n2_ n3_ n4_ n5_ n6_
              have n0_ := Aside0.mk (zF HO_228000.out)
              have n1_ := Aside0.mk (zF HO262.out)
              have n2_ := Aside0.mk (zC BK218.out)
              have n3_ := Aside0.mk (zC BK227.out)
              have n4_ := Aside0.mk (IsS119.drew HI0.out)
              have n5_ := Aside0.mk (keep_drew HK.out)
              have n6_ := Aside0.mk (zH HB.out)
              clear HO_228000
              clear HO262
              clear BK218
              clear BK227
              clear HI0
              clear HK
              clear HB
              have HO_228000 := n0_
              have HO262 := n1_
              have BK218 := n2_
              have BK227 := n3_
              have HI0 := n4_
              have HK := n5_
              have HB := n6_
              clear n0_ n1_ n2_ n3_ n4_ n5_ n6_
              refine start_ (n := 10) (S := fun w' => w'.cell? ⟨gb227, 0, none⟩ = some (.slice Ao86 t260.length co86) ∧ w'.cell? ⟨gb227, 1, none⟩ = some (.int .i64 t263)) (ds := [9]) #[false, false, false, false, false, false, false, false, false, false] (by kernel_rfl) rfl rfl ⟨(zO BK227.out 0).trans rfl, (zO BK227.out 1).trans rfl⟩ (fun hHeld => ?_); refine with_tabW spec_l03Arena.tab13 spec_l03Arena.bits13 (fun HT_ HW_ => ?_)
              generalize w88.drew = w89 at HO_228000 HO262 BK218 BK227 HI0 HK HB hHeld ⊢
              refine pure_ (i := 0) (N := some 62) (v := ?_) (a' := ?_) #[true, false, false, false, false, false, false, false, false, false] rfl rfl (any_of HT_.out (by kernel_rfl)) (fun _ _ _ h => h) (Or.inl ⟨by rfl, ?_⟩) ?_ ?_
              rotate_left
              · intro w'
                go_simp
                with_reducible rfl
              rotate_left
              · simp only [Act.put, List.setIfInBounds_toArray, List.set_cons_zero, List.set_cons_succ, i64_w, i32_w]
                rfl
              refine pure_ (i := 2) (N := some 64) (v := ?_) (a' := ?_) #[true, false, true, false, false, false, false, false, false, false] rfl rfl (any_of HT_.out (by kernel_rfl)) (fun _ _ _ h => h) (Or.inl ⟨by rfl, ?_⟩) ?_ ?_
              rotate_left
              · intro w'
                go_simp
                with_reducible rfl
              rotate_left
              · simp only [Act.put, List.setIfInBounds_toArray, List.set_cons_zero, List.set_cons_succ, i64_w, i32_w]
                rfl
              refine pure_ (i := 3) (N := some 65) (v := ?_) (a' := ?_) #[true, false, true, true, false, false, false, false, false, false] rfl rfl (any_of HT_.out (by kernel_rfl)) (fun _ _ _ h => h) (Or.inl ⟨by rfl, ?_⟩) ?_ ?_
              rotate_left
              · intro w'
                go_simp
                with_reducible rfl
              rotate_left
              · simp only [Act.put, List.setIfInBounds_toArray, List.set_cons_zero, List.set_cons_succ, i64_w, i32_w]
                rfl
              refine take_ (i := 1) (N := some 63) (v := ?_) (a' := ?_) #[true, true, true, true, false, false, false, false, false, false] rfl rfl (take_ofW HT_.out HW_.out (by kernel_rfl)) (fun _ _ _ h => h) (Or.inl ⟨by rfl, ?_⟩) hHeld ?_ ?_
              rotate_left
              · rintro w' ⟨s0, s1⟩
                go_simp
                with_reducible rfl
              rotate_left
              · simp only [Act.put, List.setIfInBounds_toArray, List.set_cons_zero, List.set_cons_succ, i64_w, i32_w]
                rfl
              refine take_ (i := 4) (N := some 66) (v := ?_) (a' := ?_) #[true, true, true, true, true, false, false, false, false, false] rfl rfl (take_ofW HT_.out HW_.out (by kernel_rfl)) (fun _ _ _ h => h) (Or.inl ⟨by rfl, ?_⟩) hHeld ?_ ?_
              rotate_left
              · rintro w' ⟨s0, s1⟩
                go_simp
                with_reducible rfl
              rotate_left
              · simp only [Act.put, List.setIfInBounds_toArray, List.set_cons_zero, List.set_cons_succ, i64_w, i32_w]
                rfl
              refine pure_ (i := 5) (N := some 67) (v := ?_) (a' := ?_) #[true, true, true, true, true, true, false, false, false, false] rfl rfl (any_of HT_.out (by kernel_rfl)) (fun _ _ _ h => h) (Or.inl ⟨by rfl, ?_⟩) ?_ ?_
              rotate_left
              · intro w'
                go_simp
                with_reducible rfl
              rotate_left
              · simp only [Act.put, List.setIfInBounds_toArray, List.set_cons_zero, List.set_cons_succ, i64_w, i32_w]
                rfl
              refine one_ (i := 6) (N := some 68) #[true, true, true, true, true, true, true, false, false, false] rfl rfl (one_of HT_.out (by kernel_rfl)) (by decide) (fun K hK => ?_)
              refine goes_ Try.func73 (by kernel_rfl) rfl #[.pointer (some ⟨g, 0, none⟩), .int .i64 (t260.length : Int)] (by rfl) rfl rfl (by (try simp only [List.map_toArray, List.map_cons, List.map_nil]); first|done|rfl|(simp only [List.length_drop, List.length_take]; rfl)) ?_
              with_reducible refine (spec_l01Below.calls g s0_0 t258 t259 (t260.length : Int) t264 t265 t266 w0 _ ?side1 ?side2 A75.out).mono ?_
              (case side1 => repeat (first|(with_reducible first|exact HI0.out|apply IsS119.alloc|apply IsS119.drewN|apply IsS119.drew|apply IsS119.set_1|apply IsS119.set_2|refine IsS119.far ?_ NB0_218.out _|refine IsS119.far ?_ NB0_227.out _)|exact HI0.out))
              (case side2 => repeat (first|(with_reducible first|exact HB.out|apply zI|apply zG|apply zH|refine zJ ?_ (IsS119.ge HI0.out)|refine zJ ?_ GE218.out|refine zJ ?_ GE227.out)|exact HB.out))
              rintro e w90 ⟨rfl, hi, hb, hk⟩
              refine ⟨_, rfl, ?_⟩
              have n0_ := Aside0.mk (zR (Kd.R_keep (IsS119.apart (show IsS119 w0 _ g s0_0 t258 t259 from by repeat (first|(with_reducible first|exact HI0.out|apply IsS119.alloc|apply IsS119.drewN|apply IsS119.drew|apply IsS119.set_1|apply IsS119.set_2|refine IsS119.far ?_ NB0_218.out _|refine IsS119.far ?_ NB0_227.out _)|exact HI0.out)) (by (with_reducible repeat (first|apply zE|apply zD|apply zF)); exact HO_228000.out) (by decide)) hk (fun _ h => h.2)) (fun _ h => h.1))
              have n1_ := Aside0.mk (KeepBut.blk hk (g' := gb218) (o := .cells #[.slice none 0 0, .int .i64 0] 65 (0, 0)) (by (with_reducible repeat (first|refine zA ?_ _|refine zC ?_|refine zB ?_ _)); exact BK218.out) NB218_0.out (by simp))
              have n2_ := Aside0.mk (KeepBut.blk hk (g' := gb227) (o := .cells #[.slice Ao86 t260.length co86, .int .i64 t263] 65 (0, 0)) (by (with_reducible repeat (first|refine zA ?_ _|refine zC ?_|refine zB ?_ _)); exact BK227.out) NB227_0.out (by simp))
              have n3_ := Aside0.mk (zR (Kd.R_keep (IsS119.apart (show IsS119 w0 _ g s0_0 t258 t259 from by repeat (first|(with_reducible first|exact HI0.out|apply IsS119.alloc|apply IsS119.drewN|apply IsS119.drew|apply IsS119.set_1|apply IsS119.set_2|refine IsS119.far ?_ NB0_218.out _|refine IsS119.far ?_ NB0_227.out _)|exact HI0.out)) (by (with_reducible repeat (first|apply zE|apply zD|apply zF)); exact HO262.out) (by decide)) hk (fun _ h => h.2)) (fun _ h => h.1))
              have n4_ := Aside0.mk (KeepBut.trans (by repeat (first|(with_reducible first|exact HK.out|apply KeepBut.set_|apply keep_drewN|apply keep_drew|apply keep_alloc|refine keep_far ?_ GW218.out _|refine keep_far ?_ GW227.out _)|exact HK.out)) hk (.inl rfl))
              have n5_ := Aside0.mk (hb)
              have n6_ := Aside0.mk (hi)
              clear HO_228000
              clear BK218
              clear BK227
              clear HO262
              clear HK
              clear HB
              clear HI0
              have HO_228000 := n0_
              have BK218 := n1_
              have BK227 := n2_
              have HO262 := n3_
              have HK := n4_
              have HB := n5_
              have HI0 := n6_
              clear n0_ n1_ n2_ n3_ n4_ n5_ n6_
              (try clear hb)
              (try clear hb2)
              (try clear hk)
              (try clear hi)
              have p78 : 0 ≤ (t264 : Int) := of_decide_eq_true (by first|(with_reducible assumption)|assumption)
              have q78 : (t264 : Int) < ((t260.length : Int) : Int) := of_decide_eq_true (by first|(with_reducible assumption)|assumption)
              obtain ⟨go78, co78, eo78, gb78, gl78, cl78, HG78⟩ := Kd.R_form HO262.out (by omega)
              (first|cases eo78|(injection eo78 with ea_ en_ ec_; (first|subst ea_|(injection ea_ with ea_; subst ea_)); subst ec_; clear en_))
              have GB78 := Aside0.mk gb78
              have GG78 := Aside0.mk HG78
              clear gb78 gl78 HG78
              obtain ⟨ce78, hcl78, hM78, hcc78, hfr78⟩ := Kd.R_elem HO262.out z81 (t264 : Int) p78 q78
              obtain rfl := k81_openM hM78
              have hx78_0 : World.cell? _ ⟨go78, (t264 : Int).toNat * 5, none⟩ = some (.int .i64 ((rd_T81 t260 t264).f0)) := hcc78 0 _ rfl
              have hx78_1 : World.cell? _ ⟨go78, (t264 : Int).toNat * 5 + 1, none⟩ = some (.bool ((rd_T81 t260 t264).f1)) := hcc78 1 _ rfl
              have hx78_2 : World.cell? _ ⟨go78, (t264 : Int).toNat * 5 + 2, none⟩ = some (.string ((rd_T81 t260 t264).f2)) := hcc78 2 _ rfl
              have hx78_3 : World.cell? _ ⟨go78, (t264 : Int).toNat * 5 + 3, none⟩ = some (.string ((rd_T81 t260 t264).f3)) := hcc78 3 _ rfl
              have hx78_4 : World.cell? _ ⟨go78, (t264 : Int).toNat * 5 + 4, none⟩ = some (.int .i64 ((rd_T81 t260 t264).f4)) := hcc78 4 _ rfl
              have hf78_0 : World.frozen? _ ⟨go78, (t264 : Int).toNat * 5, none⟩ = false := hfr78 0
              have hf78_1 : World.frozen? _ ⟨go78, (t264 : Int).toNat * 5 + 1, none⟩ = false := hfr78 1
              have hf78_2 : World.frozen? _ ⟨go78, (t264 : Int).toNat * 5 + 2, none⟩ = false := hfr78 2
              have hf78_3 : World.frozen? _ ⟨go78, (t264 : Int).toNat * 5 + 3, none⟩ = false := hfr78 3
              have hf78_4 : World.frozen? _ ⟨go78, (t264 : Int).toNat * 5 + 4, none⟩ = false := hfr78 4
              clear hcl78 hcc78 hfr78 hM78
              replace p78 := eq_true p78
              replace q78 := eq_true q78
              have HN0_go78 := Aside0.mk (show g ≠ go78 from by have h_ := IsS119.own_ne HI0.out HO262.out (by decide); intro e_; exact h_ (by rw [e_]; rfl))
              obtain ⟨ce91, hcl91, hM91, hcc91, hfr91⟩ := Kd.R_elem HO262.out z81 (t264 : Int) (of_decide_eq_true (by first|(with_reducible assumption)|assumption)) (by have h_ : (t264 : Int) < ((t260.length : Int) : Int) := of_decide_eq_true (by first|(with_reducible assumption)|assumption); first|exact h_|(have e_ := (Kd.R_reads' HO262.out).1; omega)|simpa using h_)
              obtain rfl := k81_openM hM91
              have HP91 := (Kd.R_seg HO262.out (t264 : Int) (of_decide_eq_true (by first|(with_reducible assumption)|assumption)) (by have h_ : (t264 : Int) < ((t260.length : Int) : Int) := of_decide_eq_true (by first|(with_reducible assumption)|assumption); first|exact h_|(have e_ := (Kd.R_reads' HO262.out).1; omega)|simpa using h_) (seg := [.int .i64 41666665]) (j := 0) hcl91 hcc91 (show 1 ≤ 5 from by decide) (x' := (⟨41666665, (rd_T81 t260 t264).f1, (rd_T81 t260 t264).f2, (rd_T81 t260 t264).f3, (rd_T81 t260 t264).f4⟩ : S81)) (k81_mkM _ _ _ (⟨41666665, (rd_T81 t260 t264).f1, (rd_T81 t260 t264).f2, (rd_T81 t260 t264).f3, (rd_T81 t260 t264).f4⟩ : S81) ) (fun _ hk => hk)).1
              rw [← Ny267.out] at HP91
              have HQ91 := Aside0.mk HP91
              clear hcl91 hcc91 hfr91 hM91 HP91
              refine hK.out _ _ ⟨(zO BK227.out 0).trans rfl, (zO BK227.out 1).trans rfl⟩ (fun hHeld => ?_)
              clear hK K
              refine norm_ (a' := ?_) ?_ ?_
              rotate_left
              · show Act.put _ (some 68) _ = _
                simp only [Act.put, List.setIfInBounds_toArray, List.set_cons_zero, List.set_cons_succ, i64_w, i32_w]
                rfl
              refine pure_ (i := 7) (N := some 69) (v := ?_) (a' := ?_) #[true, true, true, true, true, true, true, true, false, false] rfl rfl (any_of HT_.out (by kernel_rfl)) (fun _ _ _ h => h) (Or.inl ⟨by rfl, ?_⟩) ?_ ?_
              rotate_left
              · intro w'
                go_simp
                with_reducible rfl
              rotate_left
              · simp only [Act.put, List.setIfInBounds_toArray, List.set_cons_zero, List.set_cons_succ, i64_w, i32_w]
                rfl
              refine pure_ (i := 8) (N := some 70) (v := ?_) (a' := ?_) #[true, true, true, true, true, true, true, true, true, false] rfl rfl (any_of HT_.out (by kernel_rfl)) (fun _ _ _ h => h) (Or.inl ⟨by rfl, ?_⟩) ?_ ?_
              rotate_left
              · intro w'
                go_simp
                with_reducible rfl
              rotate_left
              · simp only [Act.put, List.setIfInBounds_toArray, List.set_cons_zero, List.set_cons_succ, i64_w, i32_w]
                rfl
              refine last_ (i := 9) (N := none) #[true, true, true, true, true, true, true, true, true, true] rfl rfl (one_of HT_.out (by kernel_rfl)) (by decide) (fun K hK => ?_)
              refine skip_ (w1 := ?_) (by rfl) rfl ?_ ?_
              rotate_left
              · go_simp
                rfl
              refine hK.out _ _ ?_
              clear hK K
              refine done_ (done_of HT_.out (by kernel_rfl)) ?_
              have n0_ : Aside0 (Kd.R k81 81 (w90.setCell ⟨go78, (t264 : Int).toNat * 5, none⟩ (.int .i64 41666665)) w.heap.size (fun k_ => some k_ ≠ (.slice (some ⟨go78, 0, none⟩) t260.length co86 : Value).ownBlock) (.slice Ao84 x228000_1.length co84) x228000_1) := ⟨by (with_reducible repeat (first|apply zE|apply zD|apply zF)); exact zR (zL (p := ⟨go78, (t264 : Int).toNat * 5, none⟩) (zR HO_228000.out (fun k_ hk => (⟨hk, fun e_ => hk (by rw [e_]; rfl)⟩ : _ ∧ k_ ≠ go78))) (fun _ hk => hk.2) (.int .i64 41666665)) (fun _ hk => hk.1)⟩
              have n1_ : Aside0 (Kd.R k81 81 (w90.setCell ⟨go78, (t264 : Int).toNat * 5, none⟩ (.int .i64 41666665)) w.heap.size (fun k_ => some k_ ≠ (.slice Ao84 x228000_1.length co84 : Value).ownBlock) (.slice (some ⟨go78, 0, none⟩) t260.length co86) y267) := ⟨by (with_reducible repeat (first|apply zE|apply zD|apply zF)); exact HQ91.out⟩
              have n2_ : Aside0 ((w90.setCell ⟨go78, (t264 : Int).toNat * 5, none⟩ (.int .i64 41666665)).heap[gb218]? = some (.cells #[.slice none 0 0, .int .i64 0] 65 (0, 0))) := ⟨by (with_reducible repeat (first|refine zA ?_ _|refine zC ?_|refine zB ?_ _)); refine zT ?_ (by have h_ := Kd.R_ne HO262.out BK218.out (by decide); intro e_; exact h_ (by rw [e_]; rfl)) _; (with_reducible repeat (first|refine zA ?_ _|refine zC ?_|refine zB ?_ _)); exact BK218.out⟩
              have n3_ : Aside0 ((w90.setCell ⟨go78, (t264 : Int).toNat * 5, none⟩ (.int .i64 41666665)).heap[gb227]? = some (.cells #[.slice (some ⟨go78, 0, none⟩) t260.length co86, .int .i64 t263] 65 (0, 0))) := ⟨by (with_reducible repeat (first|refine zA ?_ _|refine zC ?_|refine zB ?_ _)); refine zT ?_ (by have h_ := Kd.R_ne HO262.out BK227.out (by decide); intro e_; exact h_ (by rw [e_]; rfl)) _; (with_reducible repeat (first|refine zA ?_ _|refine zC ?_|refine zB ?_ _)); exact BK227.out⟩
              have n4_ : Aside0 (IsS119 w0 (w90.setCell ⟨go78, (t264 : Int).toNat * 5, none⟩ (.int .i64 41666665)) g s0_0 t265 t266) := ⟨by repeat (first|(with_reducible first|exact HI0.out|apply IsS119.alloc|apply IsS119.drewN|apply IsS119.drew|apply IsS119.set_1|apply IsS119.set_2|refine IsS119.far ?_ HN0_go78.out _|refine IsS119.far ?_ NB0_218.out _|refine IsS119.far ?_ NB0_227.out _)|exact HI0.out)⟩
              have n5_ : Aside0 (KeepBut w (w90.setCell ⟨go78, (t264 : Int).toNat * 5, none⟩ (.int .i64 41666665)) g none) := ⟨by repeat (first|(with_reducible first|exact HK.out|apply KeepBut.set_|apply keep_drewN|apply keep_drew|apply keep_alloc|refine keep_far ?_ GB78.out _|refine keep_far ?_ GW218.out _|refine keep_far ?_ GW227.out _)|exact HK.out)⟩
              have n6_ : Aside0 (Below w0.heap.size w0 (w90.setCell ⟨go78, (t264 : Int).toNat * 5, none⟩ (.int .i64 41666665))) := ⟨by repeat (first|(with_reducible first|exact HB.out|apply zI|apply zG|apply zH|refine zJ ?_ (Nat.le_trans HL.out GB78.out)|refine zJ ?_ (IsS119.ge HI0.out)|refine zJ ?_ GE218.out|refine zJ ?_ GE227.out)|exact HB.out)⟩
              (try clear HO_228000)
              (try clear HO262)
              (try clear BK218)
              (try clear BK227)
              (try clear HI0)
              (try clear HK)
              (try clear HB)
              generalize (w90.setCell ⟨go78, (t264 : Int).toNat * 5, none⟩ (.int .i64 41666665)) = w92 at n0_ n1_ n2_ n3_ n4_ n5_ n6_ ⊢
              have HO_228000 := n0_
              have HO262 := n1_
              have BK218 := n2_
              have BK227 := n3_
              have HI0 := n4_
              have HK := n5_
              have HB := n6_
              clear n0_ n1_ n2_ n3_ n4_ n5_ n6_
              obtain ⟨hcz93_0, hcz93_1, hfz93_0, hfz93_1⟩ := zb2 BK227.out
              have hnb94 := NB218_0.out
              have hnc94 := NB0_218.out
              obtain ⟨hcz95_0, hcz95_1, hfz95_0, hfz95_1⟩ := zb2 BK218.out
              try go_wp2
              refine bodyPost_ret (results_cell_row rfl _ _ gb218 65 #[.slice (some ⟨go78, 0, none⟩) t260.length co86, .int .i64 t263] (0, 0) _ rfl (by (with_reducible repeat (first|refine zA ?_ _|refine zC ?_|refine zB ?_ _)); refine blk_put (cs := #[.slice (some ⟨go78, 0, none⟩) t260.length co86, .int .i64 0]) ?_ 1 _ rfl; (with_reducible repeat (first|refine zA ?_ _|refine zC ?_|refine zB ?_ _)); refine blk_put (cs := #[.slice none 0 0, .int .i64 0]) ?_ 0 _ rfl; (with_reducible repeat (first|refine zA ?_ _|refine zC ?_|refine zB ?_ _)); exact BK218.out) Try.underlying65 rfl (by kernel_rfl)) rfl ?_
              exact ⟨_, by first|rfl|(simp [errW_none, errW_some] <;> rfl)|(simp [*, errW_none, errW_some] <;> rfl), by (with_reducible repeat (first|apply zE|apply zD|apply zF)); exact zR (zL (p := ⟨gb218, 1, none⟩) (zL (p := ⟨gb218, 0, none⟩) (zQ HO262.out BK218.out (by decide)) (fun _ hk => hk.2) (.slice (some ⟨go78, 0, none⟩) t260.length co86)) (fun _ hk => hk.2) (.int .i64 t263)) (fun _ hk => trivial), by repeat (first|(with_reducible first|exact HI0.out|apply IsS119.alloc|apply IsS119.drewN|apply IsS119.drew|apply IsS119.set_1|apply IsS119.set_2|refine IsS119.far ?_ NB0_218.out _|refine IsS119.far ?_ NB0_227.out _)|exact HI0.out), by repeat (first|(with_reducible first|exact HB.out|apply zI|apply zG|apply zH|refine zJ ?_ (IsS119.ge HI0.out)|refine zJ ?_ GE218.out|refine zJ ?_ GE227.out)|exact HB.out), by repeat (first|(with_reducible first|exact HK.out|apply KeepBut.set_|apply keep_drewN|apply keep_drew|apply keep_alloc|refine keep_far ?_ GW218.out _|refine keep_far ?_ GW227.out _)|exact HK.out)⟩
            · rw [if_neg c77] at H
              exact absurd H (by simp)
          · rw [if_neg c76] at H
            exact absurd H (by simp)
        · replace c73 := Bool.eq_false_iff.mpr c73
          subst c73
          have H1 : (some (x228000_1, x228001_1, t258, t259)) = some (r1, r2, r3, r4) := by rw [if_neg (show ¬ (false = true) by decide)] at H; exact H
          clear H
          have H := H1
          clear H1
          simp only [Option.some.injEq, Prod.mk.injEq] at H
          obtain ⟨rfl, rfl, rfl, rfl⟩ := H
          go_wp2_with (first|((with_reducible refine gate_callee (f := 73) rfl ?_); refine goesL_ (some 19) rfl rfl Try.func73 (by kernel_rfl) rfl #[.pointer (some ⟨g, 0, none⟩), .int .i64 24] rfl (by (try simp only [List.map_toArray, List.map_cons, List.map_nil]); first|done|rfl|(simp only [List.length_drop, List.length_take]; rfl)) ?_; (with_reducible refine (spec_l01Below.calls g s0_0 x1001_1 x1002_1 24 t228 t229 t230 w0 _ ?side1 ?side2 A12.out).mono ?_); (case side1 => repeat (first|(with_reducible first|exact HI0.out|apply IsS119.alloc|apply IsS119.drewN|apply IsS119.drew|apply IsS119.set_1|apply IsS119.set_2|refine IsS119.far ?_ NB0_218.out _|refine IsS119.far ?_ NB0_227.out _)|exact HI0.out)); (case side2 => repeat (first|(with_reducible first|exact HB.out|apply zI|apply zG|apply zH|refine zJ ?_ (IsS119.ge HI0.out)|refine zJ ?_ GE218.out|refine zJ ?_ GE227.out)|exact HB.out)); rintro e w96 ⟨rfl, hi, hb, hk⟩; refine ⟨_, rfl, ?_⟩; have n0_ := Aside0.mk (zR (Kd.R_keep (IsS119.apart (show IsS119 w0 _ g s0_0 x1001_1 x1002_1 from by repeat (first|(with_reducible first|exact HI0.out|apply IsS119.alloc|apply IsS119.drewN|apply IsS119.drew|apply IsS119.set_1|apply IsS119.set_2|refine IsS119.far ?_ NB0_218.out _|refine IsS119.far ?_ NB0_227.out _)|exact HI0.out)) (by (with_reducible repeat (first|apply zE|apply zD|apply zF)); exact HO_228000.out) (by decide)) hk (fun _ h => h.2)) (fun _ h => h.1)); have n1_ := Aside0.mk (KeepBut.blk hk (g' := gb218) (o := .cells #[.slice none 0 0, .int .i64 0] 65 (0, 0)) (by (with_reducible repeat (first|refine zA ?_ _|refine zC ?_|refine zB ?_ _)); exact BK218.out) NB218_0.out (by simp)); have n2_ := Aside0.mk (KeepBut.blk hk (g' := gb227) (o := .cells #[u228000, .int .i64 x228001_1] 65 (0, 0)) (by (with_reducible repeat (first|refine zA ?_ _|refine zC ?_|refine zB ?_ _)); exact BK227.out) NB227_0.out (by simp)); have n3_ := Aside0.mk (KeepBut.trans (by repeat (first|(with_reducible first|exact HK.out|apply KeepBut.set_|apply keep_drewN|apply keep_drew|apply keep_alloc|refine keep_far ?_ GW218.out _|refine keep_far ?_ GW227.out _)|exact HK.out)) hk (.inl rfl)); have n4_ := Aside0.mk (hb); have n5_ := Aside0.mk (hi); clear HO_228000; clear BK218; clear BK227; clear HK; clear HB; clear HI0; have HO_228000 := n0_; have BK218 := n1_; have BK227 := n2_; have HK := n3_; have HB := n4_; have HI0 := n5_; clear n0_ n1_ n2_ n3_ n4_ n5_; (try clear hb); (try clear hb2); (try clear hk); (try clear hi))|((with_reducible refine gate_callee (f := 118) rfl ?_); refine goesL_ (some 59) rfl rfl Try.func118 (by kernel_rfl) rfl #[.pointer (some ⟨g, 0, none⟩), .int .i64 12] rfl (by (try simp only [List.map_toArray, List.map_cons, List.map_nil]); first|done|rfl|(simp only [List.length_drop, List.length_take]; rfl)) ?_; (with_reducible refine (spec_l01Once.calls g s0_0 t229 t230 12 false t258 t259 w0 _ ?side1 ?side2 A72.out).mono ?_); (case side1 => repeat (first|(with_reducible first|exact HI0.out|apply IsS119.alloc|apply IsS119.drewN|apply IsS119.drew|apply IsS119.set_1|apply IsS119.set_2|refine IsS119.far ?_ NB0_218.out _|refine IsS119.far ?_ NB0_227.out _)|exact HI0.out)); (case side2 => repeat (first|(with_reducible first|exact HB.out|apply zI|apply zG|apply zH|refine zJ ?_ (IsS119.ge HI0.out)|refine zJ ?_ GE218.out|refine zJ ?_ GE227.out)|exact HB.out)); rintro e w97 ⟨rfl, hi, hb, hk⟩; refine ⟨_, rfl, ?_⟩; have n0_ := Aside0.mk (zR (Kd.R_keep (IsS119.apart (show IsS119 w0 _ g s0_0 t229 t230 from by repeat (first|(with_reducible first|exact HI0.out|apply IsS119.alloc|apply IsS119.drewN|apply IsS119.drew|apply IsS119.set_1|apply IsS119.set_2|refine IsS119.far ?_ NB0_218.out _|refine IsS119.far ?_ NB0_227.out _)|exact HI0.out)) (by (with_reducible repeat (first|apply zE|apply zD|apply zF)); exact HO_228000.out) (by decide)) hk (fun _ h => h.2)) (fun _ h => h.1)); have n1_ := Aside0.mk (KeepBut.blk hk (g' := gb218) (o := .cells #[.slice none 0 0, .int .i64 0] 65 (0, 0)) (by (with_reducible repeat (first|refine zA ?_ _|refine zC ?_|refine zB ?_ _)); exact BK218.out) NB218_0.out (by simp)); have n2_ := Aside0.mk (KeepBut.blk hk (g' := gb227) (o := .cells #[u228000, .int .i64 x228001_1] 65 (0, 0)) (by (with_reducible repeat (first|refine zA ?_ _|refine zC ?_|refine zB ?_ _)); exact BK227.out) NB227_0.out (by simp)); have n3_ := Aside0.mk (KeepBut.trans (by repeat (first|(with_reducible first|exact HK.out|apply KeepBut.set_|apply keep_drewN|apply keep_drew|apply keep_alloc|refine keep_far ?_ GW218.out _|refine keep_far ?_ GW227.out _)|exact HK.out)) hk (.inl rfl)); have n4_ := Aside0.mk (hb); have n5_ := Aside0.mk (hi); clear HO_228000; clear BK218; clear BK227; clear HK; clear HB; clear HI0; have HO_228000 := n0_; have BK218 := n1_; have BK227 := n2_; have HK := n3_; have HB := n4_; have HI0 := n5_; clear n0_ n1_ n2_ n3_ n4_ n5_; (try clear hb); (try clear hb2); (try clear hk); (try clear hi); have hnb98 := NB227_218.out; have hnc98 := NB218_227.out; have hnb99 := NB227_0.out; have hnc99 := NB0_227.out; obtain ⟨hcz100_0, hcz100_1, hfz100_0, hfz100_1⟩ := zb2 BK227.out; obtain ⟨Ao101, co101, eo101⟩ := Kd.R_slice HO_228000.out; subst eo101; have hnb102 := NB218_0.out; have hnc102 := NB0_218.out; obtain ⟨hcz103_0, hcz103_1, hfz103_0, hfz103_1⟩ := zb2 BK218.out))
          refine bodyPost_ret (results_cell_row rfl _ _ gb218 65 #[.slice Ao101 x228000_1.length co101, .int .i64 x228001_1] (0, 0) _ rfl (by (with_reducible repeat (first|refine zA ?_ _|refine zC ?_|refine zB ?_ _)); refine blk_put (cs := #[.slice Ao101 x228000_1.length co101, .int .i64 0]) ?_ 1 _ rfl; (with_reducible repeat (first|refine zA ?_ _|refine zC ?_|refine zB ?_ _)); refine blk_put (cs := #[.slice none 0 0, .int .i64 0]) ?_ 0 _ rfl; (with_reducible repeat (first|refine zA ?_ _|refine zC ?_|refine zB ?_ _)); exact BK218.out) Try.underlying65 rfl (by kernel_rfl)) rfl ?_
          exact ⟨_, by first|rfl|(simp [errW_none, errW_some] <;> rfl)|(simp [*, errW_none, errW_some] <;> rfl), by (with_reducible repeat (first|apply zE|apply zD|apply zF)); exact zR (zL (p := ⟨gb218, 1, none⟩) (zL (p := ⟨gb218, 0, none⟩) (zQ HO_228000.out BK218.out (by decide)) (fun _ hk => hk.2) (.slice Ao101 x228000_1.length co101)) (fun _ hk => hk.2) (.int .i64 x228001_1)) (fun _ hk => trivial), by repeat (first|(with_reducible first|exact HI0.out|apply IsS119.alloc|apply IsS119.drewN|apply IsS119.drew|apply IsS119.set_1|apply IsS119.set_2|refine IsS119.far ?_ NB0_218.out _|refine IsS119.far ?_ NB0_227.out _)|exact HI0.out), by repeat (first|(with_reducible first|exact HB.out|apply zI|apply zG|apply zH|refine zJ ?_ (IsS119.ge HI0.out)|refine zJ ?_ GE218.out|refine zJ ?_ GE227.out)|exact HB.out), by repeat (first|(with_reducible first|exact HK.out|apply KeepBut.set_|apply keep_drewN|apply keep_drew|apply keep_alloc|refine keep_far ?_ GW218.out _|refine keep_far ?_ GW227.out _)|exact HK.out)⟩

end Go.Proofs.Ytjiekmbonmbhlaa.GFnLifts
