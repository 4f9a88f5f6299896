/- Walks of the functions that the law reaches: by programs of this session, over a tool's print. -/
import Derived.Test.YtjiekmbonmbhlaaGFnLiftsx0
import Derived.Test.YtjiekmbonmbhlaaGFnLiftsx1
import Derived.Test.YtjiekmbonmbhlaaGFnLiftsx2
import Derived.Test.YtjiekmbonmbhlaaGFnLiftsx3
import Derived.Test.YtjiekmbonmbhlaaGFnLiftsx4
import Derived.Test.YtjiekmbonmbhlaaGFnLiftsx9
namespace Go.Proofs.Ytjiekmbonmbhlaa.GFnLifts
open Go.RowKit Go.Proofs.YtjiekmbonmbhlaaW.PrintWords Go.Proofs.YtjiekmbonmbhlaaW.PrintLast Go.Proofs.YtjiekmbonmbhlaaW.PrintMore
attribute [local go_sem] max2_int min2_int max_two min_two max_three min_three max_four min_four   -- for this text's walks alone
set_option linter.unusedVariables false
set_option linter.unusedSimpArgs false

attribute [local go_sem high] eqA81
/-! ### laws_FnLifts: function 12 -/
mutual
def laws_FnLifts.l0 : Nat → Int → List (S81) → Int → Option (Bool)
 |0, _, _, _ => none
 |k + 1, x6, x312000, x312001 => if x6 < (x312000.length : Int) then ((impl_HandleOf.f k x312000 x312001 x6).bind fun t320 => (if t320 < 0 then (laws_FnLifts.l0 k (wrap64 (x6 + 1)) x312000 x312001) else ((impl_Lift.f k x312000 x312001 t320).bind fun bt321 => (if bt321.2.2 = true then (if 0 ≤ x6 then (if x6 < (bt321.1.length : Int) then (laws_FnLifts.j1 k x6 t320 ((rd_T81 bt321.1 x6).f1) x312000 x312001 bt321.1 bt321.2.1) else (none)) else (none)) else (laws_FnLifts.j1 k x6 t320 true x312000 x312001 bt321.1 bt321.2.1))))) else ((impl_ArenaNew.f k (x312000.length : Int)).bind fun bt312 => (if bt312.2.2 = true then ((impl_UsedOf.f k bt312.1 bt312.2.1).bind fun t318 => (if t318 = 0 then ((impl_ArenaOk.f k bt312.1 bt312.2.1).bind fun t319 => (some t319)) else (some false))) else (some false)))
def laws_FnLifts.j1 : Nat → Int → Int → Bool → List (S81) → Int → List (S81) → Int → Option (Bool)
 |0, _, _, _, _, _, _, _ => none
 |k + 1, x6, x7, x53, x312000, x312001, x327000, x327001 => if x53 = true then (some false) else (laws_FnLifts.l1 k x6 x7 0 x312000 x312001 x327000 x327001)
def laws_FnLifts.l1 : Nat → Int → Int → Int → List (S81) → Int → List (S81) → Int → Option (Bool)
 |0, _, _, _, _, _, _, _ => none
 |k + 1, x6, x7, x10, x312000, x312001, x327000, x327001 => if x10 < (x312000.length : Int) then (if x10 = x6 then (laws_FnLifts.l1 k x6 x7 (wrap64 (x10 + 1)) x312000 x312001 x327000 x327001) else (if 0 ≤ x10 then (if (rd_T81 x312000 x10).f1 = true then (if x10 < (x327000.length : Int) then (if (!(((rd_T81 x327000 x10).f0) == ((rd_T81 x312000 x10).f0)) || (!(((rd_T81 x327000 x10).f1) == ((rd_T81 x312000 x10).f1)) || (!((((rd_T81 x327000 x10).f2).toList) == (((rd_T81 x312000 x10).f2).toList)) || (!((((rd_T81 x327000 x10).f3).toList) == (((rd_T81 x312000 x10).f3).toList)) || (!(((rd_T81 x327000 x10).f4) == ((rd_T81 x312000 x10).f4))))))) = true then (some false) else ((impl_HandleOf.f k x327000 x327001 x10).bind fun t331 => ((impl_HandleOf.f k x312000 x312001 x10).bind fun t332 => (if t331 = t332 then (laws_FnLifts.l1 k x6 x7 (wrap64 (x10 + 1)) x312000 x312001 x327000 x327001) else (some false))))) else (none)) else (laws_FnLifts.l1 k x6 x7 (wrap64 (x10 + 1)) x312000 x312001 x327000 x327001)) else (none))) else ((impl_Lay.f k x327000 x327001 (⟨#[113]⟩ : ByteArray) (⟨#[]⟩ : ByteArray)).bind fun bt333 => (if bt333.2.2.2 = true then (if (Int.tmod bt333.2.2.1 24) = x6 then (if 0 ≤ x6 then (if x6 < (bt333.1.length : Int) then (laws_FnLifts.j3 k x6 x7 (!((rd_T81 bt333.1 x6).f1)) x312000 x312001 x327000 x327001) else (none)) else (none)) else (laws_FnLifts.j3 k x6 x7 true x312000 x312001 x327000 x327001)) else (laws_FnLifts.j3 k x6 x7 true x312000 x312001 x327000 x327001)))
def laws_FnLifts.j3 : Nat → Int → Int → Bool → List (S81) → Int → List (S81) → Int → Option (Bool)
 |0, _, _, _, _, _, _, _ => none
 |k + 1, x6, x7, x116, x312000, x312001, x327000, x327001 => if x116 = true then (some false) else ((impl_Lift.f k x327000 x327001 x7).bind fun bt341 => (if bt341.2.2 = true then (some false) else (laws_FnLifts.l0 k (wrap64 (x6 + 1)) x312000 x312001)))
end
def laws_FnLifts.f (k : Nat) (l0 : List Int) : Option (Bool) := (laws_big.f l0).bind fun t304 => (if t304 = true then (some true) else ((spec_DrawRightArena.f k l0).bind fun bt305 => (laws_FnLifts.l0 k 0 bt305.1 bt305.2.1)))
theorem laws_FnLifts.mono_l : ∀ k, (∀ y0 y1 y2, LeO (laws_FnLifts.l0 k y0 y1 y2) (laws_FnLifts.l0 (k + 1) y0 y1 y2)) ∧ (∀ y0 y1 y2 y3 y4 y5 y6, LeO (laws_FnLifts.j1 k y0 y1 y2 y3 y4 y5 y6) (laws_FnLifts.j1 (k + 1) y0 y1 y2 y3 y4 y5 y6)) ∧ (∀ y0 y1 y2 y3 y4 y5 y6, LeO (laws_FnLifts.l1 k y0 y1 y2 y3 y4 y5 y6) (laws_FnLifts.l1 (k + 1) y0 y1 y2 y3 y4 y5 y6)) ∧ (∀ y0 y1 y2 y3 y4 y5 y6, LeO (laws_FnLifts.j3 k y0 y1 y2 y3 y4 y5 y6) (laws_FnLifts.j3 (k + 1) y0 y1 y2 y3 y4 y5 y6))
 |0 => ⟨fun _ _ _ r h => by simp [laws_FnLifts.l0] at h, fun _ _ _ _ _ _ _ r h => by simp [laws_FnLifts.j1] at h, fun _ _ _ _ _ _ _ r h => by simp [laws_FnLifts.l1] at h, fun _ _ _ _ _ _ _ r h => by simp [laws_FnLifts.j3] at h⟩
 |k + 1 => by
    obtain ⟨ih0, ih1, ih2, ih3⟩ := laws_FnLifts.mono_l k
    refine ⟨?_, ?_, ?_, ?_⟩
    · intro y0 y1 y2
      unfold laws_FnLifts.l0
      repeat' first
     |(with_reducible exact ih0 _ _ _)
     |(with_reducible exact ih1 _ _ _ _ _ _ _)
     |(with_reducible exact ih2 _ _ _ _ _ _ _)
     |(with_reducible exact ih3 _ _ _ _ _ _ _)
     |(with_reducible exact impl_ArenaNew.mono _ _)
     |(with_reducible exact impl_ArenaOk.mono _ _ _)
     |(with_reducible exact impl_HandleOf.mono _ _ _ _)
     |(with_reducible exact impl_Lay.mono _ _ _ _ _)
     |(with_reducible exact impl_Lift.mono _ _ _ _)
     |(with_reducible exact impl_UsedOf.mono _ _ _)
     |(with_reducible exact spec_DrawRightArena.mono _ _)
     |(with_reducible exact LeO.refl _)
     |(with_reducible exact LeO.none _)
     |(with_reducible refine LeO.ite ?_ ?_)
     |(with_reducible refine LeO.bind ?_ (fun _ => ?_))
     |exact ih0 _ _ _
     |exact ih1 _ _ _ _ _ _ _
     |exact ih2 _ _ _ _ _ _ _
     |exact ih3 _ _ _ _ _ _ _
     |exact impl_ArenaNew.mono _ _
     |exact impl_ArenaOk.mono _ _ _
     |exact impl_HandleOf.mono _ _ _ _
     |exact impl_Lay.mono _ _ _ _ _
     |exact impl_Lift.mono _ _ _ _
     |exact impl_UsedOf.mono _ _ _
     |exact spec_DrawRightArena.mono _ _
     |exact LeO.none _
     |refine LeO.ite ?_ ?_
     |refine LeO.bind ?_ (fun _ => ?_)
    · intro y0 y1 y2 y3 y4 y5 y6
      unfold laws_FnLifts.j1
      repeat' first
     |(with_reducible exact ih0 _ _ _)
     |(with_reducible exact ih1 _ _ _ _ _ _ _)
     |(with_reducible exact ih2 _ _ _ _ _ _ _)
     |(with_reducible exact ih3 _ _ _ _ _ _ _)
     |(with_reducible exact impl_ArenaNew.mono _ _)
     |(with_reducible exact impl_ArenaOk.mono _ _ _)
     |(with_reducible exact impl_HandleOf.mono _ _ _ _)
     |(with_reducible exact impl_Lay.mono _ _ _ _ _)
     |(with_reducible exact impl_Lift.mono _ _ _ _)
     |(with_reducible exact impl_UsedOf.mono _ _ _)
     |(with_reducible exact spec_DrawRightArena.mono _ _)
     |(with_reducible exact LeO.refl _)
     |(with_reducible exact LeO.none _)
     |(with_reducible refine LeO.ite ?_ ?_)
     |(with_reducible refine LeO.bind ?_ (fun _ => ?_))
     |exact ih0 _ _ _
     |exact ih1 _ _ _ _ _ _ _
     |exact ih2 _ _ _ _ _ _ _
     |exact ih3 _ _ _ _ _ _ _
     |exact impl_ArenaNew.mono _ _
     |exact impl_ArenaOk.mono _ _ _
     |exact impl_HandleOf.mono _ _ _ _
     |exact impl_Lay.mono _ _ _ _ _
     |exact impl_Lift.mono _ _ _ _
     |exact impl_UsedOf.mono _ _ _
     |exact spec_DrawRightArena.mono _ _
     |exact LeO.none _
     |refine LeO.ite ?_ ?_
     |refine LeO.bind ?_ (fun _ => ?_)
    · intro y0 y1 y2 y3 y4 y5 y6
      unfold laws_FnLifts.l1
      repeat' first
     |(with_reducible exact ih0 _ _ _)
     |(with_reducible exact ih1 _ _ _ _ _ _ _)
     |(with_reducible exact ih2 _ _ _ _ _ _ _)
     |(with_reducible exact ih3 _ _ _ _ _ _ _)
     |(with_reducible exact impl_ArenaNew.mono _ _)
     |(with_reducible exact impl_ArenaOk.mono _ _ _)
     |(with_reducible exact impl_HandleOf.mono _ _ _ _)
     |(with_reducible exact impl_Lay.mono _ _ _ _ _)
     |(with_reducible exact impl_Lift.mono _ _ _ _)
     |(with_reducible exact impl_UsedOf.mono _ _ _)
     |(with_reducible exact spec_DrawRightArena.mono _ _)
     |(with_reducible exact LeO.refl _)
     |(with_reducible exact LeO.none _)
     |(with_reducible refine LeO.ite ?_ ?_)
     |(with_reducible refine LeO.bind ?_ (fun _ => ?_))
     |exact ih0 _ _ _
     |exact ih1 _ _ _ _ _ _ _
     |exact ih2 _ _ _ _ _ _ _
     |exact ih3 _ _ _ _ _ _ _
     |exact impl_ArenaNew.mono _ _
     |exact impl_ArenaOk.mono _ _ _
     |exact impl_HandleOf.mono _ _ _ _
     |exact impl_Lay.mono _ _ _ _ _
     |exact impl_Lift.mono _ _ _ _
     |exact impl_UsedOf.mono _ _ _
     |exact spec_DrawRightArena.mono _ _
     |exact LeO.none _
     |refine LeO.ite ?_ ?_
     |refine LeO.bind ?_ (fun _ => ?_)
    · intro y0 y1 y2 y3 y4 y5 y6
      unfold laws_FnLifts.j3
      repeat' first
     |(with_reducible exact ih0 _ _ _)
     |(with_reducible exact ih1 _ _ _ _ _ _ _)
     |(with_reducible exact ih2 _ _ _ _ _ _ _)
     |(with_reducible exact ih3 _ _ _ _ _ _ _)
     |(with_reducible exact impl_ArenaNew.mono _ _)
     |(with_reducible exact impl_ArenaOk.mono _ _ _)
     |(with_reducible exact impl_HandleOf.mono _ _ _ _)
     |(with_reducible exact impl_Lay.mono _ _ _ _ _)
     |(with_reducible exact impl_Lift.mono _ _ _ _)
     |(with_reducible exact impl_UsedOf.mono _ _ _)
     |(with_reducible exact spec_DrawRightArena.mono _ _)
     |(with_reducible exact LeO.refl _)
     |(with_reducible exact LeO.none _)
     |(with_reducible refine LeO.ite ?_ ?_)
     |(with_reducible refine LeO.bind ?_ (fun _ => ?_))
     |exact ih0 _ _ _
     |exact ih1 _ _ _ _ _ _ _
     |exact ih2 _ _ _ _ _ _ _
     |exact ih3 _ _ _ _ _ _ _
     |exact impl_ArenaNew.mono _ _
     |exact impl_ArenaOk.mono _ _ _
     |exact impl_HandleOf.mono _ _ _ _
     |exact impl_Lay.mono _ _ _ _ _
     |exact impl_Lift.mono _ _ _ _
     |exact impl_UsedOf.mono _ _ _
     |exact spec_DrawRightArena.mono _ _
     |exact LeO.none _
     |refine LeO.ite ?_ ?_
     |refine LeO.bind ?_ (fun _ => ?_)
theorem laws_FnLifts.mono : ∀ a0 k, LeO (laws_FnLifts.f k a0) (laws_FnLifts.f (k + 1) a0) := by
  intro a0 k
  obtain ⟨ih0, ih1, ih2, ih3⟩ := laws_FnLifts.mono_l k
  unfold laws_FnLifts.f
  repeat' first
     |(with_reducible exact ih0 _ _ _)
     |(with_reducible exact ih1 _ _ _ _ _ _ _)
     |(with_reducible exact ih2 _ _ _ _ _ _ _)
     |(with_reducible exact ih3 _ _ _ _ _ _ _)
     |(with_reducible exact impl_ArenaNew.mono _ _)
     |(with_reducible exact impl_ArenaOk.mono _ _ _)
     |(with_reducible exact impl_HandleOf.mono _ _ _ _)
     |(with_reducible exact impl_Lay.mono _ _ _ _ _)
     |(with_reducible exact impl_Lift.mono _ _ _ _)
     |(with_reducible exact impl_UsedOf.mono _ _ _)
     |(with_reducible exact spec_DrawRightArena.mono _ _)
     |(with_reducible exact LeO.refl _)
     |(with_reducible exact LeO.none _)
     |(with_reducible refine LeO.ite ?_ ?_)
     |(with_reducible refine LeO.bind ?_ (fun _ => ?_))
     |exact ih0 _ _ _
     |exact ih1 _ _ _ _ _ _ _
     |exact ih2 _ _ _ _ _ _ _
     |exact ih3 _ _ _ _ _ _ _
     |exact impl_ArenaNew.mono _ _
     |exact impl_ArenaOk.mono _ _ _
     |exact impl_HandleOf.mono _ _ _ _
     |exact impl_Lay.mono _ _ _ _ _
     |exact impl_Lift.mono _ _ _ _
     |exact impl_UsedOf.mono _ _ _
     |exact spec_DrawRightArena.mono _ _
     |exact LeO.none _
     |refine LeO.ite ?_ ?_
     |refine LeO.bind ?_ (fun _ => ?_)
def laws_FnLifts.T15 : Bool × List (List Nat × List Nat) := (true, [([], []), ([], []), ([0, 1], [0, 1]), ([2], [2]), ([3], [3]), ([4, 3], [3, 4]), ([3], [3]), ([5, 6, 3], [3, 5, 6]), ([7, 3], [3, 7]), ([8, 3], [3, 8]), ([3, 9], [3, 9]), ([10, 3], [10]), ([11], [11]), ([12, 11], [11, 12]), ([11], [11]), ([13, 14, 11], [11, 13, 14]), ([15, 11], [11, 15]), ([11], [11]), ([17, 11], [11, 17]), ([11], [11]), ([18, 19, 11], [11, 18, 19]), ([20, 11], [11, 20]), ([16, 21, 11], [11, 16, 21]), ([22, 11, 11], [11, 22]), ([23], [23]), ([23], [23]), ([24, 25, 23, 23], [23, 24, 25]), ([23], [23]), ([23], [23]), ([27, 28, 26, 23], [23, 27, 28]), ([26, 29, 23], [23, 26, 29]), ([23, 30, 11], [11, 23, 30]), ([11, 31], [11, 31])])
def laws_FnLifts.B15 : List Nat := [0, 0, 3, 7, 15, 31, 15, 127, 255, 511, 1023, 2047, 4095, 8191, 4095, 32767, 65535, 4095, 135167, 4095, 921599, 1970175, 4194303, 8388607, 16777215, 16777215, 67108863, 16777215, 16777215, 536870911, 1073741823, 2147483647, 4294967295]
theorem laws_FnLifts.tab15 : rtab .any (opsOf Try.f12 15) = laws_FnLifts.T15 := by kernel_rfl
theorem laws_FnLifts.bits15 : waitsOk laws_FnLifts.T15.2 laws_FnLifts.B15 = true := by kernel_rfl
theorem laws_FnLifts.j1_bad {r : Bool} : ∀ {k} {y0} {y1} {y3} {y4} {y5} {y6}, laws_FnLifts.j1 k y0 y1 true y3 y4 y5 y6 = some r → r = false
  | 0, _, _, _, _, _, _, h => by simp [laws_FnLifts.j1] at h
  | k + 1, _, _, _, _, _, _, h => by simp only [laws_FnLifts.j1, if_true] at h; exact (Option.some.inj h).symm
theorem laws_FnLifts.j3_bad {r : Bool} : ∀ {k} {y0} {y1} {y3} {y4} {y5} {y6}, laws_FnLifts.j3 k y0 y1 true y3 y4 y5 y6 = some r → r = false
  | 0, _, _, _, _, _, _, h => by simp [laws_FnLifts.j3] at h
  | k + 1, _, _, _, _, _, _, h => by simp only [laws_FnLifts.j3, if_true] at h; exact (Option.some.inj h).symm
set_option maxHeartbeats 8000000 in
set_option maxRecDepth 100000 in
theorem laws_FnLifts.calls (k : Nat) (A0 : Option Addr) (c0 : Nat) (l0 : List Int) (r : Bool) (w : World) (hr0 : Kd.C (Kd.int .u8) w A0 l0.length l0) (hc0 : l0.length ≤ c0) (h : laws_FnLifts.f k l0 = some r) (HT0_ : r = true) :
    Calls Try.prog 12 #[.slice A0 l0.length c0] w fun e w' => e = .returned (.bool r) ∧ Below w.heap.size w w' := by
  have HTr_ := Aside0.mk HT0_
  clear HT0_
  have hu65 := Try.underlying65
  have hu81 := Try.underlying81
  have HR0 := Aside0.mk hr0
  have HC0 := Aside0.mk hc0
  clear hr0 hc0
  have HB := Aside0.mk (Below.refl w.heap.size w)
  have H : ((laws_big.f l0).bind fun t304 => (if t304 = true then (some true) else ((spec_DrawRightArena.f k l0).bind fun bt305 => (laws_FnLifts.l0 k 0 bt305.1 bt305.2.1)))) = some r := h
  clear h
  replace H := Option.bind_eq_some_iff.mp H
  obtain ⟨t304, A20, H⟩ := H
  replace H : (if t304 = true then (some true) else ((spec_DrawRightArena.f k l0).bind fun bt305 => (laws_FnLifts.l0 k 0 bt305.1 bt305.2.1))) = some r := H
  have A2 := Aside0.mk A20
  clear A20
  by_cases c3 : t304 = true
  · subst c3
    have H1 : (some true) = some r := by rw [if_pos rfl] at H; exact H
    clear H
    have H := H1
    clear H1
    obtain rfl := Option.some.inj H
    go_enter Try.func12, Try.ntmps12
    go_wp2_with (first|((with_reducible refine gate_callee (f := 24) rfl ?_); refine goesL_ (some 19) rfl rfl Try.func24 (by kernel_rfl) rfl #[.slice A0 l0.length c0] rfl (by (try simp only [List.map_toArray, List.map_cons, List.map_nil]); first|done|rfl|(simp only [List.length_drop, List.length_take]; rfl)) ?_; (with_reducible refine (laws_big.calls _ _ l0 true _ ?side1 ?side2 A2.out).mono ?_); (case side1 => repeat (first|exact HR0.out|(with_reducible refine Kd.C_alloc ?_ _)|(with_reducible refine Kd.C_drewN ?_ _)|(with_reducible refine Kd.C_drew ?_))); (case side2 => exact HC0.out); rintro e w' ⟨rfl, ⟨nd, rfl⟩⟩; refine ⟨_, rfl, ?_⟩))
    go_ret
    exact ⟨by first|rfl|(simp [errW_none, errW_some] <;> rfl)|(simp [*, errW_none, errW_some] <;> rfl), by repeat (first|(with_reducible first|exact HB.out|apply zI|apply zG|apply zH)|exact HB.out)⟩
  · replace c3 := Bool.eq_false_iff.mpr c3
    subst c3
    have H1 : ((spec_DrawRightArena.f k l0).bind fun bt305 => (laws_FnLifts.l0 k 0 bt305.1 bt305.2.1)) = some r := by rw [if_neg (show ¬ (false = true) by decide)] at H; exact H
    clear H
    have H := H1
    clear H1
    replace H := Option.bind_eq_some_iff.mp H
    obtain ⟨⟨t305, t308, t309, t310⟩, A40, H⟩ := H
    replace H : (laws_FnLifts.l0 k 0 t305 t308) = some r := H
    have A4 := Aside0.mk A40
    clear A40
    have H' := Aside0.mk H
    clear H
    go_enter Try.func12, Try.ntmps12
    go_wp2_with (first|((with_reducible refine gate_callee (f := 24) rfl ?_); refine goesL_ (some 19) rfl rfl Try.func24 (by kernel_rfl) rfl #[.slice A0 l0.length c0] rfl (by (try simp only [List.map_toArray, List.map_cons, List.map_nil]); first|done|rfl|(simp only [List.length_drop, List.length_take]; rfl)) ?_; (with_reducible refine (laws_big.calls _ _ l0 false _ ?side1 ?side2 A2.out).mono ?_); (case side1 => repeat (first|exact HR0.out|(with_reducible refine Kd.C_alloc ?_ _)|(with_reducible refine Kd.C_drewN ?_ _)|(with_reducible refine Kd.C_drew ?_))); (case side2 => exact HC0.out); rintro e w' ⟨rfl, ⟨nd, rfl⟩⟩; refine ⟨_, rfl, ?_⟩)|((with_reducible refine gate_callee (f := 50) rfl ?_); refine goesL_ (some 22) rfl rfl Try.func50 (by kernel_rfl) rfl #[.slice A0 l0.length c0] rfl (by (try simp only [List.map_toArray, List.map_cons, List.map_nil]); first|done|rfl|(simp only [List.length_drop, List.length_take]; rfl)) ?_; (with_reducible refine (spec_DrawRightArena.calls k _ _ l0 t305 t308 t309 t310 _ ?side1 ?side2 A4.out).mono ?_); (case side1 => repeat (first|exact HR0.out|(with_reducible refine Kd.C_alloc ?_ _)|(with_reducible refine Kd.C_drewN ?_ _)|(with_reducible refine Kd.C_drew ?_))); (case side2 => exact HC0.out); rintro e w5 ⟨v306, rfl, ho0, hb⟩; refine ⟨_, rfl, ?_⟩; have n0_ := Aside0.mk (Kd.R_lower ho0 (below_size (by repeat (first|(with_reducible first|exact HB.out|apply zI|apply zG|apply zH)|exact HB.out)))); have n1_ := Aside0.mk (zN (by repeat (first|(with_reducible first|exact HB.out|apply zI|apply zG|apply zH)|exact HB.out)) hb); clear HB; have HO307 := n0_; have HB := n1_; clear n0_ n1_; (try clear hb); (try clear hb2); (try clear hk); (try clear hi); (try clear ho0))|((with_reducible refine gate_dst (N := 3) rfl ?_); refine box_event ?hg (N := 3) ?hd (cs := #[.slice none 0 0, .int .i64 0]) (t := 65) ?hr ?_; (case hd => rfl); (case hg => rfl); (case hr => first|(go_simp; done)|(go_simp; rfl)); intro gb311 hg w6 hbox hb; have n0_ := Aside0.mk (zM (by (with_reducible repeat (first|apply zE|apply zD|apply zF)); exact HO307.out) hb); have n1_ := Aside0.mk (zN (by repeat (first|(with_reducible first|exact HB.out|apply zI|apply zG|apply zH)|exact HB.out)) hb); have n2_ := Aside0.mk (hbox); have n3_ := Aside0.mk ((by rw [hg]; exact (below_size (by repeat (first|(with_reducible first|exact HB.out|apply zI|apply zG|apply zH)|exact HB.out))) : w.heap.size ≤ gb311)); have n4_ := Aside0.mk ((by rw [hg]; exact (below_size (by repeat (first|(with_reducible first|exact HB.out|apply zI|apply zG|apply zH)|exact HB.out))) : w.heap.size ≤ gb311)); clear HO307; clear HB; have HO307 := n0_; have HB := n1_; have BK311 := n2_; have GW311 := n3_; have GE311 := n4_; clear n0_ n1_ n2_ n3_ n4_; clear hb hbox hg; obtain ⟨Ao7, co7, eo7⟩ := Kd.R_slice HO307.out; subst eo7; obtain ⟨hcz8_0, hcz8_1, hfz8_0, hfz8_1⟩ := zb2 BK311.out))
    go_loopg [6] k (fun kq v6 w' => ∃ (x6_1 : Int), v6 = .int .i64 x6_1 ∧ Aside0 (laws_FnLifts.l0 kq x6_1 t305 t308 = some r) ∧ Aside0 (kq ≤ k) ∧ Aside0 (Kd.R k81 81 w' w.heap.size (fun _ => True) (.slice Ao7 t305.length co7) t305) ∧ Aside0 (w'.heap[gb311]? = some (.cells #[(.slice Ao7 t305.length co7), .int .i64 t308] 65 (0, 0))) ∧ Aside0 (Below w.heap.size w w'))
    case atStart => exact ⟨(0), (by first|rfl|(simp; done)|(simp [*]; done)), H', ⟨Nat.le_refl _⟩, ⟨by (with_reducible repeat (first|apply zE|apply zD|apply zF)); exact zR (zL (p := ⟨gb311, 1, none⟩) (zL (p := ⟨gb311, 0, none⟩) (zQ HO307.out BK311.out (by decide)) (fun _ hk => hk.2) (.slice Ao7 t305.length co7)) (fun _ hk => hk.2) (.int .i64 t308)) (fun _ hk => trivial)⟩, ⟨by (with_reducible repeat (first|refine zA ?_ _|refine zC ?_|refine zB ?_ _)); refine blk_put (cs := #[.slice Ao7 t305.length co7, .int .i64 0]) ?_ 1 _ rfl; (with_reducible repeat (first|refine zA ?_ _|refine zC ?_|refine zB ?_ _)); refine blk_put (cs := #[.slice none 0 0, .int .i64 0]) ?_ 0 _ rfl; (with_reducible repeat (first|refine zA ?_ _|refine zC ?_|refine zB ?_ _)); exact BK311.out⟩, ⟨by repeat (first|(with_reducible first|exact HB.out|apply zI|apply zG|apply zH|refine zJ ?_ GE311.out)|exact HB.out)⟩⟩
    case round =>
      clear H'
      try clear c1
      try clear c2
      try clear p2
      try clear c3
      try clear c5
      try clear hcz8_0
      try clear hcz8_1
      try clear hfz8_0
      try clear hfz8_1
      obtain ⟨x6_1, rfl, HA, HK1, HO_312000, BK311, HB⟩ := hrel
      cases gk with
     |zero => exact absurd HA.out (by simp [laws_FnLifts.l0])
     |succ k1 =>
        have H := HA.out
        clear HA
        simp only [laws_FnLifts.l0] at H
        by_cases c9 : x6_1 < (t305.length : Int)
        · rw [if_pos c9] at H
          have c9b0 : decide (x6_1 < (t305.length : Int)) = true := decide_eq_true c9
          clear c9
          replace H := Option.bind_eq_some_iff.mp H
          obtain ⟨t320, A100, H⟩ := H
          replace H : (if t320 < 0 then (laws_FnLifts.l0 k1 (wrap64 (x6_1 + 1)) t305 t308) else ((impl_Lift.f k1 t305 t308 t320).bind fun bt321 => (if bt321.2.2 = true then (if 0 ≤ x6_1 then (if x6_1 < (bt321.1.length : Int) then (laws_FnLifts.j1 k1 x6_1 t320 ((rd_T81 bt321.1 x6_1).f1) t305 t308 bt321.1 bt321.2.1) else (none)) else (none)) else (laws_FnLifts.j1 k1 x6_1 t320 true t305 t308 bt321.1 bt321.2.1)))) = some r := H
          have A10 := Aside0.mk A100
          clear A100
          by_cases c11 : t320 < 0
          · rw [if_pos c11] at H
            have c11b0 : decide (t320 < 0) = true := decide_eq_true c11
            clear c11
            have H' := Aside0.mk H
            clear H
            obtain ⟨hcz12_0, hcz12_1, hfz12_0, hfz12_1⟩ := zb2 BK311.out
            go_wp2_with (first|((with_reducible refine gate_callee (f := 55) rfl ?_); refine goesL_ (some 35) rfl rfl Try.func55 (by kernel_rfl) rfl #[.agg #[.slice Ao7 t305.length co7, .int .i64 t308], .int .i64 x6_1] rfl (by (try simp only [List.map_toArray, List.map_cons, List.map_nil]); first|done|rfl|(simp only [List.length_drop, List.length_take]; rfl)) ?_; (with_reducible refine (impl_HandleOf.calls k1 _ _ t305 t308 x6_1 t320 _ ?side1 ?side2 A10.out).mono ?_); (case side1 => repeat (first|exact (Kd.R_reads' HO_312000.out).2.2|(with_reducible refine Kd.C_alloc ?_ _)|(with_reducible refine Kd.C_drewN ?_ _)|(with_reducible refine Kd.C_drew ?_))); (case side2 => exact (Kd.R_reads' HO_312000.out).2.1); rintro e w13 ⟨rfl, hb⟩; refine ⟨_, rfl, ?_⟩; have n0_ := Aside0.mk (zM (by (with_reducible repeat (first|apply zE|apply zD|apply zF)); exact HO_312000.out) hb); have n1_ := Aside0.mk (zK (g := gb311) (o := .cells #[.slice Ao7 t305.length co7, .int .i64 t308] 65 (0, 0)) (by (with_reducible repeat (first|refine zA ?_ _|refine zC ?_|refine zB ?_ _)); exact BK311.out) hb); have n2_ := Aside0.mk (zN (by repeat (first|(with_reducible first|exact HB.out|apply zI|apply zG|apply zH|refine zJ ?_ GE311.out)|exact HB.out)) hb); clear HO_312000; clear BK311; clear HB; have HO_312000 := n0_; have BK311 := n1_; have HB := n2_; clear n0_ n1_ n2_; (try clear hb); (try clear hb2); (try clear hk); (try clear hi)))
            go_roundg k1
            case measure => have := HK1.out; omega
            case rel => exact ⟨(wrap64 (x6_1 + 1)), (by first|rfl|(simp; done)|(simp [*]; done)), H', ⟨by have := HK1.out; omega⟩, ⟨by (with_reducible repeat (first|apply zE|apply zD|apply zF)); exact HO_312000.out⟩, ⟨by (with_reducible repeat (first|refine zA ?_ _|refine zC ?_|refine zB ?_ _)); exact BK311.out⟩, ⟨by repeat (first|(with_reducible first|exact HB.out|apply zI|apply zG|apply zH|refine zJ ?_ GE311.out)|exact HB.out)⟩⟩
          · rw [if_neg c11] at H
            have c11b0 : decide (t320 < 0) = false := decide_eq_false c11
            clear c11
            replace H := Option.bind_eq_some_iff.mp H
            obtain ⟨⟨t321, t324, t325⟩, A140, H⟩ := H
            replace H : (if t325 = true then (if 0 ≤ x6_1 then (if x6_1 < (t321.length : Int) then (laws_FnLifts.j1 k1 x6_1 t320 ((rd_T81 t321 x6_1).f1) t305 t308 t321 t324) else (none)) else (none)) else (laws_FnLifts.j1 k1 x6_1 t320 true t305 t308 t321 t324)) = some r := H
            have A14 := Aside0.mk A140
            clear A140
            have HC15 := Aside0.mk H
            clear H
            obtain ⟨hcz16_0, hcz16_1, hfz16_0, hfz16_1⟩ := zb2 BK311.out
            go_upto_region 10 with (first|((with_reducible refine gate_callee (f := 55) rfl ?_); refine goesL_ (some 35) rfl rfl Try.func55 (by kernel_rfl) rfl #[.agg #[.slice Ao7 t305.length co7, .int .i64 t308], .int .i64 x6_1] rfl (by (try simp only [List.map_toArray, List.map_cons, List.map_nil]); first|done|rfl|(simp only [List.length_drop, List.length_take]; rfl)) ?_; (with_reducible refine (impl_HandleOf.calls k1 _ _ t305 t308 x6_1 t320 _ ?side1 ?side2 A10.out).mono ?_); (case side1 => repeat (first|exact (Kd.R_reads' HO_312000.out).2.2|(with_reducible refine Kd.C_alloc ?_ _)|(with_reducible refine Kd.C_drewN ?_ _)|(with_reducible refine Kd.C_drew ?_))); (case side2 => exact (Kd.R_reads' HO_312000.out).2.1); rintro e w17 ⟨rfl, hb⟩; refine ⟨_, rfl, ?_⟩; have n0_ := Aside0.mk (zM (by (with_reducible repeat (first|apply zE|apply zD|apply zF)); exact HO_312000.out) hb); have n1_ := Aside0.mk (zK (g := gb311) (o := .cells #[.slice Ao7 t305.length co7, .int .i64 t308] 65 (0, 0)) (by (with_reducible repeat (first|refine zA ?_ _|refine zC ?_|refine zB ?_ _)); exact BK311.out) hb); have n2_ := Aside0.mk (zN (by repeat (first|(with_reducible first|exact HB.out|apply zI|apply zG|apply zH|refine zJ ?_ GE311.out)|exact HB.out)) hb); clear HO_312000; clear BK311; clear HB; have HO_312000 := n0_; have BK311 := n1_; have HB := n2_; clear n0_ n1_ n2_; (try clear hb); (try clear hb2); (try clear hk); (try clear hi); obtain ⟨hcz18_0, hcz18_1, hfz18_0, hfz18_1⟩ := zb2 BK311.out)|((with_reducible refine gate_callee (f := 54) rfl ?_); refine goesL_ (some 41) rfl rfl Try.func54 (by kernel_rfl) rfl #[.agg #[.slice Ao7 t305.length co7, .int .i64 t308], .int .i64 t320] rfl (by (try simp only [List.map_toArray, List.map_cons, List.map_nil]); first|done|rfl|(simp only [List.length_drop, List.length_take]; rfl)) ?_; (with_reducible refine (impl_Lift.calls k1 _ _ t305 t308 t320 t321 t324 t325 _ ?side1 ?side2 A14.out).mono ?_); (case side1 => repeat (first|exact (Kd.R_reads' HO_312000.out).2.2|(with_reducible refine Kd.C_alloc ?_ _)|(with_reducible refine Kd.C_drewN ?_ _)|(with_reducible refine Kd.C_drew ?_))); (case side2 => exact (Kd.R_reads' HO_312000.out).2.1); rintro e w19 ⟨v322, rfl, ho0, hb⟩; refine ⟨_, rfl, ?_⟩; have n0_ := Aside0.mk (Kd.R_elder' (by (with_reducible repeat (first|apply zE|apply zD|apply zF)); exact HO_312000.out) (Kd.R_base ho0) hb); have n1_ := Aside0.mk (Kd.R_lower (Kd.R_new' ho0 (Kd.R_lt (by (with_reducible repeat (first|apply zE|apply zD|apply zF)); exact HO_312000.out))) (below_size (by repeat (first|(with_reducible first|exact HB.out|apply zI|apply zG|apply zH|refine zJ ?_ GE311.out)|exact HB.out)))); have n2_ := Aside0.mk (zK (g := gb311) (o := .cells #[.slice Ao7 t305.length co7, .int .i64 t308] 65 (0, 0)) (by (with_reducible repeat (first|refine zA ?_ _|refine zC ?_|refine zB ?_ _)); exact BK311.out) hb); have n3_ := Aside0.mk (zN (by repeat (first|(with_reducible first|exact HB.out|apply zI|apply zG|apply zH|refine zJ ?_ GE311.out)|exact HB.out)) hb); clear HO_312000; clear BK311; clear HB; have HO_312000 := n0_; have HO323 := n1_; have BK311 := n2_; have HB := n3_; clear n0_ n1_ n2_ n3_; (try clear hb); (try clear hb2); (try clear hk); (try clear hi); (try clear ho0))|((with_reducible refine gate_dst (N := 8) rfl ?_); refine box_event ?hg (N := 8) ?hd (cs := #[.slice none 0 0, .int .i64 0]) (t := 65) ?hr ?_; (case hd => rfl); (case hg => rfl); (case hr => first|(go_simp; done)|(go_simp; rfl)); intro gb326 hg w20 hbox hb; have n0_ := Aside0.mk (zM (by (with_reducible repeat (first|apply zE|apply zD|apply zF)); exact HO_312000.out) hb); have n1_ := Aside0.mk (zM (by (with_reducible repeat (first|apply zE|apply zD|apply zF)); exact HO323.out) hb); have n2_ := Aside0.mk (zK (g := gb311) (o := .cells #[.slice Ao7 t305.length co7, .int .i64 t308] 65 (0, 0)) (by (with_reducible repeat (first|refine zA ?_ _|refine zC ?_|refine zB ?_ _)); exact BK311.out) hb); have n3_ := Aside0.mk (zN (by repeat (first|(with_reducible first|exact HB.out|apply zI|apply zG|apply zH|refine zJ ?_ GE311.out)|exact HB.out)) hb); have n4_ := Aside0.mk (hbox); have n5_ := Aside0.mk ((by rw [hg]; exact (below_size (by repeat (first|(with_reducible first|exact HB.out|apply zI|apply zG|apply zH|refine zJ ?_ GE311.out)|exact HB.out))) : w.heap.size ≤ gb326)); have n6_ := Aside0.mk ((by rw [hg]; exact (below_size (by repeat (first|(with_reducible first|exact HB.out|apply zI|apply zG|apply zH|refine zJ ?_ GE311.out)|exact HB.out))) : w.heap.size ≤ gb326)); have n7_ := Aside0.mk ((by rw [hg]; exact Nat.ne_of_lt (blk_lt (g := gb311) (o := .cells #[.slice Ao7 t305.length co7, .int .i64 t308] 65 (0, 0)) (by (with_reducible repeat (first|refine zA ?_ _|refine zC ?_|refine zB ?_ _)); exact BK311.out)) : gb311 ≠ gb326)); have n8_ := Aside0.mk ((by rw [hg]; exact Nat.ne_of_gt (blk_lt (g := gb311) (o := .cells #[.slice Ao7 t305.length co7, .int .i64 t308] 65 (0, 0)) (by (with_reducible repeat (first|refine zA ?_ _|refine zC ?_|refine zB ?_ _)); exact BK311.out)) : gb326 ≠ gb311)); clear HO_312000; clear HO323; clear BK311; clear HB; have HO_312000 := n0_; have HO323 := n1_; have BK311 := n2_; have HB := n3_; have BK326 := n4_; have GW326 := n5_; have GE326 := n6_; have NB311_326 := n7_; have NB326_311 := n8_; clear n0_ n1_ n2_ n3_ n4_ n5_ n6_ n7_ n8_; clear hb hbox hg; obtain ⟨Ao21, co21, eo21⟩ := Kd.R_slice HO323.out; subst eo21; have hnb22 := NB326_311.out; have hnc22 := NB311_326.out; obtain ⟨hcz23_0, hcz23_1, hfz23_0, hfz23_1⟩ := zb2 BK326.out))
            (try simp only [Act.put, List.setIfInBounds_toArray, List.set_cons_zero, List.set_cons_succ])
            go_cut [53] (fun v53 wc => ∃ (kq : Nat) (x53_14 : Bool), v53 = .bool x53_14 ∧ Aside0 (laws_FnLifts.j1 kq x6_1 t320 x53_14 t305 t308 t321 t324 = some r) ∧ Aside0 (kq ≤ k1) ∧ Aside0 (Kd.R k81 81 wc w.heap.size (fun k_ => some k_ ≠ ((.slice Ao21 t321.length co21) : Value).ownBlock) (.slice Ao7 t305.length co7) t305) ∧ Aside0 (Kd.R k81 81 wc w.heap.size (fun k_ => some k_ ≠ ((.slice Ao7 t305.length co7) : Value).ownBlock) (.slice Ao21 t321.length co21) t321) ∧ Aside0 (wc.heap[gb311]? = some (.cells #[(.slice Ao7 t305.length co7), .int .i64 t308] 65 (0, 0))) ∧ Aside0 (wc.heap[gb326]? = some (.cells #[(.slice Ao21 t321.length co21), .int .i64 t324] 65 (0, 0))) ∧ Aside0 (Below w.heap.size w wc))
            case first =>
              have H := HC15.out
              clear HC15
              by_cases c24 : t325 = true
              · subst c24
                have H1 : (if 0 ≤ x6_1 then (if x6_1 < (t321.length : Int) then (laws_FnLifts.j1 k1 x6_1 t320 ((rd_T81 t321 x6_1).f1) t305 t308 t321 t324) else (none)) else (none)) = some r := by rw [if_pos rfl] at H; exact H
                clear H
                have H := H1
                clear H1
                by_cases c25 : 0 ≤ x6_1
                · rw [if_pos c25] at H
                  have c25b0 : decide (0 ≤ x6_1) = true := decide_eq_true c25
                  clear c25
                  (first|rw [c25b0]|(simp only [i64_w, i32_w]; rw [c25b0])|skip)
                  by_cases c26 : x6_1 < (t321.length : Int)
                  · rw [if_pos c26] at H
                    have c26b0 : decide (x6_1 < (t321.length : Int)) = true := decide_eq_true c26
                    clear c26
                    have H' := Aside0.mk H
                    clear H
                    have hnb27 := NB326_311.out
                    have hnc27 := NB311_326.out
                    obtain ⟨hcz28_0, hcz28_1, hfz28_0, hfz28_1⟩ := zb2 BK326.out
                    have p327 : 0 ≤ (x6_1 : Int) := of_decide_eq_true (by first|(with_reducible assumption)|assumption)
                    have q327 : x6_1 < (t321.length : Int) := of_decide_eq_true (by first|(with_reducible assumption)|assumption)
                    obtain ⟨ad327, e327, hx327_0, hx327_1, hx327_2, hx327_3, hx327_4⟩ := at_T81 (Kd.R_reads' HO323.out).2.2 x6_1 p327 q327
                    cases e327
                    have hn327_0 : ad327.block ≠ gb326 := Kd.own_blk (Kd.R_ne HO323.out BK326.out (by decide))
                    have hn327_1 : ad327.block ≠ gb326 := Kd.own_blk (Kd.R_ne HO323.out BK326.out (by decide))
                    replace hx327_0 := (cell_far (p := ⟨gb326, 0, none⟩) (by first|(rw [add_block]; exact hn327_0)|(show (Addr.add _ _).block ≠ _; rw [add_block]; exact hn327_0)|exact hn327_0) (.slice (some ad327) t321.length co21)).trans hx327_0
                    replace hx327_1 := (cell_far (p := ⟨gb326, 0, none⟩) (by first|(rw [add_block]; exact hn327_0)|(show (Addr.add _ _).block ≠ _; rw [add_block]; exact hn327_0)|exact hn327_0) (.slice (some ad327) t321.length co21)).trans hx327_1
                    replace hx327_2 := (cell_far (p := ⟨gb326, 0, none⟩) (by first|(rw [add_block]; exact hn327_0)|(show (Addr.add _ _).block ≠ _; rw [add_block]; exact hn327_0)|exact hn327_0) (.slice (some ad327) t321.length co21)).trans hx327_2
                    replace hx327_3 := (cell_far (p := ⟨gb326, 0, none⟩) (by first|(rw [add_block]; exact hn327_0)|(show (Addr.add _ _).block ≠ _; rw [add_block]; exact hn327_0)|exact hn327_0) (.slice (some ad327) t321.length co21)).trans hx327_3
                    replace hx327_4 := (cell_far (p := ⟨gb326, 0, none⟩) (by first|(rw [add_block]; exact hn327_0)|(show (Addr.add _ _).block ≠ _; rw [add_block]; exact hn327_0)|exact hn327_0) (.slice (some ad327) t321.length co21)).trans hx327_4
                    replace hx327_0 := (cell_far (p := ⟨gb326, 1, none⟩) (by first|(rw [add_block]; exact hn327_1)|(show (Addr.add _ _).block ≠ _; rw [add_block]; exact hn327_1)|exact hn327_1) (.int .i64 t324)).trans hx327_0
                    replace hx327_1 := (cell_far (p := ⟨gb326, 1, none⟩) (by first|(rw [add_block]; exact hn327_1)|(show (Addr.add _ _).block ≠ _; rw [add_block]; exact hn327_1)|exact hn327_1) (.int .i64 t324)).trans hx327_1
                    replace hx327_2 := (cell_far (p := ⟨gb326, 1, none⟩) (by first|(rw [add_block]; exact hn327_1)|(show (Addr.add _ _).block ≠ _; rw [add_block]; exact hn327_1)|exact hn327_1) (.int .i64 t324)).trans hx327_2
                    replace hx327_3 := (cell_far (p := ⟨gb326, 1, none⟩) (by first|(rw [add_block]; exact hn327_1)|(show (Addr.add _ _).block ≠ _; rw [add_block]; exact hn327_1)|exact hn327_1) (.int .i64 t324)).trans hx327_3
                    replace hx327_4 := (cell_far (p := ⟨gb326, 1, none⟩) (by first|(rw [add_block]; exact hn327_1)|(show (Addr.add _ _).block ≠ _; rw [add_block]; exact hn327_1)|exact hn327_1) (.int .i64 t324)).trans hx327_4
                    clear hn327_0
                    clear hn327_1
                    replace p327 := eq_true p327
                    replace q327 := eq_true q327
                    go_wp2
                    go_meet
                    case rel => exact ⟨_, ((rd_T81 t321 x6_1).f1), (by first|rfl|(simp; done)|(simp [*]; done)), H', ⟨by have := HK1.out; first|omega|exact Nat.le_refl _⟩, ⟨by (with_reducible repeat (first|apply zE|apply zD|apply zF)); exact zR (zL (p := ⟨gb326, 1, none⟩) (zL (p := ⟨gb326, 0, none⟩) (zQ HO_312000.out BK326.out (by decide)) (fun _ hk => hk.2) (.slice (some ad327) t321.length co21)) (fun _ hk => hk.2) (.int .i64 t324)) (fun _ hk => hk.1.2)⟩, ⟨by (with_reducible repeat (first|apply zE|apply zD|apply zF)); exact zR (zL (p := ⟨gb326, 1, none⟩) (zL (p := ⟨gb326, 0, none⟩) (zQ HO323.out BK326.out (by decide)) (fun _ hk => hk.2) (.slice (some ad327) t321.length co21)) (fun _ hk => hk.2) (.int .i64 t324)) (fun _ hk => hk.1.2)⟩, ⟨by (with_reducible repeat (first|refine zA ?_ _|refine zC ?_|refine zB ?_ _)); refine zT ?_ NB311_326.out _; (with_reducible repeat (first|refine zA ?_ _|refine zC ?_|refine zB ?_ _)); refine zT ?_ NB311_326.out _; (with_reducible repeat (first|refine zA ?_ _|refine zC ?_|refine zB ?_ _)); exact BK311.out⟩, ⟨by (with_reducible repeat (first|refine zA ?_ _|refine zC ?_|refine zB ?_ _)); refine blk_put (cs := #[.slice (some ad327) t321.length co21, .int .i64 0]) ?_ 1 _ rfl; (with_reducible repeat (first|refine zA ?_ _|refine zC ?_|refine zB ?_ _)); refine blk_put (cs := #[.slice none 0 0, .int .i64 0]) ?_ 0 _ rfl; (with_reducible repeat (first|refine zA ?_ _|refine zC ?_|refine zB ?_ _)); exact BK326.out⟩, ⟨by repeat (first|(with_reducible first|exact HB.out|apply zI|apply zG|apply zH|refine zJ ?_ GE311.out|refine zJ ?_ GE326.out)|exact HB.out)⟩⟩
                  · rw [if_neg c26] at H
                    exact absurd H (by simp)
                · rw [if_neg c25] at H
                  exact absurd H (by simp)
              · replace c24 := Bool.eq_false_iff.mpr c24
                subst c24
                have H1 : (laws_FnLifts.j1 k1 x6_1 t320 true t305 t308 t321 t324) = some r := by rw [if_neg (show ¬ (false = true) by decide)] at H; exact H
                clear H
                have H := H1
                clear H1
                exact absurd ((laws_FnLifts.j1_bad H).symm.trans HTr_.out) (by simp)
            case rest =>
              clear HC15
              try clear c1
              try clear c2
              try clear p2
              try clear c3
              try clear p3
              try clear q3
              try clear hx3
              try clear c5
              try clear p6
              try clear c9
              try clear c9b0
              try clear c11
              try clear c11b0
              try clear c12
              try clear c22
              try clear c24
              try clear c25
              try clear c25b0
              try clear c26
              try clear c26b0
              try clear c27
              try clear hcz12_0
              try clear hcz12_1
              try clear hcz16_0
              try clear hcz16_1
              try clear hcz18_0
              try clear hcz18_1
              try clear hcz23_0
              try clear hcz23_1
              try clear hcz28_0
              try clear hcz28_1
              try clear hcz8_0
              try clear hcz8_1
              try clear hfz12_0
              try clear hfz12_1
              try clear hfz16_0
              try clear hfz16_1
              try clear hfz18_0
              try clear hfz18_1
              try clear hfz23_0
              try clear hfz23_1
              try clear hfz28_0
              try clear hfz28_1
              try clear hfz8_0
              try clear hfz8_1
              try clear hx327_0
              try clear hx327_1
              try clear hx327_2
              try clear hx327_3
              try clear hx327_4
              try clear p2
              try clear p327
              try clear q327
              obtain ⟨kq, x53_14, rfl, HA, HJ14, HO_312000, HO_327000, BK311, BK326, HB⟩ := hcut
              cases kq with
             |zero => exact absurd HA.out (by simp [laws_FnLifts.j1])
             |succ kj14 =>
                have H := HA.out
                clear HA
                simp only [laws_FnLifts.j1] at H
                by_cases c29 : x53_14 = true
                · subst c29
                  have H1 : (some false) = some r := by rw [if_pos rfl] at H; exact H
                  clear H
                  have H := H1
                  clear H1
                  exact absurd ((Option.some.inj H).trans HTr_.out) (by simp)
                · replace c29 := Bool.eq_false_iff.mpr c29
                  subst c29
                  have H1 : (laws_FnLifts.l1 kj14 x6_1 t320 0 t305 t308 t321 t324) = some r := by rw [if_neg (show ¬ (false = true) by decide)] at H; exact H
                  clear H
                  have H := H1
                  clear H1
                  have H' := Aside0.mk H
                  clear H
                  go_wp2
                  go_loopg [10] kj14 (fun kq v10 w' => ∃ (x10_3 : Int), v10 = .int .i64 x10_3 ∧ Aside0 (laws_FnLifts.l1 kq x6_1 t320 x10_3 t305 t308 t321 t324 = some r) ∧ Aside0 (kq ≤ kj14) ∧ Aside0 (Kd.R k81 81 w' w.heap.size (fun k_ => some k_ ≠ ((.slice Ao21 t321.length co21) : Value).ownBlock) (.slice Ao7 t305.length co7) t305) ∧ Aside0 (Kd.R k81 81 w' w.heap.size (fun k_ => some k_ ≠ ((.slice Ao7 t305.length co7) : Value).ownBlock) (.slice Ao21 t321.length co21) t321) ∧ Aside0 (w'.heap[gb311]? = some (.cells #[(.slice Ao7 t305.length co7), .int .i64 t308] 65 (0, 0))) ∧ Aside0 (w'.heap[gb326]? = some (.cells #[(.slice Ao21 t321.length co21), .int .i64 t324] 65 (0, 0))) ∧ Aside0 (Below w.heap.size w w'))
                  case atStart => exact ⟨(0), (by first|rfl|(simp; done)|(simp [*]; done)), H', ⟨Nat.le_refl _⟩, ⟨by (with_reducible repeat (first|apply zE|apply zD|apply zF)); exact HO_312000.out⟩, ⟨by (with_reducible repeat (first|apply zE|apply zD|apply zF)); exact HO_327000.out⟩, ⟨by (with_reducible repeat (first|refine zA ?_ _|refine zC ?_|refine zB ?_ _)); exact BK311.out⟩, ⟨by (with_reducible repeat (first|refine zA ?_ _|refine zC ?_|refine zB ?_ _)); exact BK326.out⟩, ⟨by repeat (first|(with_reducible first|exact HB.out|apply zI|apply zG|apply zH|refine zJ ?_ GE311.out|refine zJ ?_ GE326.out)|exact HB.out)⟩⟩
                  case round =>
                    clear H'
                    try clear c1
                    try clear c2
                    try clear p2
                    try clear c3
                    try clear p3
                    try clear q3
                    try clear hx3
                    try clear c5
                    try clear p6
                    try clear c9
                    try clear c9b0
                    try clear c11
                    try clear c11b0
                    try clear c12
                    try clear c22
                    try clear c24
                    try clear c25
                    try clear c25b0
                    try clear c26
                    try clear c26b0
                    try clear c27
                    try clear c29
                    try clear hcz12_0
                    try clear hcz12_1
                    try clear hcz16_0
                    try clear hcz16_1
                    try clear hcz18_0
                    try clear hcz18_1
                    try clear hcz23_0
                    try clear hcz23_1
                    try clear hcz28_0
                    try clear hcz28_1
                    try clear hcz8_0
                    try clear hcz8_1
                    try clear hfz12_0
                    try clear hfz12_1
                    try clear hfz16_0
                    try clear hfz16_1
                    try clear hfz18_0
                    try clear hfz18_1
                    try clear hfz23_0
                    try clear hfz23_1
                    try clear hfz28_0
                    try clear hfz28_1
                    try clear hfz8_0
                    try clear hfz8_1
                    try clear hx327_0
                    try clear hx327_1
                    try clear hx327_2
                    try clear hx327_3
                    try clear hx327_4
                    try clear p2
                    try clear p3
                    try clear p327
                    try clear p6
                    try clear q3
                    try clear q327
                    obtain ⟨x10_3, rfl, HA, HK3, HO_312000, HO_327000, BK311, BK326, HB⟩ := hrel
                    cases gk with
                   |zero => exact absurd HA.out (by simp [laws_FnLifts.l1])
                   |succ k3 =>
                      have H := HA.out
                      clear HA
                      simp only [laws_FnLifts.l1] at H
                      by_cases c30 : x10_3 < (t305.length : Int)
                      · rw [if_pos c30] at H
                        have c30b0 : decide (x10_3 < (t305.length : Int)) = true := decide_eq_true c30
                        clear c30
                        by_cases c31 : x10_3 = x6_1
                        · rw [if_pos c31] at H
                          have c31b0 : (x10_3 == x6_1) = true := beq_iff_eq.mpr c31
                          have c31b1 : (x10_3 != x6_1) = false := bne_eq_false_iff_eq.mpr c31
                          clear c31
                          have H' := Aside0.mk H
                          clear H
                          have hnb32 := NB311_326.out
                          have hnc32 := NB326_311.out
                          obtain ⟨hcz33_0, hcz33_1, hfz33_0, hfz33_1⟩ := zb2 BK311.out
                          try go_wp2
                          have n0_ := Aside0.mk (zF HO_312000.out)
                          have n1_ := Aside0.mk (zF HO_327000.out)
                          have n2_ := Aside0.mk (zC BK311.out)
                          have n3_ := Aside0.mk (zC BK326.out)
                          have n4_ := Aside0.mk (zH HB.out)
                          clear HO_312000
                          clear HO_327000
                          clear BK311
                          clear BK326
                          clear HB
                          have HO_312000 := n0_
                          have HO_327000 := n1_
                          have BK311 := n2_
                          have BK326 := n3_
                          have HB := n4_
                          clear n0_ n1_ n2_ n3_ n4_
                          refine start_ (n := 33) (S := fun w' => True) (ds := []) #[false, false, false, false, false, false, false, false, false, false, false, false, false, false, false, false, false, false, false, false, false, false, false, false, false, false, false, false, false, false, false, false, false] (by kernel_rfl) rfl rfl trivial (fun hHeld => ?_); refine with_tabW laws_FnLifts.tab15 laws_FnLifts.bits15 (fun HT_ HW_ => ?_)
                          generalize wr.drew = w34 at HO_312000 HO_327000 BK311 BK326 HB hHeld ⊢
                          refine pure_ (i := 0) (N := some 61) (v := ?_) (a' := ?_) #[true, false, false, false, false, false, false, false, false, false, false, false, false, false, false, false, false, false, false, false, false, false, false, false, false, false, false, false, false, false, false, false, false] rfl rfl (any_of HT_.out (by kernel_rfl)) (fun _ _ _ h => h) (Or.inl ⟨by rfl, ?_⟩) ?_ ?_
                          rotate_left
                          · intro w'
                            go_simp
                            with_reducible rfl
                          rotate_left
                          · simp only [Act.put, List.setIfInBounds_toArray, List.set_cons_zero, List.set_cons_succ, i64_w, i32_w]
                            rfl
                          refine pure_ (i := 1) (N := some 62) (v := ?_) (a' := ?_) #[true, true, false, false, false, false, false, false, false, false, false, false, false, false, false, false, false, false, false, false, false, false, false, false, false, false, false, false, false, false, false, false, false] rfl rfl (any_of HT_.out (by kernel_rfl)) (fun _ _ _ h => h) (Or.inl ⟨by rfl, ?_⟩) ?_ ?_
                          rotate_left
                          · intro w'
                            go_simp
                            with_reducible rfl
                          rotate_left
                          · simp only [Act.put, List.setIfInBounds_toArray, List.set_cons_zero, List.set_cons_succ, i64_w, i32_w]
                            rfl
                          refine pure_ (i := 2) (N := some 63) (v := ?_) (a' := ?_) #[true, true, true, false, false, false, false, false, false, false, false, false, false, false, false, false, false, false, false, false, false, false, false, false, false, false, false, false, false, false, false, false, false] rfl rfl (any_of HT_.out (by kernel_rfl)) (fun _ _ _ h => h) (Or.inl ⟨by rfl, ?_⟩) ?_ ?_
                          rotate_left
                          · intro w'
                            go_simp
                            with_reducible rfl
                          rotate_left
                          · simp only [Act.put, List.setIfInBounds_toArray, List.set_cons_zero, List.set_cons_succ, i64_w, i32_w]
                            rfl
                          refine pure_ (i := 3) (N := some 64) (v := ?_) (a' := ?_) #[true, true, true, true, false, false, false, false, false, false, false, false, false, false, false, false, false, false, false, false, false, false, false, false, false, false, false, false, false, false, false, false, false] rfl rfl (any_of HT_.out (by kernel_rfl)) (fun _ _ _ h => h) (Or.inl ⟨by rfl, ?_⟩) ?_ ?_
                          rotate_left
                          · intro w'
                            go_simp
                            with_reducible rfl
                          rotate_left
                          · simp only [Act.put, List.setIfInBounds_toArray, List.set_cons_zero, List.set_cons_succ, i64_w, i32_w]
                            rfl
                          refine pure_ (i := 4) (N := some 65) (v := undef) (a' := ?_) #[true, true, true, true, true, false, false, false, false, false, false, false, false, false, false, false, false, false, false, false, false, false, false, false, false, false, false, false, false, false, false, false, false] rfl rfl (any_of HT_.out (by kernel_rfl)) (fun _ _ _ h => h) (Or.inr ⟨by rfl, rfl⟩) ?_ ?_
                          rotate_left
                          · simp only [Act.put, List.setIfInBounds_toArray, List.set_cons_zero, List.set_cons_succ, i64_w, i32_w]
                            rfl
                          refine pure_ (i := 5) (N := some 66) (v := undef) (a' := ?_) #[true, true, true, true, true, true, false, false, false, false, false, false, false, false, false, false, false, false, false, false, false, false, false, false, false, false, false, false, false, false, false, false, false] rfl rfl (any_of HT_.out (by kernel_rfl)) (fun _ _ _ h => h) (Or.inr ⟨by rfl, rfl⟩) ?_ ?_
                          rotate_left
                          · simp only [Act.put, List.setIfInBounds_toArray, List.set_cons_zero, List.set_cons_succ, i64_w, i32_w]
                            rfl
                          refine pure_ (i := 6) (N := some 67) (v := undef) (a' := ?_) #[true, true, true, true, true, true, true, false, false, false, false, false, false, false, false, false, false, false, false, false, false, false, false, false, false, false, false, false, false, false, false, false, false] rfl rfl (any_of HT_.out (by kernel_rfl)) (fun _ _ _ h => h) (Or.inr ⟨by rfl, rfl⟩) ?_ ?_
                          rotate_left
                          · simp only [Act.put, List.setIfInBounds_toArray, List.set_cons_zero, List.set_cons_succ, i64_w, i32_w]
                            rfl
                          refine pure_ (i := 7) (N := some 68) (v := undef) (a' := ?_) #[true, true, true, true, true, true, true, true, false, false, false, false, false, false, false, false, false, false, false, false, false, false, false, false, false, false, false, false, false, false, false, false, false] rfl rfl (any_of HT_.out (by kernel_rfl)) (fun _ _ _ h => h) (Or.inr ⟨by rfl, rfl⟩) ?_ ?_
                          rotate_left
                          · simp only [Act.put, List.setIfInBounds_toArray, List.set_cons_zero, List.set_cons_succ, i64_w, i32_w]
                            rfl
                          refine pure_ (i := 8) (N := some 69) (v := undef) (a' := ?_) #[true, true, true, true, true, true, true, true, true, false, false, false, false, false, false, false, false, false, false, false, false, false, false, false, false, false, false, false, false, false, false, false, false] rfl rfl (any_of HT_.out (by kernel_rfl)) (fun _ _ _ h => h) (Or.inr ⟨by rfl, rfl⟩) ?_ ?_
                          rotate_left
                          · simp only [Act.put, List.setIfInBounds_toArray, List.set_cons_zero, List.set_cons_succ, i64_w, i32_w]
                            rfl
                          refine pure_ (i := 9) (N := some 70) (v := undef) (a' := ?_) #[true, true, true, true, true, true, true, true, true, true, false, false, false, false, false, false, false, false, false, false, false, false, false, false, false, false, false, false, false, false, false, false, false] rfl rfl (any_of HT_.out (by kernel_rfl)) (fun _ _ _ h => h) (Or.inr ⟨by rfl, rfl⟩) ?_ ?_
                          rotate_left
                          · simp only [Act.put, List.setIfInBounds_toArray, List.set_cons_zero, List.set_cons_succ, i64_w, i32_w]
                            rfl
                          refine pure_ (i := 10) (N := some 71) (v := ?_) (a' := ?_) #[true, true, true, true, true, true, true, true, true, true, true, false, false, false, false, false, false, false, false, false, false, false, false, false, false, false, false, false, false, false, false, false, false] rfl rfl (any_of HT_.out (by kernel_rfl)) (fun _ _ _ h => h) (Or.inl ⟨by rfl, ?_⟩) ?_ ?_
                          rotate_left
                          · intro w'
                            go_simp
                            with_reducible rfl
                          rotate_left
                          · simp only [Act.put, List.setIfInBounds_toArray, List.set_cons_zero, List.set_cons_succ, i64_w, i32_w]
                            rfl
                          refine pure_ (i := 11) (N := some 72) (v := ?_) (a' := ?_) #[true, true, true, true, true, true, true, true, true, true, true, true, false, false, false, false, false, false, false, false, false, false, false, false, false, false, false, false, false, false, false, false, false] rfl rfl (any_of HT_.out (by kernel_rfl)) (fun _ _ _ h => h) (Or.inl ⟨by rfl, ?_⟩) ?_ ?_
                          rotate_left
                          · intro w'
                            go_simp
                            with_reducible rfl
                          rotate_left
                          · simp only [Act.put, List.setIfInBounds_toArray, List.set_cons_zero, List.set_cons_succ, i64_w, i32_w]
                            rfl
                          refine pure_ (i := 12) (N := some 73) (v := undef) (a' := ?_) #[true, true, true, true, true, true, true, true, true, true, true, true, true, false, false, false, false, false, false, false, false, false, false, false, false, false, false, false, false, false, false, false, false] rfl rfl (any_of HT_.out (by kernel_rfl)) (fun _ _ _ h => h) (Or.inr ⟨by rfl, rfl⟩) ?_ ?_
                          rotate_left
                          · simp only [Act.put, List.setIfInBounds_toArray, List.set_cons_zero, List.set_cons_succ, i64_w, i32_w]
                            rfl
                          refine pure_ (i := 13) (N := some 74) (v := undef) (a' := ?_) #[true, true, true, true, true, true, true, true, true, true, true, true, true, true, false, false, false, false, false, false, false, false, false, false, false, false, false, false, false, false, false, false, false] rfl rfl (any_of HT_.out (by kernel_rfl)) (fun _ _ _ h => h) (Or.inr ⟨by rfl, rfl⟩) ?_ ?_
                          rotate_left
                          · simp only [Act.put, List.setIfInBounds_toArray, List.set_cons_zero, List.set_cons_succ, i64_w, i32_w]
                            rfl
                          refine pure_ (i := 14) (N := some 75) (v := undef) (a' := ?_) #[true, true, true, true, true, true, true, true, true, true, true, true, true, true, true, false, false, false, false, false, false, false, false, false, false, false, false, false, false, false, false, false, false] rfl rfl (any_of HT_.out (by kernel_rfl)) (fun _ _ _ h => h) (Or.inr ⟨by rfl, rfl⟩) ?_ ?_
                          rotate_left
                          · simp only [Act.put, List.setIfInBounds_toArray, List.set_cons_zero, List.set_cons_succ, i64_w, i32_w]
                            rfl
                          refine pure_ (i := 15) (N := some 76) (v := undef) (a' := ?_) #[true, true, true, true, true, true, true, true, true, true, true, true, true, true, true, true, false, false, false, false, false, false, false, false, false, false, false, false, false, false, false, false, false] rfl rfl (any_of HT_.out (by kernel_rfl)) (fun _ _ _ h => h) (Or.inr ⟨by rfl, rfl⟩) ?_ ?_
                          rotate_left
                          · simp only [Act.put, List.setIfInBounds_toArray, List.set_cons_zero, List.set_cons_succ, i64_w, i32_w]
                            rfl
                          refine pure_ (i := 16) (N := some 77) (v := undef) (a' := ?_) #[true, true, true, true, true, true, true, true, true, true, true, true, true, true, true, true, true, false, false, false, false, false, false, false, false, false, false, false, false, false, false, false, false] rfl rfl (any_of HT_.out (by kernel_rfl)) (fun _ _ _ h => h) (Or.inr ⟨by rfl, rfl⟩) ?_ ?_
                          rotate_left
                          · simp only [Act.put, List.setIfInBounds_toArray, List.set_cons_zero, List.set_cons_succ, i64_w, i32_w]
                            rfl
                          refine pure_ (i := 17) (N := some 78) (v := undef) (a' := ?_) #[true, true, true, true, true, true, true, true, true, true, true, true, true, true, true, true, true, true, false, false, false, false, false, false, false, false, false, false, false, false, false, false, false] rfl rfl (any_of HT_.out (by kernel_rfl)) (fun _ _ _ h => h) (Or.inr ⟨by rfl, rfl⟩) ?_ ?_
                          rotate_left
                          · simp only [Act.put, List.setIfInBounds_toArray, List.set_cons_zero, List.set_cons_succ, i64_w, i32_w]
                            rfl
                          refine pure_ (i := 18) (N := some 79) (v := undef) (a' := ?_) #[true, true, true, true, true, true, true, true, true, true, true, true, true, true, true, true, true, true, true, false, false, false, false, false, false, false, false, false, false, false, false, false, false] rfl rfl (any_of HT_.out (by kernel_rfl)) (fun _ _ _ h => h) (Or.inr ⟨by rfl, rfl⟩) ?_ ?_
                          rotate_left
                          · simp only [Act.put, List.setIfInBounds_toArray, List.set_cons_zero, List.set_cons_succ, i64_w, i32_w]
                            rfl
                          refine pure_ (i := 19) (N := some 80) (v := undef) (a' := ?_) #[true, true, true, true, true, true, true, true, true, true, true, true, true, true, true, true, true, true, true, true, false, false, false, false, false, false, false, false, false, false, false, false, false] rfl rfl (any_of HT_.out (by kernel_rfl)) (fun _ _ _ h => h) (Or.inr ⟨by rfl, rfl⟩) ?_ ?_
                          rotate_left
                          · simp only [Act.put, List.setIfInBounds_toArray, List.set_cons_zero, List.set_cons_succ, i64_w, i32_w]
                            rfl
                          refine pure_ (i := 20) (N := some 81) (v := undef) (a' := ?_) #[true, true, true, true, true, true, true, true, true, true, true, true, true, true, true, true, true, true, true, true, true, false, false, false, false, false, false, false, false, false, false, false, false] rfl rfl (any_of HT_.out (by kernel_rfl)) (fun _ _ _ h => h) (Or.inr ⟨by rfl, rfl⟩) ?_ ?_
                          rotate_left
                          · simp only [Act.put, List.setIfInBounds_toArray, List.set_cons_zero, List.set_cons_succ, i64_w, i32_w]
                            rfl
                          refine pure_ (i := 21) (N := some 82) (v := undef) (a' := ?_) #[true, true, true, true, true, true, true, true, true, true, true, true, true, true, true, true, true, true, true, true, true, true, false, false, false, false, false, false, false, false, false, false, false] rfl rfl (any_of HT_.out (by kernel_rfl)) (fun _ _ _ h => h) (Or.inr ⟨by rfl, rfl⟩) ?_ ?_
                          rotate_left
                          · simp only [Act.put, List.setIfInBounds_toArray, List.set_cons_zero, List.set_cons_succ, i64_w, i32_w]
                            rfl
                          refine pure_ (i := 22) (N := some 83) (v := undef) (a' := ?_) #[true, true, true, true, true, true, true, true, true, true, true, true, true, true, true, true, true, true, true, true, true, true, true, false, false, false, false, false, false, false, false, false, false] rfl rfl (any_of HT_.out (by kernel_rfl)) (fun _ _ _ h => h) (Or.inr ⟨by rfl, rfl⟩) ?_ ?_
                          rotate_left
                          · simp only [Act.put, List.setIfInBounds_toArray, List.set_cons_zero, List.set_cons_succ, i64_w, i32_w]
                            rfl
                          refine pure_ (i := 23) (N := some 84) (v := undef) (a' := ?_) #[true, true, true, true, true, true, true, true, true, true, true, true, true, true, true, true, true, true, true, true, true, true, true, true, false, false, false, false, false, false, false, false, false] rfl rfl (any_of HT_.out (by kernel_rfl)) (fun _ _ _ h => h) (Or.inr ⟨by rfl, rfl⟩) ?_ ?_
                          rotate_left
                          · simp only [Act.put, List.setIfInBounds_toArray, List.set_cons_zero, List.set_cons_succ, i64_w, i32_w]
                            rfl
                          refine pure_ (i := 24) (N := some 85) (v := undef) (a' := ?_) #[true, true, true, true, true, true, true, true, true, true, true, true, true, true, true, true, true, true, true, true, true, true, true, true, true, false, false, false, false, false, false, false, false] rfl rfl (any_of HT_.out (by kernel_rfl)) (fun _ _ _ h => h) (Or.inr ⟨by rfl, rfl⟩) ?_ ?_
                          rotate_left
                          · simp only [Act.put, List.setIfInBounds_toArray, List.set_cons_zero, List.set_cons_succ, i64_w, i32_w]
                            rfl
                          refine pure_ (i := 25) (N := some 86) (v := undef) (a' := ?_) #[true, true, true, true, true, true, true, true, true, true, true, true, true, true, true, true, true, true, true, true, true, true, true, true, true, true, false, false, false, false, false, false, false] rfl rfl (any_of HT_.out (by kernel_rfl)) (fun _ _ _ h => h) (Or.inr ⟨by rfl, rfl⟩) ?_ ?_
                          rotate_left
                          · simp only [Act.put, List.setIfInBounds_toArray, List.set_cons_zero, List.set_cons_succ, i64_w, i32_w]
                            rfl
                          refine pure_ (i := 26) (N := some 87) (v := undef) (a' := ?_) #[true, true, true, true, true, true, true, true, true, true, true, true, true, true, true, true, true, true, true, true, true, true, true, true, true, true, true, false, false, false, false, false, false] rfl rfl (any_of HT_.out (by kernel_rfl)) (fun _ _ _ h => h) (Or.inr ⟨by rfl, rfl⟩) ?_ ?_
                          rotate_left
                          · simp only [Act.put, List.setIfInBounds_toArray, List.set_cons_zero, List.set_cons_succ, i64_w, i32_w]
                            rfl
                          refine pure_ (i := 27) (N := some 88) (v := undef) (a' := ?_) #[true, true, true, true, true, true, true, true, true, true, true, true, true, true, true, true, true, true, true, true, true, true, true, true, true, true, true, true, false, false, false, false, false] rfl rfl (any_of HT_.out (by kernel_rfl)) (fun _ _ _ h => h) (Or.inr ⟨by rfl, rfl⟩) ?_ ?_
                          rotate_left
                          · simp only [Act.put, List.setIfInBounds_toArray, List.set_cons_zero, List.set_cons_succ, i64_w, i32_w]
                            rfl
                          refine pure_ (i := 28) (N := some 89) (v := undef) (a' := ?_) #[true, true, true, true, true, true, true, true, true, true, true, true, true, true, true, true, true, true, true, true, true, true, true, true, true, true, true, true, true, false, false, false, false] rfl rfl (any_of HT_.out (by kernel_rfl)) (fun _ _ _ h => h) (Or.inr ⟨by rfl, rfl⟩) ?_ ?_
                          rotate_left
                          · simp only [Act.put, List.setIfInBounds_toArray, List.set_cons_zero, List.set_cons_succ, i64_w, i32_w]
                            rfl
                          refine pure_ (i := 29) (N := some 90) (v := undef) (a' := ?_) #[true, true, true, true, true, true, true, true, true, true, true, true, true, true, true, true, true, true, true, true, true, true, true, true, true, true, true, true, true, true, false, false, false] rfl rfl (any_of HT_.out (by kernel_rfl)) (fun _ _ _ h => h) (Or.inr ⟨by rfl, rfl⟩) ?_ ?_
                          rotate_left
                          · simp only [Act.put, List.setIfInBounds_toArray, List.set_cons_zero, List.set_cons_succ, i64_w, i32_w]
                            rfl
                          refine pure_ (i := 30) (N := some 91) (v := undef) (a' := ?_) #[true, true, true, true, true, true, true, true, true, true, true, true, true, true, true, true, true, true, true, true, true, true, true, true, true, true, true, true, true, true, true, false, false] rfl rfl (any_of HT_.out (by kernel_rfl)) (fun _ _ _ h => h) (Or.inr ⟨by rfl, rfl⟩) ?_ ?_
                          rotate_left
                          · simp only [Act.put, List.setIfInBounds_toArray, List.set_cons_zero, List.set_cons_succ, i64_w, i32_w]
                            rfl
                          refine pure_ (i := 31) (N := some 92) (v := undef) (a' := ?_) #[true, true, true, true, true, true, true, true, true, true, true, true, true, true, true, true, true, true, true, true, true, true, true, true, true, true, true, true, true, true, true, true, false] rfl rfl (any_of HT_.out (by kernel_rfl)) (fun _ _ _ h => h) (Or.inr ⟨by rfl, rfl⟩) ?_ ?_
                          rotate_left
                          · simp only [Act.put, List.setIfInBounds_toArray, List.set_cons_zero, List.set_cons_succ, i64_w, i32_w]
                            rfl
                          refine pure_ (i := 32) (N := some 93) (v := ?_) (a' := ?_) #[true, true, true, true, true, true, true, true, true, true, true, true, true, true, true, true, true, true, true, true, true, true, true, true, true, true, true, true, true, true, true, true, true] rfl rfl (any_of HT_.out (by kernel_rfl)) (fun _ _ _ h => h) (Or.inl ⟨by rfl, ?_⟩) ?_ ?_
                          rotate_left
                          · intro w'
                            go_simp
                            with_reducible rfl
                          rotate_left
                          · simp only [Act.put, List.setIfInBounds_toArray, List.set_cons_zero, List.set_cons_succ, i64_w, i32_w]
                            rfl
                          refine done_ (done_of HT_.out (by kernel_rfl)) ?_
                          try go_wp2
                          go_roundg k3
                          case measure => have := HK1.out; have := HJ14.out; have := HK3.out; omega
                          case rel => exact ⟨(wrap64 (x10_3 + 1)), (by first|rfl|(simp; done)|(simp [*]; done)), H', ⟨by have := HK1.out; have := HJ14.out; have := HK3.out; omega⟩, ⟨by (with_reducible repeat (first|apply zE|apply zD|apply zF)); exact HO_312000.out⟩, ⟨by (with_reducible repeat (first|apply zE|apply zD|apply zF)); exact HO_327000.out⟩, ⟨by (with_reducible repeat (first|refine zA ?_ _|refine zC ?_|refine zB ?_ _)); exact BK311.out⟩, ⟨by (with_reducible repeat (first|refine zA ?_ _|refine zC ?_|refine zB ?_ _)); exact BK326.out⟩, ⟨by repeat (first|(with_reducible first|exact HB.out|apply zI|apply zG|apply zH|refine zJ ?_ GE311.out|refine zJ ?_ GE326.out)|exact HB.out)⟩⟩
                        · rw [if_neg c31] at H
                          have c31b0 : (x10_3 == x6_1) = false := beq_eq_false_iff_ne.mpr c31
                          have c31b1 : (x10_3 != x6_1) = true := bne_iff_ne.mpr c31
                          by_cases c35 : 0 ≤ x10_3
                          · rw [if_pos c35] at H
                            have c35b0 : decide (0 ≤ x10_3) = true := decide_eq_true c35
                            clear c35
                            obtain ⟨bq36, hbq36⟩ : ∃ b_ : Bool, b_ = ((rd_T81 t305 x10_3).f1) := ⟨_, rfl⟩
                            replace H : (if bq36 = true then (if x10_3 < (t321.length : Int) then (if (!(((rd_T81 t321 x10_3).f0) == ((rd_T81 t305 x10_3).f0)) || (!(((rd_T81 t321 x10_3).f1) == (bq36)) || (!((((rd_T81 t321 x10_3).f2).toList) == (((rd_T81 t305 x10_3).f2).toList)) || (!((((rd_T81 t321 x10_3).f3).toList) == (((rd_T81 t305 x10_3).f3).toList)) || (!(((rd_T81 t321 x10_3).f4) == ((rd_T81 t305 x10_3).f4))))))) = true then (some false) else ((impl_HandleOf.f k3 t321 t324 x10_3).bind fun t331 => ((impl_HandleOf.f k3 t305 t308 x10_3).bind fun t332 => (if t331 = t332 then (laws_FnLifts.l1 k3 x6_1 t320 (wrap64 (x10_3 + 1)) t305 t308 t321 t324) else (some false))))) else (none)) else (laws_FnLifts.l1 k3 x6_1 t320 (wrap64 (x10_3 + 1)) t305 t308 t321 t324)) = some r := by rw [← hbq36] at H; exact H
                            have Nbq36 := Aside0.mk hbq36
                            clear hbq36
                            by_cases c37 : bq36 = true
                            · subst c37
                              have H1 : (if x10_3 < (t321.length : Int) then (if (!(((rd_T81 t321 x10_3).f0) == ((rd_T81 t305 x10_3).f0)) || (!(((rd_T81 t321 x10_3).f1) == (true)) || (!((((rd_T81 t321 x10_3).f2).toList) == (((rd_T81 t305 x10_3).f2).toList)) || (!((((rd_T81 t321 x10_3).f3).toList) == (((rd_T81 t305 x10_3).f3).toList)) || (!(((rd_T81 t321 x10_3).f4) == ((rd_T81 t305 x10_3).f4))))))) = true then (some false) else ((impl_HandleOf.f k3 t321 t324 x10_3).bind fun t331 => ((impl_HandleOf.f k3 t305 t308 x10_3).bind fun t332 => (if t331 = t332 then (laws_FnLifts.l1 k3 x6_1 t320 (wrap64 (x10_3 + 1)) t305 t308 t321 t324) else (some false))))) else (none)) = some r := by rw [if_pos rfl] at H; exact H
                              clear H
                              have H := H1
                              clear H1
                              by_cases c38 : x10_3 < (t321.length : Int)
                              · rw [if_pos c38] at H
                                have c38b0 : decide (x10_3 < (t321.length : Int)) = true := decide_eq_true c38
                                clear c38
                                by_cases c39 : (!(((rd_T81 t321 x10_3).f0) == ((rd_T81 t305 x10_3).f0)) || (!(((rd_T81 t321 x10_3).f1) == (true)) || (!((((rd_T81 t321 x10_3).f2).toList) == (((rd_T81 t305 x10_3).f2).toList)) || (!((((rd_T81 t321 x10_3).f3).toList) == (((rd_T81 t305 x10_3).f3).toList)) || (!(((rd_T81 t321 x10_3).f4) == ((rd_T81 t305 x10_3).f4))))))) = true
                                · rw [if_pos c39] at H
                                  have c39b0 : (!(((rd_T81 t321 x10_3).f0) == ((rd_T81 t305 x10_3).f0)) || (!(((rd_T81 t321 x10_3).f1) == (true)) || (!((((rd_T81 t321 x10_3).f2).toList) == (((rd_T81 t305 x10_3).f2).toList)) || (!((((rd_T81 t321 x10_3).f3).toList) == (((rd_T81 t305 x10_3).f3).toList)) || (!(((rd_T81 t321 x10_3).f4) == ((rd_T81 t305 x10_3).f4))))))) = true := c39
                                  have c39w : (!(((rd_T81 t321 x10_3).f0) == ((rd_T81 t305 x10_3).f0)) || (!((rd_T81 t321 x10_3).f1) || (!((((rd_T81 t321 x10_3).f2).toList) == (((rd_T81 t305 x10_3).f2).toList)) || (!((((rd_T81 t321 x10_3).f3).toList) == (((rd_T81 t305 x10_3).f3).toList)) || (!(((rd_T81 t321 x10_3).f4) == ((rd_T81 t305 x10_3).f4))))))) = true := by have h_ := c39b0; rw [show ((rd_T81 t321 x10_3).f1 == true) = (rd_T81 t321 x10_3).f1 from by cases (rd_T81 t321 x10_3).f1 <;> rfl] at h_; exact h_
                                  clear c39
                                  exact absurd ((Option.some.inj H).trans HTr_.out) (by simp)
                                · rw [if_neg c39] at H
                                  have c39b0 : (!(((rd_T81 t321 x10_3).f0) == ((rd_T81 t305 x10_3).f0)) || (!(((rd_T81 t321 x10_3).f1) == (true)) || (!((((rd_T81 t321 x10_3).f2).toList) == (((rd_T81 t305 x10_3).f2).toList)) || (!((((rd_T81 t321 x10_3).f3).toList) == (((rd_T81 t305 x10_3).f3).toList)) || (!(((rd_T81 t321 x10_3).f4) == ((rd_T81 t305 x10_3).f4))))))) = false := by simpa using c39
                                  have c39w : (!(((rd_T81 t321 x10_3).f0) == ((rd_T81 t305 x10_3).f0)) || (!((rd_T81 t321 x10_3).f1) || (!((((rd_T81 t321 x10_3).f2).toList) == (((rd_T81 t305 x10_3).f2).toList)) || (!((((rd_T81 t321 x10_3).f3).toList) == (((rd_T81 t305 x10_3).f3).toList)) || (!(((rd_T81 t321 x10_3).f4) == ((rd_T81 t305 x10_3).f4))))))) = false := by have h_ := c39b0; rw [show ((rd_T81 t321 x10_3).f1 == true) = (rd_T81 t321 x10_3).f1 from by cases (rd_T81 t321 x10_3).f1 <;> rfl] at h_; exact h_
                                  clear c39
                                  replace H := Option.bind_eq_some_iff.mp H
                                  obtain ⟨t331, A430, H⟩ := H
                                  replace H : ((impl_HandleOf.f k3 t305 t308 x10_3).bind fun t332 => (if t331 = t332 then (laws_FnLifts.l1 k3 x6_1 t320 (wrap64 (x10_3 + 1)) t305 t308 t321 t324) else (some false))) = some r := H
                                  have A43 := Aside0.mk A430
                                  clear A430
                                  replace H := Option.bind_eq_some_iff.mp H
                                  obtain ⟨t332, A440, H⟩ := H
                                  replace H : (if t331 = t332 then (laws_FnLifts.l1 k3 x6_1 t320 (wrap64 (x10_3 + 1)) t305 t308 t321 t324) else (some false)) = some r := H
                                  have A44 := Aside0.mk A440
                                  clear A440
                                  by_cases c45 : t331 = t332
                                  · rw [if_pos c45] at H
                                    have c45b0 : (t331 == t332) = true := beq_iff_eq.mpr c45
                                    have c45b1 : (t331 != t332) = false := bne_eq_false_iff_eq.mpr c45
                                    clear c45
                                    have H' := Aside0.mk H
                                    clear H
                                    have hnb46 := NB311_326.out
                                    have hnc46 := NB326_311.out
                                    obtain ⟨hcz47_0, hcz47_1, hfz47_0, hfz47_1⟩ := zb2 BK311.out
                                    try go_wp2
                                    have n0_ := Aside0.mk (zF HO_312000.out)
                                    have n1_ := Aside0.mk (zF HO_327000.out)
                                    have n2_ := Aside0.mk (zC BK311.out)
                                    have n3_ := Aside0.mk (zC BK326.out)
                                    have n4_ := Aside0.mk (zH HB.out)
                                    clear HO_312000
                                    clear HO_327000
                                    clear BK311
                                    clear BK326
                                    clear HB
                                    have HO_312000 := n0_
                                    have HO_327000 := n1_
                                    have BK311 := n2_
                                    have BK326 := n3_
                                    have HB := n4_
                                    clear n0_ n1_ n2_ n3_ n4_
                                    have p328 : 0 ≤ (x10_3 : Int) := of_decide_eq_true (by first|(with_reducible assumption)|assumption)
                                    have q328 : x10_3 < (t305.length : Int) := of_decide_eq_true (by first|(with_reducible assumption)|assumption)
                                    obtain ⟨ad328, e328, hx328_0, hx328_1, hx328_2, hx328_3, hx328_4⟩ := at_T81 (Kd.R_reads' HO_312000.out).2.2 x10_3 p328 q328
                                    (try rw [← Nbq36.out] at hx328_1)
                                    cases e328
                                    replace p328 := eq_true p328
                                    replace q328 := eq_true q328
                                    have p329 : 0 ≤ (x10_3 : Int) := of_decide_eq_true (by first|(with_reducible assumption)|assumption)
                                    have q329 : x10_3 < (t321.length : Int) := of_decide_eq_true (by first|(with_reducible assumption)|assumption)
                                    obtain ⟨ad329, e329, hx329_0, hx329_1, hx329_2, hx329_3, hx329_4⟩ := at_T81 (Kd.R_reads' HO_327000.out).2.2 x10_3 p329 q329
                                    (try rw [← Nbq36.out] at hx329_1)
                                    cases e329
                                    replace p329 := eq_true p329
                                    replace q329 := eq_true q329
                                    have p330 : 0 ≤ (x10_3 : Int) := of_decide_eq_true (by first|(with_reducible assumption)|assumption)
                                    have q330 : x10_3 < (t305.length : Int) := of_decide_eq_true (by first|(with_reducible assumption)|assumption)
                                    obtain ⟨ad330, e330, hx330_0, hx330_1, hx330_2, hx330_3, hx330_4⟩ := at_T81 (Kd.R_reads' HO_312000.out).2.2 x10_3 p330 q330
                                    (try rw [← Nbq36.out] at hx330_1)
                                    obtain rfl : ad328 = ad330 := (by injection e330)
                                    replace p330 := eq_true p330
                                    replace q330 := eq_true q330
                                    refine start_ (n := 33) (S := fun w' => w'.cell? ⟨gb311, 0, none⟩ = some (.slice (some ad328) t305.length co7) ∧ w'.cell? ⟨gb311, 1, none⟩ = some (.int .i64 t308) ∧ w'.cell? ⟨gb326, 0, none⟩ = some (.slice (some ad329) t321.length co21) ∧ w'.cell? ⟨gb326, 1, none⟩ = some (.int .i64 t324) ∧ w'.cell? (ad328.add ((x10_3).toNat * 5)) = some (.int .i64 ((rd_T81 t305 x10_3).f0)) ∧ w'.cell? ⟨(ad328.add ((x10_3).toNat * 5)).block, (ad328.add ((x10_3).toNat * 5)).off + 1, none⟩ = some (.bool true) ∧ w'.cell? ⟨(ad328.add ((x10_3).toNat * 5)).block, (ad328.add ((x10_3).toNat * 5)).off + 2, none⟩ = some (.string ((rd_T81 t305 x10_3).f2)) ∧ w'.cell? ⟨(ad328.add ((x10_3).toNat * 5)).block, (ad328.add ((x10_3).toNat * 5)).off + 3, none⟩ = some (.string ((rd_T81 t305 x10_3).f3)) ∧ w'.cell? ⟨(ad328.add ((x10_3).toNat * 5)).block, (ad328.add ((x10_3).toNat * 5)).off + 4, none⟩ = some (.int .i64 ((rd_T81 t305 x10_3).f4)) ∧ w'.cell? (ad329.add ((x10_3).toNat * 5)) = some (.int .i64 ((rd_T81 t321 x10_3).f0)) ∧ w'.cell? ⟨(ad329.add ((x10_3).toNat * 5)).block, (ad329.add ((x10_3).toNat * 5)).off + 1, none⟩ = some (.bool ((rd_T81 t321 x10_3).f1)) ∧ w'.cell? ⟨(ad329.add ((x10_3).toNat * 5)).block, (ad329.add ((x10_3).toNat * 5)).off + 2, none⟩ = some (.string ((rd_T81 t321 x10_3).f2)) ∧ w'.cell? ⟨(ad329.add ((x10_3).toNat * 5)).block, (ad329.add ((x10_3).toNat * 5)).off + 3, none⟩ = some (.string ((rd_T81 t321 x10_3).f3)) ∧ w'.cell? ⟨(ad329.add ((x10_3).toNat * 5)).block, (ad329.add ((x10_3).toNat * 5)).off + 4, none⟩ = some (.int .i64 ((rd_T81 t321 x10_3).f4)) ∧ w'.cell? (ad328.add ((x10_3).toNat * 5)) = some (.int .i64 ((rd_T81 t305 x10_3).f0)) ∧ w'.cell? ⟨(ad328.add ((x10_3).toNat * 5)).block, (ad328.add ((x10_3).toNat * 5)).off + 1, none⟩ = some (.bool (true)) ∧ w'.cell? ⟨(ad328.add ((x10_3).toNat * 5)).block, (ad328.add ((x10_3).toNat * 5)).off + 2, none⟩ = some (.string ((rd_T81 t305 x10_3).f2)) ∧ w'.cell? ⟨(ad328.add ((x10_3).toNat * 5)).block, (ad328.add ((x10_3).toNat * 5)).off + 3, none⟩ = some (.string ((rd_T81 t305 x10_3).f3)) ∧ w'.cell? ⟨(ad328.add ((x10_3).toNat * 5)).block, (ad328.add ((x10_3).toNat * 5)).off + 4, none⟩ = some (.int .i64 ((rd_T81 t305 x10_3).f4))) (ds := []) #[false, false, false, false, false, false, false, false, false, false, false, false, false, false, false, false, false, false, false, false, false, false, false, false, false, false, false, false, false, false, false, false, false] (by kernel_rfl) rfl rfl ⟨(zO BK311.out 0).trans rfl, (zO BK311.out 1).trans rfl, (zO BK326.out 0).trans rfl, (zO BK326.out 1).trans rfl, hx328_0, hx328_1, hx328_2, hx328_3, hx328_4, hx329_0, hx329_1, hx329_2, hx329_3, hx329_4, hx330_0, hx330_1, hx330_2, hx330_3, hx330_4⟩ (fun hHeld => ?_); refine with_tabW laws_FnLifts.tab15 laws_FnLifts.bits15 (fun HT_ HW_ => ?_)
                                    generalize wr.drew = w48 at HO_312000 HO_327000 BK311 BK326 HB hx328_0 hx328_1 hx328_2 hx328_3 hx328_4 hx329_0 hx329_1 hx329_2 hx329_3 hx329_4 hx330_0 hx330_1 hx330_2 hx330_3 hx330_4 hHeld ⊢
                                    refine pure_ (i := 0) (N := some 61) (v := ?_) (a' := ?_) #[true, false, false, false, false, false, false, false, false, false, false, false, false, false, false, false, false, false, false, false, false, false, false, false, false, false, false, false, false, false, false, false, false] rfl rfl (any_of HT_.out (by kernel_rfl)) (fun _ _ _ h => h) (Or.inl ⟨by rfl, ?_⟩) ?_ ?_
                                    rotate_left
                                    · intro w'
                                      go_simp
                                      with_reducible rfl
                                    rotate_left
                                    · simp only [Act.put, List.setIfInBounds_toArray, List.set_cons_zero, List.set_cons_succ, i64_w, i32_w]
                                      rfl
                                    refine pure_ (i := 1) (N := some 62) (v := ?_) (a' := ?_) #[true, true, false, false, false, false, false, false, false, false, false, false, false, false, false, false, false, false, false, false, false, false, false, false, false, false, false, false, false, false, false, false, false] rfl rfl (any_of HT_.out (by kernel_rfl)) (fun _ _ _ h => h) (Or.inl ⟨by rfl, ?_⟩) ?_ ?_
                                    rotate_left
                                    · intro w'
                                      go_simp
                                      with_reducible rfl
                                    rotate_left
                                    · simp only [Act.put, List.setIfInBounds_toArray, List.set_cons_zero, List.set_cons_succ, i64_w, i32_w]
                                      rfl
                                    refine pure_ (i := 2) (N := some 63) (v := ?_) (a' := ?_) #[true, true, true, false, false, false, false, false, false, false, false, false, false, false, false, false, false, false, false, false, false, false, false, false, false, false, false, false, false, false, false, false, false] rfl rfl (any_of HT_.out (by kernel_rfl)) (fun _ _ _ h => h) (Or.inl ⟨by rfl, ?_⟩) ?_ ?_
                                    rotate_left
                                    · intro w'
                                      go_simp
                                      with_reducible rfl
                                    rotate_left
                                    · simp only [Act.put, List.setIfInBounds_toArray, List.set_cons_zero, List.set_cons_succ, i64_w, i32_w]
                                      rfl
                                    refine pure_ (i := 3) (N := some 64) (v := ?_) (a' := ?_) #[true, true, true, true, false, false, false, false, false, false, false, false, false, false, false, false, false, false, false, false, false, false, false, false, false, false, false, false, false, false, false, false, false] rfl rfl (any_of HT_.out (by kernel_rfl)) (fun _ _ _ h => h) (Or.inl ⟨by rfl, ?_⟩) ?_ ?_
                                    rotate_left
                                    · intro w'
                                      go_simp
                                      with_reducible rfl
                                    rotate_left
                                    · simp only [Act.put, List.setIfInBounds_toArray, List.set_cons_zero, List.set_cons_succ, i64_w, i32_w]
                                      rfl
                                    refine pure_ (i := 4) (N := some 65) (v := ?_) (a' := ?_) #[true, true, true, true, true, false, false, false, false, false, false, false, false, false, false, false, false, false, false, false, false, false, false, false, false, false, false, false, false, false, false, false, false] rfl rfl (any_of HT_.out (by kernel_rfl)) (fun _ _ _ h => h) (Or.inl ⟨by rfl, ?_⟩) ?_ ?_
                                    rotate_left
                                    · intro w'
                                      go_simp
                                      with_reducible rfl
                                    rotate_left
                                    · simp only [Act.put, List.setIfInBounds_toArray, List.set_cons_zero, List.set_cons_succ, i64_w, i32_w]
                                      rfl
                                    refine pure_ (i := 6) (N := some 67) (v := ?_) (a' := ?_) #[true, true, true, true, true, false, true, false, false, false, false, false, false, false, false, false, false, false, false, false, false, false, false, false, false, false, false, false, false, false, false, false, false] rfl rfl (any_of HT_.out (by kernel_rfl)) (fun _ _ _ h => h) (Or.inl ⟨by rfl, ?_⟩) ?_ ?_
                                    rotate_left
                                    · intro w'
                                      go_simp
                                      with_reducible rfl
                                    rotate_left
                                    · simp only [Act.put, List.setIfInBounds_toArray, List.set_cons_zero, List.set_cons_succ, i64_w, i32_w]
                                      rfl
                                    refine take_ (i := 5) (N := some 66) (v := ?_) (a' := ?_) #[true, true, true, true, true, true, true, false, false, false, false, false, false, false, false, false, false, false, false, false, false, false, false, false, false, false, false, false, false, false, false, false, false] rfl rfl (take_ofW HT_.out HW_.out (by kernel_rfl)) (fun _ _ _ h => h) (Or.inl ⟨by rfl, ?_⟩) hHeld ?_ ?_
                                    rotate_left
                                    · rintro w' ⟨s0, s1, s2, s3, s4, s5, s6, s7, s8, s9, s10, s11, s12, s13, s14, s15, s16, s17, s18⟩
                                      go_simp
                                      with_reducible rfl
                                    rotate_left
                                    · simp only [Act.put, List.setIfInBounds_toArray, List.set_cons_zero, List.set_cons_succ, i64_w, i32_w]
                                      rfl
                                    refine pure_ (i := 7) (N := some 68) (v := ?_) (a' := ?_) #[true, true, true, true, true, true, true, true, false, false, false, false, false, false, false, false, false, false, false, false, false, false, false, false, false, false, false, false, false, false, false, false, false] rfl rfl (any_of HT_.out (by kernel_rfl)) (fun _ _ _ h => h) (Or.inl ⟨by rfl, ?_⟩) ?_ ?_
                                    rotate_left
                                    · intro w'
                                      go_simp
                                      with_reducible rfl
                                    rotate_left
                                    · simp only [Act.put, List.setIfInBounds_toArray, List.set_cons_zero, List.set_cons_succ, i64_w, i32_w]
                                      rfl
                                    refine pure_ (i := 8) (N := some 69) (v := ?_) (a' := ?_) #[true, true, true, true, true, true, true, true, true, false, false, false, false, false, false, false, false, false, false, false, false, false, false, false, false, false, false, false, false, false, false, false, false] rfl rfl (any_of HT_.out (by kernel_rfl)) (fun _ _ _ h => h) (Or.inl ⟨by rfl, ?_⟩) ?_ ?_
                                    rotate_left
                                    · intro w'
                                      go_simp
                                      with_reducible rfl
                                    rotate_left
                                    · simp only [Act.put, List.setIfInBounds_toArray, List.set_cons_zero, List.set_cons_succ, i64_w, i32_w]
                                      rfl
                                    refine take_ (i := 9) (N := some 70) (v := ?_) (a' := ?_) #[true, true, true, true, true, true, true, true, true, true, false, false, false, false, false, false, false, false, false, false, false, false, false, false, false, false, false, false, false, false, false, false, false] rfl rfl (take_ofW HT_.out HW_.out (by kernel_rfl)) (fun _ _ _ h => h) (Or.inl ⟨by rfl, ?_⟩) hHeld ?_ ?_
                                    rotate_left
                                    · rintro w' ⟨s0, s1, s2, s3, s4, s5, s6, s7, s8, s9, s10, s11, s12, s13, s14, s15, s16, s17, s18⟩
                                      go_simp
                                      with_reducible rfl
                                    rotate_left
                                    · simp only [Act.put, List.setIfInBounds_toArray, List.set_cons_zero, List.set_cons_succ, i64_w, i32_w]
                                      rfl
                                    refine pure_ (i := 10) (N := some 71) (v := ?_) (a' := ?_) #[true, true, true, true, true, true, true, true, true, true, true, false, false, false, false, false, false, false, false, false, false, false, false, false, false, false, false, false, false, false, false, false, false] rfl rfl (any_of HT_.out (by kernel_rfl)) (fun _ _ _ h => h) (Or.inl ⟨by rfl, ?_⟩) ?_ ?_
                                    rotate_left
                                    · intro w'
                                      go_simp
                                      with_reducible rfl
                                    rotate_left
                                    · simp only [Act.put, List.setIfInBounds_toArray, List.set_cons_zero, List.set_cons_succ, i64_w, i32_w]
                                      rfl
                                    refine pure_ (i := 11) (N := some 72) (v := ?_) (a' := ?_) #[true, true, true, true, true, true, true, true, true, true, true, true, false, false, false, false, false, false, false, false, false, false, false, false, false, false, false, false, false, false, false, false, false] rfl rfl (any_of HT_.out (by kernel_rfl)) (fun _ _ _ h => h) (Or.inl ⟨by rfl, ?_⟩) ?_ ?_
                                    rotate_left
                                    · intro w'
                                      go_simp
                                      with_reducible rfl
                                    rotate_left
                                    · simp only [Act.put, List.setIfInBounds_toArray, List.set_cons_zero, List.set_cons_succ, i64_w, i32_w]
                                      rfl
                                    refine pure_ (i := 12) (N := some 73) (v := ?_) (a' := ?_) #[true, true, true, true, true, true, true, true, true, true, true, true, true, false, false, false, false, false, false, false, false, false, false, false, false, false, false, false, false, false, false, false, false] rfl rfl (any_of HT_.out (by kernel_rfl)) (fun _ _ _ h => h) (Or.inl ⟨by rfl, ?_⟩) ?_ ?_
                                    rotate_left
                                    · intro w'
                                      go_simp
                                      with_reducible rfl
                                    rotate_left
                                    · simp only [Act.put, List.setIfInBounds_toArray, List.set_cons_zero, List.set_cons_succ, i64_w, i32_w]
                                      rfl
                                    refine pure_ (i := 14) (N := some 75) (v := ?_) (a' := ?_) #[true, true, true, true, true, true, true, true, true, true, true, true, true, false, true, false, false, false, false, false, false, false, false, false, false, false, false, false, false, false, false, false, false] rfl rfl (any_of HT_.out (by kernel_rfl)) (fun _ _ _ h => h) (Or.inl ⟨by rfl, ?_⟩) ?_ ?_
                                    rotate_left
                                    · intro w'
                                      go_simp
                                      with_reducible rfl
                                    rotate_left
                                    · simp only [Act.put, List.setIfInBounds_toArray, List.set_cons_zero, List.set_cons_succ, i64_w, i32_w]
                                      rfl
                                    refine pure_ (i := 17) (N := some 78) (v := ?_) (a' := ?_) #[true, true, true, true, true, true, true, true, true, true, true, true, true, false, true, false, false, true, false, false, false, false, false, false, false, false, false, false, false, false, false, false, false] rfl rfl (any_of HT_.out (by kernel_rfl)) (fun _ _ _ h => h) (Or.inl ⟨by rfl, ?_⟩) ?_ ?_
                                    rotate_left
                                    · intro w'
                                      go_simp
                                      with_reducible rfl
                                    rotate_left
                                    · simp only [Act.put, List.setIfInBounds_toArray, List.set_cons_zero, List.set_cons_succ, i64_w, i32_w]
                                      rfl
                                    refine pure_ (i := 19) (N := some 80) (v := ?_) (a' := ?_) #[true, true, true, true, true, true, true, true, true, true, true, true, true, false, true, false, false, true, false, true, false, false, false, false, false, false, false, false, false, false, false, false, false] rfl rfl (any_of HT_.out (by kernel_rfl)) (fun _ _ _ h => h) (Or.inl ⟨by rfl, ?_⟩) ?_ ?_
                                    rotate_left
                                    · intro w'
                                      go_simp
                                      with_reducible rfl
                                    rotate_left
                                    · simp only [Act.put, List.setIfInBounds_toArray, List.set_cons_zero, List.set_cons_succ, i64_w, i32_w]
                                      rfl
                                    refine take_ (i := 13) (N := some 74) (v := ?_) (a' := ?_) #[true, true, true, true, true, true, true, true, true, true, true, true, true, true, true, false, false, true, false, true, false, false, false, false, false, false, false, false, false, false, false, false, false] rfl rfl (take_ofW HT_.out HW_.out (by kernel_rfl)) (fun _ _ _ h => h) (Or.inl ⟨by rfl, ?_⟩) hHeld ?_ ?_
                                    rotate_left
                                    · rintro w' ⟨s0, s1, s2, s3, s4, s5, s6, s7, s8, s9, s10, s11, s12, s13, s14, s15, s16, s17, s18⟩
                                      go_simp
                                      with_reducible rfl
                                    rotate_left
                                    · simp only [Act.put, List.setIfInBounds_toArray, List.set_cons_zero, List.set_cons_succ, i64_w, i32_w]
                                      rfl
                                    refine pure_ (i := 15) (N := some 76) (v := ?_) (a' := ?_) #[true, true, true, true, true, true, true, true, true, true, true, true, true, true, true, true, false, true, false, true, false, false, false, false, false, false, false, false, false, false, false, false, false] rfl rfl (any_of HT_.out (by kernel_rfl)) (fun _ _ _ h => h) (Or.inl ⟨by rfl, ?_⟩) ?_ ?_
                                    rotate_left
                                    · intro w'
                                      go_simp
                                      with_reducible rfl
                                    rotate_left
                                    · simp only [Act.put, List.setIfInBounds_toArray, List.set_cons_zero, List.set_cons_succ, i64_w, i32_w]
                                      rfl
                                    refine take_ (i := 16) (N := some 77) (v := ?_) (a' := ?_) #[true, true, true, true, true, true, true, true, true, true, true, true, true, true, true, true, true, true, false, true, false, false, false, false, false, false, false, false, false, false, false, false, false] rfl rfl (take_ofW HT_.out HW_.out (by kernel_rfl)) (fun _ _ _ h => h) (Or.inl ⟨by rfl, ?_⟩) hHeld ?_ ?_
                                    rotate_left
                                    · rintro w' ⟨s0, s1, s2, s3, s4, s5, s6, s7, s8, s9, s10, s11, s12, s13, s14, s15, s16, s17, s18⟩
                                      go_simp
                                      with_reducible rfl
                                    rotate_left
                                    · simp only [Act.put, List.setIfInBounds_toArray, List.set_cons_zero, List.set_cons_succ, i64_w, i32_w]
                                      rfl
                                    refine take_ (i := 18) (N := some 79) (v := ?_) (a' := ?_) #[true, true, true, true, true, true, true, true, true, true, true, true, true, true, true, true, true, true, true, true, false, false, false, false, false, false, false, false, false, false, false, false, false] rfl rfl (take_ofW HT_.out HW_.out (by kernel_rfl)) (fun _ _ _ h => h) (Or.inl ⟨by rfl, ?_⟩) hHeld ?_ ?_
                                    rotate_left
                                    · rintro w' ⟨s0, s1, s2, s3, s4, s5, s6, s7, s8, s9, s10, s11, s12, s13, s14, s15, s16, s17, s18⟩
                                      go_simp
                                      with_reducible rfl
                                    rotate_left
                                    · simp only [Act.put, List.setIfInBounds_toArray, List.set_cons_zero, List.set_cons_succ, i64_w, i32_w]
                                      rfl
                                    refine pure_ (i := 20) (N := some 81) (v := ?_) (a' := ?_) #[true, true, true, true, true, true, true, true, true, true, true, true, true, true, true, true, true, true, true, true, true, false, false, false, false, false, false, false, false, false, false, false, false] rfl rfl (any_of HT_.out (by kernel_rfl)) (fun _ _ _ h => h) (Or.inl ⟨by rfl, ?_⟩) ?_ ?_
                                    rotate_left
                                    · intro w'
                                      go_simp
                                      with_reducible rfl
                                    rotate_left
                                    · simp only [Act.put, List.setIfInBounds_toArray, List.set_cons_zero, List.set_cons_succ, i64_w, i32_w]
                                      rfl
                                    refine take_ (i := 21) (N := some 82) (v := ?_) (a' := ?_) #[true, true, true, true, true, true, true, true, true, true, true, true, true, true, true, true, true, true, true, true, true, true, false, false, false, false, false, false, false, false, false, false, false] rfl rfl (take_ofW HT_.out HW_.out (by kernel_rfl)) (fun _ _ _ h => h) (Or.inl ⟨by rfl, ?_⟩) hHeld ?_ ?_
                                    rotate_left
                                    · rintro w' ⟨s0, s1, s2, s3, s4, s5, s6, s7, s8, s9, s10, s11, s12, s13, s14, s15, s16, s17, s18⟩
                                      go_simp
                                      with_reducible rfl
                                    rotate_left
                                    · simp only [Act.put, List.setIfInBounds_toArray, List.set_cons_zero, List.set_cons_succ, i64_w, i32_w]
                                      rfl
                                    refine pure_ (i := 22) (N := some 83) (v := ?_) (a' := ?_) #[true, true, true, true, true, true, true, true, true, true, true, true, true, true, true, true, true, true, true, true, true, true, true, false, false, false, false, false, false, false, false, false, false] rfl rfl (any_of HT_.out (by kernel_rfl)) (fun _ _ _ h => h) (Or.inl ⟨by rfl, ?_⟩) ?_ ?_
                                    rotate_left
                                    · intro w'
                                      go_simp
                                      with_reducible rfl
                                    rotate_left
                                    · simp only [Act.put, List.setIfInBounds_toArray, List.set_cons_zero, List.set_cons_succ, i64_w, i32_w]
                                      rfl
                                    refine pure_ (i := 23) (N := some 84) (v := ?_) (a' := ?_) #[true, true, true, true, true, true, true, true, true, true, true, true, true, true, true, true, true, true, true, true, true, true, true, true, false, false, false, false, false, false, false, false, false] rfl rfl (any_of HT_.out (by kernel_rfl)) (fun _ _ _ h => h) (Or.inl ⟨by rfl, ?_⟩) ?_ ?_
                                    rotate_left
                                    · intro w'
                                      go_simp
                                      with_reducible rfl
                                    rotate_left
                                    · simp only [Act.put, List.setIfInBounds_toArray, List.set_cons_zero, List.set_cons_succ, i64_w, i32_w]
                                      rfl
                                    refine pure_ (i := 25) (N := some 86) (v := ?_) (a' := ?_) #[true, true, true, true, true, true, true, true, true, true, true, true, true, true, true, true, true, true, true, true, true, true, true, true, false, true, false, false, false, false, false, false, false] rfl rfl (any_of HT_.out (by kernel_rfl)) (fun _ _ _ h => h) (Or.inl ⟨by rfl, ?_⟩) ?_ ?_
                                    rotate_left
                                    · intro w'
                                      go_simp
                                      with_reducible rfl
                                    rotate_left
                                    · simp only [Act.put, List.setIfInBounds_toArray, List.set_cons_zero, List.set_cons_succ, i64_w, i32_w]
                                      rfl
                                    refine pure_ (i := 28) (N := some 89) (v := ?_) (a' := ?_) #[true, true, true, true, true, true, true, true, true, true, true, true, true, true, true, true, true, true, true, true, true, true, true, true, false, true, false, false, true, false, false, false, false] rfl rfl (any_of HT_.out (by kernel_rfl)) (fun _ _ _ h => h) (Or.inl ⟨by rfl, ?_⟩) ?_ ?_
                                    rotate_left
                                    · intro w'
                                      go_simp
                                      with_reducible rfl
                                    rotate_left
                                    · simp only [Act.put, List.setIfInBounds_toArray, List.set_cons_zero, List.set_cons_succ, i64_w, i32_w]
                                      rfl
                                    refine take_ (i := 24) (N := some 85) (v := ?_) (a' := ?_) #[true, true, true, true, true, true, true, true, true, true, true, true, true, true, true, true, true, true, true, true, true, true, true, true, true, true, false, false, true, false, false, false, false] rfl rfl (take_ofW HT_.out HW_.out (by kernel_rfl)) (fun _ _ _ h => h) (Or.inl ⟨by rfl, ?_⟩) hHeld ?_ ?_
                                    rotate_left
                                    · rintro w' ⟨s0, s1, s2, s3, s4, s5, s6, s7, s8, s9, s10, s11, s12, s13, s14, s15, s16, s17, s18⟩
                                      go_simp
                                      with_reducible rfl
                                    rotate_left
                                    · simp only [Act.put, List.setIfInBounds_toArray, List.set_cons_zero, List.set_cons_succ, i64_w, i32_w]
                                      rfl
                                    refine take_ (i := 27) (N := some 88) (v := ?_) (a' := ?_) #[true, true, true, true, true, true, true, true, true, true, true, true, true, true, true, true, true, true, true, true, true, true, true, true, true, true, false, true, true, false, false, false, false] rfl rfl (take_ofW HT_.out HW_.out (by kernel_rfl)) (fun _ _ _ h => h) (Or.inl ⟨by rfl, ?_⟩) hHeld ?_ ?_
                                    rotate_left
                                    · rintro w' ⟨s0, s1, s2, s3, s4, s5, s6, s7, s8, s9, s10, s11, s12, s13, s14, s15, s16, s17, s18⟩
                                      go_simp
                                      with_reducible rfl
                                    rotate_left
                                    · simp only [Act.put, List.setIfInBounds_toArray, List.set_cons_zero, List.set_cons_succ, i64_w, i32_w]
                                      rfl
                                    refine one_ (i := 26) (N := some 87) #[true, true, true, true, true, true, true, true, true, true, true, true, true, true, true, true, true, true, true, true, true, true, true, true, true, true, true, true, true, false, false, false, false] rfl rfl (one_of HT_.out (by kernel_rfl)) (by decide) (fun K hK => ?_)
                                    refine goes_ Try.func55 (by kernel_rfl) rfl #[.agg #[.slice (some ad329) t321.length co21, .int .i64 t324], .int .i64 x10_3] (by rfl) rfl rfl (by (try simp only [List.map_toArray, List.map_cons, List.map_nil]); first|done|rfl|(simp only [List.length_drop, List.length_take]; rfl)) ?_
                                    with_reducible refine (impl_HandleOf.calls k3 _ _ t321 t324 x10_3 t331 _ ?side1 ?side2 A43.out).mono ?_
                                    (case side1 => repeat (first|exact (Kd.R_reads' HO_327000.out).2.2|(with_reducible refine Kd.C_alloc ?_ _)|(with_reducible refine Kd.C_drewN ?_ _)|(with_reducible refine Kd.C_drew ?_)))
                                    (case side2 => exact (Kd.R_reads' HO_327000.out).2.1)
                                    rintro e w49 ⟨rfl, hb⟩
                                    have HS4_ := (hb.cell (World.block_lt_of_cell? _ _ (hHeld.2.2.2.2.1))).trans (hHeld.2.2.2.2.1)
                                    have HS5_ := (hb.cell (World.block_lt_of_cell? _ _ (hHeld.2.2.2.2.2.1))).trans (hHeld.2.2.2.2.2.1)
                                    have HS6_ := (hb.cell (World.block_lt_of_cell? _ _ (hHeld.2.2.2.2.2.2.1))).trans (hHeld.2.2.2.2.2.2.1)
                                    have HS7_ := (hb.cell (World.block_lt_of_cell? _ _ (hHeld.2.2.2.2.2.2.2.1))).trans (hHeld.2.2.2.2.2.2.2.1)
                                    have HS8_ := (hb.cell (World.block_lt_of_cell? _ _ (hHeld.2.2.2.2.2.2.2.2.1))).trans (hHeld.2.2.2.2.2.2.2.2.1)
                                    have HS9_ := (hb.cell (World.block_lt_of_cell? _ _ (hHeld.2.2.2.2.2.2.2.2.2.1))).trans (hHeld.2.2.2.2.2.2.2.2.2.1)
                                    have HS10_ := (hb.cell (World.block_lt_of_cell? _ _ (hHeld.2.2.2.2.2.2.2.2.2.2.1))).trans (hHeld.2.2.2.2.2.2.2.2.2.2.1)
                                    have HS11_ := (hb.cell (World.block_lt_of_cell? _ _ (hHeld.2.2.2.2.2.2.2.2.2.2.2.1))).trans (hHeld.2.2.2.2.2.2.2.2.2.2.2.1)
                                    have HS12_ := (hb.cell (World.block_lt_of_cell? _ _ (hHeld.2.2.2.2.2.2.2.2.2.2.2.2.1))).trans (hHeld.2.2.2.2.2.2.2.2.2.2.2.2.1)
                                    have HS13_ := (hb.cell (World.block_lt_of_cell? _ _ (hHeld.2.2.2.2.2.2.2.2.2.2.2.2.2.1))).trans (hHeld.2.2.2.2.2.2.2.2.2.2.2.2.2.1)
                                    have HS14_ := (hb.cell (World.block_lt_of_cell? _ _ (hHeld.2.2.2.2.2.2.2.2.2.2.2.2.2.2.1))).trans (hHeld.2.2.2.2.2.2.2.2.2.2.2.2.2.2.1)
                                    have HS15_ := (hb.cell (World.block_lt_of_cell? _ _ (hHeld.2.2.2.2.2.2.2.2.2.2.2.2.2.2.2.1))).trans (hHeld.2.2.2.2.2.2.2.2.2.2.2.2.2.2.2.1)
                                    have HS16_ := (hb.cell (World.block_lt_of_cell? _ _ (hHeld.2.2.2.2.2.2.2.2.2.2.2.2.2.2.2.2.1))).trans (hHeld.2.2.2.2.2.2.2.2.2.2.2.2.2.2.2.2.1)
                                    have HS17_ := (hb.cell (World.block_lt_of_cell? _ _ (hHeld.2.2.2.2.2.2.2.2.2.2.2.2.2.2.2.2.2.1))).trans (hHeld.2.2.2.2.2.2.2.2.2.2.2.2.2.2.2.2.2.1)
                                    have HS18_ := (hb.cell (World.block_lt_of_cell? _ _ (hHeld.2.2.2.2.2.2.2.2.2.2.2.2.2.2.2.2.2.2))).trans (hHeld.2.2.2.2.2.2.2.2.2.2.2.2.2.2.2.2.2.2)
                                    refine ⟨_, rfl, ?_⟩
                                    have n0_ := Aside0.mk (zM (by (with_reducible repeat (first|apply zE|apply zD|apply zF)); exact HO_312000.out) hb)
                                    have n1_ := Aside0.mk (zM (by (with_reducible repeat (first|apply zE|apply zD|apply zF)); exact HO_327000.out) hb)
                                    have n2_ := Aside0.mk (zK (g := gb311) (o := .cells #[.slice (some ad328) t305.length co7, .int .i64 t308] 65 (0, 0)) (by (with_reducible repeat (first|refine zA ?_ _|refine zC ?_|refine zB ?_ _)); exact BK311.out) hb)
                                    have n3_ := Aside0.mk (zK (g := gb326) (o := .cells #[.slice (some ad329) t321.length co21, .int .i64 t324] 65 (0, 0)) (by (with_reducible repeat (first|refine zA ?_ _|refine zC ?_|refine zB ?_ _)); exact BK326.out) hb)
                                    have n4_ := Aside0.mk (zN (by repeat (first|(with_reducible first|exact HB.out|apply zI|apply zG|apply zH|refine zJ ?_ GE311.out|refine zJ ?_ GE326.out)|exact HB.out)) hb)
                                    clear HO_312000
                                    clear HO_327000
                                    clear BK311
                                    clear BK326
                                    clear HB
                                    have HO_312000 := n0_
                                    have HO_327000 := n1_
                                    have BK311 := n2_
                                    have BK326 := n3_
                                    have HB := n4_
                                    clear n0_ n1_ n2_ n3_ n4_
                                    (try clear hb)
                                    (try clear hb2)
                                    (try clear hk)
                                    (try clear hi)
                                    refine hK.out _ _ ⟨(zO BK311.out 0).trans rfl, (zO BK311.out 1).trans rfl, (zO BK326.out 0).trans rfl, (zO BK326.out 1).trans rfl, HS4_, HS5_, HS6_, HS7_, HS8_, HS9_, HS10_, HS11_, HS12_, HS13_, HS14_, HS15_, HS16_, HS17_, HS18_⟩ (fun hHeld => ?_)
                                    clear hK K
                                    refine norm_ (a' := ?_) ?_ ?_
                                    rotate_left
                                    · show Act.put _ (some 87) _ = _
                                      simp only [Act.put, List.setIfInBounds_toArray, List.set_cons_zero, List.set_cons_succ, i64_w, i32_w]
                                      rfl
                                    refine one_ (i := 29) (N := some 90) #[true, true, true, true, true, true, true, true, true, true, true, true, true, true, true, true, true, true, true, true, true, true, true, true, true, true, true, true, true, true, false, false, false] rfl rfl (one_of HT_.out (by kernel_rfl)) (by decide) (fun K hK => ?_)
                                    refine goes_ Try.func55 (by kernel_rfl) rfl #[.agg #[.slice (some ad328) t305.length co7, .int .i64 t308], .int .i64 x10_3] (by rfl) rfl rfl (by (try simp only [List.map_toArray, List.map_cons, List.map_nil]); first|done|rfl|(simp only [List.length_drop, List.length_take]; rfl)) ?_
                                    with_reducible refine (impl_HandleOf.calls k3 _ _ t305 t308 x10_3 t332 _ ?side1 ?side2 A44.out).mono ?_
                                    (case side1 => repeat (first|exact (Kd.R_reads' HO_312000.out).2.2|(with_reducible refine Kd.C_alloc ?_ _)|(with_reducible refine Kd.C_drewN ?_ _)|(with_reducible refine Kd.C_drew ?_)))
                                    (case side2 => exact (Kd.R_reads' HO_312000.out).2.1)
                                    rintro e w50 ⟨rfl, hb⟩
                                    have HS4_ := (hb.cell (World.block_lt_of_cell? _ _ (hHeld.2.2.2.2.1))).trans (hHeld.2.2.2.2.1)
                                    have HS5_ := (hb.cell (World.block_lt_of_cell? _ _ (hHeld.2.2.2.2.2.1))).trans (hHeld.2.2.2.2.2.1)
                                    have HS6_ := (hb.cell (World.block_lt_of_cell? _ _ (hHeld.2.2.2.2.2.2.1))).trans (hHeld.2.2.2.2.2.2.1)
                                    have HS7_ := (hb.cell (World.block_lt_of_cell? _ _ (hHeld.2.2.2.2.2.2.2.1))).trans (hHeld.2.2.2.2.2.2.2.1)
                                    have HS8_ := (hb.cell (World.block_lt_of_cell? _ _ (hHeld.2.2.2.2.2.2.2.2.1))).trans (hHeld.2.2.2.2.2.2.2.2.1)
                                    have HS9_ := (hb.cell (World.block_lt_of_cell? _ _ (hHeld.2.2.2.2.2.2.2.2.2.1))).trans (hHeld.2.2.2.2.2.2.2.2.2.1)
                                    have HS10_ := (hb.cell (World.block_lt_of_cell? _ _ (hHeld.2.2.2.2.2.2.2.2.2.2.1))).trans (hHeld.2.2.2.2.2.2.2.2.2.2.1)
                                    have HS11_ := (hb.cell (World.block_lt_of_cell? _ _ (hHeld.2.2.2.2.2.2.2.2.2.2.2.1))).trans (hHeld.2.2.2.2.2.2.2.2.2.2.2.1)
                                    have HS12_ := (hb.cell (World.block_lt_of_cell? _ _ (hHeld.2.2.2.2.2.2.2.2.2.2.2.2.1))).trans (hHeld.2.2.2.2.2.2.2.2.2.2.2.2.1)
                                    have HS13_ := (hb.cell (World.block_lt_of_cell? _ _ (hHeld.2.2.2.2.2.2.2.2.2.2.2.2.2.1))).trans (hHeld.2.2.2.2.2.2.2.2.2.2.2.2.2.1)
                                    have HS14_ := (hb.cell (World.block_lt_of_cell? _ _ (hHeld.2.2.2.2.2.2.2.2.2.2.2.2.2.2.1))).trans (hHeld.2.2.2.2.2.2.2.2.2.2.2.2.2.2.1)
                                    have HS15_ := (hb.cell (World.block_lt_of_cell? _ _ (hHeld.2.2.2.2.2.2.2.2.2.2.2.2.2.2.2.1))).trans (hHeld.2.2.2.2.2.2.2.2.2.2.2.2.2.2.2.1)
                                    have HS16_ := (hb.cell (World.block_lt_of_cell? _ _ (hHeld.2.2.2.2.2.2.2.2.2.2.2.2.2.2.2.2.1))).trans (hHeld.2.2.2.2.2.2.2.2.2.2.2.2.2.2.2.2.1)
                                    have HS17_ := (hb.cell (World.block_lt_of_cell? _ _ (hHeld.2.2.2.2.2.2.2.2.2.2.2.2.2.2.2.2.2.1))).trans (hHeld.2.2.2.2.2.2.2.2.2.2.2.2.2.2.2.2.2.1)
                                    have HS18_ := (hb.cell (World.block_lt_of_cell? _ _ (hHeld.2.2.2.2.2.2.2.2.2.2.2.2.2.2.2.2.2.2))).trans (hHeld.2.2.2.2.2.2.2.2.2.2.2.2.2.2.2.2.2.2)
                                    refine ⟨_, rfl, ?_⟩
                                    have n0_ := Aside0.mk (zM (by (with_reducible repeat (first|apply zE|apply zD|apply zF)); exact HO_312000.out) hb)
                                    have n1_ := Aside0.mk (zM (by (with_reducible repeat (first|apply zE|apply zD|apply zF)); exact HO_327000.out) hb)
                                    have n2_ := Aside0.mk (zK (g := gb311) (o := .cells #[.slice (some ad328) t305.length co7, .int .i64 t308] 65 (0, 0)) (by (with_reducible repeat (first|refine zA ?_ _|refine zC ?_|refine zB ?_ _)); exact BK311.out) hb)
                                    have n3_ := Aside0.mk (zK (g := gb326) (o := .cells #[.slice (some ad329) t321.length co21, .int .i64 t324] 65 (0, 0)) (by (with_reducible repeat (first|refine zA ?_ _|refine zC ?_|refine zB ?_ _)); exact BK326.out) hb)
                                    have n4_ := Aside0.mk (zN (by repeat (first|(with_reducible first|exact HB.out|apply zI|apply zG|apply zH|refine zJ ?_ GE311.out|refine zJ ?_ GE326.out)|exact HB.out)) hb)
                                    clear HO_312000
                                    clear HO_327000
                                    clear BK311
                                    clear BK326
                                    clear HB
                                    have HO_312000 := n0_
                                    have HO_327000 := n1_
                                    have BK311 := n2_
                                    have BK326 := n3_
                                    have HB := n4_
                                    clear n0_ n1_ n2_ n3_ n4_
                                    (try clear hb)
                                    (try clear hb2)
                                    (try clear hk)
                                    (try clear hi)
                                    refine hK.out _ _ ⟨(zO BK311.out 0).trans rfl, (zO BK311.out 1).trans rfl, (zO BK326.out 0).trans rfl, (zO BK326.out 1).trans rfl, HS4_, HS5_, HS6_, HS7_, HS8_, HS9_, HS10_, HS11_, HS12_, HS13_, HS14_, HS15_, HS16_, HS17_, HS18_⟩ (fun hHeld => ?_)
                                    clear hK K
                                    refine norm_ (a' := ?_) ?_ ?_
                                    rotate_left
                                    · show Act.put _ (some 90) _ = _
                                      simp only [Act.put, List.setIfInBounds_toArray, List.set_cons_zero, List.set_cons_succ, i64_w, i32_w]
                                      rfl
                                    refine pure_ (i := 30) (N := some 91) (v := ?_) (a' := ?_) #[true, true, true, true, true, true, true, true, true, true, true, true, true, true, true, true, true, true, true, true, true, true, true, true, true, true, true, true, true, true, true, false, false] rfl rfl (any_of HT_.out (by kernel_rfl)) (fun _ _ _ h => h) (Or.inl ⟨by rfl, ?_⟩) ?_ ?_
                                    rotate_left
                                    · intro w'
                                      go_simp
                                      with_reducible rfl
                                    rotate_left
                                    · simp only [Act.put, List.setIfInBounds_toArray, List.set_cons_zero, List.set_cons_succ, i64_w, i32_w]
                                      rfl
                                    refine pure_ (i := 31) (N := some 92) (v := ?_) (a' := ?_) #[true, true, true, true, true, true, true, true, true, true, true, true, true, true, true, true, true, true, true, true, true, true, true, true, true, true, true, true, true, true, true, true, false] rfl rfl (any_of HT_.out (by kernel_rfl)) (fun _ _ _ h => h) (Or.inl ⟨by rfl, ?_⟩) ?_ ?_
                                    rotate_left
                                    · intro w'
                                      go_simp
                                      with_reducible rfl
                                    rotate_left
                                    · simp only [Act.put, List.setIfInBounds_toArray, List.set_cons_zero, List.set_cons_succ, i64_w, i32_w]
                                      rfl
                                    refine pure_ (i := 32) (N := some 93) (v := ?_) (a' := ?_) #[true, true, true, true, true, true, true, true, true, true, true, true, true, true, true, true, true, true, true, true, true, true, true, true, true, true, true, true, true, true, true, true, true] rfl rfl (any_of HT_.out (by kernel_rfl)) (fun _ _ _ h => h) (Or.inl ⟨by rfl, ?_⟩) ?_ ?_
                                    rotate_left
                                    · intro w'
                                      go_simp
                                      with_reducible rfl
                                    rotate_left
                                    · simp only [Act.put, List.setIfInBounds_toArray, List.set_cons_zero, List.set_cons_succ, i64_w, i32_w]
                                      rfl
                                    refine done_ (done_of HT_.out (by kernel_rfl)) ?_
                                    try go_wp2
                                    go_roundg k3
                                    case measure => have := HK1.out; have := HJ14.out; have := HK3.out; omega
                                    case rel => exact ⟨(wrap64 (x10_3 + 1)), (by first|rfl|(simp; done)|(simp [*]; done)), H', ⟨by have := HK1.out; have := HJ14.out; have := HK3.out; omega⟩, ⟨by (with_reducible repeat (first|apply zE|apply zD|apply zF)); exact HO_312000.out⟩, ⟨by (with_reducible repeat (first|apply zE|apply zD|apply zF)); exact HO_327000.out⟩, ⟨by (with_reducible repeat (first|refine zA ?_ _|refine zC ?_|refine zB ?_ _)); exact BK311.out⟩, ⟨by (with_reducible repeat (first|refine zA ?_ _|refine zC ?_|refine zB ?_ _)); exact BK326.out⟩, ⟨by repeat (first|(with_reducible first|exact HB.out|apply zI|apply zG|apply zH|refine zJ ?_ GE311.out|refine zJ ?_ GE326.out)|exact HB.out)⟩⟩
                                  · rw [if_neg c45] at H
                                    have c45b0 : (t331 == t332) = false := beq_eq_false_iff_ne.mpr c45
                                    have c45b1 : (t331 != t332) = true := bne_iff_ne.mpr c45
                                    exact absurd ((Option.some.inj H).trans HTr_.out) (by simp)
                              · rw [if_neg c38] at H
                                exact absurd H (by simp)
                            · replace c37 := Bool.eq_false_iff.mpr c37
                              subst c37
                              have H1 : (laws_FnLifts.l1 k3 x6_1 t320 (wrap64 (x10_3 + 1)) t305 t308 t321 t324) = some r := by rw [if_neg (show ¬ (false = true) by decide)] at H; exact H
                              clear H
                              have H := H1
                              clear H1
                              have H' := Aside0.mk H
                              clear H
                              have hnb56 := NB311_326.out
                              have hnc56 := NB326_311.out
                              obtain ⟨hcz57_0, hcz57_1, hfz57_0, hfz57_1⟩ := zb2 BK311.out
                              try go_wp2
                              have n0_ := Aside0.mk (zF HO_312000.out)
                              have n1_ := Aside0.mk (zF HO_327000.out)
                              have n2_ := Aside0.mk (zC BK311.out)
                              have n3_ := Aside0.mk (zC BK326.out)
                              have n4_ := Aside0.mk (zH HB.out)
                              clear HO_312000
                              clear HO_327000
                              clear BK311
                              clear BK326
                              clear HB
                              have HO_312000 := n0_
                              have HO_327000 := n1_
                              have BK311 := n2_
                              have BK326 := n3_
                              have HB := n4_
                              clear n0_ n1_ n2_ n3_ n4_
                              have p328 : 0 ≤ (x10_3 : Int) := of_decide_eq_true (by first|(with_reducible assumption)|assumption)
                              have q328 : x10_3 < (t305.length : Int) := of_decide_eq_true (by first|(with_reducible assumption)|assumption)
                              obtain ⟨ad328, e328, hx328_0, hx328_1, hx328_2, hx328_3, hx328_4⟩ := at_T81 (Kd.R_reads' HO_312000.out).2.2 x10_3 p328 q328
                              (try rw [← Nbq36.out] at hx328_1)
                              cases e328
                              replace p328 := eq_true p328
                              replace q328 := eq_true q328
                              refine start_ (n := 33) (S := fun w' => w'.cell? ⟨gb311, 0, none⟩ = some (.slice (some ad328) t305.length co7) ∧ w'.cell? ⟨gb311, 1, none⟩ = some (.int .i64 t308) ∧ w'.cell? (ad328.add ((x10_3).toNat * 5)) = some (.int .i64 ((rd_T81 t305 x10_3).f0)) ∧ w'.cell? ⟨(ad328.add ((x10_3).toNat * 5)).block, (ad328.add ((x10_3).toNat * 5)).off + 1, none⟩ = some (.bool false) ∧ w'.cell? ⟨(ad328.add ((x10_3).toNat * 5)).block, (ad328.add ((x10_3).toNat * 5)).off + 2, none⟩ = some (.string ((rd_T81 t305 x10_3).f2)) ∧ w'.cell? ⟨(ad328.add ((x10_3).toNat * 5)).block, (ad328.add ((x10_3).toNat * 5)).off + 3, none⟩ = some (.string ((rd_T81 t305 x10_3).f3)) ∧ w'.cell? ⟨(ad328.add ((x10_3).toNat * 5)).block, (ad328.add ((x10_3).toNat * 5)).off + 4, none⟩ = some (.int .i64 ((rd_T81 t305 x10_3).f4))) (ds := []) #[false, false, false, false, false, false, false, false, false, false, false, false, false, false, false, false, false, false, false, false, false, false, false, false, false, false, false, false, false, false, false, false, false] (by kernel_rfl) rfl rfl ⟨(zO BK311.out 0).trans rfl, (zO BK311.out 1).trans rfl, hx328_0, hx328_1, hx328_2, hx328_3, hx328_4⟩ (fun hHeld => ?_); refine with_tabW laws_FnLifts.tab15 laws_FnLifts.bits15 (fun HT_ HW_ => ?_)
                              generalize wr.drew = w58 at HO_312000 HO_327000 BK311 BK326 HB hx328_0 hx328_1 hx328_2 hx328_3 hx328_4 hHeld ⊢
                              refine pure_ (i := 0) (N := some 61) (v := ?_) (a' := ?_) #[true, false, false, false, false, false, false, false, false, false, false, false, false, false, false, false, false, false, false, false, false, false, false, false, false, false, false, false, false, false, false, false, false] rfl rfl (any_of HT_.out (by kernel_rfl)) (fun _ _ _ h => h) (Or.inl ⟨by rfl, ?_⟩) ?_ ?_
                              rotate_left
                              · intro w'
                                go_simp
                                with_reducible rfl
                              rotate_left
                              · simp only [Act.put, List.setIfInBounds_toArray, List.set_cons_zero, List.set_cons_succ, i64_w, i32_w]
                                rfl
                              refine pure_ (i := 1) (N := some 62) (v := ?_) (a' := ?_) #[true, true, false, false, false, false, false, false, false, false, false, false, false, false, false, false, false, false, false, false, false, false, false, false, false, false, false, false, false, false, false, false, false] rfl rfl (any_of HT_.out (by kernel_rfl)) (fun _ _ _ h => h) (Or.inl ⟨by rfl, ?_⟩) ?_ ?_
                              rotate_left
                              · intro w'
                                go_simp
                                with_reducible rfl
                              rotate_left
                              · simp only [Act.put, List.setIfInBounds_toArray, List.set_cons_zero, List.set_cons_succ, i64_w, i32_w]
                                rfl
                              refine pure_ (i := 2) (N := some 63) (v := ?_) (a' := ?_) #[true, true, true, false, false, false, false, false, false, false, false, false, false, false, false, false, false, false, false, false, false, false, false, false, false, false, false, false, false, false, false, false, false] rfl rfl (any_of HT_.out (by kernel_rfl)) (fun _ _ _ h => h) (Or.inl ⟨by rfl, ?_⟩) ?_ ?_
                              rotate_left
                              · intro w'
                                go_simp
                                with_reducible rfl
                              rotate_left
                              · simp only [Act.put, List.setIfInBounds_toArray, List.set_cons_zero, List.set_cons_succ, i64_w, i32_w]
                                rfl
                              refine pure_ (i := 3) (N := some 64) (v := ?_) (a' := ?_) #[true, true, true, true, false, false, false, false, false, false, false, false, false, false, false, false, false, false, false, false, false, false, false, false, false, false, false, false, false, false, false, false, false] rfl rfl (any_of HT_.out (by kernel_rfl)) (fun _ _ _ h => h) (Or.inl ⟨by rfl, ?_⟩) ?_ ?_
                              rotate_left
                              · intro w'
                                go_simp
                                with_reducible rfl
                              rotate_left
                              · simp only [Act.put, List.setIfInBounds_toArray, List.set_cons_zero, List.set_cons_succ, i64_w, i32_w]
                                rfl
                              refine pure_ (i := 4) (N := some 65) (v := ?_) (a' := ?_) #[true, true, true, true, true, false, false, false, false, false, false, false, false, false, false, false, false, false, false, false, false, false, false, false, false, false, false, false, false, false, false, false, false] rfl rfl (any_of HT_.out (by kernel_rfl)) (fun _ _ _ h => h) (Or.inl ⟨by rfl, ?_⟩) ?_ ?_
                              rotate_left
                              · intro w'
                                go_simp
                                with_reducible rfl
                              rotate_left
                              · simp only [Act.put, List.setIfInBounds_toArray, List.set_cons_zero, List.set_cons_succ, i64_w, i32_w]
                                rfl
                              refine pure_ (i := 6) (N := some 67) (v := ?_) (a' := ?_) #[true, true, true, true, true, false, true, false, false, false, false, false, false, false, false, false, false, false, false, false, false, false, false, false, false, false, false, false, false, false, false, false, false] rfl rfl (any_of HT_.out (by kernel_rfl)) (fun _ _ _ h => h) (Or.inl ⟨by rfl, ?_⟩) ?_ ?_
                              rotate_left
                              · intro w'
                                go_simp
                                with_reducible rfl
                              rotate_left
                              · simp only [Act.put, List.setIfInBounds_toArray, List.set_cons_zero, List.set_cons_succ, i64_w, i32_w]
                                rfl
                              refine take_ (i := 5) (N := some 66) (v := ?_) (a' := ?_) #[true, true, true, true, true, true, true, false, false, false, false, false, false, false, false, false, false, false, false, false, false, false, false, false, false, false, false, false, false, false, false, false, false] rfl rfl (take_ofW HT_.out HW_.out (by kernel_rfl)) (fun _ _ _ h => h) (Or.inl ⟨by rfl, ?_⟩) hHeld ?_ ?_
                              rotate_left
                              · rintro w' ⟨s0, s1, s2, s3, s4, s5, s6⟩
                                go_simp
                                with_reducible rfl
                              rotate_left
                              · simp only [Act.put, List.setIfInBounds_toArray, List.set_cons_zero, List.set_cons_succ, i64_w, i32_w]
                                rfl
                              refine pure_ (i := 7) (N := some 68) (v := ?_) (a' := ?_) #[true, true, true, true, true, true, true, true, false, false, false, false, false, false, false, false, false, false, false, false, false, false, false, false, false, false, false, false, false, false, false, false, false] rfl rfl (any_of HT_.out (by kernel_rfl)) (fun _ _ _ h => h) (Or.inl ⟨by rfl, ?_⟩) ?_ ?_
                              rotate_left
                              · intro w'
                                go_simp
                                with_reducible rfl
                              rotate_left
                              · simp only [Act.put, List.setIfInBounds_toArray, List.set_cons_zero, List.set_cons_succ, i64_w, i32_w]
                                rfl
                              refine pure_ (i := 8) (N := some 69) (v := ?_) (a' := ?_) #[true, true, true, true, true, true, true, true, true, false, false, false, false, false, false, false, false, false, false, false, false, false, false, false, false, false, false, false, false, false, false, false, false] rfl rfl (any_of HT_.out (by kernel_rfl)) (fun _ _ _ h => h) (Or.inl ⟨by rfl, ?_⟩) ?_ ?_
                              rotate_left
                              · intro w'
                                go_simp
                                with_reducible rfl
                              rotate_left
                              · simp only [Act.put, List.setIfInBounds_toArray, List.set_cons_zero, List.set_cons_succ, i64_w, i32_w]
                                rfl
                              refine take_ (i := 9) (N := some 70) (v := ?_) (a' := ?_) #[true, true, true, true, true, true, true, true, true, true, false, false, false, false, false, false, false, false, false, false, false, false, false, false, false, false, false, false, false, false, false, false, false] rfl rfl (take_ofW HT_.out HW_.out (by kernel_rfl)) (fun _ _ _ h => h) (Or.inl ⟨by rfl, ?_⟩) hHeld ?_ ?_
                              rotate_left
                              · rintro w' ⟨s0, s1, s2, s3, s4, s5, s6⟩
                                go_simp
                                with_reducible rfl
                              rotate_left
                              · simp only [Act.put, List.setIfInBounds_toArray, List.set_cons_zero, List.set_cons_succ, i64_w, i32_w]
                                rfl
                              refine pure_ (i := 10) (N := some 71) (v := ?_) (a' := ?_) #[true, true, true, true, true, true, true, true, true, true, true, false, false, false, false, false, false, false, false, false, false, false, false, false, false, false, false, false, false, false, false, false, false] rfl rfl (any_of HT_.out (by kernel_rfl)) (fun _ _ _ h => h) (Or.inl ⟨by rfl, ?_⟩) ?_ ?_
                              rotate_left
                              · intro w'
                                go_simp
                                with_reducible rfl
                              rotate_left
                              · simp only [Act.put, List.setIfInBounds_toArray, List.set_cons_zero, List.set_cons_succ, i64_w, i32_w]
                                rfl
                              refine pure_ (i := 11) (N := some 72) (v := ?_) (a' := ?_) #[true, true, true, true, true, true, true, true, true, true, true, true, false, false, false, false, false, false, false, false, false, false, false, false, false, false, false, false, false, false, false, false, false] rfl rfl (any_of HT_.out (by kernel_rfl)) (fun _ _ _ h => h) (Or.inl ⟨by rfl, ?_⟩) ?_ ?_
                              rotate_left
                              · intro w'
                                go_simp
                                with_reducible rfl
                              rotate_left
                              · simp only [Act.put, List.setIfInBounds_toArray, List.set_cons_zero, List.set_cons_succ, i64_w, i32_w]
                                rfl
                              refine pure_ (i := 12) (N := some 73) (v := undef) (a' := ?_) #[true, true, true, true, true, true, true, true, true, true, true, true, true, false, false, false, false, false, false, false, false, false, false, false, false, false, false, false, false, false, false, false, false] rfl rfl (any_of HT_.out (by kernel_rfl)) (fun _ _ _ h => h) (Or.inr ⟨by rfl, rfl⟩) ?_ ?_
                              rotate_left
                              · simp only [Act.put, List.setIfInBounds_toArray, List.set_cons_zero, List.set_cons_succ, i64_w, i32_w]
                                rfl
                              refine pure_ (i := 13) (N := some 74) (v := undef) (a' := ?_) #[true, true, true, true, true, true, true, true, true, true, true, true, true, true, false, false, false, false, false, false, false, false, false, false, false, false, false, false, false, false, false, false, false] rfl rfl (any_of HT_.out (by kernel_rfl)) (fun _ _ _ h => h) (Or.inr ⟨by rfl, rfl⟩) ?_ ?_
                              rotate_left
                              · simp only [Act.put, List.setIfInBounds_toArray, List.set_cons_zero, List.set_cons_succ, i64_w, i32_w]
                                rfl
                              refine pure_ (i := 14) (N := some 75) (v := undef) (a' := ?_) #[true, true, true, true, true, true, true, true, true, true, true, true, true, true, true, false, false, false, false, false, false, false, false, false, false, false, false, false, false, false, false, false, false] rfl rfl (any_of HT_.out (by kernel_rfl)) (fun _ _ _ h => h) (Or.inr ⟨by rfl, rfl⟩) ?_ ?_
                              rotate_left
                              · simp only [Act.put, List.setIfInBounds_toArray, List.set_cons_zero, List.set_cons_succ, i64_w, i32_w]
                                rfl
                              refine pure_ (i := 15) (N := some 76) (v := undef) (a' := ?_) #[true, true, true, true, true, true, true, true, true, true, true, true, true, true, true, true, false, false, false, false, false, false, false, false, false, false, false, false, false, false, false, false, false] rfl rfl (any_of HT_.out (by kernel_rfl)) (fun _ _ _ h => h) (Or.inr ⟨by rfl, rfl⟩) ?_ ?_
                              rotate_left
                              · simp only [Act.put, List.setIfInBounds_toArray, List.set_cons_zero, List.set_cons_succ, i64_w, i32_w]
                                rfl
                              refine pure_ (i := 16) (N := some 77) (v := undef) (a' := ?_) #[true, true, true, true, true, true, true, true, true, true, true, true, true, true, true, true, true, false, false, false, false, false, false, false, false, false, false, false, false, false, false, false, false] rfl rfl (any_of HT_.out (by kernel_rfl)) (fun _ _ _ h => h) (Or.inr ⟨by rfl, rfl⟩) ?_ ?_
                              rotate_left
                              · simp only [Act.put, List.setIfInBounds_toArray, List.set_cons_zero, List.set_cons_succ, i64_w, i32_w]
                                rfl
                              refine pure_ (i := 17) (N := some 78) (v := undef) (a' := ?_) #[true, true, true, true, true, true, true, true, true, true, true, true, true, true, true, true, true, true, false, false, false, false, false, false, false, false, false, false, false, false, false, false, false] rfl rfl (any_of HT_.out (by kernel_rfl)) (fun _ _ _ h => h) (Or.inr ⟨by rfl, rfl⟩) ?_ ?_
                              rotate_left
                              · simp only [Act.put, List.setIfInBounds_toArray, List.set_cons_zero, List.set_cons_succ, i64_w, i32_w]
                                rfl
                              refine pure_ (i := 18) (N := some 79) (v := undef) (a' := ?_) #[true, true, true, true, true, true, true, true, true, true, true, true, true, true, true, true, true, true, true, false, false, false, false, false, false, false, false, false, false, false, false, false, false] rfl rfl (any_of HT_.out (by kernel_rfl)) (fun _ _ _ h => h) (Or.inr ⟨by rfl, rfl⟩) ?_ ?_
                              rotate_left
                              · simp only [Act.put, List.setIfInBounds_toArray, List.set_cons_zero, List.set_cons_succ, i64_w, i32_w]
                                rfl
                              refine pure_ (i := 19) (N := some 80) (v := undef) (a' := ?_) #[true, true, true, true, true, true, true, true, true, true, true, true, true, true, true, true, true, true, true, true, false, false, false, false, false, false, false, false, false, false, false, false, false] rfl rfl (any_of HT_.out (by kernel_rfl)) (fun _ _ _ h => h) (Or.inr ⟨by rfl, rfl⟩) ?_ ?_
                              rotate_left
                              · simp only [Act.put, List.setIfInBounds_toArray, List.set_cons_zero, List.set_cons_succ, i64_w, i32_w]
                                rfl
                              refine pure_ (i := 20) (N := some 81) (v := undef) (a' := ?_) #[true, true, true, true, true, true, true, true, true, true, true, true, true, true, true, true, true, true, true, true, true, false, false, false, false, false, false, false, false, false, false, false, false] rfl rfl (any_of HT_.out (by kernel_rfl)) (fun _ _ _ h => h) (Or.inr ⟨by rfl, rfl⟩) ?_ ?_
                              rotate_left
                              · simp only [Act.put, List.setIfInBounds_toArray, List.set_cons_zero, List.set_cons_succ, i64_w, i32_w]
                                rfl
                              refine pure_ (i := 21) (N := some 82) (v := undef) (a' := ?_) #[true, true, true, true, true, true, true, true, true, true, true, true, true, true, true, true, true, true, true, true, true, true, false, false, false, false, false, false, false, false, false, false, false] rfl rfl (any_of HT_.out (by kernel_rfl)) (fun _ _ _ h => h) (Or.inr ⟨by rfl, rfl⟩) ?_ ?_
                              rotate_left
                              · simp only [Act.put, List.setIfInBounds_toArray, List.set_cons_zero, List.set_cons_succ, i64_w, i32_w]
                                rfl
                              refine pure_ (i := 22) (N := some 83) (v := undef) (a' := ?_) #[true, true, true, true, true, true, true, true, true, true, true, true, true, true, true, true, true, true, true, true, true, true, true, false, false, false, false, false, false, false, false, false, false] rfl rfl (any_of HT_.out (by kernel_rfl)) (fun _ _ _ h => h) (Or.inr ⟨by rfl, rfl⟩) ?_ ?_
                              rotate_left
                              · simp only [Act.put, List.setIfInBounds_toArray, List.set_cons_zero, List.set_cons_succ, i64_w, i32_w]
                                rfl
                              refine pure_ (i := 23) (N := some 84) (v := undef) (a' := ?_) #[true, true, true, true, true, true, true, true, true, true, true, true, true, true, true, true, true, true, true, true, true, true, true, true, false, false, false, false, false, false, false, false, false] rfl rfl (any_of HT_.out (by kernel_rfl)) (fun _ _ _ h => h) (Or.inr ⟨by rfl, rfl⟩) ?_ ?_
                              rotate_left
                              · simp only [Act.put, List.setIfInBounds_toArray, List.set_cons_zero, List.set_cons_succ, i64_w, i32_w]
                                rfl
                              refine pure_ (i := 24) (N := some 85) (v := undef) (a' := ?_) #[true, true, true, true, true, true, true, true, true, true, true, true, true, true, true, true, true, true, true, true, true, true, true, true, true, false, false, false, false, false, false, false, false] rfl rfl (any_of HT_.out (by kernel_rfl)) (fun _ _ _ h => h) (Or.inr ⟨by rfl, rfl⟩) ?_ ?_
                              rotate_left
                              · simp only [Act.put, List.setIfInBounds_toArray, List.set_cons_zero, List.set_cons_succ, i64_w, i32_w]
                                rfl
                              refine pure_ (i := 25) (N := some 86) (v := undef) (a' := ?_) #[true, true, true, true, true, true, true, true, true, true, true, true, true, true, true, true, true, true, true, true, true, true, true, true, true, true, false, false, false, false, false, false, false] rfl rfl (any_of HT_.out (by kernel_rfl)) (fun _ _ _ h => h) (Or.inr ⟨by rfl, rfl⟩) ?_ ?_
                              rotate_left
                              · simp only [Act.put, List.setIfInBounds_toArray, List.set_cons_zero, List.set_cons_succ, i64_w, i32_w]
                                rfl
                              refine pure_ (i := 26) (N := some 87) (v := undef) (a' := ?_) #[true, true, true, true, true, true, true, true, true, true, true, true, true, true, true, true, true, true, true, true, true, true, true, true, true, true, true, false, false, false, false, false, false] rfl rfl (any_of HT_.out (by kernel_rfl)) (fun _ _ _ h => h) (Or.inr ⟨by rfl, rfl⟩) ?_ ?_
                              rotate_left
                              · simp only [Act.put, List.setIfInBounds_toArray, List.set_cons_zero, List.set_cons_succ, i64_w, i32_w]
                                rfl
                              refine pure_ (i := 27) (N := some 88) (v := undef) (a' := ?_) #[true, true, true, true, true, true, true, true, true, true, true, true, true, true, true, true, true, true, true, true, true, true, true, true, true, true, true, true, false, false, false, false, false] rfl rfl (any_of HT_.out (by kernel_rfl)) (fun _ _ _ h => h) (Or.inr ⟨by rfl, rfl⟩) ?_ ?_
                              rotate_left
                              · simp only [Act.put, List.setIfInBounds_toArray, List.set_cons_zero, List.set_cons_succ, i64_w, i32_w]
                                rfl
                              refine pure_ (i := 28) (N := some 89) (v := undef) (a' := ?_) #[true, true, true, true, true, true, true, true, true, true, true, true, true, true, true, true, true, true, true, true, true, true, true, true, true, true, true, true, true, false, false, false, false] rfl rfl (any_of HT_.out (by kernel_rfl)) (fun _ _ _ h => h) (Or.inr ⟨by rfl, rfl⟩) ?_ ?_
                              rotate_left
                              · simp only [Act.put, List.setIfInBounds_toArray, List.set_cons_zero, List.set_cons_succ, i64_w, i32_w]
                                rfl
                              refine pure_ (i := 29) (N := some 90) (v := undef) (a' := ?_) #[true, true, true, true, true, true, true, true, true, true, true, true, true, true, true, true, true, true, true, true, true, true, true, true, true, true, true, true, true, true, false, false, false] rfl rfl (any_of HT_.out (by kernel_rfl)) (fun _ _ _ h => h) (Or.inr ⟨by rfl, rfl⟩) ?_ ?_
                              rotate_left
                              · simp only [Act.put, List.setIfInBounds_toArray, List.set_cons_zero, List.set_cons_succ, i64_w, i32_w]
                                rfl
                              refine pure_ (i := 30) (N := some 91) (v := undef) (a' := ?_) #[true, true, true, true, true, true, true, true, true, true, true, true, true, true, true, true, true, true, true, true, true, true, true, true, true, true, true, true, true, true, true, false, false] rfl rfl (any_of HT_.out (by kernel_rfl)) (fun _ _ _ h => h) (Or.inr ⟨by rfl, rfl⟩) ?_ ?_
                              rotate_left
                              · simp only [Act.put, List.setIfInBounds_toArray, List.set_cons_zero, List.set_cons_succ, i64_w, i32_w]
                                rfl
                              refine pure_ (i := 31) (N := some 92) (v := undef) (a' := ?_) #[true, true, true, true, true, true, true, true, true, true, true, true, true, true, true, true, true, true, true, true, true, true, true, true, true, true, true, true, true, true, true, true, false] rfl rfl (any_of HT_.out (by kernel_rfl)) (fun _ _ _ h => h) (Or.inr ⟨by rfl, rfl⟩) ?_ ?_
                              rotate_left
                              · simp only [Act.put, List.setIfInBounds_toArray, List.set_cons_zero, List.set_cons_succ, i64_w, i32_w]
                                rfl
                              refine pure_ (i := 32) (N := some 93) (v := ?_) (a' := ?_) #[true, true, true, true, true, true, true, true, true, true, true, true, true, true, true, true, true, true, true, true, true, true, true, true, true, true, true, true, true, true, true, true, true] rfl rfl (any_of HT_.out (by kernel_rfl)) (fun _ _ _ h => h) (Or.inl ⟨by rfl, ?_⟩) ?_ ?_
                              rotate_left
                              · intro w'
                                go_simp
                                with_reducible rfl
                              rotate_left
                              · simp only [Act.put, List.setIfInBounds_toArray, List.set_cons_zero, List.set_cons_succ, i64_w, i32_w]
                                rfl
                              refine done_ (done_of HT_.out (by kernel_rfl)) ?_
                              try go_wp2
                              go_roundg k3
                              case measure => have := HK1.out; have := HJ14.out; have := HK3.out; omega
                              case rel => exact ⟨(wrap64 (x10_3 + 1)), (by first|rfl|(simp; done)|(simp [*]; done)), H', ⟨by have := HK1.out; have := HJ14.out; have := HK3.out; omega⟩, ⟨by (with_reducible repeat (first|apply zE|apply zD|apply zF)); exact HO_312000.out⟩, ⟨by (with_reducible repeat (first|apply zE|apply zD|apply zF)); exact HO_327000.out⟩, ⟨by (with_reducible repeat (first|refine zA ?_ _|refine zC ?_|refine zB ?_ _)); exact BK311.out⟩, ⟨by (with_reducible repeat (first|refine zA ?_ _|refine zC ?_|refine zB ?_ _)); exact BK326.out⟩, ⟨by repeat (first|(with_reducible first|exact HB.out|apply zI|apply zG|apply zH|refine zJ ?_ GE311.out|refine zJ ?_ GE326.out)|exact HB.out)⟩⟩
                          · rw [if_neg c35] at H
                            exact absurd H (by simp)
                      · rw [if_neg c30] at H
                        have c30b0 : decide (x10_3 < (t305.length : Int)) = false := decide_eq_false c30
                        clear c30
                        replace H := Option.bind_eq_some_iff.mp H
                        obtain ⟨⟨t333, t336, t337, t338⟩, A590, H⟩ := H
                        replace H : (if t338 = true then (if (Int.tmod t337 24) = x6_1 then (if 0 ≤ x6_1 then (if x6_1 < (t333.length : Int) then (laws_FnLifts.j3 k3 x6_1 t320 (!((rd_T81 t333 x6_1).f1)) t305 t308 t321 t324) else (none)) else (none)) else (laws_FnLifts.j3 k3 x6_1 t320 true t305 t308 t321 t324)) else (laws_FnLifts.j3 k3 x6_1 t320 true t305 t308 t321 t324)) = some r := H
                        have A59 := Aside0.mk A590
                        clear A590
                        have HC60 := Aside0.mk H
                        clear H
                        have hnb61 := NB311_326.out
                        have hnc61 := NB326_311.out
                        obtain ⟨hcz62_0, hcz62_1, hfz62_0, hfz62_1⟩ := zb2 BK311.out
                        obtain ⟨hcz63_0, hcz63_1, hfz63_0, hfz63_1⟩ := zb2 BK326.out
                        go_upto_region 18 with (first|((with_reducible refine gate_callee (f := 46) rfl ?_); refine goesL_ (some 96) rfl rfl Try.func46 (by kernel_rfl) rfl #[.agg #[.slice Ao21 t321.length co21, .int .i64 t324], .string (⟨#[113]⟩ : ByteArray), .string (⟨#[]⟩ : ByteArray)] rfl (by (try simp only [List.map_toArray, List.map_cons, List.map_nil]); first|done|rfl|(simp only [List.length_drop, List.length_take]; rfl)) ?_; (with_reducible refine (impl_Lay.calls k3 _ _ t321 t324 (⟨#[113]⟩ : ByteArray) (⟨#[]⟩ : ByteArray) t333 t336 t337 t338 _ ?side1 ?side2 A59.out).mono ?_); (case side1 => repeat (first|exact (Kd.R_reads' HO_327000.out).2.2|(with_reducible refine Kd.C_alloc ?_ _)|(with_reducible refine Kd.C_drewN ?_ _)|(with_reducible refine Kd.C_drew ?_))); (case side2 => exact (Kd.R_reads' HO_327000.out).2.1); rintro e w64 ⟨v334, rfl, ho0, hb⟩; refine ⟨_, rfl, ?_⟩; have n0_ := Aside0.mk (Kd.R_elder' (by (with_reducible repeat (first|apply zE|apply zD|apply zF)); exact HO_312000.out) (Kd.R_base ho0) hb); have n1_ := Aside0.mk (Kd.R_elder' (by (with_reducible repeat (first|apply zE|apply zD|apply zF)); exact HO_327000.out) (Kd.R_base ho0) hb); have n2_ := Aside0.mk (Kd.R_lower (Kd.R_new' (Kd.R_new' ho0 (Kd.R_lt (by (with_reducible repeat (first|apply zE|apply zD|apply zF)); exact HO_312000.out))) (Kd.R_lt (by (with_reducible repeat (first|apply zE|apply zD|apply zF)); exact HO_327000.out))) (below_size (by repeat (first|(with_reducible first|exact HB.out|apply zI|apply zG|apply zH|refine zJ ?_ GE311.out|refine zJ ?_ GE326.out)|exact HB.out)))); have n3_ := Aside0.mk (zK (g := gb311) (o := .cells #[.slice Ao7 t305.length co7, .int .i64 t308] 65 (0, 0)) (by (with_reducible repeat (first|refine zA ?_ _|refine zC ?_|refine zB ?_ _)); exact BK311.out) hb); have n4_ := Aside0.mk (zK (g := gb326) (o := .cells #[.slice Ao21 t321.length co21, .int .i64 t324] 65 (0, 0)) (by (with_reducible repeat (first|refine zA ?_ _|refine zC ?_|refine zB ?_ _)); exact BK326.out) hb); have n5_ := Aside0.mk (zN (by repeat (first|(with_reducible first|exact HB.out|apply zI|apply zG|apply zH|refine zJ ?_ GE311.out|refine zJ ?_ GE326.out)|exact HB.out)) hb); clear HO_312000; clear HO_327000; clear BK311; clear BK326; clear HB; have HO_312000 := n0_; have HO_327000 := n1_; have HO335 := n2_; have BK311 := n3_; have BK326 := n4_; have HB := n5_; clear n0_ n1_ n2_ n3_ n4_ n5_; (try clear hb); (try clear hb2); (try clear hk); (try clear hi); (try clear ho0))|((with_reducible refine gate_dst (N := 11) rfl ?_); refine box_event ?hg (N := 11) ?hd (cs := #[.slice none 0 0, .int .i64 0]) (t := 65) ?hr ?_; (case hd => rfl); (case hg => rfl); (case hr => first|(go_simp; done)|(go_simp; rfl)); intro gb339 hg w65 hbox hb; have n0_ := Aside0.mk (zM (by (with_reducible repeat (first|apply zE|apply zD|apply zF)); exact HO_312000.out) hb); have n1_ := Aside0.mk (zM (by (with_reducible repeat (first|apply zE|apply zD|apply zF)); exact HO_327000.out) hb); have n2_ := Aside0.mk (zM (by (with_reducible repeat (first|apply zE|apply zD|apply zF)); exact HO335.out) hb); have n3_ := Aside0.mk (zK (g := gb311) (o := .cells #[.slice Ao7 t305.length co7, .int .i64 t308] 65 (0, 0)) (by (with_reducible repeat (first|refine zA ?_ _|refine zC ?_|refine zB ?_ _)); exact BK311.out) hb); have n4_ := Aside0.mk (zK (g := gb326) (o := .cells #[.slice Ao21 t321.length co21, .int .i64 t324] 65 (0, 0)) (by (with_reducible repeat (first|refine zA ?_ _|refine zC ?_|refine zB ?_ _)); exact BK326.out) hb); have n5_ := Aside0.mk (zN (by repeat (first|(with_reducible first|exact HB.out|apply zI|apply zG|apply zH|refine zJ ?_ GE311.out|refine zJ ?_ GE326.out)|exact HB.out)) hb); have n6_ := Aside0.mk (hbox); have n7_ := Aside0.mk ((by rw [hg]; exact (below_size (by repeat (first|(with_reducible first|exact HB.out|apply zI|apply zG|apply zH|refine zJ ?_ GE311.out|refine zJ ?_ GE326.out)|exact HB.out))) : w.heap.size ≤ gb339)); have n8_ := Aside0.mk ((by rw [hg]; exact (below_size (by repeat (first|(with_reducible first|exact HB.out|apply zI|apply zG|apply zH|refine zJ ?_ GE311.out|refine zJ ?_ GE326.out)|exact HB.out))) : w.heap.size ≤ gb339)); have n9_ := Aside0.mk ((by rw [hg]; exact Nat.ne_of_lt (blk_lt (g := gb311) (o := .cells #[.slice Ao7 t305.length co7, .int .i64 t308] 65 (0, 0)) (by (with_reducible repeat (first|refine zA ?_ _|refine zC ?_|refine zB ?_ _)); exact BK311.out)) : gb311 ≠ gb339)); have n10_ := Aside0.mk ((by rw [hg]; exact Nat.ne_of_gt (blk_lt (g := gb311) (o := .cells #[.slice Ao7 t305.length co7, .int .i64 t308] 65 (0, 0)) (by (with_reducible repeat (first|refine zA ?_ _|refine zC ?_|refine zB ?_ _)); exact BK311.out)) : gb339 ≠ gb311)); have n11_ := Aside0.mk ((by rw [hg]; exact Nat.ne_of_lt (blk_lt (g := gb326) (o := .cells #[.slice Ao21 t321.length co21, .int .i64 t324] 65 (0, 0)) (by (with_reducible repeat (first|refine zA ?_ _|refine zC ?_|refine zB ?_ _)); exact BK326.out)) : gb326 ≠ gb339)); have n12_ := Aside0.mk ((by rw [hg]; exact Nat.ne_of_gt (blk_lt (g := gb326) (o := .cells #[.slice Ao21 t321.length co21, .int .i64 t324] 65 (0, 0)) (by (with_reducible repeat (first|refine zA ?_ _|refine zC ?_|refine zB ?_ _)); exact BK326.out)) : gb339 ≠ gb326)); clear HO_312000; clear HO_327000; clear HO335; clear BK311; clear BK326; clear HB; have HO_312000 := n0_; have HO_327000 := n1_; have HO335 := n2_; have BK311 := n3_; have BK326 := n4_; have HB := n5_; have BK339 := n6_; have GW339 := n7_; have GE339 := n8_; have NB311_339 := n9_; have NB339_311 := n10_; have NB326_339 := n11_; have NB339_326 := n12_; clear n0_ n1_ n2_ n3_ n4_ n5_ n6_ n7_ n8_ n9_ n10_ n11_ n12_; clear hb hbox hg; obtain ⟨Ao66, co66, eo66⟩ := Kd.R_slice HO335.out; subst eo66; have hnb67 := NB339_311.out; have hnc67 := NB311_339.out; have hnb68 := NB339_326.out; have hnc68 := NB326_339.out; obtain ⟨hcz69_0, hcz69_1, hfz69_0, hfz69_1⟩ := zb2 BK339.out))
                        (try simp only [Act.put, List.setIfInBounds_toArray, List.set_cons_zero, List.set_cons_succ])
                        go_cut [116] (fun v116 wc => ∃ (kq : Nat) (x116_59 : Bool), v116 = .bool x116_59 ∧ Aside0 (laws_FnLifts.j3 kq x6_1 t320 x116_59 t305 t308 t321 t324 = some r) ∧ Aside0 (kq ≤ k3) ∧ Aside0 (Kd.R k81 81 wc w.heap.size (fun k_ => some k_ ≠ ((.slice Ao21 t321.length co21) : Value).ownBlock ∧ some k_ ≠ ((.slice Ao66 t333.length co66) : Value).ownBlock) (.slice Ao7 t305.length co7) t305) ∧ Aside0 (Kd.R k81 81 wc w.heap.size (fun k_ => some k_ ≠ ((.slice Ao7 t305.length co7) : Value).ownBlock ∧ some k_ ≠ ((.slice Ao66 t333.length co66) : Value).ownBlock) (.slice Ao21 t321.length co21) t321) ∧ Aside0 (Kd.R k81 81 wc w.heap.size (fun k_ => some k_ ≠ ((.slice Ao7 t305.length co7) : Value).ownBlock ∧ some k_ ≠ ((.slice Ao21 t321.length co21) : Value).ownBlock) (.slice Ao66 t333.length co66) t333) ∧ Aside0 (wc.heap[gb311]? = some (.cells #[(.slice Ao7 t305.length co7), .int .i64 t308] 65 (0, 0))) ∧ Aside0 (wc.heap[gb326]? = some (.cells #[(.slice Ao21 t321.length co21), .int .i64 t324] 65 (0, 0))) ∧ Aside0 (wc.heap[gb339]? = some (.cells #[(.slice Ao66 t333.length co66), .int .i64 t336] 65 (0, 0))) ∧ Aside0 (Below w.heap.size w wc))
                        case first =>
                          have H := HC60.out
                          clear HC60
                          by_cases c70 : t338 = true
                          · subst c70
                            have H1 : (if (Int.tmod t337 24) = x6_1 then (if 0 ≤ x6_1 then (if x6_1 < (t333.length : Int) then (laws_FnLifts.j3 k3 x6_1 t320 (!((rd_T81 t333 x6_1).f1)) t305 t308 t321 t324) else (none)) else (none)) else (laws_FnLifts.j3 k3 x6_1 t320 true t305 t308 t321 t324)) = some r := by rw [if_pos rfl] at H; exact H
                            clear H
                            have H := H1
                            clear H1
                            by_cases c71 : (Int.tmod t337 24) = x6_1
                            · rw [if_pos c71] at H
                              have c71b0 : ((Int.tmod t337 24) == x6_1) = true := beq_iff_eq.mpr c71
                              have c71b1 : ((Int.tmod t337 24) != x6_1) = false := bne_eq_false_iff_eq.mpr c71
                              clear c71
                              (first|rw [c71b0]|(simp only [i64_w, i32_w]; rw [c71b0])|skip)
                              by_cases c72 : 0 ≤ x6_1
                              · rw [if_pos c72] at H
                                have c72b0 : decide (0 ≤ x6_1) = true := decide_eq_true c72
                                clear c72
                                by_cases c73 : x6_1 < (t333.length : Int)
                                · rw [if_pos c73] at H
                                  have c73b0 : decide (x6_1 < (t333.length : Int)) = true := decide_eq_true c73
                                  clear c73
                                  have H' := Aside0.mk H
                                  clear H
                                  have hnb74 := NB339_311.out
                                  have hnc74 := NB311_339.out
                                  have hnb75 := NB339_326.out
                                  have hnc75 := NB326_339.out
                                  obtain ⟨hcz76_0, hcz76_1, hfz76_0, hfz76_1⟩ := zb2 BK339.out
                                  have p340 : 0 ≤ (x6_1 : Int) := of_decide_eq_true (by first|(with_reducible assumption)|assumption)
                                  have q340 : x6_1 < (t333.length : Int) := of_decide_eq_true (by first|(with_reducible assumption)|assumption)
                                  obtain ⟨ad340, e340, hx340_0, hx340_1, hx340_2, hx340_3, hx340_4⟩ := at_T81 (Kd.R_reads' HO335.out).2.2 x6_1 p340 q340
                                  cases e340
                                  have hn340_0 : ad340.block ≠ gb339 := Kd.own_blk (Kd.R_ne HO335.out BK339.out (by decide))
                                  have hn340_1 : ad340.block ≠ gb339 := Kd.own_blk (Kd.R_ne HO335.out BK339.out (by decide))
                                  replace hx340_0 := (cell_far (p := ⟨gb339, 0, none⟩) (by first|(rw [add_block]; exact hn340_0)|(show (Addr.add _ _).block ≠ _; rw [add_block]; exact hn340_0)|exact hn340_0) (.slice (some ad340) t333.length co66)).trans hx340_0
                                  replace hx340_1 := (cell_far (p := ⟨gb339, 0, none⟩) (by first|(rw [add_block]; exact hn340_0)|(show (Addr.add _ _).block ≠ _; rw [add_block]; exact hn340_0)|exact hn340_0) (.slice (some ad340) t333.length co66)).trans hx340_1
                                  replace hx340_2 := (cell_far (p := ⟨gb339, 0, none⟩) (by first|(rw [add_block]; exact hn340_0)|(show (Addr.add _ _).block ≠ _; rw [add_block]; exact hn340_0)|exact hn340_0) (.slice (some ad340) t333.length co66)).trans hx340_2
                                  replace hx340_3 := (cell_far (p := ⟨gb339, 0, none⟩) (by first|(rw [add_block]; exact hn340_0)|(show (Addr.add _ _).block ≠ _; rw [add_block]; exact hn340_0)|exact hn340_0) (.slice (some ad340) t333.length co66)).trans hx340_3
                                  replace hx340_4 := (cell_far (p := ⟨gb339, 0, none⟩) (by first|(rw [add_block]; exact hn340_0)|(show (Addr.add _ _).block ≠ _; rw [add_block]; exact hn340_0)|exact hn340_0) (.slice (some ad340) t333.length co66)).trans hx340_4
                                  replace hx340_0 := (cell_far (p := ⟨gb339, 1, none⟩) (by first|(rw [add_block]; exact hn340_1)|(show (Addr.add _ _).block ≠ _; rw [add_block]; exact hn340_1)|exact hn340_1) (.int .i64 t336)).trans hx340_0
                                  replace hx340_1 := (cell_far (p := ⟨gb339, 1, none⟩) (by first|(rw [add_block]; exact hn340_1)|(show (Addr.add _ _).block ≠ _; rw [add_block]; exact hn340_1)|exact hn340_1) (.int .i64 t336)).trans hx340_1
                                  replace hx340_2 := (cell_far (p := ⟨gb339, 1, none⟩) (by first|(rw [add_block]; exact hn340_1)|(show (Addr.add _ _).block ≠ _; rw [add_block]; exact hn340_1)|exact hn340_1) (.int .i64 t336)).trans hx340_2
                                  replace hx340_3 := (cell_far (p := ⟨gb339, 1, none⟩) (by first|(rw [add_block]; exact hn340_1)|(show (Addr.add _ _).block ≠ _; rw [add_block]; exact hn340_1)|exact hn340_1) (.int .i64 t336)).trans hx340_3
                                  replace hx340_4 := (cell_far (p := ⟨gb339, 1, none⟩) (by first|(rw [add_block]; exact hn340_1)|(show (Addr.add _ _).block ≠ _; rw [add_block]; exact hn340_1)|exact hn340_1) (.int .i64 t336)).trans hx340_4
                                  clear hn340_0
                                  clear hn340_1
                                  replace p340 := eq_true p340
                                  replace q340 := eq_true q340
                                  go_wp2
                                  go_meet
                                  case rel => exact ⟨_, (!((rd_T81 t333 x6_1).f1)), (by first|rfl|(simp; done)|(simp [*]; done)), H', ⟨by have := HK1.out; have := HJ14.out; have := HK3.out; first|omega|exact Nat.le_refl _⟩, ⟨by (with_reducible repeat (first|apply zE|apply zD|apply zF)); exact zR (zL (p := ⟨gb339, 1, none⟩) (zL (p := ⟨gb339, 0, none⟩) (zQ HO_312000.out BK339.out (by decide)) (fun _ hk => hk.2) (.slice (some ad340) t333.length co66)) (fun _ hk => hk.2) (.int .i64 t336)) (fun _ hk => ⟨hk.1.1, hk.1.2⟩)⟩, ⟨by (with_reducible repeat (first|apply zE|apply zD|apply zF)); exact zR (zL (p := ⟨gb339, 1, none⟩) (zL (p := ⟨gb339, 0, none⟩) (zQ HO_327000.out BK339.out (by decide)) (fun _ hk => hk.2) (.slice (some ad340) t333.length co66)) (fun _ hk => hk.2) (.int .i64 t336)) (fun _ hk => ⟨hk.1.1, hk.1.2⟩)⟩, ⟨by (with_reducible repeat (first|apply zE|apply zD|apply zF)); exact zR (zL (p := ⟨gb339, 1, none⟩) (zL (p := ⟨gb339, 0, none⟩) (zQ HO335.out BK339.out (by decide)) (fun _ hk => hk.2) (.slice (some ad340) t333.length co66)) (fun _ hk => hk.2) (.int .i64 t336)) (fun _ hk => ⟨hk.1.1.2, hk.1.2⟩)⟩, ⟨by (with_reducible repeat (first|refine zA ?_ _|refine zC ?_|refine zB ?_ _)); refine zT ?_ NB311_339.out _; (with_reducible repeat (first|refine zA ?_ _|refine zC ?_|refine zB ?_ _)); refine zT ?_ NB311_339.out _; (with_reducible repeat (first|refine zA ?_ _|refine zC ?_|refine zB ?_ _)); exact BK311.out⟩, ⟨by (with_reducible repeat (first|refine zA ?_ _|refine zC ?_|refine zB ?_ _)); refine zT ?_ NB326_339.out _; (with_reducible repeat (first|refine zA ?_ _|refine zC ?_|refine zB ?_ _)); refine zT ?_ NB326_339.out _; (with_reducible repeat (first|refine zA ?_ _|refine zC ?_|refine zB ?_ _)); exact BK326.out⟩, ⟨by (with_reducible repeat (first|refine zA ?_ _|refine zC ?_|refine zB ?_ _)); refine blk_put (cs := #[.slice (some ad340) t333.length co66, .int .i64 0]) ?_ 1 _ rfl; (with_reducible repeat (first|refine zA ?_ _|refine zC ?_|refine zB ?_ _)); refine blk_put (cs := #[.slice none 0 0, .int .i64 0]) ?_ 0 _ rfl; (with_reducible repeat (first|refine zA ?_ _|refine zC ?_|refine zB ?_ _)); exact BK339.out⟩, ⟨by repeat (first|(with_reducible first|exact HB.out|apply zI|apply zG|apply zH|refine zJ ?_ GE311.out|refine zJ ?_ GE326.out|refine zJ ?_ GE339.out)|exact HB.out)⟩⟩
                                · rw [if_neg c73] at H
                                  exact absurd H (by simp)
                              · rw [if_neg c72] at H
                                exact absurd H (by simp)
                            · rw [if_neg c71] at H
                              have c71b0 : ((Int.tmod t337 24) == x6_1) = false := beq_eq_false_iff_ne.mpr c71
                              have c71b1 : ((Int.tmod t337 24) != x6_1) = true := bne_iff_ne.mpr c71
                              (first|rw [c71b0]|(simp only [i64_w, i32_w]; rw [c71b0])|skip)
                              exact absurd ((laws_FnLifts.j3_bad H).symm.trans HTr_.out) (by simp)
                          · replace c70 := Bool.eq_false_iff.mpr c70
                            subst c70
                            have H1 : (laws_FnLifts.j3 k3 x6_1 t320 true t305 t308 t321 t324) = some r := by rw [if_neg (show ¬ (false = true) by decide)] at H; exact H
                            clear H
                            have H := H1
                            clear H1
                            exact absurd ((laws_FnLifts.j3_bad H).symm.trans HTr_.out) (by simp)
                        case rest =>
                          clear HC60
                          try clear p2
                          try clear c3
                          try clear p3
                          try clear q3
                          try clear hx3
                          try clear c4
                          try clear c5
                          try clear c6
                          try clear p6
                          try clear c7
                          try clear c30
                          try clear c30b0
                          try clear p32
                          try clear q32
                          try clear hx32
                          try clear p34
                          try clear q34
                          try clear hx34
                          try clear c35
                          try clear q36
                          try clear c37
                          try clear c38
                          try clear c46
                          try clear c55
                          try clear c56
                          try clear c61
                          try clear p64
                          try clear c67
                          try clear c68
                          try clear c70
                          try clear c71
                          try clear c71b0
                          try clear c71b1
                          try clear c72
                          try clear c72b0
                          try clear c73
                          try clear c73b0
                          try clear c74
                          try clear c75
                          try clear hcz57_0
                          try clear hcz57_1
                          try clear hcz62_0
                          try clear hcz62_1
                          try clear hcz63_0
                          try clear hcz63_1
                          try clear hcz69_0
                          try clear hcz69_1
                          try clear hcz76_0
                          try clear hcz76_1
                          try clear hfz57_0
                          try clear hfz57_1
                          try clear hfz62_0
                          try clear hfz62_1
                          try clear hfz63_0
                          try clear hfz63_1
                          try clear hfz69_0
                          try clear hfz69_1
                          try clear hfz76_0
                          try clear hfz76_1
                          try clear hx328_0
                          try clear hx328_1
                          try clear hx328_2
                          try clear hx328_3
                          try clear hx328_4
                          try clear hx340_0
                          try clear hx340_1
                          try clear hx340_2
                          try clear hx340_3
                          try clear hx340_4
                          try clear p328
                          try clear p340
                          try clear q328
                          try clear q340
                          obtain ⟨kq, x116_59, rfl, HA, HJ59, HO_312000, HO_327000, HO_340000, BK311, BK326, BK339, HB⟩ := hcut
                          cases kq with
                         |zero => exact absurd HA.out (by simp [laws_FnLifts.j3])
                         |succ kj59 =>
                            have H := HA.out
                            clear HA
                            simp only [laws_FnLifts.j3] at H
                            by_cases c77 : x116_59 = true
                            · subst c77
                              have H1 : (some false) = some r := by rw [if_pos rfl] at H; exact H
                              clear H
                              have H := H1
                              clear H1
                              exact absurd ((Option.some.inj H).trans HTr_.out) (by simp)
                            · replace c77 := Bool.eq_false_iff.mpr c77
                              subst c77
                              have H1 : ((impl_Lift.f kj59 t321 t324 t320).bind fun bt341 => (if bt341.2.2 = true then (some false) else (laws_FnLifts.l0 kj59 (wrap64 (x6_1 + 1)) t305 t308))) = some r := by rw [if_neg (show ¬ (false = true) by decide)] at H; exact H
                              clear H
                              have H := H1
                              clear H1
                              replace H := Option.bind_eq_some_iff.mp H
                              obtain ⟨⟨t341, t344, t345⟩, A780, H⟩ := H
                              replace H : (if t345 = true then (some false) else (laws_FnLifts.l0 kj59 (wrap64 (x6_1 + 1)) t305 t308)) = some r := H
                              have A78 := Aside0.mk A780
                              clear A780
                              by_cases c79 : t345 = true
                              · subst c79
                                have H1 : (some false) = some r := by rw [if_pos rfl] at H; exact H
                                clear H
                                have H := H1
                                clear H1
                                exact absurd ((Option.some.inj H).trans HTr_.out) (by simp)
                              · replace c79 := Bool.eq_false_iff.mpr c79
                                subst c79
                                have H1 : (laws_FnLifts.l0 kj59 (wrap64 (x6_1 + 1)) t305 t308) = some r := by rw [if_neg (show ¬ (false = true) by decide)] at H; exact H
                                clear H
                                have H := H1
                                clear H1
                                have H' := Aside0.mk H
                                clear H
                                have hnb90 := NB326_311.out
                                have hnc90 := NB311_326.out
                                have hnb91 := NB326_339.out
                                have hnc91 := NB339_326.out
                                obtain ⟨hcz92_0, hcz92_1, hfz92_0, hfz92_1⟩ := zb2 BK326.out
                                go_wp2_with (first|((with_reducible refine gate_callee (f := 54) rfl ?_); refine goesL_ (some 120) rfl rfl Try.func54 (by kernel_rfl) rfl #[.agg #[.slice Ao21 t321.length co21, .int .i64 t324], .int .i64 t320] rfl (by (try simp only [List.map_toArray, List.map_cons, List.map_nil]); first|done|rfl|(simp only [List.length_drop, List.length_take]; rfl)) ?_; (with_reducible refine (impl_Lift.calls kj59 _ _ t321 t324 t320 t341 t344 false _ ?side1 ?side2 A78.out).mono ?_); (case side1 => repeat (first|exact (Kd.R_reads' HO_327000.out).2.2|(with_reducible refine Kd.C_alloc ?_ _)|(with_reducible refine Kd.C_drewN ?_ _)|(with_reducible refine Kd.C_drew ?_))); (case side2 => exact (Kd.R_reads' HO_327000.out).2.1); rintro e w93 ⟨v342, rfl, ho0, hb⟩; refine ⟨_, rfl, ?_⟩; have n0_ := Aside0.mk (Kd.R_elder' (by (with_reducible repeat (first|apply zE|apply zD|apply zF)); exact HO_312000.out) (Kd.R_base ho0) hb); have n1_ := Aside0.mk (Kd.R_elder' (by (with_reducible repeat (first|apply zE|apply zD|apply zF)); exact HO_327000.out) (Kd.R_base ho0) hb); have n2_ := Aside0.mk (Kd.R_elder' (by (with_reducible repeat (first|apply zE|apply zD|apply zF)); exact HO_340000.out) (Kd.R_base ho0) hb); have n3_ := Aside0.mk (Kd.R_lower (Kd.R_new' (Kd.R_new' (Kd.R_new' ho0 (Kd.R_lt (by (with_reducible repeat (first|apply zE|apply zD|apply zF)); exact HO_312000.out))) (Kd.R_lt (by (with_reducible repeat (first|apply zE|apply zD|apply zF)); exact HO_327000.out))) (Kd.R_lt (by (with_reducible repeat (first|apply zE|apply zD|apply zF)); exact HO_340000.out))) (below_size (by repeat (first|(with_reducible first|exact HB.out|apply zI|apply zG|apply zH|refine zJ ?_ GE311.out|refine zJ ?_ GE326.out|refine zJ ?_ GE339.out)|exact HB.out)))); have n4_ := Aside0.mk (zK (g := gb311) (o := .cells #[.slice Ao7 t305.length co7, .int .i64 t308] 65 (0, 0)) (by (with_reducible repeat (first|refine zA ?_ _|refine zC ?_|refine zB ?_ _)); exact BK311.out) hb); have n5_ := Aside0.mk (zK (g := gb326) (o := .cells #[.slice Ao21 t321.length co21, .int .i64 t324] 65 (0, 0)) (by (with_reducible repeat (first|refine zA ?_ _|refine zC ?_|refine zB ?_ _)); exact BK326.out) hb); have n6_ := Aside0.mk (zK (g := gb339) (o := .cells #[.slice Ao66 t333.length co66, .int .i64 t336] 65 (0, 0)) (by (with_reducible repeat (first|refine zA ?_ _|refine zC ?_|refine zB ?_ _)); exact BK339.out) hb); have n7_ := Aside0.mk (zN (by repeat (first|(with_reducible first|exact HB.out|apply zI|apply zG|apply zH|refine zJ ?_ GE311.out|refine zJ ?_ GE326.out|refine zJ ?_ GE339.out)|exact HB.out)) hb); clear HO_312000; clear HO_327000; clear HO_340000; clear BK311; clear BK326; clear BK339; clear HB; have HO_312000 := n0_; have HO_327000 := n1_; have HO_340000 := n2_; have HO343 := n3_; have BK311 := n4_; have BK326 := n5_; have BK339 := n6_; have HB := n7_; clear n0_ n1_ n2_ n3_ n4_ n5_ n6_ n7_; (try clear hb); (try clear hb2); (try clear hk); (try clear hi); (try clear ho0))|((with_reducible refine gate_dst (N := 14) rfl ?_); refine box_event ?hg (N := 14) ?hd (cs := #[.slice none 0 0, .int .i64 0]) (t := 65) ?hr ?_; (case hd => rfl); (case hg => rfl); (case hr => first|(go_simp; done)|(go_simp; rfl)); intro gb346 hg w94 hbox hb; have n0_ := Aside0.mk (zM (by (with_reducible repeat (first|apply zE|apply zD|apply zF)); exact HO_312000.out) hb); have n1_ := Aside0.mk (zM (by (with_reducible repeat (first|apply zE|apply zD|apply zF)); exact HO_327000.out) hb); have n2_ := Aside0.mk (zM (by (with_reducible repeat (first|apply zE|apply zD|apply zF)); exact HO_340000.out) hb); have n3_ := Aside0.mk (zM (by (with_reducible repeat (first|apply zE|apply zD|apply zF)); exact HO343.out) hb); have n4_ := Aside0.mk (zK (g := gb311) (o := .cells #[.slice Ao7 t305.length co7, .int .i64 t308] 65 (0, 0)) (by (with_reducible repeat (first|refine zA ?_ _|refine zC ?_|refine zB ?_ _)); exact BK311.out) hb); have n5_ := Aside0.mk (zK (g := gb326) (o := .cells #[.slice Ao21 t321.length co21, .int .i64 t324] 65 (0, 0)) (by (with_reducible repeat (first|refine zA ?_ _|refine zC ?_|refine zB ?_ _)); exact BK326.out) hb); have n6_ := Aside0.mk (zK (g := gb339) (o := .cells #[.slice Ao66 t333.length co66, .int .i64 t336] 65 (0, 0)) (by (with_reducible repeat (first|refine zA ?_ _|refine zC ?_|refine zB ?_ _)); exact BK339.out) hb); have n7_ := Aside0.mk (zN (by repeat (first|(with_reducible first|exact HB.out|apply zI|apply zG|apply zH|refine zJ ?_ GE311.out|refine zJ ?_ GE326.out|refine zJ ?_ GE339.out)|exact HB.out)) hb); have n8_ := Aside0.mk (hbox); have n9_ := Aside0.mk ((by rw [hg]; exact (below_size (by repeat (first|(with_reducible first|exact HB.out|apply zI|apply zG|apply zH|refine zJ ?_ GE311.out|refine zJ ?_ GE326.out|refine zJ ?_ GE339.out)|exact HB.out))) : w.heap.size ≤ gb346)); have n10_ := Aside0.mk ((by rw [hg]; exact (below_size (by repeat (first|(with_reducible first|exact HB.out|apply zI|apply zG|apply zH|refine zJ ?_ GE311.out|refine zJ ?_ GE326.out|refine zJ ?_ GE339.out)|exact HB.out))) : w.heap.size ≤ gb346)); have n11_ := Aside0.mk ((by rw [hg]; exact Nat.ne_of_lt (blk_lt (g := gb311) (o := .cells #[.slice Ao7 t305.length co7, .int .i64 t308] 65 (0, 0)) (by (with_reducible repeat (first|refine zA ?_ _|refine zC ?_|refine zB ?_ _)); exact BK311.out)) : gb311 ≠ gb346)); have n12_ := Aside0.mk ((by rw [hg]; exact Nat.ne_of_gt (blk_lt (g := gb311) (o := .cells #[.slice Ao7 t305.length co7, .int .i64 t308] 65 (0, 0)) (by (with_reducible repeat (first|refine zA ?_ _|refine zC ?_|refine zB ?_ _)); exact BK311.out)) : gb346 ≠ gb311)); have n13_ := Aside0.mk ((by rw [hg]; exact Nat.ne_of_lt (blk_lt (g := gb326) (o := .cells #[.slice Ao21 t321.length co21, .int .i64 t324] 65 (0, 0)) (by (with_reducible repeat (first|refine zA ?_ _|refine zC ?_|refine zB ?_ _)); exact BK326.out)) : gb326 ≠ gb346)); have n14_ := Aside0.mk ((by rw [hg]; exact Nat.ne_of_gt (blk_lt (g := gb326) (o := .cells #[.slice Ao21 t321.length co21, .int .i64 t324] 65 (0, 0)) (by (with_reducible repeat (first|refine zA ?_ _|refine zC ?_|refine zB ?_ _)); exact BK326.out)) : gb346 ≠ gb326)); have n15_ := Aside0.mk ((by rw [hg]; exact Nat.ne_of_lt (blk_lt (g := gb339) (o := .cells #[.slice Ao66 t333.length co66, .int .i64 t336] 65 (0, 0)) (by (with_reducible repeat (first|refine zA ?_ _|refine zC ?_|refine zB ?_ _)); exact BK339.out)) : gb339 ≠ gb346)); have n16_ := Aside0.mk ((by rw [hg]; exact Nat.ne_of_gt (blk_lt (g := gb339) (o := .cells #[.slice Ao66 t333.length co66, .int .i64 t336] 65 (0, 0)) (by (with_reducible repeat (first|refine zA ?_ _|refine zC ?_|refine zB ?_ _)); exact BK339.out)) : gb346 ≠ gb339)); clear HO_312000; clear HO_327000; clear HO_340000; clear HO343; clear BK311; clear BK326; clear BK339; clear HB; have HO_312000 := n0_; have HO_327000 := n1_; have HO_340000 := n2_; have HO343 := n3_; have BK311 := n4_; have BK326 := n5_; have BK339 := n6_; have HB := n7_; have BK346 := n8_; have GW346 := n9_; have GE346 := n10_; have NB311_346 := n11_; have NB346_311 := n12_; have NB326_346 := n13_; have NB346_326 := n14_; have NB339_346 := n15_; have NB346_339 := n16_; clear n0_ n1_ n2_ n3_ n4_ n5_ n6_ n7_ n8_ n9_ n10_ n11_ n12_ n13_ n14_ n15_ n16_; clear hb hbox hg; obtain ⟨Ao95, co95, eo95⟩ := Kd.R_slice HO343.out; subst eo95; have hnb96 := NB346_311.out; have hnc96 := NB311_346.out; have hnb97 := NB346_326.out; have hnc97 := NB326_346.out; have hnb98 := NB346_339.out; have hnc98 := NB339_346.out; obtain ⟨hcz99_0, hcz99_1, hfz99_0, hfz99_1⟩ := zb2 BK346.out))
                                go_roundg kj59
                                case measure => have := HK1.out; have := HJ14.out; have := HK3.out; have := HJ59.out; omega
                                case rel => exact ⟨(wrap64 (x6_1 + 1)), (by first|rfl|(simp; done)|(simp [*]; done)), H', ⟨by have := HK1.out; have := HJ14.out; have := HK3.out; have := HJ59.out; omega⟩, ⟨by (with_reducible repeat (first|apply zE|apply zD|apply zF)); exact zR (zL (p := ⟨gb346, 1, none⟩) (zL (p := ⟨gb346, 0, none⟩) (zQ HO_312000.out BK346.out (by decide)) (fun _ hk => hk.2) (.slice Ao95 t341.length co95)) (fun _ hk => hk.2) (.int .i64 t344)) (fun _ hk => trivial)⟩, ⟨by (with_reducible repeat (first|refine zA ?_ _|refine zC ?_|refine zB ?_ _)); refine zT ?_ NB311_346.out _; (with_reducible repeat (first|refine zA ?_ _|refine zC ?_|refine zB ?_ _)); refine zT ?_ NB311_346.out _; (with_reducible repeat (first|refine zA ?_ _|refine zC ?_|refine zB ?_ _)); exact BK311.out⟩, ⟨by repeat (first|(with_reducible first|exact HB.out|apply zI|apply zG|apply zH|refine zJ ?_ GE311.out|refine zJ ?_ GE326.out|refine zJ ?_ GE339.out|refine zJ ?_ GE346.out)|exact HB.out)⟩⟩
        · rw [if_neg c9] at H
          have c9b0 : decide (x6_1 < (t305.length : Int)) = false := decide_eq_false c9
          clear c9
          replace H := Option.bind_eq_some_iff.mp H
          obtain ⟨⟨t312, t315, t316⟩, A1000, H⟩ := H
          replace H : (if t316 = true then ((impl_UsedOf.f k1 t312 t315).bind fun t318 => (if t318 = 0 then ((impl_ArenaOk.f k1 t312 t315).bind fun t319 => (some t319)) else (some false))) else (some false)) = some r := H
          have A100 := Aside0.mk A1000
          clear A1000
          by_cases c101 : t316 = true
          · subst c101
            have H1 : ((impl_UsedOf.f k1 t312 t315).bind fun t318 => (if t318 = 0 then ((impl_ArenaOk.f k1 t312 t315).bind fun t319 => (some t319)) else (some false))) = some r := by rw [if_pos rfl] at H; exact H
            clear H
            have H := H1
            clear H1
            replace H := Option.bind_eq_some_iff.mp H
            obtain ⟨t318, A1020, H⟩ := H
            replace H : (if t318 = 0 then ((impl_ArenaOk.f k1 t312 t315).bind fun t319 => (some t319)) else (some false)) = some r := H
            have A102 := Aside0.mk A1020
            clear A1020
            by_cases c103 : t318 = 0
            · rw [if_pos c103] at H
              have c103b0 : (t318 == 0) = true := beq_iff_eq.mpr c103
              have c103b1 : (t318 != 0) = false := bne_eq_false_iff_eq.mpr c103
              clear c103
              replace H := Option.bind_eq_some_iff.mp H
              obtain ⟨t319, A1040, H⟩ := H
              replace H : (some t319) = some r := H
              have A104 := Aside0.mk A1040
              clear A1040
              obtain rfl := Option.some.inj H
              obtain ⟨hcz105_0, hcz105_1, hfz105_0, hfz105_1⟩ := zb2 BK311.out
              go_wp2_with (first|((with_reducible refine gate_callee (f := 56) rfl ?_); refine goesL_ (some 128) rfl rfl Try.func56 (by kernel_rfl) rfl #[.int .i64 (t305.length : Int)] rfl (by (try simp only [List.map_toArray, List.map_cons, List.map_nil]); first|done|rfl|(simp only [List.length_drop, List.length_take]; rfl)) ?_; (with_reducible refine (impl_ArenaNew.calls k1 (t305.length : Int) t312 t315 true _ A100.out).mono ?_); rintro e w106 ⟨v313, rfl, ho0, hb⟩; refine ⟨_, rfl, ?_⟩; have n0_ := Aside0.mk (Kd.R_elder' (by (with_reducible repeat (first|apply zE|apply zD|apply zF)); exact HO_312000.out) (Kd.R_base ho0) hb); have n1_ := Aside0.mk (Kd.R_lower (Kd.R_new' ho0 (Kd.R_lt (by (with_reducible repeat (first|apply zE|apply zD|apply zF)); exact HO_312000.out))) (below_size (by repeat (first|(with_reducible first|exact HB.out|apply zI|apply zG|apply zH|refine zJ ?_ GE311.out)|exact HB.out)))); have n2_ := Aside0.mk (zK (g := gb311) (o := .cells #[.slice Ao7 t305.length co7, .int .i64 t308] 65 (0, 0)) (by (with_reducible repeat (first|refine zA ?_ _|refine zC ?_|refine zB ?_ _)); exact BK311.out) hb); have n3_ := Aside0.mk (zN (by repeat (first|(with_reducible first|exact HB.out|apply zI|apply zG|apply zH|refine zJ ?_ GE311.out)|exact HB.out)) hb); clear HO_312000; clear BK311; clear HB; have HO_312000 := n0_; have HO314 := n1_; have BK311 := n2_; have HB := n3_; clear n0_ n1_ n2_ n3_; (try clear hb); (try clear hb2); (try clear hk); (try clear hi); (try clear ho0))|((with_reducible refine gate_dst (N := 16) rfl ?_); refine box_event ?hg (N := 16) ?hd (cs := #[.slice none 0 0, .int .i64 0]) (t := 65) ?hr ?_; (case hd => rfl); (case hg => rfl); (case hr => first|(go_simp; done)|(go_simp; rfl)); intro gb317 hg w107 hbox hb; have n0_ := Aside0.mk (zM (by (with_reducible repeat (first|apply zE|apply zD|apply zF)); exact HO_312000.out) hb); have n1_ := Aside0.mk (zM (by (with_reducible repeat (first|apply zE|apply zD|apply zF)); exact HO314.out) hb); have n2_ := Aside0.mk (zK (g := gb311) (o := .cells #[.slice Ao7 t305.length co7, .int .i64 t308] 65 (0, 0)) (by (with_reducible repeat (first|refine zA ?_ _|refine zC ?_|refine zB ?_ _)); exact BK311.out) hb); have n3_ := Aside0.mk (zN (by repeat (first|(with_reducible first|exact HB.out|apply zI|apply zG|apply zH|refine zJ ?_ GE311.out)|exact HB.out)) hb); have n4_ := Aside0.mk (hbox); have n5_ := Aside0.mk ((by rw [hg]; exact (below_size (by repeat (first|(with_reducible first|exact HB.out|apply zI|apply zG|apply zH|refine zJ ?_ GE311.out)|exact HB.out))) : w.heap.size ≤ gb317)); have n6_ := Aside0.mk ((by rw [hg]; exact (below_size (by repeat (first|(with_reducible first|exact HB.out|apply zI|apply zG|apply zH|refine zJ ?_ GE311.out)|exact HB.out))) : w.heap.size ≤ gb317)); have n7_ := Aside0.mk ((by rw [hg]; exact Nat.ne_of_lt (blk_lt (g := gb311) (o := .cells #[.slice Ao7 t305.length co7, .int .i64 t308] 65 (0, 0)) (by (with_reducible repeat (first|refine zA ?_ _|refine zC ?_|refine zB ?_ _)); exact BK311.out)) : gb311 ≠ gb317)); have n8_ := Aside0.mk ((by rw [hg]; exact Nat.ne_of_gt (blk_lt (g := gb311) (o := .cells #[.slice Ao7 t305.length co7, .int .i64 t308] 65 (0, 0)) (by (with_reducible repeat (first|refine zA ?_ _|refine zC ?_|refine zB ?_ _)); exact BK311.out)) : gb317 ≠ gb311)); clear HO_312000; clear HO314; clear BK311; clear HB; have HO_312000 := n0_; have HO314 := n1_; have BK311 := n2_; have HB := n3_; have BK317 := n4_; have GW317 := n5_; have GE317 := n6_; have NB311_317 := n7_; have NB317_311 := n8_; clear n0_ n1_ n2_ n3_ n4_ n5_ n6_ n7_ n8_; clear hb hbox hg; obtain ⟨Ao108, co108, eo108⟩ := Kd.R_slice HO314.out; subst eo108; have hnb109 := NB317_311.out; have hnc109 := NB311_317.out; obtain ⟨hcz110_0, hcz110_1, hfz110_0, hfz110_1⟩ := zb2 BK317.out)|(go_at_call 51; (with_reducible refine (impl_UsedOf.calls k1 _ _ t312 t315 t318 _ ?side1 ?side2 A102.out).mono ?_); (case side1 => refine (Kd.R_reads' (e := 81) (base := w.heap.size) (ok := fun k_ => (True ∧ some k_ ≠ (.slice Ao7 t305.length co7 : Value).ownBlock)) (n := t312.length) (c := co108) ?_).2.2; exact (by (with_reducible repeat (first|apply zE|apply zD|apply zF)); exact (zR (zL (p := ⟨gb317, 1, none⟩) (zL (p := ⟨gb317, 0, none⟩) (zQ HO314.out BK317.out (by decide)) (fun _ hk => hk.2) (.slice Ao108 t312.length co108)) (fun _ hk => hk.2) (.int .i64 t315)) (fun _ h_ => h_.1)))); (case side2 => exact (Kd.R_reads' HO314.out).2.1); rintro e w111 ⟨rfl, hb⟩; have n0_ := Aside0.mk (zM (by (with_reducible repeat (first|apply zE|apply zD|apply zF)); exact (zR (zL (p := ⟨gb317, 1, none⟩) (zL (p := ⟨gb317, 0, none⟩) (zQ HO_312000.out BK317.out (by decide)) (fun _ hk => hk.2) (.slice Ao108 t312.length co108)) (fun _ hk => hk.2) (.int .i64 t315)) (fun _ h_ => h_.1))) hb); have n1_ := Aside0.mk (zM (by (with_reducible repeat (first|apply zE|apply zD|apply zF)); exact (zR (zL (p := ⟨gb317, 1, none⟩) (zL (p := ⟨gb317, 0, none⟩) (zQ HO314.out BK317.out (by decide)) (fun _ hk => hk.2) (.slice Ao108 t312.length co108)) (fun _ hk => hk.2) (.int .i64 t315)) (fun _ h_ => h_.1))) hb); have n2_ := Aside0.mk (zK (g := gb311) (o := .cells #[.slice Ao7 t305.length co7, .int .i64 t308] 65 (0, 0)) (by (with_reducible repeat (first|refine zA ?_ _|refine zC ?_|refine zB ?_ _)); refine zT ?_ NB311_317.out _; (with_reducible repeat (first|refine zA ?_ _|refine zC ?_|refine zB ?_ _)); refine zT ?_ NB311_317.out _; (with_reducible repeat (first|refine zA ?_ _|refine zC ?_|refine zB ?_ _)); exact BK311.out) hb); have n3_ := Aside0.mk (zK (g := gb317) (o := .cells #[.slice Ao108 t312.length co108, .int .i64 t315] 65 (0, 0)) (by (with_reducible repeat (first|refine zA ?_ _|refine zC ?_|refine zB ?_ _)); refine blk_put (cs := #[.slice Ao108 t312.length co108, .int .i64 0]) ?_ 1 _ rfl; (with_reducible repeat (first|refine zA ?_ _|refine zC ?_|refine zB ?_ _)); refine blk_put (cs := #[.slice none 0 0, .int .i64 0]) ?_ 0 _ rfl; (with_reducible repeat (first|refine zA ?_ _|refine zC ?_|refine zB ?_ _)); exact BK317.out) hb); have n4_ := Aside0.mk (zN (by repeat (first|(with_reducible first|exact HB.out|apply zI|apply zG|apply zH|refine zJ ?_ GE311.out|refine zJ ?_ GE317.out)|exact HB.out)) hb); clear HO_312000; clear HO314; clear BK311; clear BK317; clear HB; have HO_312000 := n0_; have HO314 := n1_; have BK311 := n2_; have BK317 := n3_; have HB := n4_; clear n0_ n1_ n2_ n3_ n4_; (try clear hb); (try clear hb2); (try clear hk); (try clear hi); obtain ⟨hcz112_0, hcz112_1, hfz112_0, hfz112_1⟩ := zb2 BK317.out)|(go_at_call 52; (with_reducible refine (impl_ArenaOk.calls k1 _ _ t312 t315 t319 _ ?side1 ?side2 A104.out).mono ?_); (case side1 => repeat (first|exact (Kd.R_reads' HO314.out).2.2|(with_reducible refine Kd.C_alloc ?_ _)|(with_reducible refine Kd.C_drewN ?_ _)|(with_reducible refine Kd.C_drew ?_))); (case side2 => exact (Kd.R_reads' HO314.out).2.1); rintro e w113 ⟨rfl, hb⟩; have n0_ := Aside0.mk (zM (by (with_reducible repeat (first|apply zE|apply zD|apply zF)); exact HO_312000.out) hb); have n1_ := Aside0.mk (zM (by (with_reducible repeat (first|apply zE|apply zD|apply zF)); exact HO314.out) hb); have n2_ := Aside0.mk (zK (g := gb311) (o := .cells #[.slice Ao7 t305.length co7, .int .i64 t308] 65 (0, 0)) (by (with_reducible repeat (first|refine zA ?_ _|refine zC ?_|refine zB ?_ _)); exact BK311.out) hb); have n3_ := Aside0.mk (zK (g := gb317) (o := .cells #[.slice Ao108 t312.length co108, .int .i64 t315] 65 (0, 0)) (by (with_reducible repeat (first|refine zA ?_ _|refine zC ?_|refine zB ?_ _)); exact BK317.out) hb); have n4_ := Aside0.mk (zN (by repeat (first|(with_reducible first|exact HB.out|apply zI|apply zG|apply zH|refine zJ ?_ GE311.out|refine zJ ?_ GE317.out)|exact HB.out)) hb); clear HO_312000; clear HO314; clear BK311; clear BK317; clear HB; have HO_312000 := n0_; have HO314 := n1_; have BK311 := n2_; have BK317 := n3_; have HB := n4_; clear n0_ n1_ n2_ n3_ n4_; (try clear hb); (try clear hb2); (try clear hk); (try clear hi)))
              go_ret
              exact ⟨by first|rfl|(simp [errW_none, errW_some] <;> rfl)|(simp [*, errW_none, errW_some] <;> rfl), by repeat (first|(with_reducible first|exact HB.out|apply zI|apply zG|apply zH|refine zJ ?_ GE311.out|refine zJ ?_ GE317.out)|exact HB.out)⟩
            · rw [if_neg c103] at H
              have c103b0 : (t318 == 0) = false := beq_eq_false_iff_ne.mpr c103
              have c103b1 : (t318 != 0) = true := bne_iff_ne.mpr c103
              exact absurd ((Option.some.inj H).trans HTr_.out) (by simp)
          · replace c101 := Bool.eq_false_iff.mpr c101
            subst c101
            have H1 : (some false) = some r := by rw [if_neg (show ¬ (false = true) by decide)] at H; exact H
            clear H
            have H := H1
            clear H1
            exact absurd ((Option.some.inj H).trans HTr_.out) (by simp)
/-- THE ONE PURE STATEMENT of laws_FnLifts: yours. -/
def laws_FnLifts.Pure : Prop := ∀ (l0 : List Int), l0.length ≤ maxLen → l0.length * 1 ≤ 140737488351232 → (∀ x ∈ l0, (Lit.int .u8 x).wf = true) → ∃ k, laws_FnLifts.f k l0 = some true
theorem laws_FnLifts.walk (P : laws_FnLifts.Pure) (a0 : Option Addr) (len0 cap0 : Nat) (z0 : List Int) (w : World) (w0 : (a0 = none ∧ len0 = 0 ∧ cap0 = 0 ∧ z0 = []) ∨ ∃ x, a0 = some x ∧ len0 ≤ cap0 ∧ cap0 ≤ maxLen ∧ z0.length = cap0 ∧ (∀ i, i < z0.length → w.cell? (x.add i) = some (.int .u8 (z0.getD i 0))) ∧ ∀ n ∈ z0, (Lit.int .u8 n).wf = true) (y0 : len0 * 1 ≤ 140737488351232) :
    Calls Try.prog 12 #[.slice a0 len0 cap0] w fun e w' => e = .returned (.bool true) ∧ Below w.heap.size w w' := by
  obtain ⟨l0, rfl, hr0, hm0, hw0, hc0⟩ := ReadsInt.ofRowC w0
  obtain ⟨k, h⟩ := P l0 hm0 y0 hw0
  refine (laws_FnLifts.calls k _ _ l0 true w (Kd.C_of_reads (d := (0 : Int)) (h1 := fun _ => rfl) hr0) hc0 h rfl).mono ?_
  rintro e w' ⟨rfl, hd⟩
  exact ⟨rfl, hd⟩

end Go.Proofs.Ytjiekmbonmbhlaa.GFnLifts
