/- Walks of the functions that the law reaches: by programs of this session, over a tool's print. -/
import Derived.Test.YtjiekmbonmbhlaaGFnLaysx0
import Derived.Test.YtjiekmbonmbhlaaGFnLaysx1
import Derived.Test.YtjiekmbonmbhlaaGFnLaysx2
import Derived.Test.YtjiekmbonmbhlaaGFnLaysx3
import Derived.Test.YtjiekmbonmbhlaaGFnLaysx8
namespace Go.Proofs.Ytjiekmbonmbhlaa.GFnLays
open Go.RowKit Go.Proofs.YtjiekmbonmbhlaaW.PrintWords Go.Proofs.YtjiekmbonmbhlaaW.PrintLast Go.Proofs.YtjiekmbonmbhlaaW.PrintMore
attribute [local go_sem] max2_int min2_int max_two min_two max_three min_three max_four min_four   -- for this text's walks alone
set_option linter.unusedVariables false
set_option linter.unusedSimpArgs false

/-! ### laws_FnLays: function 11 -/
def laws_FnLays.j0 : Nat → ByteArray → ByteArray → Int → Bool → Bool → List (S81) → Int → List (S81) → Int → Option (Bool)
 |0, _, _, _, _, _, _, _, _, _ => none
 |k + 1, x4, x5, x7, x8, x51, x305000, x305001, x312000, x312001 => if x51 = true then (some false) else (if x8 = true then ((impl_Look.f k x312000 x312001 x7).bind fun bt314 => ((impl_Lift.f k x312000 x312001 x7).bind fun bt317 => ((impl_Look.f k bt317.1 bt317.2.1 x7).bind fun bt323 => ((impl_Lay.f k bt317.1 bt317.2.1 (⟨#[97, 103, 97, 105, 110]⟩ : ByteArray) (⟨#[120]⟩ : ByteArray)).bind fun bt326 => ((impl_Look.f k bt326.1 bt326.2.1 x7).bind fun bt333 => (if bt314.2.2 = true then (if bt314.1.toList = x4.toList then (if bt314.2.1.toList = x5.toList then (if bt317.2.2 = true then (if bt323.2.2 = true then (some false) else (if bt326.2.2.2 = true then (if bt326.2.2.1 = x7 then (some false) else (if bt333.2.2 = true then (some false) else ((impl_ArenaOk.f k x312000 x312001).bind fun t336 => (if t336 = true then ((impl_ArenaOk.f k bt317.1 bt317.2.1).bind fun t337 => (if t337 = true then ((impl_ArenaOk.f k bt326.1 bt326.2.1).bind fun t338 => (if t338 = true then ((impl_UsedOf.f k x312000 x312001).bind fun t339 => ((impl_UsedOf.f k x305000 x305001).bind fun t340 => (if t339 = (wrap64 (t340 + 1)) then ((impl_UsedOf.f k bt317.1 bt317.2.1).bind fun t341 => ((impl_UsedOf.f k x305000 x305001).bind fun t342 => (some (t341 == t342)))) else (some false)))) else (some false))) else (some false))) else (some false))))) else (some false))) else (some false)) else (some false)) else (some false)) else (some false))))))) else (some ((x312000.length : Int) == 0)))
def laws_FnLays.f (k : Nat) (l0 : List Int) : Option (Bool) := (laws_big.f l0).bind fun t297 => (if t297 = true then (some true) else ((spec_DrawRightArena.f k l0).bind fun bt298 => ((impl_Lay.f k bt298.1 bt298.2.1 bt298.2.2.1 bt298.2.2.2).bind fun bt305 => ((impl_UsedOf.f k bt298.1 bt298.2.1).bind fun t312 => (if (bt305.2.2.2 != (decide (t312 < (bt298.1.length : Int)))) = true then (laws_FnLays.j0 k bt298.2.2.1 bt298.2.2.2 bt305.2.2.1 bt305.2.2.2 true bt298.1 bt298.2.1 bt305.1 bt305.2.1) else ((impl_ArenaOk.f k bt298.1 bt298.2.1).bind fun t313 => (laws_FnLays.j0 k bt298.2.2.1 bt298.2.2.2 bt305.2.2.1 bt305.2.2.2 (!t313) bt298.1 bt298.2.1 bt305.1 bt305.2.1)))))))
theorem laws_FnLays.mono_l : ∀ k, (∀ y0 y1 y2 y3 y4 y5 y6 y7 y8, LeO (laws_FnLays.j0 k y0 y1 y2 y3 y4 y5 y6 y7 y8) (laws_FnLays.j0 (k + 1) y0 y1 y2 y3 y4 y5 y6 y7 y8))
 |0 => fun _ _ _ _ _ _ _ _ _ r h => by simp [laws_FnLays.j0] at h
 |k + 1 => by
    have ih0 := laws_FnLays.mono_l k
    · intro y0 y1 y2 y3 y4 y5 y6 y7 y8
      unfold laws_FnLays.j0
      repeat' first
     |(with_reducible exact ih0 _ _ _ _ _ _ _ _ _)
     |(with_reducible exact impl_ArenaOk.mono _ _ _)
     |(with_reducible exact impl_Lay.mono _ _ _ _ _)
     |(with_reducible exact impl_Lift.mono _ _ _ _)
     |(with_reducible exact impl_Look.mono _ _ _ _)
     |(with_reducible exact impl_UsedOf.mono _ _ _)
     |(with_reducible exact spec_DrawRightArena.mono _ _)
     |(with_reducible exact LeO.refl _)
     |(with_reducible exact LeO.none _)
     |(with_reducible refine LeO.ite ?_ ?_)
     |(with_reducible refine LeO.bind ?_ (fun _ => ?_))
     |exact ih0 _ _ _ _ _ _ _ _ _
     |exact impl_ArenaOk.mono _ _ _
     |exact impl_Lay.mono _ _ _ _ _
     |exact impl_Lift.mono _ _ _ _
     |exact impl_Look.mono _ _ _ _
     |exact impl_UsedOf.mono _ _ _
     |exact spec_DrawRightArena.mono _ _
     |exact LeO.none _
     |refine LeO.ite ?_ ?_
     |refine LeO.bind ?_ (fun _ => ?_)
theorem laws_FnLays.mono : ∀ a0 k, LeO (laws_FnLays.f k a0) (laws_FnLays.f (k + 1) a0) := by
  intro a0 k
  have ih0 := laws_FnLays.mono_l k
  unfold laws_FnLays.f
  repeat' first
     |(with_reducible exact ih0 _ _ _ _ _ _ _ _ _)
     |(with_reducible exact impl_ArenaOk.mono _ _ _)
     |(with_reducible exact impl_Lay.mono _ _ _ _ _)
     |(with_reducible exact impl_Lift.mono _ _ _ _)
     |(with_reducible exact impl_Look.mono _ _ _ _)
     |(with_reducible exact impl_UsedOf.mono _ _ _)
     |(with_reducible exact spec_DrawRightArena.mono _ _)
     |(with_reducible exact LeO.refl _)
     |(with_reducible exact LeO.none _)
     |(with_reducible refine LeO.ite ?_ ?_)
     |(with_reducible refine LeO.bind ?_ (fun _ => ?_))
     |exact ih0 _ _ _ _ _ _ _ _ _
     |exact impl_ArenaOk.mono _ _ _
     |exact impl_Lay.mono _ _ _ _ _
     |exact impl_Lift.mono _ _ _ _
     |exact impl_Look.mono _ _ _ _
     |exact impl_UsedOf.mono _ _ _
     |exact spec_DrawRightArena.mono _ _
     |exact LeO.none _
     |refine LeO.ite ?_ ?_
     |refine LeO.bind ?_ (fun _ => ?_)
def laws_FnLays.T5 : Bool × List (List Nat × List Nat) := (true, [([], []), ([], []), ([1], [1]), ([], []), ([3], [3]), ([4], [4]), ([2, 5], [2, 5]), ([0, 6], [0, 6]), ([7, 2], [7]), ([8], [8]), ([9, 8, 8], [8, 9]), ([10, 8], [8, 10]), ([8, 11], [8, 11])])
def laws_FnLays.B5 : List Nat := [0, 0, 2, 0, 8, 24, 62, 127, 255, 511, 1023, 2047, 4095]
theorem laws_FnLays.tab5 : rtab .any (opsOf Try.f11 5) = laws_FnLays.T5 := by kernel_rfl
theorem laws_FnLays.bits5 : waitsOk laws_FnLays.T5.2 laws_FnLays.B5 = true := by kernel_rfl
def laws_FnLays.T14 : Bool × List (List Nat × List Nat) := (true, [([], []), ([0], [0]), ([1], [1]), ([1], [1]), ([2, 3, 1], [1, 2, 3]), ([1, 4], [1, 4]), ([5, 1], [5]), ([6], [6]), ([6], [6]), ([7, 8, 6], [6, 7, 8]), ([6, 9], [6, 9]), ([10, 6], [10]), ([11], [11]), ([11, 12], [11, 12]), ([13, 11], [13]), ([14], [14]), ([15, 14], [14, 15]), ([14, 16], [14, 16]), ([17, 14], [17]), ([18], [18]), ([18, 19], [18, 19]), ([20, 18], [20]), ([21], [21]), ([21], [21]), ([22, 23, 21], [21, 22, 23]), ([21, 24], [21, 24]), ([25, 21], [25]), ([26], [26]), ([27, 26], [26, 27]), ([26, 28], [26, 28]), ([29, 26], [29]), ([30], [30]), ([31, 30, 30], [30, 31]), ([30, 32], [30, 32]), ([33, 32], [33]), ([34], [34]), ([35, 34, 34], [34, 35]), ([34, 36], [34, 36]), ([37, 36], [37]), ([38], [38]), ([39, 38, 38], [38, 39]), ([38, 40], [38, 40]), ([41, 40], [41]), ([42], [42]), ([43, 42, 42], [42, 43]), ([42], [42]), ([45, 44, 42], [42, 45]), ([46, 42], [42, 46]), ([44, 47, 42], [42, 44, 47]), ([42, 48], [42, 48]), ([49, 46], [49]), ([50], [50]), ([51, 50, 50], [50, 51]), ([50], [50]), ([53, 52, 50], [50, 53]), ([52, 54, 50], [50, 52, 54]), ([50, 55], [50, 55]), ([56, 54, 0, 1, 2, 3, 4, 5, 6, 7, 8, 9, 10, 11, 12, 13, 14, 15, 16, 17, 18, 19, 20, 21, 22, 23, 24, 25, 26, 27, 28, 29, 30, 31, 32, 33, 34, 35, 36, 37, 38, 39, 40, 41, 42, 43, 44, 45, 46, 47, 48, 49, 50, 51, 52, 53, 54, 55, 56], [56])])
def laws_FnLays.B14 : List Nat := [0, 1, 3, 3, 15, 31, 63, 127, 127, 511, 1023, 2047, 4095, 8191, 16383, 32767, 65535, 131071, 262143, 524287, 1048575, 2097151, 4194303, 4194303, 16777215, 33554431, 67108863, 134217727, 268435455, 536870911, 1073741823, 2147483647, 4294967295, 8589934591, 17179869183, 34359738367, 68719476735, 137438953471, 274877906943, 549755813887, 1099511627775, 2199023255551, 4398046511103, 8796093022207, 17592186044415, 8796093022207, 70368744177663, 140737488355327, 281474976710655, 562949953421311, 1125899906842623, 2251799813685247, 4503599627370495, 2251799813685247, 18014398509481983, 36028797018963967, 72057594037927935, 144115188075855871]
theorem laws_FnLays.tab14 : rtab .any (opsOf Try.f11 14) = laws_FnLays.T14 := by kernel_rfl
theorem laws_FnLays.bits14 : waitsOk laws_FnLays.T14.2 laws_FnLays.B14 = true := by kernel_rfl
theorem laws_FnLays.j0_bad {r : Bool} : ∀ {k} {y0} {y1} {y2} {y3} {y5} {y6} {y7} {y8}, laws_FnLays.j0 k y0 y1 y2 y3 true y5 y6 y7 y8 = some r → r = false
  | 0, _, _, _, _, _, _, _, _, h => by simp [laws_FnLays.j0] at h
  | k + 1, _, _, _, _, _, _, _, _, h => by simp only [laws_FnLays.j0, if_true] at h; exact (Option.some.inj h).symm
set_option maxHeartbeats 8000000 in
set_option maxRecDepth 100000 in
theorem laws_FnLays.calls (k : Nat) (A0 : Option Addr) (c0 : Nat) (l0 : List Int) (r : Bool) (w : World) (hr0 : Kd.C (Kd.int .u8) w A0 l0.length l0) (hc0 : l0.length ≤ c0) (h : laws_FnLays.f k l0 = some r) (HT0_ : r = true) :
    Calls Try.prog 11 #[.slice A0 l0.length c0] w fun e w' => e = .returned (.bool r) ∧ Below w.heap.size w w' := by
  have HTr_ := Aside0.mk HT0_
  clear HT0_
  have hu65 := Try.underlying65
  have HR0 := Aside0.mk hr0
  have HC0 := Aside0.mk hc0
  clear hr0 hc0
  have HB := Aside0.mk (Below.refl w.heap.size w)
  have H : ((laws_big.f l0).bind fun t297 => (if t297 = true then (some true) else ((spec_DrawRightArena.f k l0).bind fun bt298 => ((impl_Lay.f k bt298.1 bt298.2.1 bt298.2.2.1 bt298.2.2.2).bind fun bt305 => ((impl_UsedOf.f k bt298.1 bt298.2.1).bind fun t312 => (if (bt305.2.2.2 != (decide (t312 < (bt298.1.length : Int)))) = true then (laws_FnLays.j0 k bt298.2.2.1 bt298.2.2.2 bt305.2.2.1 bt305.2.2.2 true bt298.1 bt298.2.1 bt305.1 bt305.2.1) else ((impl_ArenaOk.f k bt298.1 bt298.2.1).bind fun t313 => (laws_FnLays.j0 k bt298.2.2.1 bt298.2.2.2 bt305.2.2.1 bt305.2.2.2 (!t313) bt298.1 bt298.2.1 bt305.1 bt305.2.1)))))))) = some r := h
  clear h
  replace H := Option.bind_eq_some_iff.mp H
  obtain ⟨t297, A20, H⟩ := H
  replace H : (if t297 = true then (some true) else ((spec_DrawRightArena.f k l0).bind fun bt298 => ((impl_Lay.f k bt298.1 bt298.2.1 bt298.2.2.1 bt298.2.2.2).bind fun bt305 => ((impl_UsedOf.f k bt298.1 bt298.2.1).bind fun t312 => (if (bt305.2.2.2 != (decide (t312 < (bt298.1.length : Int)))) = true then (laws_FnLays.j0 k bt298.2.2.1 bt298.2.2.2 bt305.2.2.1 bt305.2.2.2 true bt298.1 bt298.2.1 bt305.1 bt305.2.1) else ((impl_ArenaOk.f k bt298.1 bt298.2.1).bind fun t313 => (laws_FnLays.j0 k bt298.2.2.1 bt298.2.2.2 bt305.2.2.1 bt305.2.2.2 (!t313) bt298.1 bt298.2.1 bt305.1 bt305.2.1))))))) = some r := H
  have A2 := Aside0.mk A20
  clear A20
  by_cases c3 : t297 = true
  · subst c3
    have H1 : (some true) = some r := by rw [if_pos rfl] at H; exact H
    clear H
    have H := H1
    clear H1
    obtain rfl := Option.some.inj H
    go_enter Try.func11, Try.ntmps11
    go_wp2_with (first|((with_reducible refine gate_callee (f := 24) rfl ?_); refine goesL_ (some 24) rfl rfl Try.func24 (by kernel_rfl) rfl #[.slice A0 l0.length c0] rfl (by (try simp only [List.map_toArray, List.map_cons, List.map_nil]); first|done|rfl|(simp only [List.length_drop, List.length_take]; rfl)) ?_; (with_reducible refine (laws_big.calls _ _ l0 true _ ?side1 ?side2 A2.out).mono ?_); (case side1 => repeat (first|exact HR0.out|(with_reducible refine Kd.C_alloc ?_ _)|(with_reducible refine Kd.C_drewN ?_ _)|(with_reducible refine Kd.C_drew ?_))); (case side2 => exact HC0.out); rintro e w' ⟨rfl, ⟨nd, rfl⟩⟩; refine ⟨_, rfl, ?_⟩))
    go_ret
    exact ⟨by first|rfl|(simp [errW_none, errW_some] <;> rfl)|(simp [*, errW_none, errW_some] <;> rfl), by repeat (first|(with_reducible first|exact HB.out|apply zI|apply zG|apply zH)|exact HB.out)⟩
  · replace c3 := Bool.eq_false_iff.mpr c3
    subst c3
    have H1 : ((spec_DrawRightArena.f k l0).bind fun bt298 => ((impl_Lay.f k bt298.1 bt298.2.1 bt298.2.2.1 bt298.2.2.2).bind fun bt305 => ((impl_UsedOf.f k bt298.1 bt298.2.1).bind fun t312 => (if (bt305.2.2.2 != (decide (t312 < (bt298.1.length : Int)))) = true then (laws_FnLays.j0 k bt298.2.2.1 bt298.2.2.2 bt305.2.2.1 bt305.2.2.2 true bt298.1 bt298.2.1 bt305.1 bt305.2.1) else ((impl_ArenaOk.f k bt298.1 bt298.2.1).bind fun t313 => (laws_FnLays.j0 k bt298.2.2.1 bt298.2.2.2 bt305.2.2.1 bt305.2.2.2 (!t313) bt298.1 bt298.2.1 bt305.1 bt305.2.1)))))) = some r := by rw [if_neg (show ¬ (false = true) by decide)] at H; exact H
    clear H
    have H := H1
    clear H1
    replace H := Option.bind_eq_some_iff.mp H
    obtain ⟨⟨t298, t301, t302, t303⟩, A40, H⟩ := H
    replace H : ((impl_Lay.f k t298 t301 t302 t303).bind fun bt305 => ((impl_UsedOf.f k t298 t301).bind fun t312 => (if (bt305.2.2.2 != (decide (t312 < (t298.length : Int)))) = true then (laws_FnLays.j0 k t302 t303 bt305.2.2.1 bt305.2.2.2 true t298 t301 bt305.1 bt305.2.1) else ((impl_ArenaOk.f k t298 t301).bind fun t313 => (laws_FnLays.j0 k t302 t303 bt305.2.2.1 bt305.2.2.2 (!t313) t298 t301 bt305.1 bt305.2.1))))) = some r := H
    have A4 := Aside0.mk A40
    clear A40
    replace H := Option.bind_eq_some_iff.mp H
    obtain ⟨⟨t305, t308, t309, t310⟩, A50, H⟩ := H
    replace H : ((impl_UsedOf.f k t298 t301).bind fun t312 => (if (t310 != (decide (t312 < (t298.length : Int)))) = true then (laws_FnLays.j0 k t302 t303 t309 t310 true t298 t301 t305 t308) else ((impl_ArenaOk.f k t298 t301).bind fun t313 => (laws_FnLays.j0 k t302 t303 t309 t310 (!t313) t298 t301 t305 t308)))) = some r := H
    have A5 := Aside0.mk A50
    clear A50
    have HC6 := Aside0.mk H
    clear H
    go_enter Try.func11, Try.ntmps11
    go_upto_region 5 with (first|((with_reducible refine gate_callee (f := 24) rfl ?_); refine goesL_ (some 24) rfl rfl Try.func24 (by kernel_rfl) rfl #[.slice A0 l0.length c0] rfl (by (try simp only [List.map_toArray, List.map_cons, List.map_nil]); first|done|rfl|(simp only [List.length_drop, List.length_take]; rfl)) ?_; (with_reducible refine (laws_big.calls _ _ l0 false _ ?side1 ?side2 A2.out).mono ?_); (case side1 => repeat (first|exact HR0.out|(with_reducible refine Kd.C_alloc ?_ _)|(with_reducible refine Kd.C_drewN ?_ _)|(with_reducible refine Kd.C_drew ?_))); (case side2 => exact HC0.out); rintro e w' ⟨rfl, ⟨nd, rfl⟩⟩; refine ⟨_, rfl, ?_⟩)|((with_reducible refine gate_callee (f := 50) rfl ?_); refine goesL_ (some 27) rfl rfl Try.func50 (by kernel_rfl) rfl #[.slice A0 l0.length c0] rfl (by (try simp only [List.map_toArray, List.map_cons, List.map_nil]); first|done|rfl|(simp only [List.length_drop, List.length_take]; rfl)) ?_; (with_reducible refine (spec_DrawRightArena.calls k _ _ l0 t298 t301 t302 t303 _ ?side1 ?side2 A4.out).mono ?_); (case side1 => repeat (first|exact HR0.out|(with_reducible refine Kd.C_alloc ?_ _)|(with_reducible refine Kd.C_drewN ?_ _)|(with_reducible refine Kd.C_drew ?_))); (case side2 => exact HC0.out); rintro e w7 ⟨v299, rfl, ho0, hb⟩; refine ⟨_, rfl, ?_⟩; have n0_ := Aside0.mk (Kd.R_lower ho0 (below_size (by repeat (first|(with_reducible first|exact HB.out|apply zI|apply zG|apply zH)|exact HB.out)))); have n1_ := Aside0.mk (zN (by repeat (first|(with_reducible first|exact HB.out|apply zI|apply zG|apply zH)|exact HB.out)) hb); clear HB; have HO300 := n0_; have HB := n1_; clear n0_ n1_; (try clear hb); (try clear hb2); (try clear hk); (try clear hi); (try clear ho0))|((with_reducible refine gate_dst (N := 3) rfl ?_); refine box_event ?hg (N := 3) ?hd (cs := #[.slice none 0 0, .int .i64 0]) (t := 65) ?hr ?_; (case hd => rfl); (case hg => rfl); (case hr => first|(go_simp; done)|(go_simp; rfl)); intro gb304 hg w8 hbox hb; have n0_ := Aside0.mk (zM (by (with_reducible repeat (first|apply zE|apply zD|apply zF)); exact HO300.out) hb); have n1_ := Aside0.mk (zN (by repeat (first|(with_reducible first|exact HB.out|apply zI|apply zG|apply zH)|exact HB.out)) hb); have n2_ := Aside0.mk (hbox); have n3_ := Aside0.mk ((by rw [hg]; exact (below_size (by repeat (first|(with_reducible first|exact HB.out|apply zI|apply zG|apply zH)|exact HB.out))) : w.heap.size ≤ gb304)); have n4_ := Aside0.mk ((by rw [hg]; exact (below_size (by repeat (first|(with_reducible first|exact HB.out|apply zI|apply zG|apply zH)|exact HB.out))) : w.heap.size ≤ gb304)); clear HO300; clear HB; have HO300 := n0_; have HB := n1_; have BK304 := n2_; have GW304 := n3_; have GE304 := n4_; clear n0_ n1_ n2_ n3_ n4_; clear hb hbox hg; obtain ⟨Ao9, co9, eo9⟩ := Kd.R_slice HO300.out; subst eo9; obtain ⟨hcz10_0, hcz10_1, hfz10_0, hfz10_1⟩ := zb2 BK304.out)|((with_reducible refine gate_callee (f := 46) rfl ?_); refine goesL_ (some 35) rfl rfl Try.func46 (by kernel_rfl) rfl #[.agg #[.slice Ao9 t298.length co9, .int .i64 t301], .string t302, .string t303] rfl (by (try simp only [List.map_toArray, List.map_cons, List.map_nil]); first|done|rfl|(simp only [List.length_drop, List.length_take]; rfl)) ?_; (with_reducible refine (impl_Lay.calls k _ _ t298 t301 t302 t303 t305 t308 t309 t310 _ ?side1 ?side2 A5.out).mono ?_); (case side1 => refine (Kd.R_reads' (e := 81) (base := w.heap.size) (ok := fun k_ => True) (n := t298.length) (c := co9) ?_).2.2; exact (by (with_reducible repeat (first|apply zE|apply zD|apply zF)); exact (zR (zL (p := ⟨gb304, 1, none⟩) (zL (p := ⟨gb304, 0, none⟩) (zQ HO300.out BK304.out (by decide)) (fun _ hk => hk.2) (.slice Ao9 t298.length co9)) (fun _ hk => hk.2) (.int .i64 t301)) (fun _ h_ => h_.1)))); (case side2 => exact (Kd.R_reads' HO300.out).2.1); rintro e w11 ⟨v306, rfl, ho0, hb⟩; refine ⟨_, rfl, ?_⟩; have n0_ := Aside0.mk (Kd.R_elder' (by (with_reducible repeat (first|apply zE|apply zD|apply zF)); exact (zR (zL (p := ⟨gb304, 1, none⟩) (zL (p := ⟨gb304, 0, none⟩) (zQ HO300.out BK304.out (by decide)) (fun _ hk => hk.2) (.slice Ao9 t298.length co9)) (fun _ hk => hk.2) (.int .i64 t301)) (fun _ h_ => h_.1))) (Kd.R_base ho0) hb); have n1_ := Aside0.mk (Kd.R_lower (Kd.R_new' ho0 (Kd.R_lt (by (with_reducible repeat (first|apply zE|apply zD|apply zF)); exact (zR (zL (p := ⟨gb304, 1, none⟩) (zL (p := ⟨gb304, 0, none⟩) (zQ HO300.out BK304.out (by decide)) (fun _ hk => hk.2) (.slice Ao9 t298.length co9)) (fun _ hk => hk.2) (.int .i64 t301)) (fun _ h_ => h_.1))))) (below_size (by repeat (first|(with_reducible first|exact HB.out|apply zI|apply zG|apply zH|refine zJ ?_ GE304.out)|exact HB.out)))); have n2_ := Aside0.mk (zK (g := gb304) (o := .cells #[.slice Ao9 t298.length co9, .int .i64 t301] 65 (0, 0)) (by (with_reducible repeat (first|refine zA ?_ _|refine zC ?_|refine zB ?_ _)); refine blk_put (cs := #[.slice Ao9 t298.length co9, .int .i64 0]) ?_ 1 _ rfl; (with_reducible repeat (first|refine zA ?_ _|refine zC ?_|refine zB ?_ _)); refine blk_put (cs := #[.slice none 0 0, .int .i64 0]) ?_ 0 _ rfl; (with_reducible repeat (first|refine zA ?_ _|refine zC ?_|refine zB ?_ _)); exact BK304.out) hb); have n3_ := Aside0.mk (zN (by repeat (first|(with_reducible first|exact HB.out|apply zI|apply zG|apply zH|refine zJ ?_ GE304.out)|exact HB.out)) hb); clear HO300; clear BK304; clear HB; have HO300 := n0_; have HO307 := n1_; have BK304 := n2_; have HB := n3_; clear n0_ n1_ n2_ n3_; (try clear hb); (try clear hb2); (try clear hk); (try clear hi); (try clear ho0))|((with_reducible refine gate_dst (N := 6) rfl ?_); refine box_event ?hg (N := 6) ?hd (cs := #[.slice none 0 0, .int .i64 0]) (t := 65) ?hr ?_; (case hd => rfl); (case hg => rfl); (case hr => first|(go_simp; done)|(go_simp; rfl)); intro gb311 hg w12 hbox hb; have n0_ := Aside0.mk (zM (by (with_reducible repeat (first|apply zE|apply zD|apply zF)); exact HO300.out) hb); have n1_ := Aside0.mk (zM (by (with_reducible repeat (first|apply zE|apply zD|apply zF)); exact HO307.out) hb); have n2_ := Aside0.mk (zK (g := gb304) (o := .cells #[.slice Ao9 t298.length co9, .int .i64 t301] 65 (0, 0)) (by (with_reducible repeat (first|refine zA ?_ _|refine zC ?_|refine zB ?_ _)); exact BK304.out) hb); have n3_ := Aside0.mk (zN (by repeat (first|(with_reducible first|exact HB.out|apply zI|apply zG|apply zH|refine zJ ?_ GE304.out)|exact HB.out)) hb); have n4_ := Aside0.mk (hbox); have n5_ := Aside0.mk ((by rw [hg]; exact (below_size (by repeat (first|(with_reducible first|exact HB.out|apply zI|apply zG|apply zH|refine zJ ?_ GE304.out)|exact HB.out))) : w.heap.size ≤ gb311)); have n6_ := Aside0.mk ((by rw [hg]; exact (below_size (by repeat (first|(with_reducible first|exact HB.out|apply zI|apply zG|apply zH|refine zJ ?_ GE304.out)|exact HB.out))) : w.heap.size ≤ gb311)); have n7_ := Aside0.mk ((by rw [hg]; exact Nat.ne_of_lt (blk_lt (g := gb304) (o := .cells #[.slice Ao9 t298.length co9, .int .i64 t301] 65 (0, 0)) (by (with_reducible repeat (first|refine zA ?_ _|refine zC ?_|refine zB ?_ _)); exact BK304.out)) : gb304 ≠ gb311)); have n8_ := Aside0.mk ((by rw [hg]; exact Nat.ne_of_gt (blk_lt (g := gb304) (o := .cells #[.slice Ao9 t298.length co9, .int .i64 t301] 65 (0, 0)) (by (with_reducible repeat (first|refine zA ?_ _|refine zC ?_|refine zB ?_ _)); exact BK304.out)) : gb311 ≠ gb304)); clear HO300; clear HO307; clear BK304; clear HB; have HO300 := n0_; have HO307 := n1_; have BK304 := n2_; have HB := n3_; have BK311 := n4_; have GW311 := n5_; have GE311 := n6_; have NB304_311 := n7_; have NB311_304 := n8_; clear n0_ n1_ n2_ n3_ n4_ n5_ n6_ n7_ n8_; clear hb hbox hg; obtain ⟨Ao13, co13, eo13⟩ := Kd.R_slice HO307.out; subst eo13; have hnb14 := NB311_304.out; have hnc14 := NB304_311.out; obtain ⟨hcz15_0, hcz15_1, hfz15_0, hfz15_1⟩ := zb2 BK311.out))
    (try simp only [Act.put, List.setIfInBounds_toArray, List.set_cons_zero, List.set_cons_succ])
    go_cut [51] (fun v51 wc => ∃ (kq : Nat) (x51_5 : Bool), v51 = .bool x51_5 ∧ Aside0 (laws_FnLays.j0 kq t302 t303 t309 t310 x51_5 t298 t301 t305 t308 = some r) ∧ Aside0 (kq ≤ k) ∧ Aside0 (Kd.R k81 81 wc w.heap.size (fun k_ => some k_ ≠ ((.slice Ao13 t305.length co13) : Value).ownBlock) (.slice Ao9 t298.length co9) t298) ∧ Aside0 (Kd.R k81 81 wc w.heap.size (fun k_ => some k_ ≠ ((.slice Ao9 t298.length co9) : Value).ownBlock) (.slice Ao13 t305.length co13) t305) ∧ Aside0 (wc.heap[gb304]? = some (.cells #[(.slice Ao9 t298.length co9), .int .i64 t301] 65 (0, 0))) ∧ Aside0 (wc.heap[gb311]? = some (.cells #[(.slice Ao13 t305.length co13), .int .i64 t308] 65 (0, 0))) ∧ Aside0 (Below w.heap.size w wc))
    case first =>
      have H := HC6.out
      clear HC6
      replace H := Option.bind_eq_some_iff.mp H
      obtain ⟨t312, A160, H⟩ := H
      replace H : (if (t310 != (decide (t312 < (t298.length : Int)))) = true then (laws_FnLays.j0 k t302 t303 t309 t310 true t298 t301 t305 t308) else ((impl_ArenaOk.f k t298 t301).bind fun t313 => (laws_FnLays.j0 k t302 t303 t309 t310 (!t313) t298 t301 t305 t308))) = some r := H
      have A16 := Aside0.mk A160
      clear A160
      by_cases c17 : (t310 != (decide (t312 < (t298.length : Int)))) = true
      · rw [if_pos c17] at H
        have c17b0 : (t310 != (decide (t312 < (t298.length : Int)))) = true := c17
        (try (have c17b1 : decide (t310 = (decide (t312 < (t298.length : Int)))) = false := by simpa using c17))
        (try (have c17b2 : (t310 == (decide (t312 < (t298.length : Int)))) = false := by simpa using c17))
        (try (have c17b3 : ¬ (t310 = (decide (t312 < (t298.length : Int)))) := by simpa using c17))
        clear c17
        (first|rw [c17b0]|(simp only [i64_w, i32_w]; rw [c17b0])|skip)
        exact absurd ((laws_FnLays.j0_bad H).symm.trans HTr_.out) (by simp)
      · rw [if_neg c17] at H
        have c17b0 : (t310 != (decide (t312 < (t298.length : Int)))) = false := by simpa using c17
        (try (have c17b1 : decide (t310 = (decide (t312 < (t298.length : Int)))) = true := by simpa using c17))
        (try (have c17b2 : (t310 == (decide (t312 < (t298.length : Int)))) = true := by simpa using c17))
        clear c17
        (first|rw [c17b0]|(simp only [i64_w, i32_w]; rw [c17b0])|skip)
        replace H := Option.bind_eq_some_iff.mp H
        obtain ⟨t313, A210, H⟩ := H
        replace H : (laws_FnLays.j0 k t302 t303 t309 t310 (!t313) t298 t301 t305 t308) = some r := H
        have A21 := Aside0.mk A210
        clear A210
        have H' := Aside0.mk H
        clear H
        try go_wp2
        have n0_ : Aside0 (Kd.R k81 81 ((w12.setCell ⟨gb311, 0, none⟩ (.slice Ao13 t305.length co13)).setCell ⟨gb311, 1, none⟩ (.int .i64 t308)) w.heap.size (fun k_ => some k_ ≠ (.slice Ao13 t305.length co13 : Value).ownBlock) (.slice Ao9 t298.length co9) t298) := ⟨by (with_reducible repeat (first|apply zE|apply zD|apply zF)); exact zR (zL (p := ⟨gb311, 1, none⟩) (zL (p := ⟨gb311, 0, none⟩) (zQ HO300.out BK311.out (by decide)) (fun _ hk => hk.2) (.slice Ao13 t305.length co13)) (fun _ hk => hk.2) (.int .i64 t308)) (fun _ hk => hk.1.2)⟩
        have n1_ : Aside0 (Kd.R k81 81 ((w12.setCell ⟨gb311, 0, none⟩ (.slice Ao13 t305.length co13)).setCell ⟨gb311, 1, none⟩ (.int .i64 t308)) w.heap.size (fun k_ => some k_ ≠ (.slice Ao9 t298.length co9 : Value).ownBlock) (.slice Ao13 t305.length co13) t305) := ⟨by (with_reducible repeat (first|apply zE|apply zD|apply zF)); exact zR (zL (p := ⟨gb311, 1, none⟩) (zL (p := ⟨gb311, 0, none⟩) (zQ HO307.out BK311.out (by decide)) (fun _ hk => hk.2) (.slice Ao13 t305.length co13)) (fun _ hk => hk.2) (.int .i64 t308)) (fun _ hk => hk.1.2)⟩
        have n2_ : Aside0 (((w12.setCell ⟨gb311, 0, none⟩ (.slice Ao13 t305.length co13)).setCell ⟨gb311, 1, none⟩ (.int .i64 t308)).heap[gb304]? = some (.cells #[.slice Ao9 t298.length co9, .int .i64 t301] 65 (0, 0))) := ⟨by (with_reducible repeat (first|refine zA ?_ _|refine zC ?_|refine zB ?_ _)); refine zT ?_ NB304_311.out _; (with_reducible repeat (first|refine zA ?_ _|refine zC ?_|refine zB ?_ _)); refine zT ?_ NB304_311.out _; (with_reducible repeat (first|refine zA ?_ _|refine zC ?_|refine zB ?_ _)); exact BK304.out⟩
        have n3_ : Aside0 (((w12.setCell ⟨gb311, 0, none⟩ (.slice Ao13 t305.length co13)).setCell ⟨gb311, 1, none⟩ (.int .i64 t308)).heap[gb311]? = some (.cells #[.slice Ao13 t305.length co13, .int .i64 t308] 65 (0, 0))) := ⟨by (with_reducible repeat (first|refine zA ?_ _|refine zC ?_|refine zB ?_ _)); refine blk_put (cs := #[.slice Ao13 t305.length co13, .int .i64 0]) ?_ 1 _ rfl; (with_reducible repeat (first|refine zA ?_ _|refine zC ?_|refine zB ?_ _)); refine blk_put (cs := #[.slice none 0 0, .int .i64 0]) ?_ 0 _ rfl; (with_reducible repeat (first|refine zA ?_ _|refine zC ?_|refine zB ?_ _)); exact BK311.out⟩
        have n4_ : Aside0 (Below w.heap.size w ((w12.setCell ⟨gb311, 0, none⟩ (.slice Ao13 t305.length co13)).setCell ⟨gb311, 1, none⟩ (.int .i64 t308))) := ⟨by repeat (first|(with_reducible first|exact HB.out|apply zI|apply zG|apply zH|refine zJ ?_ GE304.out|refine zJ ?_ GE311.out)|exact HB.out)⟩
        (try clear HO300)
        (try clear HO307)
        (try clear BK304)
        (try clear BK311)
        (try clear HB)
        generalize ((w12.setCell ⟨gb311, 0, none⟩ (.slice Ao13 t305.length co13)).setCell ⟨gb311, 1, none⟩ (.int .i64 t308)) = w22 at n0_ n1_ n2_ n3_ n4_ ⊢
        have HO300 := n0_
        have HO307 := n1_
        have BK304 := n2_
        have BK311 := n3_
        have HB := n4_
        clear n0_ n1_ n2_ n3_ n4_
        have n0_ := Aside0.mk (zF HO300.out)
        have n1_ := Aside0.mk (zF HO307.out)
        have n2_ := Aside0.mk (zC BK304.out)
        have n3_ := Aside0.mk (zC BK311.out)
        have n4_ := Aside0.mk (zH HB.out)
        clear HO300
        clear HO307
        clear BK304
        clear BK311
        clear HB
        have HO300 := n0_
        have HO307 := n1_
        have BK304 := n2_
        have BK311 := n3_
        have HB := n4_
        clear n0_ n1_ n2_ n3_ n4_
        refine start_ (n := 13) (S := fun w' => w'.cell? ⟨gb304, 0, none⟩ = some (.slice Ao9 t298.length co9) ∧ w'.cell? ⟨gb304, 1, none⟩ = some (.int .i64 t301)) (ds := []) #[false, false, false, false, false, false, false, false, false, false, false, false, false] (by kernel_rfl) rfl rfl ⟨(zO BK304.out 0).trans rfl, (zO BK304.out 1).trans rfl⟩ (fun hHeld => ?_); refine with_tabW laws_FnLays.tab5 laws_FnLays.bits5 (fun HT_ HW_ => ?_)
        generalize w22.drew = w23 at HO300 HO307 BK304 BK311 HB hHeld ⊢
        refine pure_ (i := 0) (N := some 39) (v := ?_) (a' := ?_) #[true, false, false, false, false, false, false, false, false, false, false, false, false] rfl rfl (any_of HT_.out (by kernel_rfl)) (fun _ _ _ h => h) (Or.inl ⟨by rfl, ?_⟩) ?_ ?_
        rotate_left
        · intro w'
          go_simp
          with_reducible rfl
        rotate_left
        · simp only [Act.put, List.setIfInBounds_toArray, List.set_cons_zero, List.set_cons_succ, i64_w, i32_w]
          rfl
        refine pure_ (i := 3) (N := some 42) (v := ?_) (a' := ?_) #[true, false, false, true, false, false, false, false, false, false, false, false, false] rfl rfl (any_of HT_.out (by kernel_rfl)) (fun _ _ _ h => h) (Or.inl ⟨by rfl, ?_⟩) ?_ ?_
        rotate_left
        · intro w'
          go_simp
          with_reducible rfl
        rotate_left
        · simp only [Act.put, List.setIfInBounds_toArray, List.set_cons_zero, List.set_cons_succ, i64_w, i32_w]
          rfl
        refine take_ (i := 1) (N := some 40) (v := ?_) (a' := ?_) #[true, true, false, true, false, false, false, false, false, false, false, false, false] rfl rfl (take_ofW HT_.out HW_.out (by kernel_rfl)) (fun _ _ _ h => h) (Or.inl ⟨by rfl, ?_⟩) hHeld ?_ ?_
        rotate_left
        · rintro w' ⟨s0, s1⟩
          go_simp
          with_reducible rfl
        rotate_left
        · simp only [Act.put, List.setIfInBounds_toArray, List.set_cons_zero, List.set_cons_succ, i64_w, i32_w]
          rfl
        refine take_ (i := 4) (N := some 43) (v := ?_) (a' := ?_) #[true, true, false, true, true, false, false, false, false, false, false, false, false] rfl rfl (take_ofW HT_.out HW_.out (by kernel_rfl)) (fun _ _ _ h => h) (Or.inl ⟨by rfl, ?_⟩) hHeld ?_ ?_
        rotate_left
        · rintro w' ⟨s0, s1⟩
          go_simp
          with_reducible rfl
        rotate_left
        · simp only [Act.put, List.setIfInBounds_toArray, List.set_cons_zero, List.set_cons_succ, i64_w, i32_w]
          rfl
        refine pure_ (i := 5) (N := some 44) (v := ?_) (a' := ?_) #[true, true, false, true, true, true, false, false, false, false, false, false, false] rfl rfl (any_of HT_.out (by kernel_rfl)) (fun _ _ _ h => h) (Or.inl ⟨by rfl, ?_⟩) ?_ ?_
        rotate_left
        · intro w'
          go_simp
          with_reducible rfl
        rotate_left
        · simp only [Act.put, List.setIfInBounds_toArray, List.set_cons_zero, List.set_cons_succ, i64_w, i32_w]
          rfl
        refine one_ (i := 2) (N := some 41) #[true, true, true, true, true, true, false, false, false, false, false, false, false] rfl rfl (one_of HT_.out (by kernel_rfl)) (by decide) (fun K hK => ?_)
        refine goes_ Try.func51 (by kernel_rfl) rfl #[.agg #[.slice Ao9 t298.length co9, .int .i64 t301]] (by rfl) rfl rfl (by (try simp only [List.map_toArray, List.map_cons, List.map_nil]); first|done|rfl|(simp only [List.length_drop, List.length_take]; rfl)) ?_
        with_reducible refine (impl_UsedOf.calls k _ _ t298 t301 t312 _ ?side1 ?side2 A16.out).mono ?_
        (case side1 => repeat (first|exact (Kd.R_reads' HO300.out).2.2|(with_reducible refine Kd.C_alloc ?_ _)|(with_reducible refine Kd.C_drewN ?_ _)|(with_reducible refine Kd.C_drew ?_)))
        (case side2 => exact (Kd.R_reads' HO300.out).2.1)
        rintro e w24 ⟨rfl, hb⟩
        refine ⟨_, rfl, ?_⟩
        have n0_ := Aside0.mk (zM (by (with_reducible repeat (first|apply zE|apply zD|apply zF)); exact HO300.out) hb)
        have n1_ := Aside0.mk (zM (by (with_reducible repeat (first|apply zE|apply zD|apply zF)); exact HO307.out) hb)
        have n2_ := Aside0.mk (zK (g := gb304) (o := .cells #[.slice Ao9 t298.length co9, .int .i64 t301] 65 (0, 0)) (by (with_reducible repeat (first|refine zA ?_ _|refine zC ?_|refine zB ?_ _)); exact BK304.out) hb)
        have n3_ := Aside0.mk (zK (g := gb311) (o := .cells #[.slice Ao13 t305.length co13, .int .i64 t308] 65 (0, 0)) (by (with_reducible repeat (first|refine zA ?_ _|refine zC ?_|refine zB ?_ _)); exact BK311.out) hb)
        have n4_ := Aside0.mk (zN (by repeat (first|(with_reducible first|exact HB.out|apply zI|apply zG|apply zH|refine zJ ?_ GE304.out|refine zJ ?_ GE311.out)|exact HB.out)) hb)
        clear HO300
        clear HO307
        clear BK304
        clear BK311
        clear HB
        have HO300 := n0_
        have HO307 := n1_
        have BK304 := n2_
        have BK311 := n3_
        have HB := n4_
        clear n0_ n1_ n2_ n3_ n4_
        (try clear hb)
        (try clear hb2)
        (try clear hk)
        (try clear hi)
        refine hK.out _ _ ⟨(zO BK304.out 0).trans rfl, (zO BK304.out 1).trans rfl⟩ (fun hHeld => ?_)
        clear hK K
        refine norm_ (a' := ?_) ?_ ?_
        rotate_left
        · show Act.put _ (some 41) _ = _
          simp only [Act.put, List.setIfInBounds_toArray, List.set_cons_zero, List.set_cons_succ, i64_w, i32_w]
          rfl
        refine pure_ (i := 6) (N := some 45) (v := ?_) (a' := ?_) #[true, true, true, true, true, true, true, false, false, false, false, false, false] rfl rfl (any_of HT_.out (by kernel_rfl)) (fun _ _ _ h => h) (Or.inl ⟨by rfl, ?_⟩) ?_ ?_
        rotate_left
        · intro w'
          go_simp
          with_reducible rfl
        rotate_left
        · simp only [Act.put, List.setIfInBounds_toArray, List.set_cons_zero, List.set_cons_succ, i64_w, i32_w]
          rfl
        refine pure_ (i := 7) (N := some 46) (v := ?_) (a' := ?_) #[true, true, true, true, true, true, true, true, false, false, false, false, false] rfl rfl (any_of HT_.out (by kernel_rfl)) (fun _ _ _ h => h) (Or.inl ⟨by rfl, ?_⟩) ?_ ?_
        rotate_left
        · intro w'
          go_simp
          with_reducible rfl
        rotate_left
        · simp only [Act.put, List.setIfInBounds_toArray, List.set_cons_zero, List.set_cons_succ, i64_w, i32_w]
          rfl
        refine pure_ (i := 8) (N := some 47) (v := ?_) (a' := ?_) #[true, true, true, true, true, true, true, true, true, false, false, false, false] rfl rfl (any_of HT_.out (by kernel_rfl)) (fun _ _ _ h => h) (Or.inl ⟨by rfl, ?_⟩) ?_ ?_
        rotate_left
        · intro w'
          go_simp
          with_reducible rfl
        rotate_left
        · simp only [Act.put, List.setIfInBounds_toArray, List.set_cons_zero, List.set_cons_succ, i64_w, i32_w]
          rfl
        refine take_ (i := 9) (N := some 48) (v := ?_) (a' := ?_) #[true, true, true, true, true, true, true, true, true, true, false, false, false] rfl rfl (take_ofW HT_.out HW_.out (by kernel_rfl)) (fun _ _ _ h => h) (Or.inl ⟨by rfl, ?_⟩) hHeld ?_ ?_
        rotate_left
        · rintro w' ⟨s0, s1⟩
          go_simp
          with_reducible rfl
        rotate_left
        · simp only [Act.put, List.setIfInBounds_toArray, List.set_cons_zero, List.set_cons_succ, i64_w, i32_w]
          rfl
        refine one_ (i := 10) (N := some 49) #[true, true, true, true, true, true, true, true, true, true, true, false, false] rfl rfl (one_of HT_.out (by kernel_rfl)) (by decide) (fun K hK => ?_)
        refine goes_ Try.func52 (by kernel_rfl) rfl #[.agg #[.slice Ao9 t298.length co9, .int .i64 t301]] (by rfl) rfl rfl (by (try simp only [List.map_toArray, List.map_cons, List.map_nil]); first|done|rfl|(simp only [List.length_drop, List.length_take]; rfl)) ?_
        with_reducible refine (impl_ArenaOk.calls k _ _ t298 t301 t313 _ ?side1 ?side2 A21.out).mono ?_
        (case side1 => repeat (first|exact (Kd.R_reads' HO300.out).2.2|(with_reducible refine Kd.C_alloc ?_ _)|(with_reducible refine Kd.C_drewN ?_ _)|(with_reducible refine Kd.C_drew ?_)))
        (case side2 => exact (Kd.R_reads' HO300.out).2.1)
        rintro e w25 ⟨rfl, hb⟩
        refine ⟨_, rfl, ?_⟩
        have n0_ := Aside0.mk (zM (by (with_reducible repeat (first|apply zE|apply zD|apply zF)); exact HO300.out) hb)
        have n1_ := Aside0.mk (zM (by (with_reducible repeat (first|apply zE|apply zD|apply zF)); exact HO307.out) hb)
        have n2_ := Aside0.mk (zK (g := gb304) (o := .cells #[.slice Ao9 t298.length co9, .int .i64 t301] 65 (0, 0)) (by (with_reducible repeat (first|refine zA ?_ _|refine zC ?_|refine zB ?_ _)); exact BK304.out) hb)
        have n3_ := Aside0.mk (zK (g := gb311) (o := .cells #[.slice Ao13 t305.length co13, .int .i64 t308] 65 (0, 0)) (by (with_reducible repeat (first|refine zA ?_ _|refine zC ?_|refine zB ?_ _)); exact BK311.out) hb)
        have n4_ := Aside0.mk (zN (by repeat (first|(with_reducible first|exact HB.out|apply zI|apply zG|apply zH|refine zJ ?_ GE304.out|refine zJ ?_ GE311.out)|exact HB.out)) hb)
        clear HO300
        clear HO307
        clear BK304
        clear BK311
        clear HB
        have HO300 := n0_
        have HO307 := n1_
        have BK304 := n2_
        have BK311 := n3_
        have HB := n4_
        clear n0_ n1_ n2_ n3_ n4_
        (try clear hb)
        (try clear hb2)
        (try clear hk)
        (try clear hi)
        refine hK.out _ _ ⟨(zO BK304.out 0).trans rfl, (zO BK304.out 1).trans rfl⟩ (fun hHeld => ?_)
        clear hK K
        refine norm_ (a' := ?_) ?_ ?_
        rotate_left
        · show Act.put _ (some 49) _ = _
          simp only [Act.put, List.setIfInBounds_toArray, List.set_cons_zero, List.set_cons_succ, i64_w, i32_w]
          rfl
        refine pure_ (i := 11) (N := some 50) (v := ?_) (a' := ?_) #[true, true, true, true, true, true, true, true, true, true, true, true, false] rfl rfl (any_of HT_.out (by kernel_rfl)) (fun _ _ _ h => h) (Or.inl ⟨by rfl, ?_⟩) ?_ ?_
        rotate_left
        · intro w'
          go_simp
          with_reducible rfl
        rotate_left
        · simp only [Act.put, List.setIfInBounds_toArray, List.set_cons_zero, List.set_cons_succ, i64_w, i32_w]
          rfl
        refine pure_ (i := 12) (N := some 51) (v := ?_) (a' := ?_) #[true, true, true, true, true, true, true, true, true, true, true, true, true] rfl rfl (any_of HT_.out (by kernel_rfl)) (fun _ _ _ h => h) (Or.inl ⟨by rfl, ?_⟩) ?_ ?_
        rotate_left
        · intro w'
          go_simp
          with_reducible rfl
        rotate_left
        · simp only [Act.put, List.setIfInBounds_toArray, List.set_cons_zero, List.set_cons_succ, i64_w, i32_w]
          rfl
        refine done_ (done_of HT_.out (by kernel_rfl)) ?_
        try go_wp2
        go_meet
        case rel => exact ⟨_, (!t313), (by first|rfl|(simp; done)|(simp [*]; done)), H', ⟨by first|omega|exact Nat.le_refl _⟩, ⟨by (with_reducible repeat (first|apply zE|apply zD|apply zF)); exact HO300.out⟩, ⟨by (with_reducible repeat (first|apply zE|apply zD|apply zF)); exact HO307.out⟩, ⟨by (with_reducible repeat (first|refine zA ?_ _|refine zC ?_|refine zB ?_ _)); exact BK304.out⟩, ⟨by (with_reducible repeat (first|refine zA ?_ _|refine zC ?_|refine zB ?_ _)); exact BK311.out⟩, ⟨by repeat (first|(with_reducible first|exact HB.out|apply zI|apply zG|apply zH|refine zJ ?_ GE304.out|refine zJ ?_ GE311.out)|exact HB.out)⟩⟩
    case rest =>
      clear HC6
      try clear c1
      try clear c2
      try clear p2
      try clear c3
      try clear c4
      try clear c5
      try clear c11
      try clear c14
      try clear c17
      try clear c17b0
      try clear c17b1
      try clear c17b2
      try clear c24
      try clear hcz10_0
      try clear hcz10_1
      try clear hcz15_0
      try clear hcz15_1
      try clear hfz10_0
      try clear hfz10_1
      try clear hfz15_0
      try clear hfz15_1
      obtain ⟨kq, x51_5, rfl, HA, HJ5, HO_305000, HO_312000, BK304, BK311, HB⟩ := hcut
      cases kq with
     |zero => exact absurd HA.out (by simp [laws_FnLays.j0])
     |succ kj5 =>
        have H := HA.out
        clear HA
        simp only [laws_FnLays.j0] at H
        by_cases c26 : x51_5 = true
        · subst c26
          have H1 : (some false) = some r := by rw [if_pos rfl] at H; exact H
          clear H
          have H := H1
          clear H1
          exact absurd ((Option.some.inj H).trans HTr_.out) (by simp)
        · replace c26 := Bool.eq_false_iff.mpr c26
          subst c26
          have H1 : (if t310 = true then ((impl_Look.f kj5 t305 t308 t309).bind fun bt314 => ((impl_Lift.f kj5 t305 t308 t309).bind fun bt317 => ((impl_Look.f kj5 bt317.1 bt317.2.1 t309).bind fun bt323 => ((impl_Lay.f kj5 bt317.1 bt317.2.1 (⟨#[97, 103, 97, 105, 110]⟩ : ByteArray) (⟨#[120]⟩ : ByteArray)).bind fun bt326 => ((impl_Look.f kj5 bt326.1 bt326.2.1 t309).bind fun bt333 => (if bt314.2.2 = true then (if bt314.1.toList = t302.toList then (if bt314.2.1.toList = t303.toList then (if bt317.2.2 = true then (if bt323.2.2 = true then (some false) else (if bt326.2.2.2 = true then (if bt326.2.2.1 = t309 then (some false) else (if bt333.2.2 = true then (some false) else ((impl_ArenaOk.f kj5 t305 t308).bind fun t336 => (if t336 = true then ((impl_ArenaOk.f kj5 bt317.1 bt317.2.1).bind fun t337 => (if t337 = true then ((impl_ArenaOk.f kj5 bt326.1 bt326.2.1).bind fun t338 => (if t338 = true then ((impl_UsedOf.f kj5 t305 t308).bind fun t339 => ((impl_UsedOf.f kj5 t298 t301).bind fun t340 => (if t339 = (wrap64 (t340 + 1)) then ((impl_UsedOf.f kj5 bt317.1 bt317.2.1).bind fun t341 => ((impl_UsedOf.f kj5 t298 t301).bind fun t342 => (some (t341 == t342)))) else (some false)))) else (some false))) else (some false))) else (some false))))) else (some false))) else (some false)) else (some false)) else (some false)) else (some false))))))) else (some ((t305.length : Int) == 0))) = some r := by rw [if_neg (show ¬ (false = true) by decide)] at H; exact H
          clear H
          have H := H1
          clear H1
          by_cases c27 : t310 = true
          · subst c27
            have H1 : ((impl_Look.f kj5 t305 t308 t309).bind fun bt314 => ((impl_Lift.f kj5 t305 t308 t309).bind fun bt317 => ((impl_Look.f kj5 bt317.1 bt317.2.1 t309).bind fun bt323 => ((impl_Lay.f kj5 bt317.1 bt317.2.1 (⟨#[97, 103, 97, 105, 110]⟩ : ByteArray) (⟨#[120]⟩ : ByteArray)).bind fun bt326 => ((impl_Look.f kj5 bt326.1 bt326.2.1 t309).bind fun bt333 => (if bt314.2.2 = true then (if bt314.1.toList = t302.toList then (if bt314.2.1.toList = t303.toList then (if bt317.2.2 = true then (if bt323.2.2 = true then (some false) else (if bt326.2.2.2 = true then (if bt326.2.2.1 = t309 then (some false) else (if bt333.2.2 = true then (some false) else ((impl_ArenaOk.f kj5 t305 t308).bind fun t336 => (if t336 = true then ((impl_ArenaOk.f kj5 bt317.1 bt317.2.1).bind fun t337 => (if t337 = true then ((impl_ArenaOk.f kj5 bt326.1 bt326.2.1).bind fun t338 => (if t338 = true then ((impl_UsedOf.f kj5 t305 t308).bind fun t339 => ((impl_UsedOf.f kj5 t298 t301).bind fun t340 => (if t339 = (wrap64 (t340 + 1)) then ((impl_UsedOf.f kj5 bt317.1 bt317.2.1).bind fun t341 => ((impl_UsedOf.f kj5 t298 t301).bind fun t342 => (some (t341 == t342)))) else (some false)))) else (some false))) else (some false))) else (some false))))) else (some false))) else (some false)) else (some false)) else (some false)) else (some false))))))) = some r := by rw [if_pos rfl] at H; exact H
            clear H
            have H := H1
            clear H1
            replace H := Option.bind_eq_some_iff.mp H
            obtain ⟨⟨t314, t315, t316⟩, A280, H⟩ := H
            replace H : ((impl_Lift.f kj5 t305 t308 t309).bind fun bt317 => ((impl_Look.f kj5 bt317.1 bt317.2.1 t309).bind fun bt323 => ((impl_Lay.f kj5 bt317.1 bt317.2.1 (⟨#[97, 103, 97, 105, 110]⟩ : ByteArray) (⟨#[120]⟩ : ByteArray)).bind fun bt326 => ((impl_Look.f kj5 bt326.1 bt326.2.1 t309).bind fun bt333 => (if t316 = true then (if t314.toList = t302.toList then (if t315.toList = t303.toList then (if bt317.2.2 = true then (if bt323.2.2 = true then (some false) else (if bt326.2.2.2 = true then (if bt326.2.2.1 = t309 then (some false) else (if bt333.2.2 = true then (some false) else ((impl_ArenaOk.f kj5 t305 t308).bind fun t336 => (if t336 = true then ((impl_ArenaOk.f kj5 bt317.1 bt317.2.1).bind fun t337 => (if t337 = true then ((impl_ArenaOk.f kj5 bt326.1 bt326.2.1).bind fun t338 => (if t338 = true then ((impl_UsedOf.f kj5 t305 t308).bind fun t339 => ((impl_UsedOf.f kj5 t298 t301).bind fun t340 => (if t339 = (wrap64 (t340 + 1)) then ((impl_UsedOf.f kj5 bt317.1 bt317.2.1).bind fun t341 => ((impl_UsedOf.f kj5 t298 t301).bind fun t342 => (some (t341 == t342)))) else (some false)))) else (some false))) else (some false))) else (some false))))) else (some false))) else (some false)) else (some false)) else (some false)) else (some false)))))) = some r := H
            have A28 := Aside0.mk A280
            clear A280
            replace H := Option.bind_eq_some_iff.mp H
            obtain ⟨⟨t317, t320, t321⟩, A290, H⟩ := H
            replace H : ((impl_Look.f kj5 t317 t320 t309).bind fun bt323 => ((impl_Lay.f kj5 t317 t320 (⟨#[97, 103, 97, 105, 110]⟩ : ByteArray) (⟨#[120]⟩ : ByteArray)).bind fun bt326 => ((impl_Look.f kj5 bt326.1 bt326.2.1 t309).bind fun bt333 => (if t316 = true then (if t314.toList = t302.toList then (if t315.toList = t303.toList then (if t321 = true then (if bt323.2.2 = true then (some false) else (if bt326.2.2.2 = true then (if bt326.2.2.1 = t309 then (some false) else (if bt333.2.2 = true then (some false) else ((impl_ArenaOk.f kj5 t305 t308).bind fun t336 => (if t336 = true then ((impl_ArenaOk.f kj5 t317 t320).bind fun t337 => (if t337 = true then ((impl_ArenaOk.f kj5 bt326.1 bt326.2.1).bind fun t338 => (if t338 = true then ((impl_UsedOf.f kj5 t305 t308).bind fun t339 => ((impl_UsedOf.f kj5 t298 t301).bind fun t340 => (if t339 = (wrap64 (t340 + 1)) then ((impl_UsedOf.f kj5 t317 t320).bind fun t341 => ((impl_UsedOf.f kj5 t298 t301).bind fun t342 => (some (t341 == t342)))) else (some false)))) else (some false))) else (some false))) else (some false))))) else (some false))) else (some false)) else (some false)) else (some false)) else (some false))))) = some r := H
            have A29 := Aside0.mk A290
            clear A290
            replace H := Option.bind_eq_some_iff.mp H
            obtain ⟨⟨t323, t324, t325⟩, A300, H⟩ := H
            replace H : ((impl_Lay.f kj5 t317 t320 (⟨#[97, 103, 97, 105, 110]⟩ : ByteArray) (⟨#[120]⟩ : ByteArray)).bind fun bt326 => ((impl_Look.f kj5 bt326.1 bt326.2.1 t309).bind fun bt333 => (if t316 = true then (if t314.toList = t302.toList then (if t315.toList = t303.toList then (if t321 = true then (if t325 = true then (some false) else (if bt326.2.2.2 = true then (if bt326.2.2.1 = t309 then (some false) else (if bt333.2.2 = true then (some false) else ((impl_ArenaOk.f kj5 t305 t308).bind fun t336 => (if t336 = true then ((impl_ArenaOk.f kj5 t317 t320).bind fun t337 => (if t337 = true then ((impl_ArenaOk.f kj5 bt326.1 bt326.2.1).bind fun t338 => (if t338 = true then ((impl_UsedOf.f kj5 t305 t308).bind fun t339 => ((impl_UsedOf.f kj5 t298 t301).bind fun t340 => (if t339 = (wrap64 (t340 + 1)) then ((impl_UsedOf.f kj5 t317 t320).bind fun t341 => ((impl_UsedOf.f kj5 t298 t301).bind fun t342 => (some (t341 == t342)))) else (some false)))) else (some false))) else (some false))) else (some false))))) else (some false))) else (some false)) else (some false)) else (some false)) else (some false)))) = some r := H
            have A30 := Aside0.mk A300
            clear A300
            replace H := Option.bind_eq_some_iff.mp H
            obtain ⟨⟨t326, t329, t330, t331⟩, A310, H⟩ := H
            replace H : ((impl_Look.f kj5 t326 t329 t309).bind fun bt333 => (if t316 = true then (if t314.toList = t302.toList then (if t315.toList = t303.toList then (if t321 = true then (if t325 = true then (some false) else (if t331 = true then (if t330 = t309 then (some false) else (if bt333.2.2 = true then (some false) else ((impl_ArenaOk.f kj5 t305 t308).bind fun t336 => (if t336 = true then ((impl_ArenaOk.f kj5 t317 t320).bind fun t337 => (if t337 = true then ((impl_ArenaOk.f kj5 t326 t329).bind fun t338 => (if t338 = true then ((impl_UsedOf.f kj5 t305 t308).bind fun t339 => ((impl_UsedOf.f kj5 t298 t301).bind fun t340 => (if t339 = (wrap64 (t340 + 1)) then ((impl_UsedOf.f kj5 t317 t320).bind fun t341 => ((impl_UsedOf.f kj5 t298 t301).bind fun t342 => (some (t341 == t342)))) else (some false)))) else (some false))) else (some false))) else (some false))))) else (some false))) else (some false)) else (some false)) else (some false)) else (some false))) = some r := H
            have A31 := Aside0.mk A310
            clear A310
            replace H := Option.bind_eq_some_iff.mp H
            obtain ⟨⟨t333, t334, t335⟩, A320, H⟩ := H
            replace H : (if t316 = true then (if t314.toList = t302.toList then (if t315.toList = t303.toList then (if t321 = true then (if t325 = true then (some false) else (if t331 = true then (if t330 = t309 then (some false) else (if t335 = true then (some false) else ((impl_ArenaOk.f kj5 t305 t308).bind fun t336 => (if t336 = true then ((impl_ArenaOk.f kj5 t317 t320).bind fun t337 => (if t337 = true then ((impl_ArenaOk.f kj5 t326 t329).bind fun t338 => (if t338 = true then ((impl_UsedOf.f kj5 t305 t308).bind fun t339 => ((impl_UsedOf.f kj5 t298 t301).bind fun t340 => (if t339 = (wrap64 (t340 + 1)) then ((impl_UsedOf.f kj5 t317 t320).bind fun t341 => ((impl_UsedOf.f kj5 t298 t301).bind fun t342 => (some (t341 == t342)))) else (some false)))) else (some false))) else (some false))) else (some false))))) else (some false))) else (some false)) else (some false)) else (some false)) else (some false)) = some r := H
            have A32 := Aside0.mk A320
            clear A320
            by_cases c33 : t316 = true
            · subst c33
              have H1 : (if t314.toList = t302.toList then (if t315.toList = t303.toList then (if t321 = true then (if t325 = true then (some false) else (if t331 = true then (if t330 = t309 then (some false) else (if t335 = true then (some false) else ((impl_ArenaOk.f kj5 t305 t308).bind fun t336 => (if t336 = true then ((impl_ArenaOk.f kj5 t317 t320).bind fun t337 => (if t337 = true then ((impl_ArenaOk.f kj5 t326 t329).bind fun t338 => (if t338 = true then ((impl_UsedOf.f kj5 t305 t308).bind fun t339 => ((impl_UsedOf.f kj5 t298 t301).bind fun t340 => (if t339 = (wrap64 (t340 + 1)) then ((impl_UsedOf.f kj5 t317 t320).bind fun t341 => ((impl_UsedOf.f kj5 t298 t301).bind fun t342 => (some (t341 == t342)))) else (some false)))) else (some false))) else (some false))) else (some false))))) else (some false))) else (some false)) else (some false)) else (some false)) = some r := by rw [if_pos rfl] at H; exact H
              clear H
              have H := H1
              clear H1
              by_cases c34 : t314.toList = t302.toList
              · rw [if_pos c34] at H
                have c34b0 : (t314.toList == t302.toList) = true := beq_iff_eq.mpr c34
                have c34b1 : (t314.toList != t302.toList) = false := bne_eq_false_iff_eq.mpr c34
                clear c34
                by_cases c35 : t315.toList = t303.toList
                · rw [if_pos c35] at H
                  have c35b0 : (t315.toList == t303.toList) = true := beq_iff_eq.mpr c35
                  have c35b1 : (t315.toList != t303.toList) = false := bne_eq_false_iff_eq.mpr c35
                  clear c35
                  by_cases c36 : t321 = true
                  · subst c36
                    have H1 : (if t325 = true then (some false) else (if t331 = true then (if t330 = t309 then (some false) else (if t335 = true then (some false) else ((impl_ArenaOk.f kj5 t305 t308).bind fun t336 => (if t336 = true then ((impl_ArenaOk.f kj5 t317 t320).bind fun t337 => (if t337 = true then ((impl_ArenaOk.f kj5 t326 t329).bind fun t338 => (if t338 = true then ((impl_UsedOf.f kj5 t305 t308).bind fun t339 => ((impl_UsedOf.f kj5 t298 t301).bind fun t340 => (if t339 = (wrap64 (t340 + 1)) then ((impl_UsedOf.f kj5 t317 t320).bind fun t341 => ((impl_UsedOf.f kj5 t298 t301).bind fun t342 => (some (t341 == t342)))) else (some false)))) else (some false))) else (some false))) else (some false))))) else (some false))) = some r := by rw [if_pos rfl] at H; exact H
                    clear H
                    have H := H1
                    clear H1
                    by_cases c37 : t325 = true
                    · subst c37
                      have H1 : (some false) = some r := by rw [if_pos rfl] at H; exact H
                      clear H
                      have H := H1
                      clear H1
                      exact absurd ((Option.some.inj H).trans HTr_.out) (by simp)
                    · replace c37 := Bool.eq_false_iff.mpr c37
                      subst c37
                      have H1 : (if t331 = true then (if t330 = t309 then (some false) else (if t335 = true then (some false) else ((impl_ArenaOk.f kj5 t305 t308).bind fun t336 => (if t336 = true then ((impl_ArenaOk.f kj5 t317 t320).bind fun t337 => (if t337 = true then ((impl_ArenaOk.f kj5 t326 t329).bind fun t338 => (if t338 = true then ((impl_UsedOf.f kj5 t305 t308).bind fun t339 => ((impl_UsedOf.f kj5 t298 t301).bind fun t340 => (if t339 = (wrap64 (t340 + 1)) then ((impl_UsedOf.f kj5 t317 t320).bind fun t341 => ((impl_UsedOf.f kj5 t298 t301).bind fun t342 => (some (t341 == t342)))) else (some false)))) else (some false))) else (some false))) else (some false))))) else (some false)) = some r := by rw [if_neg (show ¬ (false = true) by decide)] at H; exact H
                      clear H
                      have H := H1
                      clear H1
                      by_cases c59 : t331 = true
                      · subst c59
                        have H1 : (if t330 = t309 then (some false) else (if t335 = true then (some false) else ((impl_ArenaOk.f kj5 t305 t308).bind fun t336 => (if t336 = true then ((impl_ArenaOk.f kj5 t317 t320).bind fun t337 => (if t337 = true then ((impl_ArenaOk.f kj5 t326 t329).bind fun t338 => (if t338 = true then ((impl_UsedOf.f kj5 t305 t308).bind fun t339 => ((impl_UsedOf.f kj5 t298 t301).bind fun t340 => (if t339 = (wrap64 (t340 + 1)) then ((impl_UsedOf.f kj5 t317 t320).bind fun t341 => ((impl_UsedOf.f kj5 t298 t301).bind fun t342 => (some (t341 == t342)))) else (some false)))) else (some false))) else (some false))) else (some false))))) = some r := by rw [if_pos rfl] at H; exact H
                        clear H
                        have H := H1
                        clear H1
                        by_cases c60 : t330 = t309
                        · rw [if_pos c60] at H
                          have c60b0 : (t330 == t309) = true := beq_iff_eq.mpr c60
                          have c60b1 : (t330 != t309) = false := bne_eq_false_iff_eq.mpr c60
                          clear c60
                          exact absurd ((Option.some.inj H).trans HTr_.out) (by simp)
                        · rw [if_neg c60] at H
                          have c60b0 : (t330 == t309) = false := beq_eq_false_iff_ne.mpr c60
                          have c60b1 : (t330 != t309) = true := bne_iff_ne.mpr c60
                          by_cases c82 : t335 = true
                          · subst c82
                            have H1 : (some false) = some r := by rw [if_pos rfl] at H; exact H
                            clear H
                            have H := H1
                            clear H1
                            exact absurd ((Option.some.inj H).trans HTr_.out) (by simp)
                          · replace c82 := Bool.eq_false_iff.mpr c82
                            subst c82
                            have H1 : ((impl_ArenaOk.f kj5 t305 t308).bind fun t336 => (if t336 = true then ((impl_ArenaOk.f kj5 t317 t320).bind fun t337 => (if t337 = true then ((impl_ArenaOk.f kj5 t326 t329).bind fun t338 => (if t338 = true then ((impl_UsedOf.f kj5 t305 t308).bind fun t339 => ((impl_UsedOf.f kj5 t298 t301).bind fun t340 => (if t339 = (wrap64 (t340 + 1)) then ((impl_UsedOf.f kj5 t317 t320).bind fun t341 => ((impl_UsedOf.f kj5 t298 t301).bind fun t342 => (some (t341 == t342)))) else (some false)))) else (some false))) else (some false))) else (some false))) = some r := by rw [if_neg (show ¬ (false = true) by decide)] at H; exact H
                            clear H
                            have H := H1
                            clear H1
                            replace H := Option.bind_eq_some_iff.mp H
                            obtain ⟨t336, A1040, H⟩ := H
                            replace H : (if t336 = true then ((impl_ArenaOk.f kj5 t317 t320).bind fun t337 => (if t337 = true then ((impl_ArenaOk.f kj5 t326 t329).bind fun t338 => (if t338 = true then ((impl_UsedOf.f kj5 t305 t308).bind fun t339 => ((impl_UsedOf.f kj5 t298 t301).bind fun t340 => (if t339 = (wrap64 (t340 + 1)) then ((impl_UsedOf.f kj5 t317 t320).bind fun t341 => ((impl_UsedOf.f kj5 t298 t301).bind fun t342 => (some (t341 == t342)))) else (some false)))) else (some false))) else (some false))) else (some false)) = some r := H
                            have A104 := Aside0.mk A1040
                            clear A1040
                            by_cases c105 : t336 = true
                            · subst c105
                              have H1 : ((impl_ArenaOk.f kj5 t317 t320).bind fun t337 => (if t337 = true then ((impl_ArenaOk.f kj5 t326 t329).bind fun t338 => (if t338 = true then ((impl_UsedOf.f kj5 t305 t308).bind fun t339 => ((impl_UsedOf.f kj5 t298 t301).bind fun t340 => (if t339 = (wrap64 (t340 + 1)) then ((impl_UsedOf.f kj5 t317 t320).bind fun t341 => ((impl_UsedOf.f kj5 t298 t301).bind fun t342 => (some (t341 == t342)))) else (some false)))) else (some false))) else (some false))) = some r := by rw [if_pos rfl] at H; exact H
                              clear H
                              have H := H1
                              clear H1
                              replace H := Option.bind_eq_some_iff.mp H
                              obtain ⟨t337, A1060, H⟩ := H
                              replace H : (if t337 = true then ((impl_ArenaOk.f kj5 t326 t329).bind fun t338 => (if t338 = true then ((impl_UsedOf.f kj5 t305 t308).bind fun t339 => ((impl_UsedOf.f kj5 t298 t301).bind fun t340 => (if t339 = (wrap64 (t340 + 1)) then ((impl_UsedOf.f kj5 t317 t320).bind fun t341 => ((impl_UsedOf.f kj5 t298 t301).bind fun t342 => (some (t341 == t342)))) else (some false)))) else (some false))) else (some false)) = some r := H
                              have A106 := Aside0.mk A1060
                              clear A1060
                              by_cases c107 : t337 = true
                              · subst c107
                                have H1 : ((impl_ArenaOk.f kj5 t326 t329).bind fun t338 => (if t338 = true then ((impl_UsedOf.f kj5 t305 t308).bind fun t339 => ((impl_UsedOf.f kj5 t298 t301).bind fun t340 => (if t339 = (wrap64 (t340 + 1)) then ((impl_UsedOf.f kj5 t317 t320).bind fun t341 => ((impl_UsedOf.f kj5 t298 t301).bind fun t342 => (some (t341 == t342)))) else (some false)))) else (some false))) = some r := by rw [if_pos rfl] at H; exact H
                                clear H
                                have H := H1
                                clear H1
                                replace H := Option.bind_eq_some_iff.mp H
                                obtain ⟨t338, A1080, H⟩ := H
                                replace H : (if t338 = true then ((impl_UsedOf.f kj5 t305 t308).bind fun t339 => ((impl_UsedOf.f kj5 t298 t301).bind fun t340 => (if t339 = (wrap64 (t340 + 1)) then ((impl_UsedOf.f kj5 t317 t320).bind fun t341 => ((impl_UsedOf.f kj5 t298 t301).bind fun t342 => (some (t341 == t342)))) else (some false)))) else (some false)) = some r := H
                                have A108 := Aside0.mk A1080
                                clear A1080
                                by_cases c109 : t338 = true
                                · subst c109
                                  have H1 : ((impl_UsedOf.f kj5 t305 t308).bind fun t339 => ((impl_UsedOf.f kj5 t298 t301).bind fun t340 => (if t339 = (wrap64 (t340 + 1)) then ((impl_UsedOf.f kj5 t317 t320).bind fun t341 => ((impl_UsedOf.f kj5 t298 t301).bind fun t342 => (some (t341 == t342)))) else (some false)))) = some r := by rw [if_pos rfl] at H; exact H
                                  clear H
                                  have H := H1
                                  clear H1
                                  replace H := Option.bind_eq_some_iff.mp H
                                  obtain ⟨t339, A1100, H⟩ := H
                                  replace H : ((impl_UsedOf.f kj5 t298 t301).bind fun t340 => (if t339 = (wrap64 (t340 + 1)) then ((impl_UsedOf.f kj5 t317 t320).bind fun t341 => ((impl_UsedOf.f kj5 t298 t301).bind fun t342 => (some (t341 == t342)))) else (some false))) = some r := H
                                  have A110 := Aside0.mk A1100
                                  clear A1100
                                  replace H := Option.bind_eq_some_iff.mp H
                                  obtain ⟨t340, A1110, H⟩ := H
                                  replace H : (if t339 = (wrap64 (t340 + 1)) then ((impl_UsedOf.f kj5 t317 t320).bind fun t341 => ((impl_UsedOf.f kj5 t298 t301).bind fun t342 => (some (t341 == t342)))) else (some false)) = some r := H
                                  have A111 := Aside0.mk A1110
                                  clear A1110
                                  by_cases c112 : t339 = (wrap64 (t340 + 1))
                                  · rw [if_pos c112] at H
                                    have c112b0 : (t339 == (wrap64 (t340 + 1))) = true := beq_iff_eq.mpr c112
                                    have c112b1 : (t339 != (wrap64 (t340 + 1))) = false := bne_eq_false_iff_eq.mpr c112
                                    clear c112
                                    replace H := Option.bind_eq_some_iff.mp H
                                    obtain ⟨t341, A1130, H⟩ := H
                                    replace H : ((impl_UsedOf.f kj5 t298 t301).bind fun t342 => (some (t341 == t342))) = some r := H
                                    have A113 := Aside0.mk A1130
                                    clear A1130
                                    replace H := Option.bind_eq_some_iff.mp H
                                    obtain ⟨t342, A1140, H⟩ := H
                                    replace H : (some (t341 == t342)) = some r := H
                                    have A114 := Aside0.mk A1140
                                    clear A1140
                                    obtain rfl := Option.some.inj H
                                    have hnb115 := NB311_304.out
                                    have hnc115 := NB304_311.out
                                    obtain ⟨hcz116_0, hcz116_1, hfz116_0, hfz116_1⟩ := zb2 BK311.out
                                    try go_wp2_with (first|((with_reducible refine gate_callee (f := 53) rfl ?_); refine goesL_ (some 61) rfl rfl Try.func53 (by kernel_rfl) rfl #[.agg #[.slice Ao13 t305.length co13, .int .i64 t308], .int .i64 t309] rfl (by (try simp only [List.map_toArray, List.map_cons, List.map_nil]); first|done|rfl|(simp only [List.length_drop, List.length_take]; rfl)) ?_; (with_reducible refine (impl_Look.calls kj5 _ _ t305 t308 t309 t314 t315 true _ ?side1 ?side2 A28.out).mono ?_); (case side1 => repeat (first|exact (Kd.R_reads' HO_312000.out).2.2|(with_reducible refine Kd.C_alloc ?_ _)|(with_reducible refine Kd.C_drewN ?_ _)|(with_reducible refine Kd.C_drew ?_))); (case side2 => exact (Kd.R_reads' HO_312000.out).2.1); rintro e w117 ⟨rfl, hb⟩; refine ⟨_, rfl, ?_⟩; have n0_ := Aside0.mk (zM (by (with_reducible repeat (first|apply zE|apply zD|apply zF)); exact HO_305000.out) hb); have n1_ := Aside0.mk (zM (by (with_reducible repeat (first|apply zE|apply zD|apply zF)); exact HO_312000.out) hb); have n2_ := Aside0.mk (zK (g := gb304) (o := .cells #[.slice Ao9 t298.length co9, .int .i64 t301] 65 (0, 0)) (by (with_reducible repeat (first|refine zA ?_ _|refine zC ?_|refine zB ?_ _)); exact BK304.out) hb); have n3_ := Aside0.mk (zK (g := gb311) (o := .cells #[.slice Ao13 t305.length co13, .int .i64 t308] 65 (0, 0)) (by (with_reducible repeat (first|refine zA ?_ _|refine zC ?_|refine zB ?_ _)); exact BK311.out) hb); have n4_ := Aside0.mk (zN (by repeat (first|(with_reducible first|exact HB.out|apply zI|apply zG|apply zH|refine zJ ?_ GE304.out|refine zJ ?_ GE311.out)|exact HB.out)) hb); clear HO_305000; clear HO_312000; clear BK304; clear BK311; clear HB; have HO_305000 := n0_; have HO_312000 := n1_; have BK304 := n2_; have BK311 := n3_; have HB := n4_; clear n0_ n1_ n2_ n3_ n4_; (try clear hb); (try clear hb2); (try clear hk); (try clear hi); obtain ⟨hcz118_0, hcz118_1, hfz118_0, hfz118_1⟩ := zb2 BK311.out)|((with_reducible refine gate_callee (f := 54) rfl ?_); refine goesL_ (some 68) rfl rfl Try.func54 (by kernel_rfl) rfl #[.agg #[.slice Ao13 t305.length co13, .int .i64 t308], .int .i64 t309] rfl (by (try simp only [List.map_toArray, List.map_cons, List.map_nil]); first|done|rfl|(simp only [List.length_drop, List.length_take]; rfl)) ?_; (with_reducible refine (impl_Lift.calls kj5 _ _ t305 t308 t309 t317 t320 true _ ?side1 ?side2 A29.out).mono ?_); (case side1 => repeat (first|exact (Kd.R_reads' HO_312000.out).2.2|(with_reducible refine Kd.C_alloc ?_ _)|(with_reducible refine Kd.C_drewN ?_ _)|(with_reducible refine Kd.C_drew ?_))); (case side2 => exact (Kd.R_reads' HO_312000.out).2.1); rintro e w119 ⟨v318, rfl, ho0, hb⟩; refine ⟨_, rfl, ?_⟩; have n0_ := Aside0.mk (Kd.R_elder' (by (with_reducible repeat (first|apply zE|apply zD|apply zF)); exact HO_305000.out) (Kd.R_base ho0) hb); have n1_ := Aside0.mk (Kd.R_elder' (by (with_reducible repeat (first|apply zE|apply zD|apply zF)); exact HO_312000.out) (Kd.R_base ho0) hb); have n2_ := Aside0.mk (Kd.R_lower (Kd.R_new' (Kd.R_new' ho0 (Kd.R_lt (by (with_reducible repeat (first|apply zE|apply zD|apply zF)); exact HO_305000.out))) (Kd.R_lt (by (with_reducible repeat (first|apply zE|apply zD|apply zF)); exact HO_312000.out))) (below_size (by repeat (first|(with_reducible first|exact HB.out|apply zI|apply zG|apply zH|refine zJ ?_ GE304.out|refine zJ ?_ GE311.out)|exact HB.out)))); have n3_ := Aside0.mk (zK (g := gb304) (o := .cells #[.slice Ao9 t298.length co9, .int .i64 t301] 65 (0, 0)) (by (with_reducible repeat (first|refine zA ?_ _|refine zC ?_|refine zB ?_ _)); exact BK304.out) hb); have n4_ := Aside0.mk (zK (g := gb311) (o := .cells #[.slice Ao13 t305.length co13, .int .i64 t308] 65 (0, 0)) (by (with_reducible repeat (first|refine zA ?_ _|refine zC ?_|refine zB ?_ _)); exact BK311.out) hb); have n5_ := Aside0.mk (zN (by repeat (first|(with_reducible first|exact HB.out|apply zI|apply zG|apply zH|refine zJ ?_ GE304.out|refine zJ ?_ GE311.out)|exact HB.out)) hb); clear HO_305000; clear HO_312000; clear BK304; clear BK311; clear HB; have HO_305000 := n0_; have HO_312000 := n1_; have HO319 := n2_; have BK304 := n3_; have BK311 := n4_; have HB := n5_; clear n0_ n1_ n2_ n3_ n4_ n5_; (try clear hb); (try clear hb2); (try clear hk); (try clear hi); (try clear ho0))|((with_reducible refine gate_dst (N := 12) rfl ?_); refine box_event ?hg (N := 12) ?hd (cs := #[.slice none 0 0, .int .i64 0]) (t := 65) ?hr ?_; (case hd => rfl); (case hg => rfl); (case hr => first|(go_simp; done)|(go_simp; rfl)); intro gb322 hg w120 hbox hb; have n0_ := Aside0.mk (zM (by (with_reducible repeat (first|apply zE|apply zD|apply zF)); exact HO_305000.out) hb); have n1_ := Aside0.mk (zM (by (with_reducible repeat (first|apply zE|apply zD|apply zF)); exact HO_312000.out) hb); have n2_ := Aside0.mk (zM (by (with_reducible repeat (first|apply zE|apply zD|apply zF)); exact HO319.out) hb); have n3_ := Aside0.mk (zK (g := gb304) (o := .cells #[.slice Ao9 t298.length co9, .int .i64 t301] 65 (0, 0)) (by (with_reducible repeat (first|refine zA ?_ _|refine zC ?_|refine zB ?_ _)); exact BK304.out) hb); have n4_ := Aside0.mk (zK (g := gb311) (o := .cells #[.slice Ao13 t305.length co13, .int .i64 t308] 65 (0, 0)) (by (with_reducible repeat (first|refine zA ?_ _|refine zC ?_|refine zB ?_ _)); exact BK311.out) hb); have n5_ := Aside0.mk (zN (by repeat (first|(with_reducible first|exact HB.out|apply zI|apply zG|apply zH|refine zJ ?_ GE304.out|refine zJ ?_ GE311.out)|exact HB.out)) hb); have n6_ := Aside0.mk (hbox); have n7_ := Aside0.mk ((by rw [hg]; exact (below_size (by repeat (first|(with_reducible first|exact HB.out|apply zI|apply zG|apply zH|refine zJ ?_ GE304.out|refine zJ ?_ GE311.out)|exact HB.out))) : w.heap.size ≤ gb322)); have n8_ := Aside0.mk ((by rw [hg]; exact (below_size (by repeat (first|(with_reducible first|exact HB.out|apply zI|apply zG|apply zH|refine zJ ?_ GE304.out|refine zJ ?_ GE311.out)|exact HB.out))) : w.heap.size ≤ gb322)); have n9_ := Aside0.mk ((by rw [hg]; exact Nat.ne_of_lt (blk_lt (g := gb304) (o := .cells #[.slice Ao9 t298.length co9, .int .i64 t301] 65 (0, 0)) (by (with_reducible repeat (first|refine zA ?_ _|refine zC ?_|refine zB ?_ _)); exact BK304.out)) : gb304 ≠ gb322)); have n10_ := Aside0.mk ((by rw [hg]; exact Nat.ne_of_gt (blk_lt (g := gb304) (o := .cells #[.slice Ao9 t298.length co9, .int .i64 t301] 65 (0, 0)) (by (with_reducible repeat (first|refine zA ?_ _|refine zC ?_|refine zB ?_ _)); exact BK304.out)) : gb322 ≠ gb304)); have n11_ := Aside0.mk ((by rw [hg]; exact Nat.ne_of_lt (blk_lt (g := gb311) (o := .cells #[.slice Ao13 t305.length co13, .int .i64 t308] 65 (0, 0)) (by (with_reducible repeat (first|refine zA ?_ _|refine zC ?_|refine zB ?_ _)); exact BK311.out)) : gb311 ≠ gb322)); have n12_ := Aside0.mk ((by rw [hg]; exact Nat.ne_of_gt (blk_lt (g := gb311) (o := .cells #[.slice Ao13 t305.length co13, .int .i64 t308] 65 (0, 0)) (by (with_reducible repeat (first|refine zA ?_ _|refine zC ?_|refine zB ?_ _)); exact BK311.out)) : gb322 ≠ gb311)); clear HO_305000; clear HO_312000; clear HO319; clear BK304; clear BK311; clear HB; have HO_305000 := n0_; have HO_312000 := n1_; have HO319 := n2_; have BK304 := n3_; have BK311 := n4_; have HB := n5_; have BK322 := n6_; have GW322 := n7_; have GE322 := n8_; have NB304_322 := n9_; have NB322_304 := n10_; have NB311_322 := n11_; have NB322_311 := n12_; clear n0_ n1_ n2_ n3_ n4_ n5_ n6_ n7_ n8_ n9_ n10_ n11_ n12_; clear hb hbox hg; obtain ⟨Ao121, co121, eo121⟩ := Kd.R_slice HO319.out; subst eo121; have hnb122 := NB322_304.out; have hnc122 := NB304_322.out; have hnb123 := NB322_311.out; have hnc123 := NB311_322.out; obtain ⟨hcz124_0, hcz124_1, hfz124_0, hfz124_1⟩ := zb2 BK322.out)|((with_reducible refine gate_callee (f := 53) rfl ?_); refine goesL_ (some 74) rfl rfl Try.func53 (by kernel_rfl) rfl #[.agg #[.slice Ao121 t317.length co121, .int .i64 t320], .int .i64 t309] rfl (by (try simp only [List.map_toArray, List.map_cons, List.map_nil]); first|done|rfl|(simp only [List.length_drop, List.length_take]; rfl)) ?_; (with_reducible refine (impl_Look.calls kj5 _ _ t317 t320 t309 t323 t324 false _ ?side1 ?side2 A30.out).mono ?_); (case side1 => refine (Kd.R_reads' (e := 81) (base := w.heap.size) (ok := fun k_ => ((True ∧ some k_ ≠ (.slice Ao9 t298.length co9 : Value).ownBlock) ∧ some k_ ≠ (.slice Ao13 t305.length co13 : Value).ownBlock)) (n := t317.length) (c := co121) ?_).2.2; exact (by (with_reducible repeat (first|apply zE|apply zD|apply zF)); exact (zR (zL (p := ⟨gb322, 1, none⟩) (zL (p := ⟨gb322, 0, none⟩) (zQ HO319.out BK322.out (by decide)) (fun _ hk => hk.2) (.slice Ao121 t317.length co121)) (fun _ hk => hk.2) (.int .i64 t320)) (fun _ h_ => h_.1)))); (case side2 => exact (Kd.R_reads' HO319.out).2.1); rintro e w125 ⟨rfl, hb⟩; refine ⟨_, rfl, ?_⟩; have n0_ := Aside0.mk (zM (by (with_reducible repeat (first|apply zE|apply zD|apply zF)); exact (zR (zL (p := ⟨gb322, 1, none⟩) (zL (p := ⟨gb322, 0, none⟩) (zQ HO_305000.out BK322.out (by decide)) (fun _ hk => hk.2) (.slice Ao121 t317.length co121)) (fun _ hk => hk.2) (.int .i64 t320)) (fun _ h_ => h_.1))) hb); have n1_ := Aside0.mk (zM (by (with_reducible repeat (first|apply zE|apply zD|apply zF)); exact (zR (zL (p := ⟨gb322, 1, none⟩) (zL (p := ⟨gb322, 0, none⟩) (zQ HO_312000.out BK322.out (by decide)) (fun _ hk => hk.2) (.slice Ao121 t317.length co121)) (fun _ hk => hk.2) (.int .i64 t320)) (fun _ h_ => h_.1))) hb); have n2_ := Aside0.mk (zM (by (with_reducible repeat (first|apply zE|apply zD|apply zF)); exact (zR (zL (p := ⟨gb322, 1, none⟩) (zL (p := ⟨gb322, 0, none⟩) (zQ HO319.out BK322.out (by decide)) (fun _ hk => hk.2) (.slice Ao121 t317.length co121)) (fun _ hk => hk.2) (.int .i64 t320)) (fun _ h_ => h_.1))) hb); have n3_ := Aside0.mk (zK (g := gb304) (o := .cells #[.slice Ao9 t298.length co9, .int .i64 t301] 65 (0, 0)) (by (with_reducible repeat (first|refine zA ?_ _|refine zC ?_|refine zB ?_ _)); refine zT ?_ NB304_322.out _; (with_reducible repeat (first|refine zA ?_ _|refine zC ?_|refine zB ?_ _)); refine zT ?_ NB304_322.out _; (with_reducible repeat (first|refine zA ?_ _|refine zC ?_|refine zB ?_ _)); exact BK304.out) hb); have n4_ := Aside0.mk (zK (g := gb311) (o := .cells #[.slice Ao13 t305.length co13, .int .i64 t308] 65 (0, 0)) (by (with_reducible repeat (first|refine zA ?_ _|refine zC ?_|refine zB ?_ _)); refine zT ?_ NB311_322.out _; (with_reducible repeat (first|refine zA ?_ _|refine zC ?_|refine zB ?_ _)); refine zT ?_ NB311_322.out _; (with_reducible repeat (first|refine zA ?_ _|refine zC ?_|refine zB ?_ _)); exact BK311.out) hb); have n5_ := Aside0.mk (zK (g := gb322) (o := .cells #[.slice Ao121 t317.length co121, .int .i64 t320] 65 (0, 0)) (by (with_reducible repeat (first|refine zA ?_ _|refine zC ?_|refine zB ?_ _)); refine blk_put (cs := #[.slice Ao121 t317.length co121, .int .i64 0]) ?_ 1 _ rfl; (with_reducible repeat (first|refine zA ?_ _|refine zC ?_|refine zB ?_ _)); refine blk_put (cs := #[.slice none 0 0, .int .i64 0]) ?_ 0 _ rfl; (with_reducible repeat (first|refine zA ?_ _|refine zC ?_|refine zB ?_ _)); exact BK322.out) hb); have n6_ := Aside0.mk (zN (by repeat (first|(with_reducible first|exact HB.out|apply zI|apply zG|apply zH|refine zJ ?_ GE304.out|refine zJ ?_ GE311.out|refine zJ ?_ GE322.out)|exact HB.out)) hb); clear HO_305000; clear HO_312000; clear HO319; clear BK304; clear BK311; clear BK322; clear HB; have HO_305000 := n0_; have HO_312000 := n1_; have HO319 := n2_; have BK304 := n3_; have BK311 := n4_; have BK322 := n5_; have HB := n6_; clear n0_ n1_ n2_ n3_ n4_ n5_ n6_; (try clear hb); (try clear hb2); (try clear hk); (try clear hi); obtain ⟨hcz126_0, hcz126_1, hfz126_0, hfz126_1⟩ := zb2 BK322.out)|((with_reducible refine gate_callee (f := 46) rfl ?_); refine goesL_ (some 80) rfl rfl Try.func46 (by kernel_rfl) rfl #[.agg #[.slice Ao121 t317.length co121, .int .i64 t320], .string (⟨#[97, 103, 97, 105, 110]⟩ : ByteArray), .string (⟨#[120]⟩ : ByteArray)] rfl (by (try simp only [List.map_toArray, List.map_cons, List.map_nil]); first|done|rfl|(simp only [List.length_drop, List.length_take]; rfl)) ?_; (with_reducible refine (impl_Lay.calls kj5 _ _ t317 t320 (⟨#[97, 103, 97, 105, 110]⟩ : ByteArray) (⟨#[120]⟩ : ByteArray) t326 t329 t330 true _ ?side1 ?side2 A31.out).mono ?_); (case side1 => repeat (first|exact (Kd.R_reads' HO319.out).2.2|(with_reducible refine Kd.C_alloc ?_ _)|(with_reducible refine Kd.C_drewN ?_ _)|(with_reducible refine Kd.C_drew ?_))); (case side2 => exact (Kd.R_reads' HO319.out).2.1); rintro e w127 ⟨v327, rfl, ho0, hb⟩; refine ⟨_, rfl, ?_⟩; have n0_ := Aside0.mk (Kd.R_elder' (by (with_reducible repeat (first|apply zE|apply zD|apply zF)); exact HO_305000.out) (Kd.R_base ho0) hb); have n1_ := Aside0.mk (Kd.R_elder' (by (with_reducible repeat (first|apply zE|apply zD|apply zF)); exact HO_312000.out) (Kd.R_base ho0) hb); have n2_ := Aside0.mk (Kd.R_elder' (by (with_reducible repeat (first|apply zE|apply zD|apply zF)); exact HO319.out) (Kd.R_base ho0) hb); have n3_ := Aside0.mk (Kd.R_lower (Kd.R_new' (Kd.R_new' (Kd.R_new' ho0 (Kd.R_lt (by (with_reducible repeat (first|apply zE|apply zD|apply zF)); exact HO_305000.out))) (Kd.R_lt (by (with_reducible repeat (first|apply zE|apply zD|apply zF)); exact HO_312000.out))) (Kd.R_lt (by (with_reducible repeat (first|apply zE|apply zD|apply zF)); exact HO319.out))) (below_size (by repeat (first|(with_reducible first|exact HB.out|apply zI|apply zG|apply zH|refine zJ ?_ GE304.out|refine zJ ?_ GE311.out|refine zJ ?_ GE322.out)|exact HB.out)))); have n4_ := Aside0.mk (zK (g := gb304) (o := .cells #[.slice Ao9 t298.length co9, .int .i64 t301] 65 (0, 0)) (by (with_reducible repeat (first|refine zA ?_ _|refine zC ?_|refine zB ?_ _)); exact BK304.out) hb); have n5_ := Aside0.mk (zK (g := gb311) (o := .cells #[.slice Ao13 t305.length co13, .int .i64 t308] 65 (0, 0)) (by (with_reducible repeat (first|refine zA ?_ _|refine zC ?_|refine zB ?_ _)); exact BK311.out) hb); have n6_ := Aside0.mk (zK (g := gb322) (o := .cells #[.slice Ao121 t317.length co121, .int .i64 t320] 65 (0, 0)) (by (with_reducible repeat (first|refine zA ?_ _|refine zC ?_|refine zB ?_ _)); exact BK322.out) hb); have n7_ := Aside0.mk (zN (by repeat (first|(with_reducible first|exact HB.out|apply zI|apply zG|apply zH|refine zJ ?_ GE304.out|refine zJ ?_ GE311.out|refine zJ ?_ GE322.out)|exact HB.out)) hb); clear HO_305000; clear HO_312000; clear HO319; clear BK304; clear BK311; clear BK322; clear HB; have HO_305000 := n0_; have HO_312000 := n1_; have HO319 := n2_; have HO328 := n3_; have BK304 := n4_; have BK311 := n5_; have BK322 := n6_; have HB := n7_; clear n0_ n1_ n2_ n3_ n4_ n5_ n6_ n7_; (try clear hb); (try clear hb2); (try clear hk); (try clear hi); (try clear ho0))|((with_reducible refine gate_dst (N := 17) rfl ?_); refine box_event ?hg (N := 17) ?hd (cs := #[.slice none 0 0, .int .i64 0]) (t := 65) ?hr ?_; (case hd => rfl); (case hg => rfl); (case hr => first|(go_simp; done)|(go_simp; rfl)); intro gb332 hg w128 hbox hb; have n0_ := Aside0.mk (zM (by (with_reducible repeat (first|apply zE|apply zD|apply zF)); exact HO_305000.out) hb); have n1_ := Aside0.mk (zM (by (with_reducible repeat (first|apply zE|apply zD|apply zF)); exact HO_312000.out) hb); have n2_ := Aside0.mk (zM (by (with_reducible repeat (first|apply zE|apply zD|apply zF)); exact HO319.out) hb); have n3_ := Aside0.mk (zM (by (with_reducible repeat (first|apply zE|apply zD|apply zF)); exact HO328.out) hb); have n4_ := Aside0.mk (zK (g := gb304) (o := .cells #[.slice Ao9 t298.length co9, .int .i64 t301] 65 (0, 0)) (by (with_reducible repeat (first|refine zA ?_ _|refine zC ?_|refine zB ?_ _)); exact BK304.out) hb); have n5_ := Aside0.mk (zK (g := gb311) (o := .cells #[.slice Ao13 t305.length co13, .int .i64 t308] 65 (0, 0)) (by (with_reducible repeat (first|refine zA ?_ _|refine zC ?_|refine zB ?_ _)); exact BK311.out) hb); have n6_ := Aside0.mk (zK (g := gb322) (o := .cells #[.slice Ao121 t317.length co121, .int .i64 t320] 65 (0, 0)) (by (with_reducible repeat (first|refine zA ?_ _|refine zC ?_|refine zB ?_ _)); exact BK322.out) hb); have n7_ := Aside0.mk (zN (by repeat (first|(with_reducible first|exact HB.out|apply zI|apply zG|apply zH|refine zJ ?_ GE304.out|refine zJ ?_ GE311.out|refine zJ ?_ GE322.out)|exact HB.out)) hb); have n8_ := Aside0.mk (hbox); have n9_ := Aside0.mk ((by rw [hg]; exact (below_size (by repeat (first|(with_reducible first|exact HB.out|apply zI|apply zG|apply zH|refine zJ ?_ GE304.out|refine zJ ?_ GE311.out|refine zJ ?_ GE322.out)|exact HB.out))) : w.heap.size ≤ gb332)); have n10_ := Aside0.mk ((by rw [hg]; exact (below_size (by repeat (first|(with_reducible first|exact HB.out|apply zI|apply zG|apply zH|refine zJ ?_ GE304.out|refine zJ ?_ GE311.out|refine zJ ?_ GE322.out)|exact HB.out))) : w.heap.size ≤ gb332)); have n11_ := Aside0.mk ((by rw [hg]; exact Nat.ne_of_lt (blk_lt (g := gb304) (o := .cells #[.slice Ao9 t298.length co9, .int .i64 t301] 65 (0, 0)) (by (with_reducible repeat (first|refine zA ?_ _|refine zC ?_|refine zB ?_ _)); exact BK304.out)) : gb304 ≠ gb332)); have n12_ := Aside0.mk ((by rw [hg]; exact Nat.ne_of_gt (blk_lt (g := gb304) (o := .cells #[.slice Ao9 t298.length co9, .int .i64 t301] 65 (0, 0)) (by (with_reducible repeat (first|refine zA ?_ _|refine zC ?_|refine zB ?_ _)); exact BK304.out)) : gb332 ≠ gb304)); have n13_ := Aside0.mk ((by rw [hg]; exact Nat.ne_of_lt (blk_lt (g := gb311) (o := .cells #[.slice Ao13 t305.length co13, .int .i64 t308] 65 (0, 0)) (by (with_reducible repeat (first|refine zA ?_ _|refine zC ?_|refine zB ?_ _)); exact BK311.out)) : gb311 ≠ gb332)); have n14_ := Aside0.mk ((by rw [hg]; exact Nat.ne_of_gt (blk_lt (g := gb311) (o := .cells #[.slice Ao13 t305.length co13, .int .i64 t308] 65 (0, 0)) (by (with_reducible repeat (first|refine zA ?_ _|refine zC ?_|refine zB ?_ _)); exact BK311.out)) : gb332 ≠ gb311)); have n15_ := Aside0.mk ((by rw [hg]; exact Nat.ne_of_lt (blk_lt (g := gb322) (o := .cells #[.slice Ao121 t317.length co121, .int .i64 t320] 65 (0, 0)) (by (with_reducible repeat (first|refine zA ?_ _|refine zC ?_|refine zB ?_ _)); exact BK322.out)) : gb322 ≠ gb332)); have n16_ := Aside0.mk ((by rw [hg]; exact Nat.ne_of_gt (blk_lt (g := gb322) (o := .cells #[.slice Ao121 t317.length co121, .int .i64 t320] 65 (0, 0)) (by (with_reducible repeat (first|refine zA ?_ _|refine zC ?_|refine zB ?_ _)); exact BK322.out)) : gb332 ≠ gb322)); clear HO_305000; clear HO_312000; clear HO319; clear HO328; clear BK304; clear BK311; clear BK322; clear HB; have HO_305000 := n0_; have HO_312000 := n1_; have HO319 := n2_; have HO328 := n3_; have BK304 := n4_; have BK311 := n5_; have BK322 := n6_; have HB := n7_; have BK332 := n8_; have GW332 := n9_; have GE332 := n10_; have NB304_332 := n11_; have NB332_304 := n12_; have NB311_332 := n13_; have NB332_311 := n14_; have NB322_332 := n15_; have NB332_322 := n16_; clear n0_ n1_ n2_ n3_ n4_ n5_ n6_ n7_ n8_ n9_ n10_ n11_ n12_ n13_ n14_ n15_ n16_; clear hb hbox hg; obtain ⟨Ao129, co129, eo129⟩ := Kd.R_slice HO328.out; subst eo129; have hnb130 := NB332_304.out; have hnc130 := NB304_332.out; have hnb131 := NB332_311.out; have hnc131 := NB311_332.out; have hnb132 := NB332_322.out; have hnc132 := NB322_332.out; obtain ⟨hcz133_0, hcz133_1, hfz133_0, hfz133_1⟩ := zb2 BK332.out)|((with_reducible refine gate_callee (f := 53) rfl ?_); refine goesL_ (some 87) rfl rfl Try.func53 (by kernel_rfl) rfl #[.agg #[.slice Ao129 t326.length co129, .int .i64 t329], .int .i64 t309] rfl (by (try simp only [List.map_toArray, List.map_cons, List.map_nil]); first|done|rfl|(simp only [List.length_drop, List.length_take]; rfl)) ?_; (with_reducible refine (impl_Look.calls kj5 _ _ t326 t329 t309 t333 t334 false _ ?side1 ?side2 A32.out).mono ?_); (case side1 => refine (Kd.R_reads' (e := 81) (base := w.heap.size) (ok := fun k_ => (((True ∧ some k_ ≠ (.slice Ao9 t298.length co9 : Value).ownBlock) ∧ some k_ ≠ (.slice Ao13 t305.length co13 : Value).ownBlock) ∧ some k_ ≠ (.slice Ao121 t317.length co121 : Value).ownBlock)) (n := t326.length) (c := co129) ?_).2.2; exact (by (with_reducible repeat (first|apply zE|apply zD|apply zF)); exact (zR (zL (p := ⟨gb332, 1, none⟩) (zL (p := ⟨gb332, 0, none⟩) (zQ HO328.out BK332.out (by decide)) (fun _ hk => hk.2) (.slice Ao129 t326.length co129)) (fun _ hk => hk.2) (.int .i64 t329)) (fun _ h_ => h_.1)))); (case side2 => exact (Kd.R_reads' HO328.out).2.1); rintro e w134 ⟨rfl, hb⟩; refine ⟨_, rfl, ?_⟩; have n0_ := Aside0.mk (zM (by (with_reducible repeat (first|apply zE|apply zD|apply zF)); exact (zR (zL (p := ⟨gb332, 1, none⟩) (zL (p := ⟨gb332, 0, none⟩) (zQ HO_305000.out BK332.out (by decide)) (fun _ hk => hk.2) (.slice Ao129 t326.length co129)) (fun _ hk => hk.2) (.int .i64 t329)) (fun _ h_ => h_.1))) hb); have n1_ := Aside0.mk (zM (by (with_reducible repeat (first|apply zE|apply zD|apply zF)); exact (zR (zL (p := ⟨gb332, 1, none⟩) (zL (p := ⟨gb332, 0, none⟩) (zQ HO_312000.out BK332.out (by decide)) (fun _ hk => hk.2) (.slice Ao129 t326.length co129)) (fun _ hk => hk.2) (.int .i64 t329)) (fun _ h_ => h_.1))) hb); have n2_ := Aside0.mk (zM (by (with_reducible repeat (first|apply zE|apply zD|apply zF)); exact (zR (zL (p := ⟨gb332, 1, none⟩) (zL (p := ⟨gb332, 0, none⟩) (zQ HO319.out BK332.out (by decide)) (fun _ hk => hk.2) (.slice Ao129 t326.length co129)) (fun _ hk => hk.2) (.int .i64 t329)) (fun _ h_ => h_.1))) hb); have n3_ := Aside0.mk (zM (by (with_reducible repeat (first|apply zE|apply zD|apply zF)); exact (zR (zL (p := ⟨gb332, 1, none⟩) (zL (p := ⟨gb332, 0, none⟩) (zQ HO328.out BK332.out (by decide)) (fun _ hk => hk.2) (.slice Ao129 t326.length co129)) (fun _ hk => hk.2) (.int .i64 t329)) (fun _ h_ => h_.1))) hb); have n4_ := Aside0.mk (zK (g := gb304) (o := .cells #[.slice Ao9 t298.length co9, .int .i64 t301] 65 (0, 0)) (by (with_reducible repeat (first|refine zA ?_ _|refine zC ?_|refine zB ?_ _)); refine zT ?_ NB304_332.out _; (with_reducible repeat (first|refine zA ?_ _|refine zC ?_|refine zB ?_ _)); refine zT ?_ NB304_332.out _; (with_reducible repeat (first|refine zA ?_ _|refine zC ?_|refine zB ?_ _)); exact BK304.out) hb); have n5_ := Aside0.mk (zK (g := gb311) (o := .cells #[.slice Ao13 t305.length co13, .int .i64 t308] 65 (0, 0)) (by (with_reducible repeat (first|refine zA ?_ _|refine zC ?_|refine zB ?_ _)); refine zT ?_ NB311_332.out _; (with_reducible repeat (first|refine zA ?_ _|refine zC ?_|refine zB ?_ _)); refine zT ?_ NB311_332.out _; (with_reducible repeat (first|refine zA ?_ _|refine zC ?_|refine zB ?_ _)); exact BK311.out) hb); have n6_ := Aside0.mk (zK (g := gb322) (o := .cells #[.slice Ao121 t317.length co121, .int .i64 t320] 65 (0, 0)) (by (with_reducible repeat (first|refine zA ?_ _|refine zC ?_|refine zB ?_ _)); refine zT ?_ NB322_332.out _; (with_reducible repeat (first|refine zA ?_ _|refine zC ?_|refine zB ?_ _)); refine zT ?_ NB322_332.out _; (with_reducible repeat (first|refine zA ?_ _|refine zC ?_|refine zB ?_ _)); exact BK322.out) hb); have n7_ := Aside0.mk (zK (g := gb332) (o := .cells #[.slice Ao129 t326.length co129, .int .i64 t329] 65 (0, 0)) (by (with_reducible repeat (first|refine zA ?_ _|refine zC ?_|refine zB ?_ _)); refine blk_put (cs := #[.slice Ao129 t326.length co129, .int .i64 0]) ?_ 1 _ rfl; (with_reducible repeat (first|refine zA ?_ _|refine zC ?_|refine zB ?_ _)); refine blk_put (cs := #[.slice none 0 0, .int .i64 0]) ?_ 0 _ rfl; (with_reducible repeat (first|refine zA ?_ _|refine zC ?_|refine zB ?_ _)); exact BK332.out) hb); have n8_ := Aside0.mk (zN (by repeat (first|(with_reducible first|exact HB.out|apply zI|apply zG|apply zH|refine zJ ?_ GE304.out|refine zJ ?_ GE311.out|refine zJ ?_ GE322.out|refine zJ ?_ GE332.out)|exact HB.out)) hb); clear HO_305000; clear HO_312000; clear HO319; clear HO328; clear BK304; clear BK311; clear BK322; clear BK332; clear HB; have HO_305000 := n0_; have HO_312000 := n1_; have HO319 := n2_; have HO328 := n3_; have BK304 := n4_; have BK311 := n5_; have BK322 := n6_; have BK332 := n7_; have HB := n8_; clear n0_ n1_ n2_ n3_ n4_ n5_ n6_ n7_ n8_; (try clear hb); (try clear hb2); (try clear hk); (try clear hi)))
                                    have n0_ := Aside0.mk (zF HO_305000.out)
                                    have n1_ := Aside0.mk (zF HO_312000.out)
                                    have n2_ := Aside0.mk (zF HO319.out)
                                    have n3_ := Aside0.mk (zF HO328.out)
                                    have n4_ := Aside0.mk (zC BK304.out)
                                    have n5_ := Aside0.mk (zC BK311.out)
                                    have n6_ := Aside0.mk (zC BK322.out)
                                    have n7_ := Aside0.mk (zC BK332.out)
                                    have n8_ := Aside0.mk (zH HB.out)
                                    clear HO_305000
                                    clear HO_312000
                                    clear HO319
                                    clear HO328
                                    clear BK304
                                    clear BK311
                                    clear BK322
                                    clear BK332
                                    clear HB
                                    have HO_305000 := n0_
                                    have HO_312000 := n1_
                                    have HO319 := n2_
                                    have HO328 := n3_
                                    have BK304 := n4_
                                    have BK311 := n5_
                                    have BK322 := n6_
                                    have BK332 := n7_
                                    have HB := n8_
                                    clear n0_ n1_ n2_ n3_ n4_ n5_ n6_ n7_ n8_
                                    refine start_ (n := 58) (S := fun w' => w'.cell? ⟨gb311, 0, none⟩ = some (.slice Ao13 t305.length co13) ∧ w'.cell? ⟨gb311, 1, none⟩ = some (.int .i64 t308) ∧ w'.cell? ⟨gb322, 0, none⟩ = some (.slice Ao121 t317.length co121) ∧ w'.cell? ⟨gb322, 1, none⟩ = some (.int .i64 t320) ∧ w'.cell? ⟨gb332, 0, none⟩ = some (.slice Ao129 t326.length co129) ∧ w'.cell? ⟨gb332, 1, none⟩ = some (.int .i64 t329) ∧ w'.cell? ⟨gb304, 0, none⟩ = some (.slice Ao9 t298.length co9) ∧ w'.cell? ⟨gb304, 1, none⟩ = some (.int .i64 t301)) (ds := []) #[false, false, false, false, false, false, false, false, false, false, false, false, false, false, false, false, false, false, false, false, false, false, false, false, false, false, false, false, false, false, false, false, false, false, false, false, false, false, false, false, false, false, false, false, false, false, false, false, false, false, false, false, false, false, false, false, false, false] (by kernel_rfl) rfl rfl ⟨(zO BK311.out 0).trans rfl, (zO BK311.out 1).trans rfl, (zO BK322.out 0).trans rfl, (zO BK322.out 1).trans rfl, (zO BK332.out 0).trans rfl, (zO BK332.out 1).trans rfl, (zO BK304.out 0).trans rfl, (zO BK304.out 1).trans rfl⟩ (fun hHeld => ?_); refine with_tabW laws_FnLays.tab14 laws_FnLays.bits14 (fun HT_ HW_ => ?_)
                                    generalize w134.drew = w135 at HO_305000 HO_312000 HO319 HO328 BK304 BK311 BK322 BK332 HB hHeld ⊢
                                    refine pure_ (i := 0) (N := some 91) (v := ?_) (a' := ?_) #[true, false, false, false, false, false, false, false, false, false, false, false, false, false, false, false, false, false, false, false, false, false, false, false, false, false, false, false, false, false, false, false, false, false, false, false, false, false, false, false, false, false, false, false, false, false, false, false, false, false, false, false, false, false, false, false, false, false] rfl rfl (any_of HT_.out (by kernel_rfl)) (fun _ _ _ h => h) (Or.inl ⟨by rfl, ?_⟩) ?_ ?_
                                    rotate_left
                                    · intro w'
                                      go_simp
                                      with_reducible rfl
                                    rotate_left
                                    · simp only [Act.put, List.setIfInBounds_toArray, List.set_cons_zero, List.set_cons_succ, i64_w, i32_w]
                                      rfl
                                    refine pure_ (i := 1) (N := some 92) (v := ?_) (a' := ?_) #[true, true, false, false, false, false, false, false, false, false, false, false, false, false, false, false, false, false, false, false, false, false, false, false, false, false, false, false, false, false, false, false, false, false, false, false, false, false, false, false, false, false, false, false, false, false, false, false, false, false, false, false, false, false, false, false, false, false] rfl rfl (any_of HT_.out (by kernel_rfl)) (fun _ _ _ h => h) (Or.inl ⟨by rfl, ?_⟩) ?_ ?_
                                    rotate_left
                                    · intro w'
                                      go_simp
                                      with_reducible rfl
                                    rotate_left
                                    · simp only [Act.put, List.setIfInBounds_toArray, List.set_cons_zero, List.set_cons_succ, i64_w, i32_w]
                                      rfl
                                    refine pure_ (i := 2) (N := some 93) (v := ?_) (a' := ?_) #[true, true, true, false, false, false, false, false, false, false, false, false, false, false, false, false, false, false, false, false, false, false, false, false, false, false, false, false, false, false, false, false, false, false, false, false, false, false, false, false, false, false, false, false, false, false, false, false, false, false, false, false, false, false, false, false, false, false] rfl rfl (any_of HT_.out (by kernel_rfl)) (fun _ _ _ h => h) (Or.inl ⟨by rfl, ?_⟩) ?_ ?_
                                    rotate_left
                                    · intro w'
                                      go_simp
                                      with_reducible rfl
                                    rotate_left
                                    · simp only [Act.put, List.setIfInBounds_toArray, List.set_cons_zero, List.set_cons_succ, i64_w, i32_w]
                                      rfl
                                    refine pure_ (i := 3) (N := some 94) (v := ?_) (a' := ?_) #[true, true, true, true, false, false, false, false, false, false, false, false, false, false, false, false, false, false, false, false, false, false, false, false, false, false, false, false, false, false, false, false, false, false, false, false, false, false, false, false, false, false, false, false, false, false, false, false, false, false, false, false, false, false, false, false, false, false] rfl rfl (any_of HT_.out (by kernel_rfl)) (fun _ _ _ h => h) (Or.inl ⟨by rfl, ?_⟩) ?_ ?_
                                    rotate_left
                                    · intro w'
                                      go_simp
                                      with_reducible rfl
                                    rotate_left
                                    · simp only [Act.put, List.setIfInBounds_toArray, List.set_cons_zero, List.set_cons_succ, i64_w, i32_w]
                                      rfl
                                    refine pure_ (i := 4) (N := some 95) (v := ?_) (a' := ?_) #[true, true, true, true, true, false, false, false, false, false, false, false, false, false, false, false, false, false, false, false, false, false, false, false, false, false, false, false, false, false, false, false, false, false, false, false, false, false, false, false, false, false, false, false, false, false, false, false, false, false, false, false, false, false, false, false, false, false] rfl rfl (any_of HT_.out (by kernel_rfl)) (fun _ _ _ h => h) (Or.inl ⟨by rfl, ?_⟩) ?_ ?_
                                    rotate_left
                                    · intro w'
                                      go_simp
                                      with_reducible rfl
                                    rotate_left
                                    · simp only [Act.put, List.setIfInBounds_toArray, List.set_cons_zero, List.set_cons_succ, i64_w, i32_w]
                                      rfl
                                    refine pure_ (i := 5) (N := some 96) (v := ?_) (a' := ?_) #[true, true, true, true, true, true, false, false, false, false, false, false, false, false, false, false, false, false, false, false, false, false, false, false, false, false, false, false, false, false, false, false, false, false, false, false, false, false, false, false, false, false, false, false, false, false, false, false, false, false, false, false, false, false, false, false, false, false] rfl rfl (any_of HT_.out (by kernel_rfl)) (fun _ _ _ h => h) (Or.inl ⟨by rfl, ?_⟩) ?_ ?_
                                    rotate_left
                                    · intro w'
                                      go_simp
                                      with_reducible rfl
                                    rotate_left
                                    · simp only [Act.put, List.setIfInBounds_toArray, List.set_cons_zero, List.set_cons_succ, i64_w, i32_w]
                                      rfl
                                    refine pure_ (i := 6) (N := some 97) (v := ?_) (a' := ?_) #[true, true, true, true, true, true, true, false, false, false, false, false, false, false, false, false, false, false, false, false, false, false, false, false, false, false, false, false, false, false, false, false, false, false, false, false, false, false, false, false, false, false, false, false, false, false, false, false, false, false, false, false, false, false, false, false, false, false] rfl rfl (any_of HT_.out (by kernel_rfl)) (fun _ _ _ h => h) (Or.inl ⟨by rfl, ?_⟩) ?_ ?_
                                    rotate_left
                                    · intro w'
                                      go_simp
                                      with_reducible rfl
                                    rotate_left
                                    · simp only [Act.put, List.setIfInBounds_toArray, List.set_cons_zero, List.set_cons_succ, i64_w, i32_w]
                                      rfl
                                    refine pure_ (i := 7) (N := some 98) (v := ?_) (a' := ?_) #[true, true, true, true, true, true, true, true, false, false, false, false, false, false, false, false, false, false, false, false, false, false, false, false, false, false, false, false, false, false, false, false, false, false, false, false, false, false, false, false, false, false, false, false, false, false, false, false, false, false, false, false, false, false, false, false, false, false] rfl rfl (any_of HT_.out (by kernel_rfl)) (fun _ _ _ h => h) (Or.inl ⟨by rfl, ?_⟩) ?_ ?_
                                    rotate_left
                                    · intro w'
                                      go_simp
                                      with_reducible rfl
                                    rotate_left
                                    · simp only [Act.put, List.setIfInBounds_toArray, List.set_cons_zero, List.set_cons_succ, i64_w, i32_w]
                                      rfl
                                    refine pure_ (i := 8) (N := some 99) (v := ?_) (a' := ?_) #[true, true, true, true, true, true, true, true, true, false, false, false, false, false, false, false, false, false, false, false, false, false, false, false, false, false, false, false, false, false, false, false, false, false, false, false, false, false, false, false, false, false, false, false, false, false, false, false, false, false, false, false, false, false, false, false, false, false] rfl rfl (any_of HT_.out (by kernel_rfl)) (fun _ _ _ h => h) (Or.inl ⟨by rfl, ?_⟩) ?_ ?_
                                    rotate_left
                                    · intro w'
                                      go_simp
                                      with_reducible rfl
                                    rotate_left
                                    · simp only [Act.put, List.setIfInBounds_toArray, List.set_cons_zero, List.set_cons_succ, i64_w, i32_w]
                                      rfl
                                    refine pure_ (i := 9) (N := some 100) (v := ?_) (a' := ?_) #[true, true, true, true, true, true, true, true, true, true, false, false, false, false, false, false, false, false, false, false, false, false, false, false, false, false, false, false, false, false, false, false, false, false, false, false, false, false, false, false, false, false, false, false, false, false, false, false, false, false, false, false, false, false, false, false, false, false] rfl rfl (any_of HT_.out (by kernel_rfl)) (fun _ _ _ h => h) (Or.inl ⟨by rfl, ?_⟩) ?_ ?_
                                    rotate_left
                                    · intro w'
                                      go_simp
                                      with_reducible rfl
                                    rotate_left
                                    · simp only [Act.put, List.setIfInBounds_toArray, List.set_cons_zero, List.set_cons_succ, i64_w, i32_w]
                                      rfl
                                    refine pure_ (i := 10) (N := some 101) (v := ?_) (a' := ?_) #[true, true, true, true, true, true, true, true, true, true, true, false, false, false, false, false, false, false, false, false, false, false, false, false, false, false, false, false, false, false, false, false, false, false, false, false, false, false, false, false, false, false, false, false, false, false, false, false, false, false, false, false, false, false, false, false, false, false] rfl rfl (any_of HT_.out (by kernel_rfl)) (fun _ _ _ h => h) (Or.inl ⟨by rfl, ?_⟩) ?_ ?_
                                    rotate_left
                                    · intro w'
                                      go_simp
                                      with_reducible rfl
                                    rotate_left
                                    · simp only [Act.put, List.setIfInBounds_toArray, List.set_cons_zero, List.set_cons_succ, i64_w, i32_w]
                                      rfl
                                    refine pure_ (i := 11) (N := some 102) (v := ?_) (a' := ?_) #[true, true, true, true, true, true, true, true, true, true, true, true, false, false, false, false, false, false, false, false, false, false, false, false, false, false, false, false, false, false, false, false, false, false, false, false, false, false, false, false, false, false, false, false, false, false, false, false, false, false, false, false, false, false, false, false, false, false] rfl rfl (any_of HT_.out (by kernel_rfl)) (fun _ _ _ h => h) (Or.inl ⟨by rfl, ?_⟩) ?_ ?_
                                    rotate_left
                                    · intro w'
                                      go_simp
                                      with_reducible rfl
                                    rotate_left
                                    · simp only [Act.put, List.setIfInBounds_toArray, List.set_cons_zero, List.set_cons_succ, i64_w, i32_w]
                                      rfl
                                    refine pure_ (i := 12) (N := some 103) (v := ?_) (a' := ?_) #[true, true, true, true, true, true, true, true, true, true, true, true, true, false, false, false, false, false, false, false, false, false, false, false, false, false, false, false, false, false, false, false, false, false, false, false, false, false, false, false, false, false, false, false, false, false, false, false, false, false, false, false, false, false, false, false, false, false] rfl rfl (any_of HT_.out (by kernel_rfl)) (fun _ _ _ h => h) (Or.inl ⟨by rfl, ?_⟩) ?_ ?_
                                    rotate_left
                                    · intro w'
                                      go_simp
                                      with_reducible rfl
                                    rotate_left
                                    · simp only [Act.put, List.setIfInBounds_toArray, List.set_cons_zero, List.set_cons_succ, i64_w, i32_w]
                                      rfl
                                    refine pure_ (i := 13) (N := some 104) (v := ?_) (a' := ?_) #[true, true, true, true, true, true, true, true, true, true, true, true, true, true, false, false, false, false, false, false, false, false, false, false, false, false, false, false, false, false, false, false, false, false, false, false, false, false, false, false, false, false, false, false, false, false, false, false, false, false, false, false, false, false, false, false, false, false] rfl rfl (any_of HT_.out (by kernel_rfl)) (fun _ _ _ h => h) (Or.inl ⟨by rfl, ?_⟩) ?_ ?_
                                    rotate_left
                                    · intro w'
                                      go_simp
                                      with_reducible rfl
                                    rotate_left
                                    · simp only [Act.put, List.setIfInBounds_toArray, List.set_cons_zero, List.set_cons_succ, i64_w, i32_w]
                                      rfl
                                    refine pure_ (i := 14) (N := some 105) (v := ?_) (a' := ?_) #[true, true, true, true, true, true, true, true, true, true, true, true, true, true, true, false, false, false, false, false, false, false, false, false, false, false, false, false, false, false, false, false, false, false, false, false, false, false, false, false, false, false, false, false, false, false, false, false, false, false, false, false, false, false, false, false, false, false] rfl rfl (any_of HT_.out (by kernel_rfl)) (fun _ _ _ h => h) (Or.inl ⟨by rfl, ?_⟩) ?_ ?_
                                    rotate_left
                                    · intro w'
                                      go_simp
                                      with_reducible rfl
                                    rotate_left
                                    · simp only [Act.put, List.setIfInBounds_toArray, List.set_cons_zero, List.set_cons_succ, i64_w, i32_w]
                                      rfl
                                    refine pure_ (i := 15) (N := some 106) (v := ?_) (a' := ?_) #[true, true, true, true, true, true, true, true, true, true, true, true, true, true, true, true, false, false, false, false, false, false, false, false, false, false, false, false, false, false, false, false, false, false, false, false, false, false, false, false, false, false, false, false, false, false, false, false, false, false, false, false, false, false, false, false, false, false] rfl rfl (any_of HT_.out (by kernel_rfl)) (fun _ _ _ h => h) (Or.inl ⟨by rfl, ?_⟩) ?_ ?_
                                    rotate_left
                                    · intro w'
                                      go_simp
                                      with_reducible rfl
                                    rotate_left
                                    · simp only [Act.put, List.setIfInBounds_toArray, List.set_cons_zero, List.set_cons_succ, i64_w, i32_w]
                                      rfl
                                    refine pure_ (i := 16) (N := some 107) (v := ?_) (a' := ?_) #[true, true, true, true, true, true, true, true, true, true, true, true, true, true, true, true, true, false, false, false, false, false, false, false, false, false, false, false, false, false, false, false, false, false, false, false, false, false, false, false, false, false, false, false, false, false, false, false, false, false, false, false, false, false, false, false, false, false] rfl rfl (any_of HT_.out (by kernel_rfl)) (fun _ _ _ h => h) (Or.inl ⟨by rfl, ?_⟩) ?_ ?_
                                    rotate_left
                                    · intro w'
                                      go_simp
                                      with_reducible rfl
                                    rotate_left
                                    · simp only [Act.put, List.setIfInBounds_toArray, List.set_cons_zero, List.set_cons_succ, i64_w, i32_w]
                                      rfl
                                    refine pure_ (i := 17) (N := some 108) (v := ?_) (a' := ?_) #[true, true, true, true, true, true, true, true, true, true, true, true, true, true, true, true, true, true, false, false, false, false, false, false, false, false, false, false, false, false, false, false, false, false, false, false, false, false, false, false, false, false, false, false, false, false, false, false, false, false, false, false, false, false, false, false, false, false] rfl rfl (any_of HT_.out (by kernel_rfl)) (fun _ _ _ h => h) (Or.inl ⟨by rfl, ?_⟩) ?_ ?_
                                    rotate_left
                                    · intro w'
                                      go_simp
                                      with_reducible rfl
                                    rotate_left
                                    · simp only [Act.put, List.setIfInBounds_toArray, List.set_cons_zero, List.set_cons_succ, i64_w, i32_w]
                                      rfl
                                    refine pure_ (i := 18) (N := some 109) (v := ?_) (a' := ?_) #[true, true, true, true, true, true, true, true, true, true, true, true, true, true, true, true, true, true, true, false, false, false, false, false, false, false, false, false, false, false, false, false, false, false, false, false, false, false, false, false, false, false, false, false, false, false, false, false, false, false, false, false, false, false, false, false, false, false] rfl rfl (any_of HT_.out (by kernel_rfl)) (fun _ _ _ h => h) (Or.inl ⟨by rfl, ?_⟩) ?_ ?_
                                    rotate_left
                                    · intro w'
                                      go_simp
                                      with_reducible rfl
                                    rotate_left
                                    · simp only [Act.put, List.setIfInBounds_toArray, List.set_cons_zero, List.set_cons_succ, i64_w, i32_w]
                                      rfl
                                    refine pure_ (i := 19) (N := some 110) (v := ?_) (a' := ?_) #[true, true, true, true, true, true, true, true, true, true, true, true, true, true, true, true, true, true, true, true, false, false, false, false, false, false, false, false, false, false, false, false, false, false, false, false, false, false, false, false, false, false, false, false, false, false, false, false, false, false, false, false, false, false, false, false, false, false] rfl rfl (any_of HT_.out (by kernel_rfl)) (fun _ _ _ h => h) (Or.inl ⟨by rfl, ?_⟩) ?_ ?_
                                    rotate_left
                                    · intro w'
                                      go_simp
                                      with_reducible rfl
                                    rotate_left
                                    · simp only [Act.put, List.setIfInBounds_toArray, List.set_cons_zero, List.set_cons_succ, i64_w, i32_w]
                                      rfl
                                    refine pure_ (i := 20) (N := some 111) (v := ?_) (a' := ?_) #[true, true, true, true, true, true, true, true, true, true, true, true, true, true, true, true, true, true, true, true, true, false, false, false, false, false, false, false, false, false, false, false, false, false, false, false, false, false, false, false, false, false, false, false, false, false, false, false, false, false, false, false, false, false, false, false, false, false] rfl rfl (any_of HT_.out (by kernel_rfl)) (fun _ _ _ h => h) (Or.inl ⟨by rfl, ?_⟩) ?_ ?_
                                    rotate_left
                                    · intro w'
                                      go_simp
                                      with_reducible rfl
                                    rotate_left
                                    · simp only [Act.put, List.setIfInBounds_toArray, List.set_cons_zero, List.set_cons_succ, i64_w, i32_w]
                                      rfl
                                    refine pure_ (i := 21) (N := some 112) (v := ?_) (a' := ?_) #[true, true, true, true, true, true, true, true, true, true, true, true, true, true, true, true, true, true, true, true, true, true, false, false, false, false, false, false, false, false, false, false, false, false, false, false, false, false, false, false, false, false, false, false, false, false, false, false, false, false, false, false, false, false, false, false, false, false] rfl rfl (any_of HT_.out (by kernel_rfl)) (fun _ _ _ h => h) (Or.inl ⟨by rfl, ?_⟩) ?_ ?_
                                    rotate_left
                                    · intro w'
                                      go_simp
                                      with_reducible rfl
                                    rotate_left
                                    · simp only [Act.put, List.setIfInBounds_toArray, List.set_cons_zero, List.set_cons_succ, i64_w, i32_w]
                                      rfl
                                    refine pure_ (i := 22) (N := some 113) (v := ?_) (a' := ?_) #[true, true, true, true, true, true, true, true, true, true, true, true, true, true, true, true, true, true, true, true, true, true, true, false, false, false, false, false, false, false, false, false, false, false, false, false, false, false, false, false, false, false, false, false, false, false, false, false, false, false, false, false, false, false, false, false, false, false] rfl rfl (any_of HT_.out (by kernel_rfl)) (fun _ _ _ h => h) (Or.inl ⟨by rfl, ?_⟩) ?_ ?_
                                    rotate_left
                                    · intro w'
                                      go_simp
                                      with_reducible rfl
                                    rotate_left
                                    · simp only [Act.put, List.setIfInBounds_toArray, List.set_cons_zero, List.set_cons_succ, i64_w, i32_w]
                                      rfl
                                    refine pure_ (i := 23) (N := some 114) (v := ?_) (a' := ?_) #[true, true, true, true, true, true, true, true, true, true, true, true, true, true, true, true, true, true, true, true, true, true, true, true, false, false, false, false, false, false, false, false, false, false, false, false, false, false, false, false, false, false, false, false, false, false, false, false, false, false, false, false, false, false, false, false, false, false] rfl rfl (any_of HT_.out (by kernel_rfl)) (fun _ _ _ h => h) (Or.inl ⟨by rfl, ?_⟩) ?_ ?_
                                    rotate_left
                                    · intro w'
                                      go_simp
                                      with_reducible rfl
                                    rotate_left
                                    · simp only [Act.put, List.setIfInBounds_toArray, List.set_cons_zero, List.set_cons_succ, i64_w, i32_w]
                                      rfl
                                    refine pure_ (i := 24) (N := some 115) (v := ?_) (a' := ?_) #[true, true, true, true, true, true, true, true, true, true, true, true, true, true, true, true, true, true, true, true, true, true, true, true, true, false, false, false, false, false, false, false, false, false, false, false, false, false, false, false, false, false, false, false, false, false, false, false, false, false, false, false, false, false, false, false, false, false] rfl rfl (any_of HT_.out (by kernel_rfl)) (fun _ _ _ h => h) (Or.inl ⟨by rfl, ?_⟩) ?_ ?_
                                    rotate_left
                                    · intro w'
                                      go_simp
                                      with_reducible rfl
                                    rotate_left
                                    · simp only [Act.put, List.setIfInBounds_toArray, List.set_cons_zero, List.set_cons_succ, i64_w, i32_w]
                                      rfl
                                    refine pure_ (i := 25) (N := some 116) (v := ?_) (a' := ?_) #[true, true, true, true, true, true, true, true, true, true, true, true, true, true, true, true, true, true, true, true, true, true, true, true, true, true, false, false, false, false, false, false, false, false, false, false, false, false, false, false, false, false, false, false, false, false, false, false, false, false, false, false, false, false, false, false, false, false] rfl rfl (any_of HT_.out (by kernel_rfl)) (fun _ _ _ h => h) (Or.inl ⟨by rfl, ?_⟩) ?_ ?_
                                    rotate_left
                                    · intro w'
                                      go_simp
                                      with_reducible rfl
                                    rotate_left
                                    · simp only [Act.put, List.setIfInBounds_toArray, List.set_cons_zero, List.set_cons_succ, i64_w, i32_w]
                                      rfl
                                    refine pure_ (i := 26) (N := some 117) (v := ?_) (a' := ?_) #[true, true, true, true, true, true, true, true, true, true, true, true, true, true, true, true, true, true, true, true, true, true, true, true, true, true, true, false, false, false, false, false, false, false, false, false, false, false, false, false, false, false, false, false, false, false, false, false, false, false, false, false, false, false, false, false, false, false] rfl rfl (any_of HT_.out (by kernel_rfl)) (fun _ _ _ h => h) (Or.inl ⟨by rfl, ?_⟩) ?_ ?_
                                    rotate_left
                                    · intro w'
                                      go_simp
                                      with_reducible rfl
                                    rotate_left
                                    · simp only [Act.put, List.setIfInBounds_toArray, List.set_cons_zero, List.set_cons_succ, i64_w, i32_w]
                                      rfl
                                    refine pure_ (i := 27) (N := some 118) (v := ?_) (a' := ?_) #[true, true, true, true, true, true, true, true, true, true, true, true, true, true, true, true, true, true, true, true, true, true, true, true, true, true, true, true, false, false, false, false, false, false, false, false, false, false, false, false, false, false, false, false, false, false, false, false, false, false, false, false, false, false, false, false, false, false] rfl rfl (any_of HT_.out (by kernel_rfl)) (fun _ _ _ h => h) (Or.inl ⟨by rfl, ?_⟩) ?_ ?_
                                    rotate_left
                                    · intro w'
                                      go_simp
                                      with_reducible rfl
                                    rotate_left
                                    · simp only [Act.put, List.setIfInBounds_toArray, List.set_cons_zero, List.set_cons_succ, i64_w, i32_w]
                                      rfl
                                    refine pure_ (i := 28) (N := some 119) (v := ?_) (a' := ?_) #[true, true, true, true, true, true, true, true, true, true, true, true, true, true, true, true, true, true, true, true, true, true, true, true, true, true, true, true, true, false, false, false, false, false, false, false, false, false, false, false, false, false, false, false, false, false, false, false, false, false, false, false, false, false, false, false, false, false] rfl rfl (any_of HT_.out (by kernel_rfl)) (fun _ _ _ h => h) (Or.inl ⟨by rfl, ?_⟩) ?_ ?_
                                    rotate_left
                                    · intro w'
                                      go_simp
                                      with_reducible rfl
                                    rotate_left
                                    · simp only [Act.put, List.setIfInBounds_toArray, List.set_cons_zero, List.set_cons_succ, i64_w, i32_w]
                                      rfl
                                    refine pure_ (i := 29) (N := some 120) (v := ?_) (a' := ?_) #[true, true, true, true, true, true, true, true, true, true, true, true, true, true, true, true, true, true, true, true, true, true, true, true, true, true, true, true, true, true, false, false, false, false, false, false, false, false, false, false, false, false, false, false, false, false, false, false, false, false, false, false, false, false, false, false, false, false] rfl rfl (any_of HT_.out (by kernel_rfl)) (fun _ _ _ h => h) (Or.inl ⟨by rfl, ?_⟩) ?_ ?_
                                    rotate_left
                                    · intro w'
                                      go_simp
                                      with_reducible rfl
                                    rotate_left
                                    · simp only [Act.put, List.setIfInBounds_toArray, List.set_cons_zero, List.set_cons_succ, i64_w, i32_w]
                                      rfl
                                    refine pure_ (i := 30) (N := some 121) (v := ?_) (a' := ?_) #[true, true, true, true, true, true, true, true, true, true, true, true, true, true, true, true, true, true, true, true, true, true, true, true, true, true, true, true, true, true, true, false, false, false, false, false, false, false, false, false, false, false, false, false, false, false, false, false, false, false, false, false, false, false, false, false, false, false] rfl rfl (any_of HT_.out (by kernel_rfl)) (fun _ _ _ h => h) (Or.inl ⟨by rfl, ?_⟩) ?_ ?_
                                    rotate_left
                                    · intro w'
                                      go_simp
                                      with_reducible rfl
                                    rotate_left
                                    · simp only [Act.put, List.setIfInBounds_toArray, List.set_cons_zero, List.set_cons_succ, i64_w, i32_w]
                                      rfl
                                    refine take_ (i := 31) (N := some 122) (v := ?_) (a' := ?_) #[true, true, true, true, true, true, true, true, true, true, true, true, true, true, true, true, true, true, true, true, true, true, true, true, true, true, true, true, true, true, true, true, false, false, false, false, false, false, false, false, false, false, false, false, false, false, false, false, false, false, false, false, false, false, false, false, false, false] rfl rfl (take_ofW HT_.out HW_.out (by kernel_rfl)) (fun _ _ _ h => h) (Or.inl ⟨by rfl, ?_⟩) hHeld ?_ ?_
                                    rotate_left
                                    · rintro w' ⟨s0, s1, s2, s3, s4, s5, s6, s7⟩
                                      go_simp
                                      with_reducible rfl
                                    rotate_left
                                    · simp only [Act.put, List.setIfInBounds_toArray, List.set_cons_zero, List.set_cons_succ, i64_w, i32_w]
                                      rfl
                                    refine one_ (i := 32) (N := some 123) #[true, true, true, true, true, true, true, true, true, true, true, true, true, true, true, true, true, true, true, true, true, true, true, true, true, true, true, true, true, true, true, true, true, false, false, false, false, false, false, false, false, false, false, false, false, false, false, false, false, false, false, false, false, false, false, false, false, false] rfl rfl (one_of HT_.out (by kernel_rfl)) (by decide) (fun K hK => ?_)
                                    refine goes_ Try.func52 (by kernel_rfl) rfl #[.agg #[.slice Ao13 t305.length co13, .int .i64 t308]] (by rfl) rfl rfl (by (try simp only [List.map_toArray, List.map_cons, List.map_nil]); first|done|rfl|(simp only [List.length_drop, List.length_take]; rfl)) ?_
                                    with_reducible refine (impl_ArenaOk.calls kj5 _ _ t305 t308 true _ ?side1 ?side2 A104.out).mono ?_
                                    (case side1 => repeat (first|exact (Kd.R_reads' HO_312000.out).2.2|(with_reducible refine Kd.C_alloc ?_ _)|(with_reducible refine Kd.C_drewN ?_ _)|(with_reducible refine Kd.C_drew ?_)))
                                    (case side2 => exact (Kd.R_reads' HO_312000.out).2.1)
                                    rintro e w136 ⟨rfl, hb⟩
                                    refine ⟨_, rfl, ?_⟩
                                    have n0_ := Aside0.mk (zM (by (with_reducible repeat (first|apply zE|apply zD|apply zF)); exact HO_305000.out) hb)
                                    have n1_ := Aside0.mk (zM (by (with_reducible repeat (first|apply zE|apply zD|apply zF)); exact HO_312000.out) hb)
                                    have n2_ := Aside0.mk (zM (by (with_reducible repeat (first|apply zE|apply zD|apply zF)); exact HO319.out) hb)
                                    have n3_ := Aside0.mk (zM (by (with_reducible repeat (first|apply zE|apply zD|apply zF)); exact HO328.out) hb)
                                    have n4_ := Aside0.mk (zK (g := gb304) (o := .cells #[.slice Ao9 t298.length co9, .int .i64 t301] 65 (0, 0)) (by (with_reducible repeat (first|refine zA ?_ _|refine zC ?_|refine zB ?_ _)); exact BK304.out) hb)
                                    have n5_ := Aside0.mk (zK (g := gb311) (o := .cells #[.slice Ao13 t305.length co13, .int .i64 t308] 65 (0, 0)) (by (with_reducible repeat (first|refine zA ?_ _|refine zC ?_|refine zB ?_ _)); exact BK311.out) hb)
                                    have n6_ := Aside0.mk (zK (g := gb322) (o := .cells #[.slice Ao121 t317.length co121, .int .i64 t320] 65 (0, 0)) (by (with_reducible repeat (first|refine zA ?_ _|refine zC ?_|refine zB ?_ _)); exact BK322.out) hb)
                                    have n7_ := Aside0.mk (zK (g := gb332) (o := .cells #[.slice Ao129 t326.length co129, .int .i64 t329] 65 (0, 0)) (by (with_reducible repeat (first|refine zA ?_ _|refine zC ?_|refine zB ?_ _)); exact BK332.out) hb)
                                    have n8_ := Aside0.mk (zN (by repeat (first|(with_reducible first|exact HB.out|apply zI|apply zG|apply zH|refine zJ ?_ GE304.out|refine zJ ?_ GE311.out|refine zJ ?_ GE322.out|refine zJ ?_ GE332.out)|exact HB.out)) hb)
                                    clear HO_305000
                                    clear HO_312000
                                    clear HO319
                                    clear HO328
                                    clear BK304
                                    clear BK311
                                    clear BK322
                                    clear BK332
                                    clear HB
                                    have HO_305000 := n0_
                                    have HO_312000 := n1_
                                    have HO319 := n2_
                                    have HO328 := n3_
                                    have BK304 := n4_
                                    have BK311 := n5_
                                    have BK322 := n6_
                                    have BK332 := n7_
                                    have HB := n8_
                                    clear n0_ n1_ n2_ n3_ n4_ n5_ n6_ n7_ n8_
                                    (try clear hb)
                                    (try clear hb2)
                                    (try clear hk)
                                    (try clear hi)
                                    refine hK.out _ _ ⟨(zO BK311.out 0).trans rfl, (zO BK311.out 1).trans rfl, (zO BK322.out 0).trans rfl, (zO BK322.out 1).trans rfl, (zO BK332.out 0).trans rfl, (zO BK332.out 1).trans rfl, (zO BK304.out 0).trans rfl, (zO BK304.out 1).trans rfl⟩ (fun hHeld => ?_)
                                    clear hK K
                                    refine norm_ (a' := ?_) ?_ ?_
                                    rotate_left
                                    · show Act.put _ (some 123) _ = _
                                      simp only [Act.put, List.setIfInBounds_toArray, List.set_cons_zero, List.set_cons_succ, i64_w, i32_w]
                                      rfl
                                    refine pure_ (i := 33) (N := some 124) (v := ?_) (a' := ?_) #[true, true, true, true, true, true, true, true, true, true, true, true, true, true, true, true, true, true, true, true, true, true, true, true, true, true, true, true, true, true, true, true, true, true, false, false, false, false, false, false, false, false, false, false, false, false, false, false, false, false, false, false, false, false, false, false, false, false] rfl rfl (any_of HT_.out (by kernel_rfl)) (fun _ _ _ h => h) (Or.inl ⟨by rfl, ?_⟩) ?_ ?_
                                    rotate_left
                                    · intro w'
                                      go_simp
                                      with_reducible rfl
                                    rotate_left
                                    · simp only [Act.put, List.setIfInBounds_toArray, List.set_cons_zero, List.set_cons_succ, i64_w, i32_w]
                                      rfl
                                    refine pure_ (i := 34) (N := some 125) (v := ?_) (a' := ?_) #[true, true, true, true, true, true, true, true, true, true, true, true, true, true, true, true, true, true, true, true, true, true, true, true, true, true, true, true, true, true, true, true, true, true, true, false, false, false, false, false, false, false, false, false, false, false, false, false, false, false, false, false, false, false, false, false, false, false] rfl rfl (any_of HT_.out (by kernel_rfl)) (fun _ _ _ h => h) (Or.inl ⟨by rfl, ?_⟩) ?_ ?_
                                    rotate_left
                                    · intro w'
                                      go_simp
                                      with_reducible rfl
                                    rotate_left
                                    · simp only [Act.put, List.setIfInBounds_toArray, List.set_cons_zero, List.set_cons_succ, i64_w, i32_w]
                                      rfl
                                    refine take_ (i := 35) (N := some 126) (v := ?_) (a' := ?_) #[true, true, true, true, true, true, true, true, true, true, true, true, true, true, true, true, true, true, true, true, true, true, true, true, true, true, true, true, true, true, true, true, true, true, true, true, false, false, false, false, false, false, false, false, false, false, false, false, false, false, false, false, false, false, false, false, false, false] rfl rfl (take_ofW HT_.out HW_.out (by kernel_rfl)) (fun _ _ _ h => h) (Or.inl ⟨by rfl, ?_⟩) hHeld ?_ ?_
                                    rotate_left
                                    · rintro w' ⟨s0, s1, s2, s3, s4, s5, s6, s7⟩
                                      go_simp
                                      with_reducible rfl
                                    rotate_left
                                    · simp only [Act.put, List.setIfInBounds_toArray, List.set_cons_zero, List.set_cons_succ, i64_w, i32_w]
                                      rfl
                                    refine one_ (i := 36) (N := some 127) #[true, true, true, true, true, true, true, true, true, true, true, true, true, true, true, true, true, true, true, true, true, true, true, true, true, true, true, true, true, true, true, true, true, true, true, true, true, false, false, false, false, false, false, false, false, false, false, false, false, false, false, false, false, false, false, false, false, false] rfl rfl (one_of HT_.out (by kernel_rfl)) (by decide) (fun K hK => ?_)
                                    refine goes_ Try.func52 (by kernel_rfl) rfl #[.agg #[.slice Ao121 t317.length co121, .int .i64 t320]] (by rfl) rfl rfl (by (try simp only [List.map_toArray, List.map_cons, List.map_nil]); first|done|rfl|(simp only [List.length_drop, List.length_take]; rfl)) ?_
                                    with_reducible refine (impl_ArenaOk.calls kj5 _ _ t317 t320 true _ ?side1 ?side2 A106.out).mono ?_
                                    (case side1 => repeat (first|exact (Kd.R_reads' HO319.out).2.2|(with_reducible refine Kd.C_alloc ?_ _)|(with_reducible refine Kd.C_drewN ?_ _)|(with_reducible refine Kd.C_drew ?_)))
                                    (case side2 => exact (Kd.R_reads' HO319.out).2.1)
                                    rintro e w137 ⟨rfl, hb⟩
                                    refine ⟨_, rfl, ?_⟩
                                    have n0_ := Aside0.mk (zM (by (with_reducible repeat (first|apply zE|apply zD|apply zF)); exact HO_305000.out) hb)
                                    have n1_ := Aside0.mk (zM (by (with_reducible repeat (first|apply zE|apply zD|apply zF)); exact HO_312000.out) hb)
                                    have n2_ := Aside0.mk (zM (by (with_reducible repeat (first|apply zE|apply zD|apply zF)); exact HO319.out) hb)
                                    have n3_ := Aside0.mk (zM (by (with_reducible repeat (first|apply zE|apply zD|apply zF)); exact HO328.out) hb)
                                    have n4_ := Aside0.mk (zK (g := gb304) (o := .cells #[.slice Ao9 t298.length co9, .int .i64 t301] 65 (0, 0)) (by (with_reducible repeat (first|refine zA ?_ _|refine zC ?_|refine zB ?_ _)); exact BK304.out) hb)
                                    have n5_ := Aside0.mk (zK (g := gb311) (o := .cells #[.slice Ao13 t305.length co13, .int .i64 t308] 65 (0, 0)) (by (with_reducible repeat (first|refine zA ?_ _|refine zC ?_|refine zB ?_ _)); exact BK311.out) hb)
                                    have n6_ := Aside0.mk (zK (g := gb322) (o := .cells #[.slice Ao121 t317.length co121, .int .i64 t320] 65 (0, 0)) (by (with_reducible repeat (first|refine zA ?_ _|refine zC ?_|refine zB ?_ _)); exact BK322.out) hb)
                                    have n7_ := Aside0.mk (zK (g := gb332) (o := .cells #[.slice Ao129 t326.length co129, .int .i64 t329] 65 (0, 0)) (by (with_reducible repeat (first|refine zA ?_ _|refine zC ?_|refine zB ?_ _)); exact BK332.out) hb)
                                    have n8_ := Aside0.mk (zN (by repeat (first|(with_reducible first|exact HB.out|apply zI|apply zG|apply zH|refine zJ ?_ GE304.out|refine zJ ?_ GE311.out|refine zJ ?_ GE322.out|refine zJ ?_ GE332.out)|exact HB.out)) hb)
                                    clear HO_305000
                                    clear HO_312000
                                    clear HO319
                                    clear HO328
                                    clear BK304
                                    clear BK311
                                    clear BK322
                                    clear BK332
                                    clear HB
                                    have HO_305000 := n0_
                                    have HO_312000 := n1_
                                    have HO319 := n2_
                                    have HO328 := n3_
                                    have BK304 := n4_
                                    have BK311 := n5_
                                    have BK322 := n6_
                                    have BK332 := n7_
                                    have HB := n8_
                                    clear n0_ n1_ n2_ n3_ n4_ n5_ n6_ n7_ n8_
                                    (try clear hb)
                                    (try clear hb2)
                                    (try clear hk)
                                    (try clear hi)
                                    refine hK.out _ _ ⟨(zO BK311.out 0).trans rfl, (zO BK311.out 1).trans rfl, (zO BK322.out 0).trans rfl, (zO BK322.out 1).trans rfl, (zO BK332.out 0).trans rfl, (zO BK332.out 1).trans rfl, (zO BK304.out 0).trans rfl, (zO BK304.out 1).trans rfl⟩ (fun hHeld => ?_)
                                    clear hK K
                                    refine norm_ (a' := ?_) ?_ ?_
                                    rotate_left
                                    · show Act.put _ (some 127) _ = _
                                      simp only [Act.put, List.setIfInBounds_toArray, List.set_cons_zero, List.set_cons_succ, i64_w, i32_w]
                                      rfl
                                    refine pure_ (i := 37) (N := some 128) (v := ?_) (a' := ?_) #[true, true, true, true, true, true, true, true, true, true, true, true, true, true, true, true, true, true, true, true, true, true, true, true, true, true, true, true, true, true, true, true, true, true, true, true, true, true, false, false, false, false, false, false, false, false, false, false, false, false, false, false, false, false, false, false, false, false] rfl rfl (any_of HT_.out (by kernel_rfl)) (fun _ _ _ h => h) (Or.inl ⟨by rfl, ?_⟩) ?_ ?_
                                    rotate_left
                                    · intro w'
                                      go_simp
                                      with_reducible rfl
                                    rotate_left
                                    · simp only [Act.put, List.setIfInBounds_toArray, List.set_cons_zero, List.set_cons_succ, i64_w, i32_w]
                                      rfl
                                    refine pure_ (i := 38) (N := some 129) (v := ?_) (a' := ?_) #[true, true, true, true, true, true, true, true, true, true, true, true, true, true, true, true, true, true, true, true, true, true, true, true, true, true, true, true, true, true, true, true, true, true, true, true, true, true, true, false, false, false, false, false, false, false, false, false, false, false, false, false, false, false, false, false, false, false] rfl rfl (any_of HT_.out (by kernel_rfl)) (fun _ _ _ h => h) (Or.inl ⟨by rfl, ?_⟩) ?_ ?_
                                    rotate_left
                                    · intro w'
                                      go_simp
                                      with_reducible rfl
                                    rotate_left
                                    · simp only [Act.put, List.setIfInBounds_toArray, List.set_cons_zero, List.set_cons_succ, i64_w, i32_w]
                                      rfl
                                    refine take_ (i := 39) (N := some 130) (v := ?_) (a' := ?_) #[true, true, true, true, true, true, true, true, true, true, true, true, true, true, true, true, true, true, true, true, true, true, true, true, true, true, true, true, true, true, true, true, true, true, true, true, true, true, true, true, false, false, false, false, false, false, false, false, false, false, false, false, false, false, false, false, false, false] rfl rfl (take_ofW HT_.out HW_.out (by kernel_rfl)) (fun _ _ _ h => h) (Or.inl ⟨by rfl, ?_⟩) hHeld ?_ ?_
                                    rotate_left
                                    · rintro w' ⟨s0, s1, s2, s3, s4, s5, s6, s7⟩
                                      go_simp
                                      with_reducible rfl
                                    rotate_left
                                    · simp only [Act.put, List.setIfInBounds_toArray, List.set_cons_zero, List.set_cons_succ, i64_w, i32_w]
                                      rfl
                                    refine one_ (i := 40) (N := some 131) #[true, true, true, true, true, true, true, true, true, true, true, true, true, true, true, true, true, true, true, true, true, true, true, true, true, true, true, true, true, true, true, true, true, true, true, true, true, true, true, true, true, false, false, false, false, false, false, false, false, false, false, false, false, false, false, false, false, false] rfl rfl (one_of HT_.out (by kernel_rfl)) (by decide) (fun K hK => ?_)
                                    refine goes_ Try.func52 (by kernel_rfl) rfl #[.agg #[.slice Ao129 t326.length co129, .int .i64 t329]] (by rfl) rfl rfl (by (try simp only [List.map_toArray, List.map_cons, List.map_nil]); first|done|rfl|(simp only [List.length_drop, List.length_take]; rfl)) ?_
                                    with_reducible refine (impl_ArenaOk.calls kj5 _ _ t326 t329 true _ ?side1 ?side2 A108.out).mono ?_
                                    (case side1 => repeat (first|exact (Kd.R_reads' HO328.out).2.2|(with_reducible refine Kd.C_alloc ?_ _)|(with_reducible refine Kd.C_drewN ?_ _)|(with_reducible refine Kd.C_drew ?_)))
                                    (case side2 => exact (Kd.R_reads' HO328.out).2.1)
                                    rintro e w138 ⟨rfl, hb⟩
                                    refine ⟨_, rfl, ?_⟩
                                    have n0_ := Aside0.mk (zM (by (with_reducible repeat (first|apply zE|apply zD|apply zF)); exact HO_305000.out) hb)
                                    have n1_ := Aside0.mk (zM (by (with_reducible repeat (first|apply zE|apply zD|apply zF)); exact HO_312000.out) hb)
                                    have n2_ := Aside0.mk (zM (by (with_reducible repeat (first|apply zE|apply zD|apply zF)); exact HO319.out) hb)
                                    have n3_ := Aside0.mk (zM (by (with_reducible repeat (first|apply zE|apply zD|apply zF)); exact HO328.out) hb)
                                    have n4_ := Aside0.mk (zK (g := gb304) (o := .cells #[.slice Ao9 t298.length co9, .int .i64 t301] 65 (0, 0)) (by (with_reducible repeat (first|refine zA ?_ _|refine zC ?_|refine zB ?_ _)); exact BK304.out) hb)
                                    have n5_ := Aside0.mk (zK (g := gb311) (o := .cells #[.slice Ao13 t305.length co13, .int .i64 t308] 65 (0, 0)) (by (with_reducible repeat (first|refine zA ?_ _|refine zC ?_|refine zB ?_ _)); exact BK311.out) hb)
                                    have n6_ := Aside0.mk (zK (g := gb322) (o := .cells #[.slice Ao121 t317.length co121, .int .i64 t320] 65 (0, 0)) (by (with_reducible repeat (first|refine zA ?_ _|refine zC ?_|refine zB ?_ _)); exact BK322.out) hb)
                                    have n7_ := Aside0.mk (zK (g := gb332) (o := .cells #[.slice Ao129 t326.length co129, .int .i64 t329] 65 (0, 0)) (by (with_reducible repeat (first|refine zA ?_ _|refine zC ?_|refine zB ?_ _)); exact BK332.out) hb)
                                    have n8_ := Aside0.mk (zN (by repeat (first|(with_reducible first|exact HB.out|apply zI|apply zG|apply zH|refine zJ ?_ GE304.out|refine zJ ?_ GE311.out|refine zJ ?_ GE322.out|refine zJ ?_ GE332.out)|exact HB.out)) hb)
                                    clear HO_305000
                                    clear HO_312000
                                    clear HO319
                                    clear HO328
                                    clear BK304
                                    clear BK311
                                    clear BK322
                                    clear BK332
                                    clear HB
                                    have HO_305000 := n0_
                                    have HO_312000 := n1_
                                    have HO319 := n2_
                                    have HO328 := n3_
                                    have BK304 := n4_
                                    have BK311 := n5_
                                    have BK322 := n6_
                                    have BK332 := n7_
                                    have HB := n8_
                                    clear n0_ n1_ n2_ n3_ n4_ n5_ n6_ n7_ n8_
                                    (try clear hb)
                                    (try clear hb2)
                                    (try clear hk)
                                    (try clear hi)
                                    refine hK.out _ _ ⟨(zO BK311.out 0).trans rfl, (zO BK311.out 1).trans rfl, (zO BK322.out 0).trans rfl, (zO BK322.out 1).trans rfl, (zO BK332.out 0).trans rfl, (zO BK332.out 1).trans rfl, (zO BK304.out 0).trans rfl, (zO BK304.out 1).trans rfl⟩ (fun hHeld => ?_)
                                    clear hK K
                                    refine norm_ (a' := ?_) ?_ ?_
                                    rotate_left
                                    · show Act.put _ (some 131) _ = _
                                      simp only [Act.put, List.setIfInBounds_toArray, List.set_cons_zero, List.set_cons_succ, i64_w, i32_w]
                                      rfl
                                    refine pure_ (i := 41) (N := some 132) (v := ?_) (a' := ?_) #[true, true, true, true, true, true, true, true, true, true, true, true, true, true, true, true, true, true, true, true, true, true, true, true, true, true, true, true, true, true, true, true, true, true, true, true, true, true, true, true, true, true, false, false, false, false, false, false, false, false, false, false, false, false, false, false, false, false] rfl rfl (any_of HT_.out (by kernel_rfl)) (fun _ _ _ h => h) (Or.inl ⟨by rfl, ?_⟩) ?_ ?_
                                    rotate_left
                                    · intro w'
                                      go_simp
                                      with_reducible rfl
                                    rotate_left
                                    · simp only [Act.put, List.setIfInBounds_toArray, List.set_cons_zero, List.set_cons_succ, i64_w, i32_w]
                                      rfl
                                    refine pure_ (i := 42) (N := some 133) (v := ?_) (a' := ?_) #[true, true, true, true, true, true, true, true, true, true, true, true, true, true, true, true, true, true, true, true, true, true, true, true, true, true, true, true, true, true, true, true, true, true, true, true, true, true, true, true, true, true, true, false, false, false, false, false, false, false, false, false, false, false, false, false, false, false] rfl rfl (any_of HT_.out (by kernel_rfl)) (fun _ _ _ h => h) (Or.inl ⟨by rfl, ?_⟩) ?_ ?_
                                    rotate_left
                                    · intro w'
                                      go_simp
                                      with_reducible rfl
                                    rotate_left
                                    · simp only [Act.put, List.setIfInBounds_toArray, List.set_cons_zero, List.set_cons_succ, i64_w, i32_w]
                                      rfl
                                    refine take_ (i := 43) (N := some 134) (v := ?_) (a' := ?_) #[true, true, true, true, true, true, true, true, true, true, true, true, true, true, true, true, true, true, true, true, true, true, true, true, true, true, true, true, true, true, true, true, true, true, true, true, true, true, true, true, true, true, true, true, false, false, false, false, false, false, false, false, false, false, false, false, false, false] rfl rfl (take_ofW HT_.out HW_.out (by kernel_rfl)) (fun _ _ _ h => h) (Or.inl ⟨by rfl, ?_⟩) hHeld ?_ ?_
                                    rotate_left
                                    · rintro w' ⟨s0, s1, s2, s3, s4, s5, s6, s7⟩
                                      go_simp
                                      with_reducible rfl
                                    rotate_left
                                    · simp only [Act.put, List.setIfInBounds_toArray, List.set_cons_zero, List.set_cons_succ, i64_w, i32_w]
                                      rfl
                                    refine take_ (i := 45) (N := some 136) (v := ?_) (a' := ?_) #[true, true, true, true, true, true, true, true, true, true, true, true, true, true, true, true, true, true, true, true, true, true, true, true, true, true, true, true, true, true, true, true, true, true, true, true, true, true, true, true, true, true, true, true, false, true, false, false, false, false, false, false, false, false, false, false, false, false] rfl rfl (take_ofW HT_.out HW_.out (by kernel_rfl)) (fun _ _ _ h => h) (Or.inl ⟨by rfl, ?_⟩) hHeld ?_ ?_
                                    rotate_left
                                    · rintro w' ⟨s0, s1, s2, s3, s4, s5, s6, s7⟩
                                      go_simp
                                      with_reducible rfl
                                    rotate_left
                                    · simp only [Act.put, List.setIfInBounds_toArray, List.set_cons_zero, List.set_cons_succ, i64_w, i32_w]
                                      rfl
                                    refine one_ (i := 44) (N := some 135) #[true, true, true, true, true, true, true, true, true, true, true, true, true, true, true, true, true, true, true, true, true, true, true, true, true, true, true, true, true, true, true, true, true, true, true, true, true, true, true, true, true, true, true, true, true, true, false, false, false, false, false, false, false, false, false, false, false, false] rfl rfl (one_of HT_.out (by kernel_rfl)) (by decide) (fun K hK => ?_)
                                    refine goes_ Try.func51 (by kernel_rfl) rfl #[.agg #[.slice Ao13 t305.length co13, .int .i64 t308]] (by rfl) rfl rfl (by (try simp only [List.map_toArray, List.map_cons, List.map_nil]); first|done|rfl|(simp only [List.length_drop, List.length_take]; rfl)) ?_
                                    with_reducible refine (impl_UsedOf.calls kj5 _ _ t305 t308 t339 _ ?side1 ?side2 A110.out).mono ?_
                                    (case side1 => repeat (first|exact (Kd.R_reads' HO_312000.out).2.2|(with_reducible refine Kd.C_alloc ?_ _)|(with_reducible refine Kd.C_drewN ?_ _)|(with_reducible refine Kd.C_drew ?_)))
                                    (case side2 => exact (Kd.R_reads' HO_312000.out).2.1)
                                    rintro e w139 ⟨rfl, hb⟩
                                    refine ⟨_, rfl, ?_⟩
                                    have n0_ := Aside0.mk (zM (by (with_reducible repeat (first|apply zE|apply zD|apply zF)); exact HO_305000.out) hb)
                                    have n1_ := Aside0.mk (zM (by (with_reducible repeat (first|apply zE|apply zD|apply zF)); exact HO_312000.out) hb)
                                    have n2_ := Aside0.mk (zM (by (with_reducible repeat (first|apply zE|apply zD|apply zF)); exact HO319.out) hb)
                                    have n3_ := Aside0.mk (zM (by (with_reducible repeat (first|apply zE|apply zD|apply zF)); exact HO328.out) hb)
                                    have n4_ := Aside0.mk (zK (g := gb304) (o := .cells #[.slice Ao9 t298.length co9, .int .i64 t301] 65 (0, 0)) (by (with_reducible repeat (first|refine zA ?_ _|refine zC ?_|refine zB ?_ _)); exact BK304.out) hb)
                                    have n5_ := Aside0.mk (zK (g := gb311) (o := .cells #[.slice Ao13 t305.length co13, .int .i64 t308] 65 (0, 0)) (by (with_reducible repeat (first|refine zA ?_ _|refine zC ?_|refine zB ?_ _)); exact BK311.out) hb)
                                    have n6_ := Aside0.mk (zK (g := gb322) (o := .cells #[.slice Ao121 t317.length co121, .int .i64 t320] 65 (0, 0)) (by (with_reducible repeat (first|refine zA ?_ _|refine zC ?_|refine zB ?_ _)); exact BK322.out) hb)
                                    have n7_ := Aside0.mk (zK (g := gb332) (o := .cells #[.slice Ao129 t326.length co129, .int .i64 t329] 65 (0, 0)) (by (with_reducible repeat (first|refine zA ?_ _|refine zC ?_|refine zB ?_ _)); exact BK332.out) hb)
                                    have n8_ := Aside0.mk (zN (by repeat (first|(with_reducible first|exact HB.out|apply zI|apply zG|apply zH|refine zJ ?_ GE304.out|refine zJ ?_ GE311.out|refine zJ ?_ GE322.out|refine zJ ?_ GE332.out)|exact HB.out)) hb)
                                    clear HO_305000
                                    clear HO_312000
                                    clear HO319
                                    clear HO328
                                    clear BK304
                                    clear BK311
                                    clear BK322
                                    clear BK332
                                    clear HB
                                    have HO_305000 := n0_
                                    have HO_312000 := n1_
                                    have HO319 := n2_
                                    have HO328 := n3_
                                    have BK304 := n4_
                                    have BK311 := n5_
                                    have BK322 := n6_
                                    have BK332 := n7_
                                    have HB := n8_
                                    clear n0_ n1_ n2_ n3_ n4_ n5_ n6_ n7_ n8_
                                    (try clear hb)
                                    (try clear hb2)
                                    (try clear hk)
                                    (try clear hi)
                                    refine hK.out _ _ ⟨(zO BK311.out 0).trans rfl, (zO BK311.out 1).trans rfl, (zO BK322.out 0).trans rfl, (zO BK322.out 1).trans rfl, (zO BK332.out 0).trans rfl, (zO BK332.out 1).trans rfl, (zO BK304.out 0).trans rfl, (zO BK304.out 1).trans rfl⟩ (fun hHeld => ?_)
                                    clear hK K
                                    refine norm_ (a' := ?_) ?_ ?_
                                    rotate_left
                                    · show Act.put _ (some 135) _ = _
                                      simp only [Act.put, List.setIfInBounds_toArray, List.set_cons_zero, List.set_cons_succ, i64_w, i32_w]
                                      rfl
                                    refine one_ (i := 46) (N := some 137) #[true, true, true, true, true, true, true, true, true, true, true, true, true, true, true, true, true, true, true, true, true, true, true, true, true, true, true, true, true, true, true, true, true, true, true, true, true, true, true, true, true, true, true, true, true, true, true, false, false, false, false, false, false, false, false, false, false, false] rfl rfl (one_of HT_.out (by kernel_rfl)) (by decide) (fun K hK => ?_)
                                    refine goes_ Try.func51 (by kernel_rfl) rfl #[.agg #[.slice Ao9 t298.length co9, .int .i64 t301]] (by rfl) rfl rfl (by (try simp only [List.map_toArray, List.map_cons, List.map_nil]); first|done|rfl|(simp only [List.length_drop, List.length_take]; rfl)) ?_
                                    with_reducible refine (impl_UsedOf.calls kj5 _ _ t298 t301 t340 _ ?side1 ?side2 A111.out).mono ?_
                                    (case side1 => repeat (first|exact (Kd.R_reads' HO_305000.out).2.2|(with_reducible refine Kd.C_alloc ?_ _)|(with_reducible refine Kd.C_drewN ?_ _)|(with_reducible refine Kd.C_drew ?_)))
                                    (case side2 => exact (Kd.R_reads' HO_305000.out).2.1)
                                    rintro e w140 ⟨rfl, hb⟩
                                    refine ⟨_, rfl, ?_⟩
                                    have n0_ := Aside0.mk (zM (by (with_reducible repeat (first|apply zE|apply zD|apply zF)); exact HO_305000.out) hb)
                                    have n1_ := Aside0.mk (zM (by (with_reducible repeat (first|apply zE|apply zD|apply zF)); exact HO_312000.out) hb)
                                    have n2_ := Aside0.mk (zM (by (with_reducible repeat (first|apply zE|apply zD|apply zF)); exact HO319.out) hb)
                                    have n3_ := Aside0.mk (zM (by (with_reducible repeat (first|apply zE|apply zD|apply zF)); exact HO328.out) hb)
                                    have n4_ := Aside0.mk (zK (g := gb304) (o := .cells #[.slice Ao9 t298.length co9, .int .i64 t301] 65 (0, 0)) (by (with_reducible repeat (first|refine zA ?_ _|refine zC ?_|refine zB ?_ _)); exact BK304.out) hb)
                                    have n5_ := Aside0.mk (zK (g := gb311) (o := .cells #[.slice Ao13 t305.length co13, .int .i64 t308] 65 (0, 0)) (by (with_reducible repeat (first|refine zA ?_ _|refine zC ?_|refine zB ?_ _)); exact BK311.out) hb)
                                    have n6_ := Aside0.mk (zK (g := gb322) (o := .cells #[.slice Ao121 t317.length co121, .int .i64 t320] 65 (0, 0)) (by (with_reducible repeat (first|refine zA ?_ _|refine zC ?_|refine zB ?_ _)); exact BK322.out) hb)
                                    have n7_ := Aside0.mk (zK (g := gb332) (o := .cells #[.slice Ao129 t326.length co129, .int .i64 t329] 65 (0, 0)) (by (with_reducible repeat (first|refine zA ?_ _|refine zC ?_|refine zB ?_ _)); exact BK332.out) hb)
                                    have n8_ := Aside0.mk (zN (by repeat (first|(with_reducible first|exact HB.out|apply zI|apply zG|apply zH|refine zJ ?_ GE304.out|refine zJ ?_ GE311.out|refine zJ ?_ GE322.out|refine zJ ?_ GE332.out)|exact HB.out)) hb)
                                    clear HO_305000
                                    clear HO_312000
                                    clear HO319
                                    clear HO328
                                    clear BK304
                                    clear BK311
                                    clear BK322
                                    clear BK332
                                    clear HB
                                    have HO_305000 := n0_
                                    have HO_312000 := n1_
                                    have HO319 := n2_
                                    have HO328 := n3_
                                    have BK304 := n4_
                                    have BK311 := n5_
                                    have BK322 := n6_
                                    have BK332 := n7_
                                    have HB := n8_
                                    clear n0_ n1_ n2_ n3_ n4_ n5_ n6_ n7_ n8_
                                    (try clear hb)
                                    (try clear hb2)
                                    (try clear hk)
                                    (try clear hi)
                                    refine hK.out _ _ ⟨(zO BK311.out 0).trans rfl, (zO BK311.out 1).trans rfl, (zO BK322.out 0).trans rfl, (zO BK322.out 1).trans rfl, (zO BK332.out 0).trans rfl, (zO BK332.out 1).trans rfl, (zO BK304.out 0).trans rfl, (zO BK304.out 1).trans rfl⟩ (fun hHeld => ?_)
                                    clear hK K
                                    refine norm_ (a' := ?_) ?_ ?_
                                    rotate_left
                                    · show Act.put _ (some 137) _ = _
                                      simp only [Act.put, List.setIfInBounds_toArray, List.set_cons_zero, List.set_cons_succ, i64_w, i32_w]
                                      rfl
                                    refine pure_ (i := 47) (N := some 138) (v := ?_) (a' := ?_) #[true, true, true, true, true, true, true, true, true, true, true, true, true, true, true, true, true, true, true, true, true, true, true, true, true, true, true, true, true, true, true, true, true, true, true, true, true, true, true, true, true, true, true, true, true, true, true, true, false, false, false, false, false, false, false, false, false, false] rfl rfl (any_of HT_.out (by kernel_rfl)) (fun _ _ _ h => h) (Or.inl ⟨by rfl, ?_⟩) ?_ ?_
                                    rotate_left
                                    · intro w'
                                      go_simp
                                      with_reducible rfl
                                    rotate_left
                                    · simp only [Act.put, List.setIfInBounds_toArray, List.set_cons_zero, List.set_cons_succ, i64_w, i32_w]
                                      rfl
                                    refine pure_ (i := 48) (N := some 139) (v := ?_) (a' := ?_) #[true, true, true, true, true, true, true, true, true, true, true, true, true, true, true, true, true, true, true, true, true, true, true, true, true, true, true, true, true, true, true, true, true, true, true, true, true, true, true, true, true, true, true, true, true, true, true, true, true, false, false, false, false, false, false, false, false, false] rfl rfl (any_of HT_.out (by kernel_rfl)) (fun _ _ _ h => h) (Or.inl ⟨by rfl, ?_⟩) ?_ ?_
                                    rotate_left
                                    · intro w'
                                      go_simp
                                      with_reducible rfl
                                    rotate_left
                                    · simp only [Act.put, List.setIfInBounds_toArray, List.set_cons_zero, List.set_cons_succ, i64_w, i32_w]
                                      rfl
                                    refine pure_ (i := 49) (N := some 140) (v := ?_) (a' := ?_) #[true, true, true, true, true, true, true, true, true, true, true, true, true, true, true, true, true, true, true, true, true, true, true, true, true, true, true, true, true, true, true, true, true, true, true, true, true, true, true, true, true, true, true, true, true, true, true, true, true, true, false, false, false, false, false, false, false, false] rfl rfl (any_of HT_.out (by kernel_rfl)) (fun _ _ _ h => h) (Or.inl ⟨by rfl, ?_⟩) ?_ ?_
                                    rotate_left
                                    · intro w'
                                      go_simp
                                      with_reducible rfl
                                    rotate_left
                                    · simp only [Act.put, List.setIfInBounds_toArray, List.set_cons_zero, List.set_cons_succ, i64_w, i32_w]
                                      rfl
                                    refine pure_ (i := 50) (N := some 141) (v := ?_) (a' := ?_) #[true, true, true, true, true, true, true, true, true, true, true, true, true, true, true, true, true, true, true, true, true, true, true, true, true, true, true, true, true, true, true, true, true, true, true, true, true, true, true, true, true, true, true, true, true, true, true, true, true, true, true, false, false, false, false, false, false, false] rfl rfl (any_of HT_.out (by kernel_rfl)) (fun _ _ _ h => h) (Or.inl ⟨by rfl, ?_⟩) ?_ ?_
                                    rotate_left
                                    · intro w'
                                      go_simp
                                      with_reducible rfl
                                    rotate_left
                                    · simp only [Act.put, List.setIfInBounds_toArray, List.set_cons_zero, List.set_cons_succ, i64_w, i32_w]
                                      rfl
                                    refine take_ (i := 51) (N := some 142) (v := ?_) (a' := ?_) #[true, true, true, true, true, true, true, true, true, true, true, true, true, true, true, true, true, true, true, true, true, true, true, true, true, true, true, true, true, true, true, true, true, true, true, true, true, true, true, true, true, true, true, true, true, true, true, true, true, true, true, true, false, false, false, false, false, false] rfl rfl (take_ofW HT_.out HW_.out (by kernel_rfl)) (fun _ _ _ h => h) (Or.inl ⟨by rfl, ?_⟩) hHeld ?_ ?_
                                    rotate_left
                                    · rintro w' ⟨s0, s1, s2, s3, s4, s5, s6, s7⟩
                                      go_simp
                                      with_reducible rfl
                                    rotate_left
                                    · simp only [Act.put, List.setIfInBounds_toArray, List.set_cons_zero, List.set_cons_succ, i64_w, i32_w]
                                      rfl
                                    refine take_ (i := 53) (N := some 144) (v := ?_) (a' := ?_) #[true, true, true, true, true, true, true, true, true, true, true, true, true, true, true, true, true, true, true, true, true, true, true, true, true, true, true, true, true, true, true, true, true, true, true, true, true, true, true, true, true, true, true, true, true, true, true, true, true, true, true, true, false, true, false, false, false, false] rfl rfl (take_ofW HT_.out HW_.out (by kernel_rfl)) (fun _ _ _ h => h) (Or.inl ⟨by rfl, ?_⟩) hHeld ?_ ?_
                                    rotate_left
                                    · rintro w' ⟨s0, s1, s2, s3, s4, s5, s6, s7⟩
                                      go_simp
                                      with_reducible rfl
                                    rotate_left
                                    · simp only [Act.put, List.setIfInBounds_toArray, List.set_cons_zero, List.set_cons_succ, i64_w, i32_w]
                                      rfl
                                    refine one_ (i := 52) (N := some 143) #[true, true, true, true, true, true, true, true, true, true, true, true, true, true, true, true, true, true, true, true, true, true, true, true, true, true, true, true, true, true, true, true, true, true, true, true, true, true, true, true, true, true, true, true, true, true, true, true, true, true, true, true, true, true, false, false, false, false] rfl rfl (one_of HT_.out (by kernel_rfl)) (by decide) (fun K hK => ?_)
                                    refine goes_ Try.func51 (by kernel_rfl) rfl #[.agg #[.slice Ao121 t317.length co121, .int .i64 t320]] (by rfl) rfl rfl (by (try simp only [List.map_toArray, List.map_cons, List.map_nil]); first|done|rfl|(simp only [List.length_drop, List.length_take]; rfl)) ?_
                                    with_reducible refine (impl_UsedOf.calls kj5 _ _ t317 t320 t341 _ ?side1 ?side2 A113.out).mono ?_
                                    (case side1 => repeat (first|exact (Kd.R_reads' HO319.out).2.2|(with_reducible refine Kd.C_alloc ?_ _)|(with_reducible refine Kd.C_drewN ?_ _)|(with_reducible refine Kd.C_drew ?_)))
                                    (case side2 => exact (Kd.R_reads' HO319.out).2.1)
                                    rintro e w141 ⟨rfl, hb⟩
                                    refine ⟨_, rfl, ?_⟩
                                    have n0_ := Aside0.mk (zM (by (with_reducible repeat (first|apply zE|apply zD|apply zF)); exact HO_305000.out) hb)
                                    have n1_ := Aside0.mk (zM (by (with_reducible repeat (first|apply zE|apply zD|apply zF)); exact HO_312000.out) hb)
                                    have n2_ := Aside0.mk (zM (by (with_reducible repeat (first|apply zE|apply zD|apply zF)); exact HO319.out) hb)
                                    have n3_ := Aside0.mk (zM (by (with_reducible repeat (first|apply zE|apply zD|apply zF)); exact HO328.out) hb)
                                    have n4_ := Aside0.mk (zK (g := gb304) (o := .cells #[.slice Ao9 t298.length co9, .int .i64 t301] 65 (0, 0)) (by (with_reducible repeat (first|refine zA ?_ _|refine zC ?_|refine zB ?_ _)); exact BK304.out) hb)
                                    have n5_ := Aside0.mk (zK (g := gb311) (o := .cells #[.slice Ao13 t305.length co13, .int .i64 t308] 65 (0, 0)) (by (with_reducible repeat (first|refine zA ?_ _|refine zC ?_|refine zB ?_ _)); exact BK311.out) hb)
                                    have n6_ := Aside0.mk (zK (g := gb322) (o := .cells #[.slice Ao121 t317.length co121, .int .i64 t320] 65 (0, 0)) (by (with_reducible repeat (first|refine zA ?_ _|refine zC ?_|refine zB ?_ _)); exact BK322.out) hb)
                                    have n7_ := Aside0.mk (zK (g := gb332) (o := .cells #[.slice Ao129 t326.length co129, .int .i64 t329] 65 (0, 0)) (by (with_reducible repeat (first|refine zA ?_ _|refine zC ?_|refine zB ?_ _)); exact BK332.out) hb)
                                    have n8_ := Aside0.mk (zN (by repeat (first|(with_reducible first|exact HB.out|apply zI|apply zG|apply zH|refine zJ ?_ GE304.out|refine zJ ?_ GE311.out|refine zJ ?_ GE322.out|refine zJ ?_ GE332.out)|exact HB.out)) hb)
                                    clear HO_305000
                                    clear HO_312000
                                    clear HO319
                                    clear HO328
                                    clear BK304
                                    clear BK311
                                    clear BK322
                                    clear BK332
                                    clear HB
                                    have HO_305000 := n0_
                                    have HO_312000 := n1_
                                    have HO319 := n2_
                                    have HO328 := n3_
                                    have BK304 := n4_
                                    have BK311 := n5_
                                    have BK322 := n6_
                                    have BK332 := n7_
                                    have HB := n8_
                                    clear n0_ n1_ n2_ n3_ n4_ n5_ n6_ n7_ n8_
                                    (try clear hb)
                                    (try clear hb2)
                                    (try clear hk)
                                    (try clear hi)
                                    refine hK.out _ _ ⟨(zO BK311.out 0).trans rfl, (zO BK311.out 1).trans rfl, (zO BK322.out 0).trans rfl, (zO BK322.out 1).trans rfl, (zO BK332.out 0).trans rfl, (zO BK332.out 1).trans rfl, (zO BK304.out 0).trans rfl, (zO BK304.out 1).trans rfl⟩ (fun hHeld => ?_)
                                    clear hK K
                                    refine norm_ (a' := ?_) ?_ ?_
                                    rotate_left
                                    · show Act.put _ (some 143) _ = _
                                      simp only [Act.put, List.setIfInBounds_toArray, List.set_cons_zero, List.set_cons_succ, i64_w, i32_w]
                                      rfl
                                    refine one_ (i := 54) (N := some 145) #[true, true, true, true, true, true, true, true, true, true, true, true, true, true, true, true, true, true, true, true, true, true, true, true, true, true, true, true, true, true, true, true, true, true, true, true, true, true, true, true, true, true, true, true, true, true, true, true, true, true, true, true, true, true, true, false, false, false] rfl rfl (one_of HT_.out (by kernel_rfl)) (by decide) (fun K hK => ?_)
                                    refine goes_ Try.func51 (by kernel_rfl) rfl #[.agg #[.slice Ao9 t298.length co9, .int .i64 t301]] (by rfl) rfl rfl (by (try simp only [List.map_toArray, List.map_cons, List.map_nil]); first|done|rfl|(simp only [List.length_drop, List.length_take]; rfl)) ?_
                                    with_reducible refine (impl_UsedOf.calls kj5 _ _ t298 t301 t342 _ ?side1 ?side2 A114.out).mono ?_
                                    (case side1 => repeat (first|exact (Kd.R_reads' HO_305000.out).2.2|(with_reducible refine Kd.C_alloc ?_ _)|(with_reducible refine Kd.C_drewN ?_ _)|(with_reducible refine Kd.C_drew ?_)))
                                    (case side2 => exact (Kd.R_reads' HO_305000.out).2.1)
                                    rintro e w142 ⟨rfl, hb⟩
                                    refine ⟨_, rfl, ?_⟩
                                    have n0_ := Aside0.mk (zM (by (with_reducible repeat (first|apply zE|apply zD|apply zF)); exact HO_305000.out) hb)
                                    have n1_ := Aside0.mk (zM (by (with_reducible repeat (first|apply zE|apply zD|apply zF)); exact HO_312000.out) hb)
                                    have n2_ := Aside0.mk (zM (by (with_reducible repeat (first|apply zE|apply zD|apply zF)); exact HO319.out) hb)
                                    have n3_ := Aside0.mk (zM (by (with_reducible repeat (first|apply zE|apply zD|apply zF)); exact HO328.out) hb)
                                    have n4_ := Aside0.mk (zK (g := gb304) (o := .cells #[.slice Ao9 t298.length co9, .int .i64 t301] 65 (0, 0)) (by (with_reducible repeat (first|refine zA ?_ _|refine zC ?_|refine zB ?_ _)); exact BK304.out) hb)
                                    have n5_ := Aside0.mk (zK (g := gb311) (o := .cells #[.slice Ao13 t305.length co13, .int .i64 t308] 65 (0, 0)) (by (with_reducible repeat (first|refine zA ?_ _|refine zC ?_|refine zB ?_ _)); exact BK311.out) hb)
                                    have n6_ := Aside0.mk (zK (g := gb322) (o := .cells #[.slice Ao121 t317.length co121, .int .i64 t320] 65 (0, 0)) (by (with_reducible repeat (first|refine zA ?_ _|refine zC ?_|refine zB ?_ _)); exact BK322.out) hb)
                                    have n7_ := Aside0.mk (zK (g := gb332) (o := .cells #[.slice Ao129 t326.length co129, .int .i64 t329] 65 (0, 0)) (by (with_reducible repeat (first|refine zA ?_ _|refine zC ?_|refine zB ?_ _)); exact BK332.out) hb)
                                    have n8_ := Aside0.mk (zN (by repeat (first|(with_reducible first|exact HB.out|apply zI|apply zG|apply zH|refine zJ ?_ GE304.out|refine zJ ?_ GE311.out|refine zJ ?_ GE322.out|refine zJ ?_ GE332.out)|exact HB.out)) hb)
                                    clear HO_305000
                                    clear HO_312000
                                    clear HO319
                                    clear HO328
                                    clear BK304
                                    clear BK311
                                    clear BK322
                                    clear BK332
                                    clear HB
                                    have HO_305000 := n0_
                                    have HO_312000 := n1_
                                    have HO319 := n2_
                                    have HO328 := n3_
                                    have BK304 := n4_
                                    have BK311 := n5_
                                    have BK322 := n6_
                                    have BK332 := n7_
                                    have HB := n8_
                                    clear n0_ n1_ n2_ n3_ n4_ n5_ n6_ n7_ n8_
                                    (try clear hb)
                                    (try clear hb2)
                                    (try clear hk)
                                    (try clear hi)
                                    refine hK.out _ _ ⟨(zO BK311.out 0).trans rfl, (zO BK311.out 1).trans rfl, (zO BK322.out 0).trans rfl, (zO BK322.out 1).trans rfl, (zO BK332.out 0).trans rfl, (zO BK332.out 1).trans rfl, (zO BK304.out 0).trans rfl, (zO BK304.out 1).trans rfl⟩ (fun hHeld => ?_)
                                    clear hK K
                                    refine norm_ (a' := ?_) ?_ ?_
                                    rotate_left
                                    · show Act.put _ (some 145) _ = _
                                      simp only [Act.put, List.setIfInBounds_toArray, List.set_cons_zero, List.set_cons_succ, i64_w, i32_w]
                                      rfl
                                    refine pure_ (i := 55) (N := some 146) (v := ?_) (a' := ?_) #[true, true, true, true, true, true, true, true, true, true, true, true, true, true, true, true, true, true, true, true, true, true, true, true, true, true, true, true, true, true, true, true, true, true, true, true, true, true, true, true, true, true, true, true, true, true, true, true, true, true, true, true, true, true, true, true, false, false] rfl rfl (any_of HT_.out (by kernel_rfl)) (fun _ _ _ h => h) (Or.inl ⟨by rfl, ?_⟩) ?_ ?_
                                    rotate_left
                                    · intro w'
                                      go_simp
                                      with_reducible rfl
                                    rotate_left
                                    · simp only [Act.put, List.setIfInBounds_toArray, List.set_cons_zero, List.set_cons_succ, i64_w, i32_w]
                                      rfl
                                    refine pure_ (i := 56) (N := some 147) (v := ?_) (a' := ?_) #[true, true, true, true, true, true, true, true, true, true, true, true, true, true, true, true, true, true, true, true, true, true, true, true, true, true, true, true, true, true, true, true, true, true, true, true, true, true, true, true, true, true, true, true, true, true, true, true, true, true, true, true, true, true, true, true, true, false] rfl rfl (any_of HT_.out (by kernel_rfl)) (fun _ _ _ h => h) (Or.inl ⟨by rfl, ?_⟩) ?_ ?_
                                    rotate_left
                                    · intro w'
                                      go_simp
                                      with_reducible rfl
                                    rotate_left
                                    · simp only [Act.put, List.setIfInBounds_toArray, List.set_cons_zero, List.set_cons_succ, i64_w, i32_w]
                                      rfl
                                    refine pure_ (i := 57) (N := some 2) (v := ?_) (a' := ?_) #[true, true, true, true, true, true, true, true, true, true, true, true, true, true, true, true, true, true, true, true, true, true, true, true, true, true, true, true, true, true, true, true, true, true, true, true, true, true, true, true, true, true, true, true, true, true, true, true, true, true, true, true, true, true, true, true, true, true] rfl rfl (any_of HT_.out (by kernel_rfl)) (fun _ _ _ h => h) (Or.inl ⟨by rfl, ?_⟩) ?_ ?_
                                    rotate_left
                                    · intro w'
                                      go_simp
                                      with_reducible rfl
                                    rotate_left
                                    · simp only [Act.put, List.setIfInBounds_toArray, List.set_cons_zero, List.set_cons_succ, i64_w, i32_w]
                                      rfl
                                    refine done_ (done_of HT_.out (by kernel_rfl)) ?_
                                    try go_wp2
                                    go_ret
                                    exact ⟨by first|rfl|(simp [errW_none, errW_some] <;> rfl)|(simp [*, errW_none, errW_some] <;> rfl), by repeat (first|(with_reducible first|exact HB.out|apply zI|apply zG|apply zH|refine zJ ?_ GE304.out|refine zJ ?_ GE311.out|refine zJ ?_ GE322.out|refine zJ ?_ GE332.out)|exact HB.out)⟩
                                  · rw [if_neg c112] at H
                                    have c112b0 : (t339 == (wrap64 (t340 + 1))) = false := beq_eq_false_iff_ne.mpr c112
                                    have c112b1 : (t339 != (wrap64 (t340 + 1))) = true := bne_iff_ne.mpr c112
                                    exact absurd ((Option.some.inj H).trans HTr_.out) (by simp)
                                · replace c109 := Bool.eq_false_iff.mpr c109
                                  subst c109
                                  have H1 : (some false) = some r := by rw [if_neg (show ¬ (false = true) by decide)] at H; exact H
                                  clear H
                                  have H := H1
                                  clear H1
                                  exact absurd ((Option.some.inj H).trans HTr_.out) (by simp)
                              · replace c107 := Bool.eq_false_iff.mpr c107
                                subst c107
                                have H1 : (some false) = some r := by rw [if_neg (show ¬ (false = true) by decide)] at H; exact H
                                clear H
                                have H := H1
                                clear H1
                                exact absurd ((Option.some.inj H).trans HTr_.out) (by simp)
                            · replace c105 := Bool.eq_false_iff.mpr c105
                              subst c105
                              have H1 : (some false) = some r := by rw [if_neg (show ¬ (false = true) by decide)] at H; exact H
                              clear H
                              have H := H1
                              clear H1
                              exact absurd ((Option.some.inj H).trans HTr_.out) (by simp)
                      · replace c59 := Bool.eq_false_iff.mpr c59
                        subst c59
                        have H1 : (some false) = some r := by rw [if_neg (show ¬ (false = true) by decide)] at H; exact H
                        clear H
                        have H := H1
                        clear H1
                        exact absurd ((Option.some.inj H).trans HTr_.out) (by simp)
                  · replace c36 := Bool.eq_false_iff.mpr c36
                    subst c36
                    have H1 : (some false) = some r := by rw [if_neg (show ¬ (false = true) by decide)] at H; exact H
                    clear H
                    have H := H1
                    clear H1
                    exact absurd ((Option.some.inj H).trans HTr_.out) (by simp)
                · rw [if_neg c35] at H
                  have c35b0 : (t315.toList == t303.toList) = false := beq_eq_false_iff_ne.mpr c35
                  have c35b1 : (t315.toList != t303.toList) = true := bne_iff_ne.mpr c35
                  exact absurd ((Option.some.inj H).trans HTr_.out) (by simp)
              · rw [if_neg c34] at H
                have c34b0 : (t314.toList == t302.toList) = false := beq_eq_false_iff_ne.mpr c34
                have c34b1 : (t314.toList != t302.toList) = true := bne_iff_ne.mpr c34
                exact absurd ((Option.some.inj H).trans HTr_.out) (by simp)
            · replace c33 := Bool.eq_false_iff.mpr c33
              subst c33
              have H1 : (some false) = some r := by rw [if_neg (show ¬ (false = true) by decide)] at H; exact H
              clear H
              have H := H1
              clear H1
              exact absurd ((Option.some.inj H).trans HTr_.out) (by simp)
          · replace c27 := Bool.eq_false_iff.mpr c27
            subst c27
            have H1 : (some ((t305.length : Int) == 0)) = some r := by rw [if_neg (show ¬ (false = true) by decide)] at H; exact H
            clear H
            have H := H1
            clear H1
            obtain rfl := Option.some.inj H
            have hnb343 := NB311_304.out
            have hnc343 := NB304_311.out
            obtain ⟨hcz344_0, hcz344_1, hfz344_0, hfz344_1⟩ := zb2 BK311.out
            go_wp2
            go_ret
            exact ⟨by first|rfl|(simp [errW_none, errW_some] <;> rfl)|(simp [*, errW_none, errW_some] <;> rfl), by repeat (first|(with_reducible first|exact HB.out|apply zI|apply zG|apply zH|refine zJ ?_ GE304.out|refine zJ ?_ GE311.out)|exact HB.out)⟩

/-- THE ONE PURE STATEMENT of laws_FnLays: yours. -/
def laws_FnLays.Pure : Prop := ∀ (l0 : List Int), l0.length ≤ maxLen → l0.length * 1 ≤ 140737488351232 → (∀ x ∈ l0, (Lit.int .u8 x).wf = true) → ∃ k, laws_FnLays.f k l0 = some true
theorem laws_FnLays.walk (P : laws_FnLays.Pure) (a0 : Option Addr) (len0 cap0 : Nat) (z0 : List Int) (w : World) (w0 : (a0 = none ∧ len0 = 0 ∧ cap0 = 0 ∧ z0 = []) ∨ ∃ x, a0 = some x ∧ len0 ≤ cap0 ∧ cap0 ≤ maxLen ∧ z0.length = cap0 ∧ (∀ i, i < z0.length → w.cell? (x.add i) = some (.int .u8 (z0.getD i 0))) ∧ ∀ n ∈ z0, (Lit.int .u8 n).wf = true) (y0 : len0 * 1 ≤ 140737488351232) :
    Calls Try.prog 11 #[.slice a0 len0 cap0] w fun e w' => e = .returned (.bool true) ∧ Below w.heap.size w w' := by
  obtain ⟨l0, rfl, hr0, hm0, hw0, hc0⟩ := ReadsInt.ofRowC w0
  obtain ⟨k, h⟩ := P l0 hm0 y0 hw0
  refine (laws_FnLays.calls k _ _ l0 true w (Kd.C_of_reads (d := (0 : Int)) (h1 := fun _ => rfl) hr0) hc0 h rfl).mono ?_
  rintro e w' ⟨rfl, hd⟩
  exact ⟨rfl, hd⟩

end Go.Proofs.Ytjiekmbonmbhlaa.GFnLays
