/- Walks of the functions that the law reaches: by programs of this session, over a tool's print. -/
import Derived.Test.YtphicebbbkjdhaaDoorGFnRingsx0
import Derived.Test.YtphicebbbkjdhaaDoorGFnRingsx2
import Derived.Test.YtphicebbbkjdhaaDoorGFnRingsx3
import Derived.Test.YtphicebbbkjdhaaDoorGFnRingsx4
import Derived.Test.YtphicebbbkjdhaaDoorGFnRingsx5
namespace Go.Proofs.YtphicebbbkjdhaaDoor.GFnRings
open Go.RowKit Go.Proofs.YtphicebbbkjdhaaDoorW.PrintWords Go.Proofs.YtphicebbbkjdhaaDoorW.PrintLast Go.Proofs.YtphicebbbkjdhaaDoorW.PrintMore
attribute [local go_sem] max2_int min2_int max_two min_two max_three min_three max_four min_four   -- for this text's walks alone
set_option linter.unusedVariables false
set_option linter.unusedSimpArgs false

/-! ### laws_FnRings: function 6 -/
mutual
def laws_FnRings.j0 : Nat → List Int → List Int → Bool → List (S63) → Option (Bool)
  | 0, _, _, _, _ => none
  | k + 1, x0, x3, x43, x204000 => if x43 = true then (some false) else ((spec_DrawWords.f k x0).bind fun t209 => (laws_FnRings.l0 k x3 t209 0 x204000))
def laws_FnRings.l0 : Nat → List Int → List ByteArray → Int → List (S63) → Option (Bool)
  | 0, _, _, _, _ => none
  | k + 1, x3, x6, x7, x204000 => if x7 < (x6.length : Int) then (if 0 ≤ x7 then ((impl_HomeOf.f k x204000 (rdOf ByteArray.empty x6 x7)).bind fun t214 => ((impl_HomesOf.f k x204000 (rdOf ByteArray.empty x6 x7) 3).bind fun t216 => (if (x3.length : Int) < 3 then (laws_FnRings.j2 k x3 x6 x7 t214 t216 (x3.length : Int) x204000) else (laws_FnRings.j2 k x3 x6 x7 t214 t216 3 x204000)))) else (none)) else ((impl_HomeOf.f k ([] : List (S63)) (⟨#[97]⟩ : ByteArray)).bind fun t212 => (some (t212 == 0)))
def laws_FnRings.j2 : Nat → List Int → List ByteArray → Int → Int → List Int → Int → List (S63) → Option (Bool)
  | 0, _, _, _, _, _, _, _ => none
  | k + 1, x3, x6, x7, x8, x9, x10, x204000 => (laws_in.f k x3 x8).bind fun t219 => (if t219 = true then (if (x9.length : Int) = x10 then (if 0 < (x9.length : Int) then (laws_FnRings.j3 k x3 x6 x7 x9 ((rd x9 0) != x8) x204000) else (none)) else (laws_FnRings.j3 k x3 x6 x7 x9 true x204000)) else (laws_FnRings.j3 k x3 x6 x7 x9 true x204000))
def laws_FnRings.j3 : Nat → List Int → List ByteArray → Int → List Int → Bool → List (S63) → Option (Bool)
  | 0, _, _, _, _, _, _ => none
  | k + 1, x3, x6, x7, x9, x86, x204000 => if x86 = true then (some false) else (laws_FnRings.l1 k x3 x6 x7 x9 1 x204000)
def laws_FnRings.l1 : Nat → List Int → List ByteArray → Int → List Int → Int → List (S63) → Option (Bool)
  | 0, _, _, _, _, _, _ => none
  | k + 1, x3, x6, x7, x9, x11, x204000 => if x11 < (x9.length : Int) then (if 0 ≤ x11 then (if x11 ≤ (x9.length : Int) then ((laws_in.f k (x9.take (x11 : Int).toNat) (rd x9 x11)).bind fun t226 => (if t226 = true then (some false) else ((laws_in.f k x3 (rd x9 x11)).bind fun t228 => (if t228 = true then (laws_FnRings.l1 k x3 x6 x7 x9 (wrap64 (x11 + 1)) x204000) else (some false))))) else (none)) else (none)) else (laws_FnRings.l0 k x3 x6 (wrap64 (x7 + 1)) x204000)
end
def laws_FnRings.f (k : Nat) (l0 : List Int) : Option (Bool) := (laws_big.f l0).bind fun t195 => (if t195 = true then (some true) else ((spec_DrawNodes.f k l0).bind fun t196 => ((impl_RingOf.f t196).bind fun bt199 => (if bt199.2 = true then ((impl_RingOk.f k bt199.1).bind fun t204 => (if t204 = true then ((impl_NodesOf.f bt199.1).bind fun t205 => ((laws_sameInts.f k t205 t196).bind fun t208 => (if t208 = true then (laws_FnRings.j0 k l0 t196 ((bt199.1.length : Int) != (wrap64 (4 * (t196.length : Int)))) bt199.1) else (laws_FnRings.j0 k l0 t196 true bt199.1)))) else (laws_FnRings.j0 k l0 t196 true bt199.1))) else (laws_FnRings.j0 k l0 t196 true bt199.1)))))
theorem laws_FnRings.mono_l : ∀ k, (∀ y0 y1 y2 y3, LeO (laws_FnRings.j0 k y0 y1 y2 y3) (laws_FnRings.j0 (k + 1) y0 y1 y2 y3)) ∧ (∀ y0 y1 y2 y3, LeO (laws_FnRings.l0 k y0 y1 y2 y3) (laws_FnRings.l0 (k + 1) y0 y1 y2 y3)) ∧ (∀ y0 y1 y2 y3 y4 y5 y6, LeO (laws_FnRings.j2 k y0 y1 y2 y3 y4 y5 y6) (laws_FnRings.j2 (k + 1) y0 y1 y2 y3 y4 y5 y6)) ∧ (∀ y0 y1 y2 y3 y4 y5, LeO (laws_FnRings.j3 k y0 y1 y2 y3 y4 y5) (laws_FnRings.j3 (k + 1) y0 y1 y2 y3 y4 y5)) ∧ (∀ y0 y1 y2 y3 y4 y5, LeO (laws_FnRings.l1 k y0 y1 y2 y3 y4 y5) (laws_FnRings.l1 (k + 1) y0 y1 y2 y3 y4 y5))
  | 0 => ⟨fun _ _ _ _ r h => by simp [laws_FnRings.j0] at h, fun _ _ _ _ r h => by simp [laws_FnRings.l0] at h, fun _ _ _ _ _ _ _ r h => by simp [laws_FnRings.j2] at h, fun _ _ _ _ _ _ r h => by simp [laws_FnRings.j3] at h, fun _ _ _ _ _ _ r h => by simp [laws_FnRings.l1] at h⟩
  | k + 1 => by
    obtain ⟨ih0, ih1, ih2, ih3, ih4⟩ := laws_FnRings.mono_l k
    refine ⟨?_, ?_, ?_, ?_, ?_⟩
    · intro y0 y1 y2 y3
      unfold laws_FnRings.j0
      repeat' first
      | (with_reducible exact ih0 _ _ _ _)
      | (with_reducible exact ih1 _ _ _ _)
      | (with_reducible exact ih2 _ _ _ _ _ _ _)
      | (with_reducible exact ih3 _ _ _ _ _ _)
      | (with_reducible exact ih4 _ _ _ _ _ _)
      | (with_reducible exact impl_HomeOf.mono _ _ _)
      | (with_reducible exact impl_HomesOf.mono _ _ _ _)
      | (with_reducible exact impl_RingOk.mono _ _)
      | (with_reducible exact laws_in.mono _ _ _)
      | (with_reducible exact laws_sameInts.mono _ _ _)
      | (with_reducible exact spec_DrawNodes.mono _ _)
      | (with_reducible exact spec_DrawWords.mono _ _)
      | (with_reducible exact LeO.refl _)
      | (with_reducible exact LeO.none _)
      | (with_reducible refine LeO.ite ?_ ?_)
      | (with_reducible refine LeO.bind ?_ (fun _ => ?_))
      | exact ih0 _ _ _ _
      | exact ih1 _ _ _ _
      | exact ih2 _ _ _ _ _ _ _
      | exact ih3 _ _ _ _ _ _
      | exact ih4 _ _ _ _ _ _
      | exact impl_HomeOf.mono _ _ _
      | exact impl_HomesOf.mono _ _ _ _
      | exact impl_RingOk.mono _ _
      | exact laws_in.mono _ _ _
      | exact laws_sameInts.mono _ _ _
      | exact spec_DrawNodes.mono _ _
      | exact spec_DrawWords.mono _ _
      | exact LeO.none _
      | refine LeO.ite ?_ ?_
      | refine LeO.bind ?_ (fun _ => ?_)
    · intro y0 y1 y2 y3
      unfold laws_FnRings.l0
      repeat' first
      | (with_reducible exact ih0 _ _ _ _)
      | (with_reducible exact ih1 _ _ _ _)
      | (with_reducible exact ih2 _ _ _ _ _ _ _)
      | (with_reducible exact ih3 _ _ _ _ _ _)
      | (with_reducible exact ih4 _ _ _ _ _ _)
      | (with_reducible exact impl_HomeOf.mono _ _ _)
      | (with_reducible exact impl_HomesOf.mono _ _ _ _)
      | (with_reducible exact impl_RingOk.mono _ _)
      | (with_reducible exact laws_in.mono _ _ _)
      | (with_reducible exact laws_sameInts.mono _ _ _)
      | (with_reducible exact spec_DrawNodes.mono _ _)
      | (with_reducible exact spec_DrawWords.mono _ _)
      | (with_reducible exact LeO.refl _)
      | (with_reducible exact LeO.none _)
      | (with_reducible refine LeO.ite ?_ ?_)
      | (with_reducible refine LeO.bind ?_ (fun _ => ?_))
      | exact ih0 _ _ _ _
      | exact ih1 _ _ _ _
      | exact ih2 _ _ _ _ _ _ _
      | exact ih3 _ _ _ _ _ _
      | exact ih4 _ _ _ _ _ _
      | exact impl_HomeOf.mono _ _ _
      | exact impl_HomesOf.mono _ _ _ _
      | exact impl_RingOk.mono _ _
      | exact laws_in.mono _ _ _
      | exact laws_sameInts.mono _ _ _
      | exact spec_DrawNodes.mono _ _
      | exact spec_DrawWords.mono _ _
      | exact LeO.none _
      | refine LeO.ite ?_ ?_
      | refine LeO.bind ?_ (fun _ => ?_)
    · intro y0 y1 y2 y3 y4 y5 y6
      unfold laws_FnRings.j2
      repeat' first
      | (with_reducible exact ih0 _ _ _ _)
      | (with_reducible exact ih1 _ _ _ _)
      | (with_reducible exact ih2 _ _ _ _ _ _ _)
      | (with_reducible exact ih3 _ _ _ _ _ _)
      | (with_reducible exact ih4 _ _ _ _ _ _)
      | (with_reducible exact impl_HomeOf.mono _ _ _)
      | (with_reducible exact impl_HomesOf.mono _ _ _ _)
      | (with_reducible exact impl_RingOk.mono _ _)
      | (with_reducible exact laws_in.mono _ _ _)
      | (with_reducible exact laws_sameInts.mono _ _ _)
      | (with_reducible exact spec_DrawNodes.mono _ _)
      | (with_reducible exact spec_DrawWords.mono _ _)
      | (with_reducible exact LeO.refl _)
      | (with_reducible exact LeO.none _)
      | (with_reducible refine LeO.ite ?_ ?_)
      | (with_reducible refine LeO.bind ?_ (fun _ => ?_))
      | exact ih0 _ _ _ _
      | exact ih1 _ _ _ _
      | exact ih2 _ _ _ _ _ _ _
      | exact ih3 _ _ _ _ _ _
      | exact ih4 _ _ _ _ _ _
      | exact impl_HomeOf.mono _ _ _
      | exact impl_HomesOf.mono _ _ _ _
      | exact impl_RingOk.mono _ _
      | exact laws_in.mono _ _ _
      | exact laws_sameInts.mono _ _ _
      | exact spec_DrawNodes.mono _ _
      | exact spec_DrawWords.mono _ _
      | exact LeO.none _
      | refine LeO.ite ?_ ?_
      | refine LeO.bind ?_ (fun _ => ?_)
    · intro y0 y1 y2 y3 y4 y5
      unfold laws_FnRings.j3
      repeat' first
      | (with_reducible exact ih0 _ _ _ _)
      | (with_reducible exact ih1 _ _ _ _)
      | (with_reducible exact ih2 _ _ _ _ _ _ _)
      | (with_reducible exact ih3 _ _ _ _ _ _)
      | (with_reducible exact ih4 _ _ _ _ _ _)
      | (with_reducible exact impl_HomeOf.mono _ _ _)
      | (with_reducible exact impl_HomesOf.mono _ _ _ _)
      | (with_reducible exact impl_RingOk.mono _ _)
      | (with_reducible exact laws_in.mono _ _ _)
      | (with_reducible exact laws_sameInts.mono _ _ _)
      | (with_reducible exact spec_DrawNodes.mono _ _)
      | (with_reducible exact spec_DrawWords.mono _ _)
      | (with_reducible exact LeO.refl _)
      | (with_reducible exact LeO.none _)
      | (with_reducible refine LeO.ite ?_ ?_)
      | (with_reducible refine LeO.bind ?_ (fun _ => ?_))
      | exact ih0 _ _ _ _
      | exact ih1 _ _ _ _
      | exact ih2 _ _ _ _ _ _ _
      | exact ih3 _ _ _ _ _ _
      | exact ih4 _ _ _ _ _ _
      | exact impl_HomeOf.mono _ _ _
      | exact impl_HomesOf.mono _ _ _ _
      | exact impl_RingOk.mono _ _
      | exact laws_in.mono _ _ _
      | exact laws_sameInts.mono _ _ _
      | exact spec_DrawNodes.mono _ _
      | exact spec_DrawWords.mono _ _
      | exact LeO.none _
      | refine LeO.ite ?_ ?_
      | refine LeO.bind ?_ (fun _ => ?_)
    · intro y0 y1 y2 y3 y4 y5
      unfold laws_FnRings.l1
      repeat' first
      | (with_reducible exact ih0 _ _ _ _)
      | (with_reducible exact ih1 _ _ _ _)
      | (with_reducible exact ih2 _ _ _ _ _ _ _)
      | (with_reducible exact ih3 _ _ _ _ _ _)
      | (with_reducible exact ih4 _ _ _ _ _ _)
      | (with_reducible exact impl_HomeOf.mono _ _ _)
      | (with_reducible exact impl_HomesOf.mono _ _ _ _)
      | (with_reducible exact impl_RingOk.mono _ _)
      | (with_reducible exact laws_in.mono _ _ _)
      | (with_reducible exact laws_sameInts.mono _ _ _)
      | (with_reducible exact spec_DrawNodes.mono _ _)
      | (with_reducible exact spec_DrawWords.mono _ _)
      | (with_reducible exact LeO.refl _)
      | (with_reducible exact LeO.none _)
      | (with_reducible refine LeO.ite ?_ ?_)
      | (with_reducible refine LeO.bind ?_ (fun _ => ?_))
      | exact ih0 _ _ _ _
      | exact ih1 _ _ _ _
      | exact ih2 _ _ _ _ _ _ _
      | exact ih3 _ _ _ _ _ _
      | exact ih4 _ _ _ _ _ _
      | exact impl_HomeOf.mono _ _ _
      | exact impl_HomesOf.mono _ _ _ _
      | exact impl_RingOk.mono _ _
      | exact laws_in.mono _ _ _
      | exact laws_sameInts.mono _ _ _
      | exact spec_DrawNodes.mono _ _
      | exact spec_DrawWords.mono _ _
      | exact LeO.none _
      | refine LeO.ite ?_ ?_
      | refine LeO.bind ?_ (fun _ => ?_)
theorem laws_FnRings.mono : ∀ a0 k, LeO (laws_FnRings.f k a0) (laws_FnRings.f (k + 1) a0) := by
  intro a0 k
  obtain ⟨ih0, ih1, ih2, ih3, ih4⟩ := laws_FnRings.mono_l k
  unfold laws_FnRings.f
  repeat' first
      | (with_reducible exact ih0 _ _ _ _)
      | (with_reducible exact ih1 _ _ _ _)
      | (with_reducible exact ih2 _ _ _ _ _ _ _)
      | (with_reducible exact ih3 _ _ _ _ _ _)
      | (with_reducible exact ih4 _ _ _ _ _ _)
      | (with_reducible exact impl_HomeOf.mono _ _ _)
      | (with_reducible exact impl_HomesOf.mono _ _ _ _)
      | (with_reducible exact impl_RingOk.mono _ _)
      | (with_reducible exact laws_in.mono _ _ _)
      | (with_reducible exact laws_sameInts.mono _ _ _)
      | (with_reducible exact spec_DrawNodes.mono _ _)
      | (with_reducible exact spec_DrawWords.mono _ _)
      | (with_reducible exact LeO.refl _)
      | (with_reducible exact LeO.none _)
      | (with_reducible refine LeO.ite ?_ ?_)
      | (with_reducible refine LeO.bind ?_ (fun _ => ?_))
      | exact ih0 _ _ _ _
      | exact ih1 _ _ _ _
      | exact ih2 _ _ _ _ _ _ _
      | exact ih3 _ _ _ _ _ _
      | exact ih4 _ _ _ _ _ _
      | exact impl_HomeOf.mono _ _ _
      | exact impl_HomesOf.mono _ _ _ _
      | exact impl_RingOk.mono _ _
      | exact laws_in.mono _ _ _
      | exact laws_sameInts.mono _ _ _
      | exact spec_DrawNodes.mono _ _
      | exact spec_DrawWords.mono _ _
      | exact LeO.none _
      | refine LeO.ite ?_ ?_
      | refine LeO.bind ?_ (fun _ => ?_)
def laws_FnRings.T21 : Bool × List (List Nat × List Nat) := (true, [([], []), ([], []), ([0, 1], [0, 1]), ([], []), ([], []), ([3, 4], [3, 4]), ([5], [5]), ([2, 6], [2, 6]), ([7, 7], [7]), ([8], [8]), ([8], [8]), ([8], [8]), ([10, 11, 8], [8, 10, 11]), ([12, 8], [8, 12]), ([9, 13, 8, 8], [8, 9, 13]), ([14, 8], [8, 14]), ([8, 15], [8, 15])])
def laws_FnRings.B21 : List Nat := [0, 0, 3, 0, 0, 24, 56, 127, 255, 511, 511, 511, 3583, 7679, 16383, 32767, 65535]
theorem laws_FnRings.tab21 : rtab .any (opsOf Tryd.f6 21) = laws_FnRings.T21 := by kernel_rfl
theorem laws_FnRings.bits21 : waitsOk laws_FnRings.T21.2 laws_FnRings.B21 = true := by kernel_rfl
theorem laws_FnRings.j0_bad {r : Bool} : ∀ {k} {y0} {y1} {y3}, laws_FnRings.j0 k y0 y1 true y3 = some r → r = false
  | 0, _, _, _, h => by simp [laws_FnRings.j0] at h
  | k + 1, _, _, _, h => by simp only [laws_FnRings.j0, if_true] at h; exact (Option.some.inj h).symm
theorem laws_FnRings.j3_bad {r : Bool} : ∀ {k} {y0} {y1} {y2} {y3} {y5}, laws_FnRings.j3 k y0 y1 y2 y3 true y5 = some r → r = false
  | 0, _, _, _, _, _, h => by simp [laws_FnRings.j3] at h
  | k + 1, _, _, _, _, _, h => by simp only [laws_FnRings.j3, if_true] at h; exact (Option.some.inj h).symm
set_option maxHeartbeats 8000000 in
set_option maxRecDepth 100000 in
theorem laws_FnRings.calls (k : Nat) (A0 : Option Addr) (c0 : Nat) (l0 : List Int) (r : Bool) (w : World) (hr0 : Kd.C (Kd.int .u8) w A0 l0.length l0) (hc0 : l0.length ≤ c0) (h : laws_FnRings.f k l0 = some r) (HT0_ : r = true) :
    Calls Tryd.prog 6 #[.slice A0 l0.length c0] w fun e w' => e = .returned (.bool r) ∧ Below w.heap.size w w' := by
  have HTr_ := Aside0.mk HT0_
  clear HT0_
  have hu28 := Tryd.underlying28
  have HR0 := Aside0.mk hr0
  have HC0 := Aside0.mk hc0
  clear hr0 hc0
  have HB := Aside0.mk (Below.refl w.heap.size w)
  have H : ((laws_big.f l0).bind fun t195 => (if t195 = true then (some true) else ((spec_DrawNodes.f k l0).bind fun t196 => ((impl_RingOf.f t196).bind fun bt199 => (if bt199.2 = true then ((impl_RingOk.f k bt199.1).bind fun t204 => (if t204 = true then ((impl_NodesOf.f bt199.1).bind fun t205 => ((laws_sameInts.f k t205 t196).bind fun t208 => (if t208 = true then (laws_FnRings.j0 k l0 t196 ((bt199.1.length : Int) != (wrap64 (4 * (t196.length : Int)))) bt199.1) else (laws_FnRings.j0 k l0 t196 true bt199.1)))) else (laws_FnRings.j0 k l0 t196 true bt199.1))) else (laws_FnRings.j0 k l0 t196 true bt199.1)))))) = some r := h
  clear h
  replace H := Option.bind_eq_some_iff.mp H
  obtain ⟨t195, A20, H⟩ := H
  replace H : (if t195 = true then (some true) else ((spec_DrawNodes.f k l0).bind fun t196 => ((impl_RingOf.f t196).bind fun bt199 => (if bt199.2 = true then ((impl_RingOk.f k bt199.1).bind fun t204 => (if t204 = true then ((impl_NodesOf.f bt199.1).bind fun t205 => ((laws_sameInts.f k t205 t196).bind fun t208 => (if t208 = true then (laws_FnRings.j0 k l0 t196 ((bt199.1.length : Int) != (wrap64 (4 * (t196.length : Int)))) bt199.1) else (laws_FnRings.j0 k l0 t196 true bt199.1)))) else (laws_FnRings.j0 k l0 t196 true bt199.1))) else (laws_FnRings.j0 k l0 t196 true bt199.1))))) = some r := H
  have A2 := Aside0.mk A20
  clear A20
  by_cases c3 : t195 = true
  · subst c3
    have H1 : (some true) = some r := by rw [if_pos rfl] at H; exact H
    clear H
    have H := H1
    clear H1
    obtain rfl := Option.some.inj H
    go_enter Tryd.func6, Tryd.ntmps6
    go_wp2_with (first | ((with_reducible refine gate_callee (f := 8) rfl ?_); refine goesL_ (some 13) rfl rfl Tryd.func8 (by kernel_rfl) rfl #[.slice A0 l0.length c0] rfl (by (try simp only [List.map_toArray, List.map_cons, List.map_nil]); first | done | rfl | (simp only [List.length_drop, List.length_take]; rfl)) ?_; (with_reducible refine (laws_big.calls _ _ l0 true _ ?side1 ?side2 A2.out).mono ?_); (case side1 => repeat (first | exact HR0.out | (with_reducible refine Kd.C_alloc ?_ _) | (with_reducible refine Kd.C_drewN ?_ _) | (with_reducible refine Kd.C_drew ?_))); (case side2 => exact HC0.out); rintro e w' ⟨rfl, ⟨nd, rfl⟩⟩; refine ⟨_, rfl, ?_⟩))
    go_ret
    exact ⟨by first | rfl | (simp [errW_none, errW_some] <;> rfl) | (simp [*, errW_none, errW_some] <;> rfl), by repeat (first | (with_reducible first | exact HB.out | apply below_alloc | apply pw_below_drewN | apply below_drew1) | exact HB.out)⟩
  · replace c3 := Bool.eq_false_iff.mpr c3
    subst c3
    have H1 : ((spec_DrawNodes.f k l0).bind fun t196 => ((impl_RingOf.f t196).bind fun bt199 => (if bt199.2 = true then ((impl_RingOk.f k bt199.1).bind fun t204 => (if t204 = true then ((impl_NodesOf.f bt199.1).bind fun t205 => ((laws_sameInts.f k t205 t196).bind fun t208 => (if t208 = true then (laws_FnRings.j0 k l0 t196 ((bt199.1.length : Int) != (wrap64 (4 * (t196.length : Int)))) bt199.1) else (laws_FnRings.j0 k l0 t196 true bt199.1)))) else (laws_FnRings.j0 k l0 t196 true bt199.1))) else (laws_FnRings.j0 k l0 t196 true bt199.1)))) = some r := by rw [if_neg (show ¬ (false = true) by decide)] at H; exact H
    clear H
    have H := H1
    clear H1
    replace H := Option.bind_eq_some_iff.mp H
    obtain ⟨t196, A40, H⟩ := H
    replace H : ((impl_RingOf.f t196).bind fun bt199 => (if bt199.2 = true then ((impl_RingOk.f k bt199.1).bind fun t204 => (if t204 = true then ((impl_NodesOf.f bt199.1).bind fun t205 => ((laws_sameInts.f k t205 t196).bind fun t208 => (if t208 = true then (laws_FnRings.j0 k l0 t196 ((bt199.1.length : Int) != (wrap64 (4 * (t196.length : Int)))) bt199.1) else (laws_FnRings.j0 k l0 t196 true bt199.1)))) else (laws_FnRings.j0 k l0 t196 true bt199.1))) else (laws_FnRings.j0 k l0 t196 true bt199.1))) = some r := H
    have A4 := Aside0.mk A40
    clear A40
    replace H := Option.bind_eq_some_iff.mp H
    obtain ⟨⟨t199, t202⟩, A50, H⟩ := H
    replace H : (if t202 = true then ((impl_RingOk.f k t199).bind fun t204 => (if t204 = true then ((impl_NodesOf.f t199).bind fun t205 => ((laws_sameInts.f k t205 t196).bind fun t208 => (if t208 = true then (laws_FnRings.j0 k l0 t196 ((t199.length : Int) != (wrap64 (4 * (t196.length : Int)))) t199) else (laws_FnRings.j0 k l0 t196 true t199)))) else (laws_FnRings.j0 k l0 t196 true t199))) else (laws_FnRings.j0 k l0 t196 true t199)) = some r := H
    have A5 := Aside0.mk A50
    clear A50
    have HC6 := Aside0.mk H
    clear H
    go_enter Tryd.func6, Tryd.ntmps6
    go_upto_region 5 with (first | ((with_reducible refine gate_callee (f := 8) rfl ?_); refine goesL_ (some 13) rfl rfl Tryd.func8 (by kernel_rfl) rfl #[.slice A0 l0.length c0] rfl (by (try simp only [List.map_toArray, List.map_cons, List.map_nil]); first | done | rfl | (simp only [List.length_drop, List.length_take]; rfl)) ?_; (with_reducible refine (laws_big.calls _ _ l0 false _ ?side1 ?side2 A2.out).mono ?_); (case side1 => repeat (first | exact HR0.out | (with_reducible refine Kd.C_alloc ?_ _) | (with_reducible refine Kd.C_drewN ?_ _) | (with_reducible refine Kd.C_drew ?_))); (case side2 => exact HC0.out); rintro e w' ⟨rfl, ⟨nd, rfl⟩⟩; refine ⟨_, rfl, ?_⟩) | ((with_reducible refine gate_callee (f := 9) rfl ?_); refine goesL_ (some 15) rfl rfl Tryd.func9 (by kernel_rfl) rfl #[.slice A0 l0.length c0] rfl (by (try simp only [List.map_toArray, List.map_cons, List.map_nil]); first | done | rfl | (simp only [List.length_drop, List.length_take]; rfl)) ?_; (with_reducible refine (spec_DrawNodes.calls k _ _ l0 t196 _ ?side1 ?side2 A4.out).mono ?_); (case side1 => repeat (first | exact HR0.out | (with_reducible refine Kd.C_alloc ?_ _) | (with_reducible refine Kd.C_drewN ?_ _) | (with_reducible refine Kd.C_drew ?_))); (case side2 => exact HC0.out); rintro e w7 ⟨v197, rfl, ho0, hb⟩; refine ⟨_, rfl, ?_⟩; have n0_ := Aside0.mk (Kd.R_lower ho0 (below_size (by repeat (first | (with_reducible first | exact HB.out | apply below_alloc | apply pw_below_drewN | apply below_drew1) | exact HB.out)))); have n1_ := Aside0.mk (below_step (by repeat (first | (with_reducible first | exact HB.out | apply below_alloc | apply pw_below_drewN | apply below_drew1) | exact HB.out)) hb); clear HB; have HO198 := n0_; have HB := n1_; clear n0_ n1_; (try clear hb); (try clear hb2); (try clear hk); (try clear hi); (try clear ho0); obtain ⟨Ao8, co8, eo8⟩ := Kd.R_slice HO198.out; subst eo8) | ((with_reducible refine gate_callee (f := 11) rfl ?_); refine goesL_ (some 18) rfl rfl Tryd.func11 (by kernel_rfl) rfl #[.slice Ao8 t196.length co8] rfl (by (try simp only [List.map_toArray, List.map_cons, List.map_nil]); first | done | rfl | (simp only [List.length_drop, List.length_take]; rfl)) ?_; (with_reducible refine (impl_RingOf.calls _ _ t196 t199 t202 _ ?side1 ?side2 A5.out).mono ?_); (case side1 => repeat (first | exact (Kd.R_reads' HO198.out).2.2 | (with_reducible refine Kd.C_alloc ?_ _) | (with_reducible refine Kd.C_drewN ?_ _) | (with_reducible refine Kd.C_drew ?_))); (case side2 => exact (Kd.R_reads' HO198.out).2.1); rintro e w9 ⟨v200, rfl, ho0, hb⟩; refine ⟨_, rfl, ?_⟩; have n0_ := Aside0.mk (Kd.R_below (by (with_reducible repeat (first | apply Kd.R_alloc | apply Kd.R_drewN | apply Kd.R_drew)); exact HO198.out) hb); have n1_ := Aside0.mk (Kd.R_lower ho0 (below_size (by repeat (first | (with_reducible first | exact HB.out | apply below_alloc | apply pw_below_drewN | apply below_drew1) | exact HB.out)))); have n2_ := Aside0.mk (below_step (by repeat (first | (with_reducible first | exact HB.out | apply below_alloc | apply pw_below_drewN | apply below_drew1) | exact HB.out)) hb); clear HO198; clear HB; have HO198 := n0_; have HO201 := n1_; have HB := n2_; clear n0_ n1_ n2_; (try clear hb); (try clear hb2); (try clear hk); (try clear hi); (try clear ho0)) | ((with_reducible refine gate_dst (N := 4) rfl ?_); (try (refine gate_guard (by rfl) ?_; dsimp only)); refine box_event ?hg (N := 4) ?hd (cs := #[.slice none 0 0]) (t := 28) ?hr ?_; (case hd => rfl); (case hg => rfl); (case hr => first | (go_simp; done) | (go_simp; rfl)); intro gb203 hg w10 hbox hb; have n0_ := Aside0.mk (Kd.R_below (by (with_reducible repeat (first | apply Kd.R_alloc | apply Kd.R_drewN | apply Kd.R_drew)); exact HO198.out) hb); have n1_ := Aside0.mk (Kd.R_below (by (with_reducible repeat (first | apply Kd.R_alloc | apply Kd.R_drewN | apply Kd.R_drew)); exact HO201.out) hb); have n2_ := Aside0.mk (below_step (by repeat (first | (with_reducible first | exact HB.out | apply below_alloc | apply pw_below_drewN | apply below_drew1) | exact HB.out)) hb); have n3_ := Aside0.mk (hbox); have n4_ := Aside0.mk ((by rw [hg]; exact (below_size (by repeat (first | (with_reducible first | exact HB.out | apply below_alloc | apply pw_below_drewN | apply below_drew1) | exact HB.out))) : w.heap.size ≤ gb203)); have n5_ := Aside0.mk ((by rw [hg]; exact (below_size (by repeat (first | (with_reducible first | exact HB.out | apply below_alloc | apply pw_below_drewN | apply below_drew1) | exact HB.out))) : w.heap.size ≤ gb203)); clear HO198; clear HO201; clear HB; have HO198 := n0_; have HO201 := n1_; have HB := n2_; have BK203 := n3_; have GW203 := n4_; have GE203 := n5_; clear n0_ n1_ n2_ n3_ n4_ n5_; clear hb hbox hg; obtain ⟨Ao11, co11, eo11⟩ := Kd.R_slice HO201.out; subst eo11; have hcz12_0 : w10.cell? ⟨gb203, 0, none⟩ = some (.slice none 0 0) := (blk_cell BK203.out 0).trans rfl; have hfz12_0 := blk_frozen BK203.out 0))
    (try simp only [Act.put, List.setIfInBounds_toArray, List.set_cons_zero, List.set_cons_succ])
    go_cut [43] (fun v43 wc => ∃ (kq : Nat) (x43_5 : Bool), v43 = .bool x43_5 ∧ Aside0 (laws_FnRings.j0 kq l0 t196 x43_5 t199 = some r) ∧ Aside0 (kq ≤ k) ∧ Aside0 (Kd.R (Kd.int .i64) 3 wc w.heap.size (fun _ => True) (.slice Ao8 t196.length co8) t196) ∧ Aside0 (Kd.R k63 63 wc w.heap.size (fun _ => True) (.slice Ao11 t199.length co11) t199) ∧ Aside0 (wc.heap[gb203]? = some (.cells #[(.slice Ao11 t199.length co11)] 28 (0, 0))) ∧ Aside0 (Below w.heap.size w wc))
    case first =>
      have H := HC6.out
      clear HC6
      by_cases c13 : t202 = true
      · subst c13
        have H1 : ((impl_RingOk.f k t199).bind fun t204 => (if t204 = true then ((impl_NodesOf.f t199).bind fun t205 => ((laws_sameInts.f k t205 t196).bind fun t208 => (if t208 = true then (laws_FnRings.j0 k l0 t196 ((t199.length : Int) != (wrap64 (4 * (t196.length : Int)))) t199) else (laws_FnRings.j0 k l0 t196 true t199)))) else (laws_FnRings.j0 k l0 t196 true t199))) = some r := by rw [if_pos rfl] at H; exact H
        clear H
        have H := H1
        clear H1
        replace H := Option.bind_eq_some_iff.mp H
        obtain ⟨t204, A140, H⟩ := H
        replace H : (if t204 = true then ((impl_NodesOf.f t199).bind fun t205 => ((laws_sameInts.f k t205 t196).bind fun t208 => (if t208 = true then (laws_FnRings.j0 k l0 t196 ((t199.length : Int) != (wrap64 (4 * (t196.length : Int)))) t199) else (laws_FnRings.j0 k l0 t196 true t199)))) else (laws_FnRings.j0 k l0 t196 true t199)) = some r := H
        have A14 := Aside0.mk A140
        clear A140
        by_cases c15 : t204 = true
        · subst c15
          have H1 : ((impl_NodesOf.f t199).bind fun t205 => ((laws_sameInts.f k t205 t196).bind fun t208 => (if t208 = true then (laws_FnRings.j0 k l0 t196 ((t199.length : Int) != (wrap64 (4 * (t196.length : Int)))) t199) else (laws_FnRings.j0 k l0 t196 true t199)))) = some r := by rw [if_pos rfl] at H; exact H
          clear H
          have H := H1
          clear H1
          replace H := Option.bind_eq_some_iff.mp H
          obtain ⟨t205, A160, H⟩ := H
          replace H : ((laws_sameInts.f k t205 t196).bind fun t208 => (if t208 = true then (laws_FnRings.j0 k l0 t196 ((t199.length : Int) != (wrap64 (4 * (t196.length : Int)))) t199) else (laws_FnRings.j0 k l0 t196 true t199))) = some r := H
          have A16 := Aside0.mk A160
          clear A160
          replace H := Option.bind_eq_some_iff.mp H
          obtain ⟨t208, A170, H⟩ := H
          replace H : (if t208 = true then (laws_FnRings.j0 k l0 t196 ((t199.length : Int) != (wrap64 (4 * (t196.length : Int)))) t199) else (laws_FnRings.j0 k l0 t196 true t199)) = some r := H
          have A17 := Aside0.mk A170
          clear A170
          by_cases c18 : t208 = true
          · subst c18
            have H1 : (laws_FnRings.j0 k l0 t196 ((t199.length : Int) != (wrap64 (4 * (t196.length : Int)))) t199) = some r := by rw [if_pos rfl] at H; exact H
            clear H
            have H := H1
            clear H1
            have H' := Aside0.mk H
            clear H
            have hcz19_0 : w10.cell? ⟨gb203, 0, none⟩ = some (.slice none 0 0) := (blk_cell BK203.out 0).trans rfl
            have hfz19_0 := blk_frozen BK203.out 0
            go_wp2_with (first | (go_at_call 26; (with_reducible refine (impl_RingOk.calls k _ _ t199 true _ ?side1 ?side2 A14.out).mono ?_); (case side1 => refine (Kd.R_reads' (e := 63) (base := w.heap.size) (ok := fun k_ => True) (n := t199.length) (c := co11) ?_).2.2; exact (by (with_reducible repeat (first | apply Kd.R_alloc | apply Kd.R_drewN | apply Kd.R_drew)); exact (Kd.R_mono (Kd.R_far (p := ⟨gb203, 0, none⟩) (Kd.R_types HO201.out BK203.out (by decide)) (fun _ hk => hk.2) (.slice Ao11 t199.length co11)) (fun _ h_ => h_.1)))); (case side2 => exact (Kd.R_reads' HO201.out).2.1); rintro e w20 ⟨rfl, hb⟩; have n0_ := Aside0.mk (Kd.R_below (by (with_reducible repeat (first | apply Kd.R_alloc | apply Kd.R_drewN | apply Kd.R_drew)); exact (Kd.R_mono (Kd.R_far (p := ⟨gb203, 0, none⟩) (Kd.R_types HO198.out BK203.out (by decide)) (fun _ hk => hk.2) (.slice Ao11 t199.length co11)) (fun _ h_ => h_.1))) hb); have n1_ := Aside0.mk (Kd.R_below (by (with_reducible repeat (first | apply Kd.R_alloc | apply Kd.R_drewN | apply Kd.R_drew)); exact (Kd.R_mono (Kd.R_far (p := ⟨gb203, 0, none⟩) (Kd.R_types HO201.out BK203.out (by decide)) (fun _ hk => hk.2) (.slice Ao11 t199.length co11)) (fun _ h_ => h_.1))) hb); have n2_ := Aside0.mk (blk_below (g := gb203) (o := .cells #[.slice Ao11 t199.length co11] 28 (0, 0)) (by (with_reducible repeat (first | refine blk_drewN ?_ _ | refine blk_drew ?_ | refine blk_alloc ?_ _)); refine blk_put (cs := #[.slice none 0 0]) ?_ 0 _ rfl; (with_reducible repeat (first | refine blk_drewN ?_ _ | refine blk_drew ?_ | refine blk_alloc ?_ _)); exact BK203.out) hb); have n3_ := Aside0.mk (below_step (by repeat (first | (with_reducible first | exact HB.out | apply below_alloc | apply pw_below_drewN | apply below_drew1 | refine below_set ?_ GE203.out) | exact HB.out)) hb); clear HO198; clear HO201; clear BK203; clear HB; have HO198 := n0_; have HO201 := n1_; have BK203 := n2_; have HB := n3_; clear n0_ n1_ n2_ n3_; (try clear hb); (try clear hb2); (try clear hk); (try clear hi); have hcz21_0 : w20.cell? ⟨gb203, 0, none⟩ = some (.slice Ao11 t199.length co11) := (blk_cell BK203.out 0).trans rfl; have hfz21_0 := blk_frozen BK203.out 0) | (go_at_call 27; (with_reducible refine (impl_NodesOf.calls _ _ t199 t205 _ ?side1 ?side2 A16.out).mono ?_); (case side1 => repeat (first | exact (Kd.R_reads' HO201.out).2.2 | (with_reducible refine Kd.C_alloc ?_ _) | (with_reducible refine Kd.C_drewN ?_ _) | (with_reducible refine Kd.C_drew ?_))); (case side2 => exact (Kd.R_reads' HO201.out).2.1); rintro e w22 ⟨Ao23, rfl, ho0, hb⟩; have n0_ := Aside0.mk (Kd.R_below (by (with_reducible repeat (first | apply Kd.R_alloc | apply Kd.R_drewN | apply Kd.R_drew)); exact HO198.out) hb); have n1_ := Aside0.mk (Kd.R_below (by (with_reducible repeat (first | apply Kd.R_alloc | apply Kd.R_drewN | apply Kd.R_drew)); exact HO201.out) hb); have n2_ := Aside0.mk ho0; have n3_ := Aside0.mk (blk_below (g := gb203) (o := .cells #[.slice Ao11 t199.length co11] 28 (0, 0)) (by (with_reducible repeat (first | refine blk_drewN ?_ _ | refine blk_drew ?_ | refine blk_alloc ?_ _)); exact BK203.out) hb); have n4_ := Aside0.mk (below_step (by repeat (first | (with_reducible first | exact HB.out | apply below_alloc | apply pw_below_drewN | apply below_drew1 | refine below_set ?_ GE203.out) | exact HB.out)) hb); clear HO198; clear HO201; clear BK203; clear HB; have HO198 := n0_; have HO201 := n1_; have HO207 := n2_; have BK203 := n3_; have HB := n4_; clear n0_ n1_ n2_ n3_ n4_; (try clear hb); (try clear hb2); (try clear hk); (try clear hi); (try clear ho0)) | (go_at_call 18; (with_reducible refine (laws_sameInts.calls k _ _ t205 _ _ t196 true _ ?side1 ?side2 ?side3 ?side4 A17.out).mono ?_); (case side1 => repeat (first | exact HO207.out | (with_reducible refine Kd.C_alloc ?_ _) | (with_reducible refine Kd.C_drewN ?_ _) | (with_reducible refine Kd.C_drew ?_))); (case side2 => exact (Nat.le_refl _)); (case side3 => repeat (first | exact (Kd.R_reads' HO198.out).2.2 | (with_reducible refine Kd.C_alloc ?_ _) | (with_reducible refine Kd.C_drewN ?_ _) | (with_reducible refine Kd.C_drew ?_))); (case side4 => exact (Kd.R_reads' HO198.out).2.1); rintro e w' ⟨rfl, ⟨nd, rfl⟩⟩; have hcz24_0 : w22.cell? ⟨gb203, 0, none⟩ = some (.slice Ao11 t199.length co11) := (blk_cell BK203.out 0).trans rfl; have hfz24_0 := blk_frozen BK203.out 0))
            go_meet
            case rel => exact ⟨_, (((t199.length : Int) != (wrap64 (4 * (t196.length : Int))))), (by first | rfl | (simp; done) | (simp [*]; done)), H', ⟨by first | omega | exact Nat.le_refl _⟩, ⟨by (with_reducible repeat (first | apply Kd.R_alloc | apply Kd.R_drewN | apply Kd.R_drew)); exact Kd.R_mono HO198.out (fun _ hk => trivial)⟩, ⟨by (with_reducible repeat (first | apply Kd.R_alloc | apply Kd.R_drewN | apply Kd.R_drew)); exact HO201.out⟩, ⟨by (with_reducible repeat (first | refine blk_drewN ?_ _ | refine blk_drew ?_ | refine blk_alloc ?_ _)); exact BK203.out⟩, ⟨by repeat (first | (with_reducible first | exact HB.out | apply below_alloc | apply pw_below_drewN | apply below_drew1 | refine below_set ?_ GE203.out) | exact HB.out)⟩⟩
          · replace c18 := Bool.eq_false_iff.mpr c18
            subst c18
            have H1 : (laws_FnRings.j0 k l0 t196 true t199) = some r := by rw [if_neg (show ¬ (false = true) by decide)] at H; exact H
            clear H
            have H := H1
            clear H1
            exact absurd ((laws_FnRings.j0_bad H).symm.trans HTr_.out) (by simp)
        · replace c15 := Bool.eq_false_iff.mpr c15
          subst c15
          have H1 : (laws_FnRings.j0 k l0 t196 true t199) = some r := by rw [if_neg (show ¬ (false = true) by decide)] at H; exact H
          clear H
          have H := H1
          clear H1
          exact absurd ((laws_FnRings.j0_bad H).symm.trans HTr_.out) (by simp)
      · replace c13 := Bool.eq_false_iff.mpr c13
        subst c13
        have H1 : (laws_FnRings.j0 k l0 t196 true t199) = some r := by rw [if_neg (show ¬ (false = true) by decide)] at H; exact H
        clear H
        have H := H1
        clear H1
        exact absurd ((laws_FnRings.j0_bad H).symm.trans HTr_.out) (by simp)
    case rest =>
      clear HC6
      try clear c1
      try clear p2
      try clear c3
      try clear c6
      try clear p6
      try clear c8
      try clear c9
      try clear c11
      try clear c13
      try clear c15
      try clear c18
      try clear hcz12_0
      try clear hcz19_0
      try clear hcz21_0
      try clear hcz24_0
      try clear hcz25_0
      try clear hcz27_0
      try clear hcz30_0
      try clear hfz12_0
      try clear hfz19_0
      try clear hfz21_0
      try clear hfz24_0
      try clear hfz25_0
      try clear hfz27_0
      try clear hfz30_0
      obtain ⟨kq, x43_5, rfl, HA, HJ5, HO_3, HO_204000, BK203, HB⟩ := hcut
      cases kq with
      | zero => exact absurd HA.out (by simp [laws_FnRings.j0])
      | succ kj5 =>
        have H := HA.out
        clear HA
        simp only [laws_FnRings.j0] at H
        by_cases c32 : x43_5 = true
        · subst c32
          have H1 : (some false) = some r := by rw [if_pos rfl] at H; exact H
          clear H
          have H := H1
          clear H1
          exact absurd ((Option.some.inj H).trans HTr_.out) (by simp)
        · replace c32 := Bool.eq_false_iff.mpr c32
          subst c32
          have H1 : ((spec_DrawWords.f kj5 l0).bind fun t209 => (laws_FnRings.l0 kj5 t196 t209 0 t199)) = some r := by rw [if_neg (show ¬ (false = true) by decide)] at H; exact H
          clear H
          have H := H1
          clear H1
          replace H := Option.bind_eq_some_iff.mp H
          obtain ⟨t209, A330, H⟩ := H
          replace H : (laws_FnRings.l0 kj5 t196 t209 0 t199) = some r := H
          have A33 := Aside0.mk A330
          clear A330
          have H' := Aside0.mk H
          clear H
          go_wp2_with (first | ((with_reducible refine gate_callee (f := 12) rfl ?_); refine goesL_ (some 45) rfl rfl Tryd.func12 (by kernel_rfl) rfl #[.slice A0 l0.length c0] rfl (by (try simp only [List.map_toArray, List.map_cons, List.map_nil]); first | done | rfl | (simp only [List.length_drop, List.length_take]; rfl)) ?_; (with_reducible refine (spec_DrawWords.calls kj5 _ _ l0 t209 _ ?side1 ?side2 A33.out).mono ?_); (case side1 => repeat (first | exact (Kd.C_below HR0.out HB.out) | (with_reducible refine Kd.C_alloc ?_ _) | (with_reducible refine Kd.C_drewN ?_ _) | (with_reducible refine Kd.C_drew ?_))); (case side2 => exact HC0.out); rintro e w34 ⟨v210, rfl, ho0, hb⟩; refine ⟨_, rfl, ?_⟩; have n0_ := Aside0.mk (Kd.R_below (by (with_reducible repeat (first | apply Kd.R_alloc | apply Kd.R_drewN | apply Kd.R_drew)); exact HO_3.out) hb); have n1_ := Aside0.mk (Kd.R_below (by (with_reducible repeat (first | apply Kd.R_alloc | apply Kd.R_drewN | apply Kd.R_drew)); exact HO_204000.out) hb); have n2_ := Aside0.mk (Kd.R_lower ho0 (below_size (by repeat (first | (with_reducible first | exact HB.out | apply below_alloc | apply pw_below_drewN | apply below_drew1 | refine below_set ?_ GE203.out) | exact HB.out)))); have n3_ := Aside0.mk (blk_below (g := gb203) (o := .cells #[.slice Ao11 t199.length co11] 28 (0, 0)) (by (with_reducible repeat (first | refine blk_drewN ?_ _ | refine blk_drew ?_ | refine blk_alloc ?_ _)); exact BK203.out) hb); have n4_ := Aside0.mk (below_step (by repeat (first | (with_reducible first | exact HB.out | apply below_alloc | apply pw_below_drewN | apply below_drew1 | refine below_set ?_ GE203.out) | exact HB.out)) hb); clear HO_3; clear HO_204000; clear BK203; clear HB; have HO_3 := n0_; have HO_204000 := n1_; have HO211 := n2_; have BK203 := n3_; have HB := n4_; clear n0_ n1_ n2_ n3_ n4_; (try clear hb); (try clear hb2); (try clear hk); (try clear hi); (try clear ho0)))
          go_loopg [7] kj5 (fun kq v7 w' => ∃ (x7_2 : Int), v7 = .int .i64 x7_2 ∧ Aside0 (laws_FnRings.l0 kq t196 t209 x7_2 t199 = some r) ∧ Aside0 (kq ≤ kj5) ∧ Aside0 (Kd.R (Kd.int .i64) 3 w' w.heap.size (fun _ => True) (.slice Ao8 t196.length co8) t196) ∧ Aside0 (Kd.R Kd.string 9 w' w.heap.size (fun _ => True) v210 t209) ∧ Aside0 (Kd.R k63 63 w' w.heap.size (fun _ => True) (.slice Ao11 t199.length co11) t199) ∧ Aside0 (w'.heap[gb203]? = some (.cells #[(.slice Ao11 t199.length co11)] 28 (0, 0))) ∧ Aside0 (Below w.heap.size w w'))
          case atStart => exact ⟨(0), (by first | rfl | (simp; done) | (simp [*]; done)), H', ⟨Nat.le_refl _⟩, ⟨by (with_reducible repeat (first | apply Kd.R_alloc | apply Kd.R_drewN | apply Kd.R_drew)); exact HO_3.out⟩, ⟨by (with_reducible repeat (first | apply Kd.R_alloc | apply Kd.R_drewN | apply Kd.R_drew)); exact HO211.out⟩, ⟨by (with_reducible repeat (first | apply Kd.R_alloc | apply Kd.R_drewN | apply Kd.R_drew)); exact HO_204000.out⟩, ⟨by (with_reducible repeat (first | refine blk_drewN ?_ _ | refine blk_drew ?_ | refine blk_alloc ?_ _)); exact BK203.out⟩, ⟨by repeat (first | (with_reducible first | exact HB.out | apply below_alloc | apply pw_below_drewN | apply below_drew1 | refine below_set ?_ GE203.out) | exact HB.out)⟩⟩
          case round =>
            clear H'
            try clear c1
            try clear p2
            try clear c3
            try clear c6
            try clear p6
            try clear c8
            try clear c9
            try clear c11
            try clear c12
            try clear c13
            try clear c15
            try clear c18
            try clear c32
            try clear hcz12_0
            try clear hcz19_0
            try clear hcz21_0
            try clear hcz24_0
            try clear hcz25_0
            try clear hcz27_0
            try clear hcz30_0
            try clear hfz12_0
            try clear hfz19_0
            try clear hfz21_0
            try clear hfz24_0
            try clear hfz25_0
            try clear hfz27_0
            try clear hfz30_0
            try clear p2
            try clear p6
            obtain ⟨x7_2, rfl, HA, HK2, HO_3, HO_6, HO_204000, BK203, HB⟩ := hrel
            cases gk with
            | zero => exact absurd HA.out (by simp [laws_FnRings.l0])
            | succ k2 =>
              have H := HA.out
              clear HA
              simp only [laws_FnRings.l0] at H
              by_cases c35 : x7_2 < (t209.length : Int)
              · rw [if_pos c35] at H
                have c35b0 : decide (x7_2 < (t209.length : Int)) = true := decide_eq_true c35
                clear c35
                by_cases c36 : 0 ≤ x7_2
                · rw [if_pos c36] at H
                  have c36b0 : decide (0 ≤ x7_2) = true := decide_eq_true c36
                  clear c36
                  replace H := Option.bind_eq_some_iff.mp H
                  obtain ⟨t214, A370, H⟩ := H
                  replace H : ((impl_HomesOf.f k2 t199 (rdOf ByteArray.empty t209 x7_2) 3).bind fun t216 => (if (t196.length : Int) < 3 then (laws_FnRings.j2 k2 t196 t209 x7_2 t214 t216 (t196.length : Int) t199) else (laws_FnRings.j2 k2 t196 t209 x7_2 t214 t216 3 t199))) = some r := H
                  have A37 := Aside0.mk A370
                  clear A370
                  replace H := Option.bind_eq_some_iff.mp H
                  obtain ⟨t216, A380, H⟩ := H
                  replace H : (if (t196.length : Int) < 3 then (laws_FnRings.j2 k2 t196 t209 x7_2 t214 t216 (t196.length : Int) t199) else (laws_FnRings.j2 k2 t196 t209 x7_2 t214 t216 3 t199)) = some r := H
                  have A38 := Aside0.mk A380
                  clear A380
                  have HC39 := Aside0.mk H
                  clear H
                  obtain ⟨Ao40, co40, eo40⟩ := Kd.R_slice HO_6.out
                  subst eo40
                  try go_wp2
                  have n0_ := Aside0.mk (Kd.R_drew HO_3.out)
                  have n1_ := Aside0.mk (Kd.R_drew HO_6.out)
                  have n2_ := Aside0.mk (Kd.R_drew HO_204000.out)
                  have n3_ := Aside0.mk (blk_drew BK203.out)
                  have n4_ := Aside0.mk (below_drew1 HB.out)
                  clear HO_3
                  clear HO_6
                  clear HO_204000
                  clear BK203
                  clear HB
                  have HO_3 := n0_
                  have HO_6 := n1_
                  have HO_204000 := n2_
                  have BK203 := n3_
                  have HB := n4_
                  clear n0_ n1_ n2_ n3_ n4_
                  have p213 : 0 ≤ (x7_2 : Int) := of_decide_eq_true (by first | (with_reducible assumption) | assumption)
                  have q213 : x7_2 < (t209.length : Int) := of_decide_eq_true (by first | (with_reducible assumption) | assumption)
                  obtain ⟨ad213, e213, hx213_0⟩ := Kd.at_string (Kd.R_reads' HO_6.out).2.2 x7_2 p213 q213
                  cases e213
                  replace p213 := eq_true p213
                  replace q213 := eq_true q213
                  refine start_ (n := 7) (S := fun w' => w'.cell? ⟨gb203, 0, none⟩ = some (.slice Ao11 t199.length co11) ∧ w'.cell? (ad213.add (x7_2).toNat) = some (.string (rdOf ByteArray.empty t209 x7_2))) (ds := []) #[false, false, false, false, false, false, false] (by kernel_rfl) rfl rfl ⟨(blk_cell BK203.out 0).trans rfl, hx213_0⟩ (fun hHeld => ?_)
                  generalize wr.drew = w41 at HO_3 HO_6 HO_204000 BK203 HB hx213_0 hHeld ⊢
                  refine pure_ (i := 1) (N := some 53) (v := ?_) (a' := ?_) #[false, true, false, false, false, false, false] rfl rfl (by kernel_rfl) (fun _ _ _ h => h) (Or.inl ⟨by rfl, ?_⟩) ?_ ?_
                  rotate_left
                  · intro w'
                    go_simp
                    with_reducible rfl
                  rotate_left
                  · simp only [Act.put, List.setIfInBounds_toArray, List.set_cons_zero, List.set_cons_succ, i64_w, i32_w]
                    rfl
                  refine pure_ (i := 2) (N := some 54) (v := ?_) (a' := ?_) #[false, true, true, false, false, false, false] rfl rfl (by kernel_rfl) (fun _ _ _ h => h) (Or.inl ⟨by rfl, ?_⟩) ?_ ?_
                  rotate_left
                  · intro w'
                    go_simp
                    with_reducible rfl
                  rotate_left
                  · simp only [Act.put, List.setIfInBounds_toArray, List.set_cons_zero, List.set_cons_succ, i64_w, i32_w]
                    rfl
                  refine pure_ (i := 3) (N := some 55) (v := ?_) (a' := ?_) #[false, true, true, true, false, false, false] rfl rfl (by kernel_rfl) (fun _ _ _ h => h) (Or.inl ⟨by rfl, ?_⟩) ?_ ?_
                  rotate_left
                  · intro w'
                    go_simp
                    with_reducible rfl
                  rotate_left
                  · simp only [Act.put, List.setIfInBounds_toArray, List.set_cons_zero, List.set_cons_succ, i64_w, i32_w]
                    rfl
                  refine take_ (i := 0) (N := some 52) (v := ?_) (a' := ?_) #[true, true, true, true, false, false, false] rfl rfl (by kernel_rfl) (fun _ _ _ h => h) (Or.inl ⟨by rfl, ?_⟩) hHeld ?_ ?_
                  rotate_left
                  · rintro w' ⟨s0, s1⟩
                    go_simp
                    with_reducible rfl
                  rotate_left
                  · simp only [Act.put, List.setIfInBounds_toArray, List.set_cons_zero, List.set_cons_succ, i64_w, i32_w]
                    rfl
                  refine take_ (i := 4) (N := some 56) (v := ?_) (a' := ?_) #[true, true, true, true, true, false, false] rfl rfl (by kernel_rfl) (fun _ _ _ h => h) (Or.inl ⟨by rfl, ?_⟩) hHeld ?_ ?_
                  rotate_left
                  · rintro w' ⟨s0, s1⟩
                    go_simp
                    with_reducible rfl
                  rotate_left
                  · simp only [Act.put, List.setIfInBounds_toArray, List.set_cons_zero, List.set_cons_succ, i64_w, i32_w]
                    rfl
                  refine one_ (i := 5) (N := some 57) #[true, true, true, true, true, true, false] rfl rfl (by kernel_rfl) (by decide) (fun K hK => ?_)
                  refine goes_ Tryd.func16 (by kernel_rfl) rfl #[.agg #[.slice Ao11 t199.length co11], .string (rdOf ByteArray.empty t209 x7_2)] (by rfl) rfl rfl (by (try simp only [List.map_toArray, List.map_cons, List.map_nil]); first | done | rfl | (simp only [List.length_drop, List.length_take]; rfl)) ?_
                  with_reducible refine (impl_HomeOf.calls k2 _ _ t199 (rdOf ByteArray.empty t209 x7_2) t214 _ ?side1 ?side2 A37.out).mono ?_
                  (case side1 => repeat (first | exact (Kd.R_reads' HO_204000.out).2.2 | (with_reducible refine Kd.C_alloc ?_ _) | (with_reducible refine Kd.C_drewN ?_ _) | (with_reducible refine Kd.C_drew ?_)))
                  (case side2 => exact (Kd.R_reads' HO_204000.out).2.1)
                  rintro e w42 ⟨rfl, hb⟩
                  have HS1_ := (hb.cell (World.block_lt_of_cell? _ _ (hHeld.2))).trans (hHeld.2)
                  refine ⟨_, rfl, ?_⟩
                  have n0_ := Aside0.mk (Kd.R_below (by (with_reducible repeat (first | apply Kd.R_alloc | apply Kd.R_drewN | apply Kd.R_drew)); exact HO_3.out) hb)
                  have n1_ := Aside0.mk (Kd.R_below (by (with_reducible repeat (first | apply Kd.R_alloc | apply Kd.R_drewN | apply Kd.R_drew)); exact HO_6.out) hb)
                  have n2_ := Aside0.mk (Kd.R_below (by (with_reducible repeat (first | apply Kd.R_alloc | apply Kd.R_drewN | apply Kd.R_drew)); exact HO_204000.out) hb)
                  have n3_ := Aside0.mk (blk_below (g := gb203) (o := .cells #[.slice Ao11 t199.length co11] 28 (0, 0)) (by (with_reducible repeat (first | refine blk_drewN ?_ _ | refine blk_drew ?_ | refine blk_alloc ?_ _)); exact BK203.out) hb)
                  have n4_ := Aside0.mk (below_step (by repeat (first | (with_reducible first | exact HB.out | apply below_alloc | apply pw_below_drewN | apply below_drew1 | refine below_set ?_ GE203.out) | exact HB.out)) hb)
                  clear HO_3
                  clear HO_6
                  clear HO_204000
                  clear BK203
                  clear HB
                  have HO_3 := n0_
                  have HO_6 := n1_
                  have HO_204000 := n2_
                  have BK203 := n3_
                  have HB := n4_
                  clear n0_ n1_ n2_ n3_ n4_
                  (try clear hb)
                  (try clear hb2)
                  (try clear hk)
                  (try clear hi)
                  refine hK.out _ _ ⟨(blk_cell BK203.out 0).trans rfl, HS1_⟩ (fun hHeld => ?_)
                  clear hK K
                  refine norm_ (a' := ?_) ?_ ?_
                  rotate_left
                  · show Act.put _ (some 57) _ = _
                    simp only [Act.put, List.setIfInBounds_toArray, List.set_cons_zero, List.set_cons_succ, i64_w, i32_w]
                    rfl
                  refine pure_ (i := 6) (N := some 8) (v := ?_) (a' := ?_) #[true, true, true, true, true, true, true] rfl rfl (by kernel_rfl) (fun _ _ _ h => h) (Or.inl ⟨by rfl, ?_⟩) ?_ ?_
                  rotate_left
                  · intro w'
                    go_simp
                    with_reducible rfl
                  rotate_left
                  · simp only [Act.put, List.setIfInBounds_toArray, List.set_cons_zero, List.set_cons_succ, i64_w, i32_w]
                    rfl
                  refine done_ (by kernel_rfl) ?_
                  try go_wp2
                  have n0_ := Aside0.mk (Kd.R_drew HO_3.out)
                  have n1_ := Aside0.mk (Kd.R_drew HO_6.out)
                  have n2_ := Aside0.mk (Kd.R_drew HO_204000.out)
                  have n3_ := Aside0.mk (blk_drew BK203.out)
                  have n4_ := Aside0.mk (below_drew1 HB.out)
                  clear HO_3
                  clear HO_6
                  clear HO_204000
                  clear BK203
                  clear HB
                  have HO_3 := n0_
                  have HO_6 := n1_
                  have HO_204000 := n2_
                  have BK203 := n3_
                  have HB := n4_
                  clear n0_ n1_ n2_ n3_ n4_
                  have p215 : 0 ≤ (x7_2 : Int) := of_decide_eq_true (by first | (with_reducible assumption) | assumption)
                  have q215 : x7_2 < (t209.length : Int) := of_decide_eq_true (by first | (with_reducible assumption) | assumption)
                  obtain ⟨ad215, e215, hx215_0⟩ := Kd.at_string (Kd.R_reads' HO_6.out).2.2 x7_2 p215 q215
                  obtain rfl : ad213 = ad215 := (by injection e215)
                  replace p215 := eq_true p215
                  replace q215 := eq_true q215
                  refine start_ (n := 7) (S := fun w' => w'.cell? ⟨gb203, 0, none⟩ = some (.slice Ao11 t199.length co11) ∧ w'.cell? (ad213.add (x7_2).toNat) = some (.string (rdOf ByteArray.empty t209 x7_2))) (ds := []) #[false, false, false, false, false, false, false] (by kernel_rfl) rfl rfl ⟨(blk_cell BK203.out 0).trans rfl, hx215_0⟩ (fun hHeld => ?_)
                  generalize w42.drew = w43 at HO_3 HO_6 HO_204000 BK203 HB hx215_0 hHeld ⊢
                  refine pure_ (i := 1) (N := some 59) (v := ?_) (a' := ?_) #[false, true, false, false, false, false, false] rfl rfl (by kernel_rfl) (fun _ _ _ h => h) (Or.inl ⟨by rfl, ?_⟩) ?_ ?_
                  rotate_left
                  · intro w'
                    go_simp
                    with_reducible rfl
                  rotate_left
                  · simp only [Act.put, List.setIfInBounds_toArray, List.set_cons_zero, List.set_cons_succ, i64_w, i32_w]
                    rfl
                  refine pure_ (i := 2) (N := some 60) (v := ?_) (a' := ?_) #[false, true, true, false, false, false, false] rfl rfl (by kernel_rfl) (fun _ _ _ h => h) (Or.inl ⟨by rfl, ?_⟩) ?_ ?_
                  rotate_left
                  · intro w'
                    go_simp
                    with_reducible rfl
                  rotate_left
                  · simp only [Act.put, List.setIfInBounds_toArray, List.set_cons_zero, List.set_cons_succ, i64_w, i32_w]
                    rfl
                  refine pure_ (i := 3) (N := some 61) (v := ?_) (a' := ?_) #[false, true, true, true, false, false, false] rfl rfl (by kernel_rfl) (fun _ _ _ h => h) (Or.inl ⟨by rfl, ?_⟩) ?_ ?_
                  rotate_left
                  · intro w'
                    go_simp
                    with_reducible rfl
                  rotate_left
                  · simp only [Act.put, List.setIfInBounds_toArray, List.set_cons_zero, List.set_cons_succ, i64_w, i32_w]
                    rfl
                  refine take_ (i := 0) (N := some 58) (v := ?_) (a' := ?_) #[true, true, true, true, false, false, false] rfl rfl (by kernel_rfl) (fun _ _ _ h => h) (Or.inl ⟨by rfl, ?_⟩) hHeld ?_ ?_
                  rotate_left
                  · rintro w' ⟨s0, s1⟩
                    go_simp
                    with_reducible rfl
                  rotate_left
                  · simp only [Act.put, List.setIfInBounds_toArray, List.set_cons_zero, List.set_cons_succ, i64_w, i32_w]
                    rfl
                  refine take_ (i := 4) (N := some 62) (v := ?_) (a' := ?_) #[true, true, true, true, true, false, false] rfl rfl (by kernel_rfl) (fun _ _ _ h => h) (Or.inl ⟨by rfl, ?_⟩) hHeld ?_ ?_
                  rotate_left
                  · rintro w' ⟨s0, s1⟩
                    go_simp
                    with_reducible rfl
                  rotate_left
                  · simp only [Act.put, List.setIfInBounds_toArray, List.set_cons_zero, List.set_cons_succ, i64_w, i32_w]
                    rfl
                  refine one_ (i := 5) (N := some 63) #[true, true, true, true, true, true, false] rfl rfl (by kernel_rfl) (by decide) (fun K hK => ?_)
                  refine goes_ Tryd.func17 (by kernel_rfl) rfl #[.agg #[.slice Ao11 t199.length co11], .string (rdOf ByteArray.empty t209 x7_2), .int .i64 3] (by rfl) rfl rfl (by (try simp only [List.map_toArray, List.map_cons, List.map_nil]); first | done | rfl | (simp only [List.length_drop, List.length_take]; rfl)) ?_
                  with_reducible refine (impl_HomesOf.calls k2 _ _ t199 (rdOf ByteArray.empty t209 x7_2) 3 t216 _ ?side1 ?side2 A38.out).mono ?_
                  (case side1 => repeat (first | exact (Kd.R_reads' HO_204000.out).2.2 | (with_reducible refine Kd.C_alloc ?_ _) | (with_reducible refine Kd.C_drewN ?_ _) | (with_reducible refine Kd.C_drew ?_)))
                  (case side2 => exact (Kd.R_reads' HO_204000.out).2.1)
                  rintro e w44 ⟨v217, rfl, ho0, hb⟩
                  have HS1_ := (hb.cell (World.block_lt_of_cell? _ _ (hHeld.2))).trans (hHeld.2)
                  refine ⟨_, rfl, ?_⟩
                  have n0_ := Aside0.mk (Kd.R_elder' (by (with_reducible repeat (first | apply Kd.R_alloc | apply Kd.R_drewN | apply Kd.R_drew)); exact HO_3.out) (Kd.R_base ho0) hb)
                  have n1_ := Aside0.mk (Kd.R_below (by (with_reducible repeat (first | apply Kd.R_alloc | apply Kd.R_drewN | apply Kd.R_drew)); exact HO_6.out) hb)
                  have n2_ := Aside0.mk (Kd.R_below (by (with_reducible repeat (first | apply Kd.R_alloc | apply Kd.R_drewN | apply Kd.R_drew)); exact HO_204000.out) hb)
                  have n3_ := Aside0.mk (Kd.R_lower (Kd.R_new' ho0 (Kd.R_lt (by (with_reducible repeat (first | apply Kd.R_alloc | apply Kd.R_drewN | apply Kd.R_drew)); exact HO_3.out))) (below_size (by repeat (first | (with_reducible first | exact HB.out | apply below_alloc | apply pw_below_drewN | apply below_drew1 | refine below_set ?_ GE203.out) | exact HB.out))))
                  have n4_ := Aside0.mk (blk_below (g := gb203) (o := .cells #[.slice Ao11 t199.length co11] 28 (0, 0)) (by (with_reducible repeat (first | refine blk_drewN ?_ _ | refine blk_drew ?_ | refine blk_alloc ?_ _)); exact BK203.out) hb)
                  have n5_ := Aside0.mk (below_step (by repeat (first | (with_reducible first | exact HB.out | apply below_alloc | apply pw_below_drewN | apply below_drew1 | refine below_set ?_ GE203.out) | exact HB.out)) hb)
                  clear HO_3
                  clear HO_6
                  clear HO_204000
                  clear BK203
                  clear HB
                  have HO_3 := n0_
                  have HO_6 := n1_
                  have HO_204000 := n2_
                  have HO218 := n3_
                  have BK203 := n4_
                  have HB := n5_
                  clear n0_ n1_ n2_ n3_ n4_ n5_
                  (try clear hb)
                  (try clear hb2)
                  (try clear hk)
                  (try clear hi)
                  (try clear ho0)
                  refine hK.out _ _ ⟨(blk_cell BK203.out 0).trans rfl, HS1_⟩ (fun hHeld => ?_)
                  clear hK K
                  refine norm_ (a' := ?_) ?_ ?_
                  rotate_left
                  · show Act.put _ (some 63) _ = _
                    simp only [Act.put, List.setIfInBounds_toArray, List.set_cons_zero, List.set_cons_succ, i64_w, i32_w]
                    rfl
                  refine pure_ (i := 6) (N := some 9) (v := ?_) (a' := ?_) #[true, true, true, true, true, true, true] rfl rfl (by kernel_rfl) (fun _ _ _ h => h) (Or.inl ⟨by rfl, ?_⟩) ?_ ?_
                  rotate_left
                  · intro w'
                    go_simp
                    with_reducible rfl
                  rotate_left
                  · simp only [Act.put, List.setIfInBounds_toArray, List.set_cons_zero, List.set_cons_succ, i64_w, i32_w]
                    rfl
                  refine done_ (by kernel_rfl) ?_
                  go_upto_if 67 with (fail)
                  go_cut [10] (fun v10 wc => ∃ (kq : Nat) (x10_38 : Int), v10 = .int .i64 x10_38 ∧ Aside0 (laws_FnRings.j2 kq t196 t209 x7_2 t214 t216 x10_38 t199 = some r) ∧ Aside0 (kq ≤ k2) ∧ Aside0 (Kd.R (Kd.int .i64) 3 wc w.heap.size (fun k_ => some k_ ≠ (v217 : Value).ownBlock) (.slice Ao8 t196.length co8) t196) ∧ Aside0 (Kd.R Kd.string 9 wc w.heap.size (fun _ => True) (.slice (some ad213) t209.length co40) t209) ∧ Aside0 (Kd.R (Kd.int .i64) 3 wc w.heap.size (fun k_ => some k_ ≠ ((.slice Ao8 t196.length co8) : Value).ownBlock) v217 t216) ∧ Aside0 (Kd.R k63 63 wc w.heap.size (fun _ => True) (.slice Ao11 t199.length co11) t199) ∧ Aside0 (wc.heap[gb203]? = some (.cells #[(.slice Ao11 t199.length co11)] 28 (0, 0))) ∧ Aside0 (Below w.heap.size w wc))
                  case first =>
                    have H := HC39.out
                    clear HC39
                    by_cases c45 : (t196.length : Int) < 3
                    · rw [if_pos c45] at H
                      have c45b0 : decide ((t196.length : Int) < 3) = true := decide_eq_true c45
                      have c45b1 : decide (t196.length < 3) = true := decide_eq_true (by omega)
                      clear c45
                      (first | rw [c45b0] | (simp only [i64_w, i32_w]; rw [c45b0]) | skip)
                      have H' := Aside0.mk H
                      clear H
                      go_wp2
                      go_meet
                      case rel => exact ⟨_, ((t196.length : Int)), (by first | rfl | (simp; done) | (simp [*]; done)), H', ⟨by have := HJ5.out; have := HK2.out; first | omega | exact Nat.le_refl _⟩, ⟨by (with_reducible repeat (first | apply Kd.R_alloc | apply Kd.R_drewN | apply Kd.R_drew)); exact Kd.R_mono HO_3.out (fun _ hk => hk.2)⟩, ⟨by (with_reducible repeat (first | apply Kd.R_alloc | apply Kd.R_drewN | apply Kd.R_drew)); exact HO_6.out⟩, ⟨by (with_reducible repeat (first | apply Kd.R_alloc | apply Kd.R_drewN | apply Kd.R_drew)); exact Kd.R_mono HO218.out (fun _ hk => hk.2)⟩, ⟨by (with_reducible repeat (first | apply Kd.R_alloc | apply Kd.R_drewN | apply Kd.R_drew)); exact HO_204000.out⟩, ⟨by (with_reducible repeat (first | refine blk_drewN ?_ _ | refine blk_drew ?_ | refine blk_alloc ?_ _)); exact BK203.out⟩, ⟨by repeat (first | (with_reducible first | exact HB.out | apply below_alloc | apply pw_below_drewN | apply below_drew1 | refine below_set ?_ GE203.out) | exact HB.out)⟩⟩
                    · rw [if_neg c45] at H
                      have c45b0 : decide ((t196.length : Int) < 3) = false := decide_eq_false c45
                      have c45b1 : decide (t196.length < 3) = false := decide_eq_false (by omega)
                      clear c45
                      (first | rw [c45b0] | (simp only [i64_w, i32_w]; rw [c45b0]) | skip)
                      have H' := Aside0.mk H
                      clear H
                      go_wp2
                      go_meet
                      case rel => exact ⟨_, (3), (by first | rfl | (simp; done) | (simp [*]; done)), H', ⟨by have := HJ5.out; have := HK2.out; first | omega | exact Nat.le_refl _⟩, ⟨by (with_reducible repeat (first | apply Kd.R_alloc | apply Kd.R_drewN | apply Kd.R_drew)); exact Kd.R_mono HO_3.out (fun _ hk => hk.2)⟩, ⟨by (with_reducible repeat (first | apply Kd.R_alloc | apply Kd.R_drewN | apply Kd.R_drew)); exact HO_6.out⟩, ⟨by (with_reducible repeat (first | apply Kd.R_alloc | apply Kd.R_drewN | apply Kd.R_drew)); exact Kd.R_mono HO218.out (fun _ hk => hk.2)⟩, ⟨by (with_reducible repeat (first | apply Kd.R_alloc | apply Kd.R_drewN | apply Kd.R_drew)); exact HO_204000.out⟩, ⟨by (with_reducible repeat (first | refine blk_drewN ?_ _ | refine blk_drew ?_ | refine blk_alloc ?_ _)); exact BK203.out⟩, ⟨by repeat (first | (with_reducible first | exact HB.out | apply below_alloc | apply pw_below_drewN | apply below_drew1 | refine below_set ?_ GE203.out) | exact HB.out)⟩⟩
                  case rest =>
                    clear HC39
                    try clear c1
                    try clear p2
                    try clear q2
                    try clear hx2
                    try clear c3
                    try clear c4
                    try clear c6
                    try clear p6
                    try clear c8
                    try clear c9
                    try clear c11
                    try clear c12
                    try clear c13
                    try clear c15
                    try clear c16
                    try clear c17
                    try clear c18
                    try clear p21
                    try clear q21
                    try clear hx21
                    try clear c32
                    try clear c35
                    try clear c35b0
                    try clear c36
                    try clear c36b0
                    try clear c45
                    try clear c45b0
                    try clear c45b1
                    try clear hcz12_0
                    try clear hcz19_0
                    try clear hcz21_0
                    try clear hcz24_0
                    try clear hcz25_0
                    try clear hcz27_0
                    try clear hcz30_0
                    try clear hfz12_0
                    try clear hfz19_0
                    try clear hfz21_0
                    try clear hfz24_0
                    try clear hfz25_0
                    try clear hfz27_0
                    try clear hfz30_0
                    try clear hx213_0
                    try clear hx215_0
                    try clear p2
                    try clear p213
                    try clear p215
                    try clear p6
                    try clear q213
                    try clear q215
                    obtain ⟨kq, x10_38, rfl, HA, HJ38, HO_3, HO_6, HO_9, HO_204000, BK203, HB⟩ := hcut
                    cases kq with
                    | zero => exact absurd HA.out (by simp [laws_FnRings.j2])
                    | succ kj38 =>
                      have H := HA.out
                      clear HA
                      simp only [laws_FnRings.j2] at H
                      have HC46 := Aside0.mk H
                      clear H
                      go_upto_region 16 with (fail)
                      go_cut [86] (fun v86 wc => ∃ (kq : Nat) (x86_45 : Bool), v86 = .bool x86_45 ∧ Aside0 (laws_FnRings.j3 kq t196 t209 x7_2 t216 x86_45 t199 = some r) ∧ Aside0 (kq ≤ kj38) ∧ Aside0 (Kd.R (Kd.int .i64) 3 wc w.heap.size (fun k_ => some k_ ≠ (v217 : Value).ownBlock) (.slice Ao8 t196.length co8) t196) ∧ Aside0 (Kd.R Kd.string 9 wc w.heap.size (fun _ => True) (.slice (some ad213) t209.length co40) t209) ∧ Aside0 (Kd.R (Kd.int .i64) 3 wc w.heap.size (fun k_ => some k_ ≠ ((.slice Ao8 t196.length co8) : Value).ownBlock) v217 t216) ∧ Aside0 (Kd.R k63 63 wc w.heap.size (fun _ => True) (.slice Ao11 t199.length co11) t199) ∧ Aside0 (wc.heap[gb203]? = some (.cells #[(.slice Ao11 t199.length co11)] 28 (0, 0))) ∧ Aside0 (Below w.heap.size w wc))
                      case first =>
                        have H := HC46.out
                        clear HC46
                        replace H := Option.bind_eq_some_iff.mp H
                        obtain ⟨t219, A470, H⟩ := H
                        replace H : (if t219 = true then (if (t216.length : Int) = x10_38 then (if 0 < (t216.length : Int) then (laws_FnRings.j3 kj38 t196 t209 x7_2 t216 ((rd t216 0) != t214) t199) else (none)) else (laws_FnRings.j3 kj38 t196 t209 x7_2 t216 true t199)) else (laws_FnRings.j3 kj38 t196 t209 x7_2 t216 true t199)) = some r := H
                        have A47 := Aside0.mk A470
                        clear A470
                        by_cases c48 : t219 = true
                        · subst c48
                          have H1 : (if (t216.length : Int) = x10_38 then (if 0 < (t216.length : Int) then (laws_FnRings.j3 kj38 t196 t209 x7_2 t216 ((rd t216 0) != t214) t199) else (none)) else (laws_FnRings.j3 kj38 t196 t209 x7_2 t216 true t199)) = some r := by rw [if_pos rfl] at H; exact H
                          clear H
                          have H := H1
                          clear H1
                          by_cases c49 : (t216.length : Int) = x10_38
                          · rw [if_pos c49] at H
                            have c49b0 : ((t216.length : Int) == x10_38) = true := beq_iff_eq.mpr c49
                            have c49b1 : ((t216.length : Int) != x10_38) = false := bne_eq_false_iff_eq.mpr c49
                            clear c49
                            (first | rw [c49b0] | (simp only [i64_w, i32_w]; rw [c49b0]) | skip)
                            by_cases c50 : 0 < (t216.length : Int)
                            · rw [if_pos c50] at H
                              have c50b0 : decide (0 < (t216.length : Int)) = true := decide_eq_true c50
                              have c50b1 : decide (0 < t216.length) = true := decide_eq_true (by omega)
                              clear c50
                              have H' := Aside0.mk H
                              clear H
                              go_wp2_with (first | ((with_reducible refine gate_callee (f := 28) rfl ?_); refine goesL_ (some 72) rfl rfl Tryd.func28 (by kernel_rfl) rfl #[.slice Ao8 t196.length co8, .int .i64 t214] rfl (by (try simp only [List.map_toArray, List.map_cons, List.map_nil]); first | done | rfl | (simp only [List.length_drop, List.length_take]; rfl)) ?_; (with_reducible refine (laws_in.calls kj38 _ _ t196 t214 true _ ?side1 ?side2 A47.out).mono ?_); (case side1 => repeat (first | exact (Kd.R_reads' HO_3.out).2.2 | (with_reducible refine Kd.C_alloc ?_ _) | (with_reducible refine Kd.C_drewN ?_ _) | (with_reducible refine Kd.C_drew ?_))); (case side2 => exact (Kd.R_reads' HO_3.out).2.1); rintro e w' ⟨rfl, ⟨nd, rfl⟩⟩; refine ⟨_, rfl, ?_⟩; obtain ⟨Ao51, co51, eo51⟩ := Kd.R_slice HO_9.out; subst eo51; have p220 : 0 ≤ (0 : Int) := (by omega); have q220 : 0 < (t216.length : Int) := of_decide_eq_true (by first | (with_reducible assumption) | assumption); obtain ⟨ad220, e220, hx220_0⟩ := Kd.at_int (Kd.R_reads' HO_9.out).2.2 0 p220 q220; cases e220; have qi220 : (0 < t216.length) = True := eq_true (by omega); (try rw [show ((0 : Int)).toNat = 0 from rfl] at hx220_0); (try rw [Addr.add_zero'] at hx220_0); replace p220 := eq_true p220; replace q220 := eq_true q220))
                              go_meet
                              case rel => exact ⟨_, (((rd t216 0) != t214)), (by first | rfl | (simp; done) | (simp [*]; done)), H', ⟨by have := HJ5.out; have := HK2.out; have := HJ38.out; first | omega | exact Nat.le_refl _⟩, ⟨by (with_reducible repeat (first | apply Kd.R_alloc | apply Kd.R_drewN | apply Kd.R_drew)); exact HO_3.out⟩, ⟨by (with_reducible repeat (first | apply Kd.R_alloc | apply Kd.R_drewN | apply Kd.R_drew)); exact HO_6.out⟩, ⟨by (with_reducible repeat (first | apply Kd.R_alloc | apply Kd.R_drewN | apply Kd.R_drew)); exact HO_9.out⟩, ⟨by (with_reducible repeat (first | apply Kd.R_alloc | apply Kd.R_drewN | apply Kd.R_drew)); exact HO_204000.out⟩, ⟨by (with_reducible repeat (first | refine blk_drewN ?_ _ | refine blk_drew ?_ | refine blk_alloc ?_ _)); exact BK203.out⟩, ⟨by repeat (first | (with_reducible first | exact HB.out | apply below_alloc | apply pw_below_drewN | apply below_drew1 | refine below_set ?_ GE203.out) | exact HB.out)⟩⟩
                            · rw [if_neg c50] at H
                              exact absurd H (by simp)
                          · rw [if_neg c49] at H
                            have c49b0 : ((t216.length : Int) == x10_38) = false := beq_eq_false_iff_ne.mpr c49
                            have c49b1 : ((t216.length : Int) != x10_38) = true := bne_iff_ne.mpr c49
                            (first | rw [c49b0] | (simp only [i64_w, i32_w]; rw [c49b0]) | skip)
                            exact absurd ((laws_FnRings.j3_bad H).symm.trans HTr_.out) (by simp)
                        · replace c48 := Bool.eq_false_iff.mpr c48
                          subst c48
                          have H1 : (laws_FnRings.j3 kj38 t196 t209 x7_2 t216 true t199) = some r := by rw [if_neg (show ¬ (false = true) by decide)] at H; exact H
                          clear H
                          have H := H1
                          clear H1
                          exact absurd ((laws_FnRings.j3_bad H).symm.trans HTr_.out) (by simp)
                      case rest =>
                        clear HC46
                        try clear c1
                        try clear c2
                        try clear p2
                        try clear q2
                        try clear hx2
                        try clear qi2
                        try clear c3
                        try clear c4
                        try clear c5
                        try clear c6
                        try clear p6
                        try clear c8
                        try clear c9
                        try clear c11
                        try clear c12
                        try clear c13
                        try clear c15
                        try clear c16
                        try clear c17
                        try clear c18
                        try clear p21
                        try clear q21
                        try clear hx21
                        try clear p22
                        try clear q22
                        try clear hx22
                        try clear qi22
                        try clear c28
                        try clear c32
                        try clear c35
                        try clear c35b0
                        try clear c36
                        try clear c36b0
                        try clear c45
                        try clear c45b0
                        try clear c45b1
                        try clear c48
                        try clear c49
                        try clear c49b0
                        try clear c49b1
                        try clear c50
                        try clear c50b0
                        try clear c50b1
                        try clear hcz12_0
                        try clear hcz19_0
                        try clear hcz21_0
                        try clear hcz24_0
                        try clear hcz25_0
                        try clear hcz27_0
                        try clear hcz30_0
                        try clear hfz12_0
                        try clear hfz19_0
                        try clear hfz21_0
                        try clear hfz24_0
                        try clear hfz25_0
                        try clear hfz27_0
                        try clear hfz30_0
                        try clear hx213_0
                        try clear hx215_0
                        try clear hx220_0
                        try clear p2
                        try clear p21
                        try clear p213
                        try clear p215
                        try clear p220
                        try clear p6
                        try clear q2
                        try clear q21
                        try clear q213
                        try clear q215
                        try clear q220
                        obtain ⟨kq, x86_45, rfl, HA, HJ45, HO_3, HO_6, HO_9, HO_204000, BK203, HB⟩ := hcut
                        cases kq with
                        | zero => exact absurd HA.out (by simp [laws_FnRings.j3])
                        | succ kj45 =>
                          have H := HA.out
                          clear HA
                          simp only [laws_FnRings.j3] at H
                          by_cases c53 : x86_45 = true
                          · subst c53
                            have H1 : (some false) = some r := by rw [if_pos rfl] at H; exact H
                            clear H
                            have H := H1
                            clear H1
                            exact absurd ((Option.some.inj H).trans HTr_.out) (by simp)
                          · replace c53 := Bool.eq_false_iff.mpr c53
                            subst c53
                            have H1 : (laws_FnRings.l1 kj45 t196 t209 x7_2 t216 1 t199) = some r := by rw [if_neg (show ¬ (false = true) by decide)] at H; exact H
                            clear H
                            have H := H1
                            clear H1
                            have H' := Aside0.mk H
                            clear H
                            go_wp2
                            go_loopg [11] kj45 (fun kq v11 w' => ∃ (x11_5 : Int), v11 = .int .i64 x11_5 ∧ Aside0 (laws_FnRings.l1 kq t196 t209 x7_2 t216 x11_5 t199 = some r) ∧ Aside0 (kq ≤ kj45) ∧ Aside0 (Kd.R (Kd.int .i64) 3 w' w.heap.size (fun k_ => some k_ ≠ (v217 : Value).ownBlock) (.slice Ao8 t196.length co8) t196) ∧ Aside0 (Kd.R Kd.string 9 w' w.heap.size (fun _ => True) (.slice (some ad213) t209.length co40) t209) ∧ Aside0 (Kd.R (Kd.int .i64) 3 w' w.heap.size (fun k_ => some k_ ≠ ((.slice Ao8 t196.length co8) : Value).ownBlock) v217 t216) ∧ Aside0 (Kd.R k63 63 w' w.heap.size (fun _ => True) (.slice Ao11 t199.length co11) t199) ∧ Aside0 (w'.heap[gb203]? = some (.cells #[(.slice Ao11 t199.length co11)] 28 (0, 0))) ∧ Aside0 (Below w.heap.size w w'))
                            case atStart => exact ⟨(1), (by first | rfl | (simp; done) | (simp [*]; done)), H', ⟨Nat.le_refl _⟩, ⟨by (with_reducible repeat (first | apply Kd.R_alloc | apply Kd.R_drewN | apply Kd.R_drew)); exact HO_3.out⟩, ⟨by (with_reducible repeat (first | apply Kd.R_alloc | apply Kd.R_drewN | apply Kd.R_drew)); exact HO_6.out⟩, ⟨by (with_reducible repeat (first | apply Kd.R_alloc | apply Kd.R_drewN | apply Kd.R_drew)); exact HO_9.out⟩, ⟨by (with_reducible repeat (first | apply Kd.R_alloc | apply Kd.R_drewN | apply Kd.R_drew)); exact HO_204000.out⟩, ⟨by (with_reducible repeat (first | refine blk_drewN ?_ _ | refine blk_drew ?_ | refine blk_alloc ?_ _)); exact BK203.out⟩, ⟨by repeat (first | (with_reducible first | exact HB.out | apply below_alloc | apply pw_below_drewN | apply below_drew1 | refine below_set ?_ GE203.out) | exact HB.out)⟩⟩
                            case round =>
                              clear H'
                              try clear c1
                              try clear c2
                              try clear p2
                              try clear q2
                              try clear hx2
                              try clear qi2
                              try clear c3
                              try clear c4
                              try clear c5
                              try clear c6
                              try clear p6
                              try clear c8
                              try clear c9
                              try clear c11
                              try clear c12
                              try clear c13
                              try clear c15
                              try clear c16
                              try clear c17
                              try clear c18
                              try clear p21
                              try clear q21
                              try clear hx21
                              try clear p22
                              try clear q22
                              try clear hx22
                              try clear qi22
                              try clear c28
                              try clear c32
                              try clear c35
                              try clear c35b0
                              try clear c36
                              try clear c36b0
                              try clear c45
                              try clear c45b0
                              try clear c45b1
                              try clear c48
                              try clear c49
                              try clear c49b0
                              try clear c49b1
                              try clear c50
                              try clear c50b0
                              try clear c50b1
                              try clear c53
                              try clear hcz12_0
                              try clear hcz19_0
                              try clear hcz21_0
                              try clear hcz24_0
                              try clear hcz25_0
                              try clear hcz27_0
                              try clear hcz30_0
                              try clear hfz12_0
                              try clear hfz19_0
                              try clear hfz21_0
                              try clear hfz24_0
                              try clear hfz25_0
                              try clear hfz27_0
                              try clear hfz30_0
                              try clear hx213_0
                              try clear hx215_0
                              try clear hx220_0
                              try clear p2
                              try clear p21
                              try clear p213
                              try clear p215
                              try clear p22
                              try clear p220
                              try clear p6
                              try clear q2
                              try clear q21
                              try clear q213
                              try clear q215
                              try clear q22
                              try clear q220
                              obtain ⟨x11_5, rfl, HA, HK5, HO_3, HO_6, HO_9, HO_204000, BK203, HB⟩ := hrel
                              cases gk with
                              | zero => exact absurd HA.out (by simp [laws_FnRings.l1])
                              | succ k5 =>
                                have H := HA.out
                                clear HA
                                simp only [laws_FnRings.l1] at H
                                by_cases c54 : x11_5 < (t216.length : Int)
                                · rw [if_pos c54] at H
                                  have c54b0 : decide (x11_5 < (t216.length : Int)) = true := decide_eq_true c54
                                  clear c54
                                  by_cases c55 : 0 ≤ x11_5
                                  · rw [if_pos c55] at H
                                    have c55b0 := eq_true c55
                                    have c55b1 : decide (0 ≤ x11_5) = true := decide_eq_true c55
                                    clear c55
                                    by_cases c56 : x11_5 ≤ (t216.length : Int)
                                    · rw [if_pos c56] at H
                                      have c56b0 := eq_true c56
                                      have c56b1 : decide (x11_5 ≤ (t216.length : Int)) = true := decide_eq_true c56
                                      clear c56
                                      obtain ⟨y221, hy221⟩ : ∃ y_ : List Int, y_ = (t216.take (x11_5 : Int).toNat) := ⟨_, rfl⟩
                                      replace H : ((laws_in.f k5 y221 (rd t216 x11_5)).bind fun t226 => (if t226 = true then (some false) else ((laws_in.f k5 t196 (rd t216 x11_5)).bind fun t228 => (if t228 = true then (laws_FnRings.l1 k5 t196 t209 x7_2 t216 (wrap64 (x11_5 + 1)) t199) else (some false))))) = some r := by first | (rw [hy221]; with_reducible exact H) | (have H2_ := (Option.bind_some _ _).symm.trans H; rw [hy221]; with_reducible exact H2_) | (have H2_ := (Option.bind_some _ _).symm.trans H; with_reducible exact H2_) | with_reducible exact H | (rw [hy221]; exact H) | exact H
                                      have Ny221 := Aside0.mk hy221
                                      clear hy221
                                      replace H := Option.bind_eq_some_iff.mp H
                                      obtain ⟨t226, A570, H⟩ := H
                                      replace H : (if t226 = true then (some false) else ((laws_in.f k5 t196 (rd t216 x11_5)).bind fun t228 => (if t228 = true then (laws_FnRings.l1 k5 t196 t209 x7_2 t216 (wrap64 (x11_5 + 1)) t199) else (some false)))) = some r := H
                                      have A57 := Aside0.mk A570
                                      clear A570
                                      by_cases c58 : t226 = true
                                      · subst c58
                                        have H1 : (some false) = some r := by rw [if_pos rfl] at H; exact H
                                        clear H
                                        have H := H1
                                        clear H1
                                        exact absurd ((Option.some.inj H).trans HTr_.out) (by simp)
                                      · replace c58 := Bool.eq_false_iff.mpr c58
                                        subst c58
                                        have H1 : ((laws_in.f k5 t196 (rd t216 x11_5)).bind fun t228 => (if t228 = true then (laws_FnRings.l1 k5 t196 t209 x7_2 t216 (wrap64 (x11_5 + 1)) t199) else (some false))) = some r := by rw [if_neg (show ¬ (false = true) by decide)] at H; exact H
                                        clear H
                                        have H := H1
                                        clear H1
                                        replace H := Option.bind_eq_some_iff.mp H
                                        obtain ⟨t228, A620, H⟩ := H
                                        replace H : (if t228 = true then (laws_FnRings.l1 k5 t196 t209 x7_2 t216 (wrap64 (x11_5 + 1)) t199) else (some false)) = some r := H
                                        have A62 := Aside0.mk A620
                                        clear A620
                                        by_cases c63 : t228 = true
                                        · subst c63
                                          have H1 : (laws_FnRings.l1 k5 t196 t209 x7_2 t216 (wrap64 (x11_5 + 1)) t199) = some r := by rw [if_pos rfl] at H; exact H
                                          clear H
                                          have H := H1
                                          clear H1
                                          have H' := Aside0.mk H
                                          clear H
                                          obtain ⟨Ao64, co64, eo64⟩ := Kd.R_slice HO_9.out
                                          subst eo64
                                          try go_wp2
                                          have n0_ := Aside0.mk (Kd.R_drew HO_3.out)
                                          have n1_ := Aside0.mk (Kd.R_drew HO_6.out)
                                          have n2_ := Aside0.mk (Kd.R_drew HO_9.out)
                                          have n3_ := Aside0.mk (Kd.R_drew HO_204000.out)
                                          have n4_ := Aside0.mk (blk_drew BK203.out)
                                          have n5_ := Aside0.mk (below_drew1 HB.out)
                                          clear HO_3
                                          clear HO_6
                                          clear HO_9
                                          clear HO_204000
                                          clear BK203
                                          clear HB
                                          have HO_3 := n0_
                                          have HO_6 := n1_
                                          have HO_9 := n2_
                                          have HO_204000 := n3_
                                          have BK203 := n4_
                                          have HB := n5_
                                          clear n0_ n1_ n2_ n3_ n4_ n5_
                                          have q66 : (x11_5 : Int) ≤ ((t216.length : Int) : Int) := of_decide_eq_true (by first | (with_reducible assumption) | assumption)
                                          obtain ⟨i066, hi066, _, hsz66, _⟩ := info_parts info3
                                          have hroom66 : t216.length ≤ co64 := (Kd.R_reads' HO_9.out).2.1
                                          have hC66 : Kd.C (Kd.int .i64) _ Ao64 t216.length t216 := (Kd.R_reads' HO_9.out).2.2
                                          have hcut66 := cut_to (P := Tryd.prog) 24 3 .i64 Tryd.underlying24 hi066 Ao64 t216.length co64 x11_5 (of_decide_eq_true (by first | (with_reducible assumption) | assumption)) q66 hroom66
                                          have hr66 := Kd.C_take (m := (x11_5 : Int).toNat) hC66 (by omega)
                                          have hy66 : y221.length = (x11_5 : Int).toNat := (by rw [Ny221.out, List.length_take]; omega)
                                          rw [← Ny221.out] at hr66
                                          rw [← hy66] at hcut66
                                          have HR224 := Aside0.mk hr66
                                          have HC224 := Aside0.mk (show y221.length ≤ co64 from by omega)
                                          clear hr66 hC66 hroom66 hi066 hsz66
                                          have KY66 := Aside0.mk hy66
                                          clear hy66
                                          have KL66 := Aside0.mk (show (x11_5 : Int).toNat ≤ t216.length from by omega)
                                          replace q66 := eq_true q66
                                          have p225 : 0 ≤ (x11_5 : Int) := of_decide_eq_true (by first | (with_reducible assumption) | assumption)
                                          have q225 : x11_5 < (t216.length : Int) := of_decide_eq_true (by first | (with_reducible assumption) | assumption)
                                          obtain ⟨ad225, e225, hx225_0⟩ := Kd.at_int (Kd.R_reads' HO_9.out).2.2 x11_5 p225 q225
                                          cases e225
                                          replace p225 := eq_true p225
                                          replace q225 := eq_true q225
                                          have p227 : 0 ≤ (x11_5 : Int) := of_decide_eq_true (by first | (with_reducible assumption) | assumption)
                                          have q227 : x11_5 < (t216.length : Int) := of_decide_eq_true (by first | (with_reducible assumption) | assumption)
                                          obtain ⟨ad227, e227, hx227_0⟩ := Kd.at_int (Kd.R_reads' HO_9.out).2.2 x11_5 p227 q227
                                          obtain rfl : ad225 = ad227 := (by injection e227)
                                          replace p227 := eq_true p227
                                          replace q227 := eq_true q227
                                          refine start_ (n := 17) (S := fun w' => w'.cell? (ad225.add (x11_5).toNat) = some (.int .i64 (rd t216 x11_5)) ∧ w'.cell? (ad225.add (x11_5).toNat) = some (.int .i64 (rd t216 x11_5))) (ds := []) #[false, false, false, false, false, false, false, false, false, false, false, false, false, false, false, false, false] (by kernel_rfl) rfl rfl ⟨hx225_0, hx227_0⟩ (fun hHeld => ?_); refine with_tabW laws_FnRings.tab21 laws_FnRings.bits21 (fun HT_ HW_ => ?_)
                                          generalize wr.drew = w65 at HO_3 HO_6 HO_9 HO_204000 BK203 HB HR224 hx225_0 hx227_0 hHeld ⊢
                                          refine pure_ (i := 0) (N := some 93) (v := ?_) (a' := ?_) #[true, false, false, false, false, false, false, false, false, false, false, false, false, false, false, false, false] rfl rfl (any_of HT_.out (by kernel_rfl)) (fun _ _ _ h => h) (Or.inl ⟨by rfl, ?_⟩) ?_ ?_
                                          rotate_left
                                          · intro w'
                                            go_simp
                                            with_reducible rfl
                                          rotate_left
                                          · simp only [Act.put, List.setIfInBounds_toArray, List.set_cons_zero, List.set_cons_succ, i64_w, i32_w]
                                            rfl
                                          refine pure_ (i := 1) (N := some 94) (v := ?_) (a' := ?_) #[true, true, false, false, false, false, false, false, false, false, false, false, false, false, false, false, false] rfl rfl (any_of HT_.out (by kernel_rfl)) (fun _ _ _ h => h) (Or.inl ⟨by rfl, ?_⟩) ?_ ?_
                                          rotate_left
                                          · intro w'
                                            go_simp
                                            with_reducible rfl
                                          rotate_left
                                          · simp only [Act.put, List.setIfInBounds_toArray, List.set_cons_zero, List.set_cons_succ, i64_w, i32_w]
                                            rfl
                                          refine pure_ (i := 2) (N := some 95) (v := ?_) (a' := ?_) #[true, true, true, false, false, false, false, false, false, false, false, false, false, false, false, false, false] rfl rfl (any_of HT_.out (by kernel_rfl)) (fun _ _ _ h => h) (Or.inl ⟨by rfl, ?_⟩) ?_ ?_
                                          rotate_left
                                          · intro w'
                                            go_simp
                                            with_reducible rfl
                                          rotate_left
                                          · simp only [Act.put, List.setIfInBounds_toArray, List.set_cons_zero, List.set_cons_succ, i64_w, i32_w]
                                            rfl
                                          refine pure_ (i := 3) (N := some 96) (v := ?_) (a' := ?_) #[true, true, true, true, false, false, false, false, false, false, false, false, false, false, false, false, false] rfl rfl (any_of HT_.out (by kernel_rfl)) (fun _ _ _ h => h) (Or.inl ⟨by rfl, ?_⟩) ?_ ?_
                                          rotate_left
                                          · intro w'
                                            go_simp
                                            with_reducible rfl
                                          rotate_left
                                          · simp only [Act.put, List.setIfInBounds_toArray, List.set_cons_zero, List.set_cons_succ, i64_w, i32_w]
                                            rfl
                                          refine pure_ (i := 4) (N := some 97) (v := ?_) (a' := ?_) #[true, true, true, true, true, false, false, false, false, false, false, false, false, false, false, false, false] rfl rfl (any_of HT_.out (by kernel_rfl)) (fun _ _ _ h => h) (Or.inl ⟨by rfl, ?_⟩) ?_ ?_
                                          rotate_left
                                          · intro w'
                                            go_simp
                                            with_reducible rfl
                                          rotate_left
                                          · simp only [Act.put, List.setIfInBounds_toArray, List.set_cons_zero, List.set_cons_succ, i64_w, i32_w]
                                            rfl
                                          refine pure_ (i := 5) (N := some 98) (v := ?_) (a' := ?_) #[true, true, true, true, true, true, false, false, false, false, false, false, false, false, false, false, false] rfl rfl (any_of HT_.out (by kernel_rfl)) (fun _ _ _ h => h) (Or.inl ⟨by rfl, ?_⟩) ?_ ?_
                                          rotate_left
                                          · intro w'
                                            go_simp
                                            with_reducible rfl
                                          rotate_left
                                          · simp only [Act.put, List.setIfInBounds_toArray, List.set_cons_zero, List.set_cons_succ, i64_w, i32_w]
                                            rfl
                                          refine take_ (i := 6) (N := some 99) (v := ?_) (a' := ?_) #[true, true, true, true, true, true, true, false, false, false, false, false, false, false, false, false, false] rfl rfl (take_ofW HT_.out HW_.out (by kernel_rfl)) (fun _ _ _ h => h) (Or.inl ⟨by rfl, ?_⟩) hHeld ?_ ?_
                                          rotate_left
                                          · rintro w' ⟨s0, s1⟩
                                            go_simp
                                            with_reducible rfl
                                          rotate_left
                                          · simp only [Act.put, List.setIfInBounds_toArray, List.set_cons_zero, List.set_cons_succ, i64_w, i32_w]
                                            rfl
                                          refine one_ (i := 7) (N := some 100) #[true, true, true, true, true, true, true, true, false, false, false, false, false, false, false, false, false] rfl rfl (one_of HT_.out (by kernel_rfl)) (by decide) (fun K hK => ?_)
                                          refine goes_ Tryd.func28 (by kernel_rfl) rfl #[.slice (some ad225) y221.length co64, .int .i64 (rd t216 x11_5)] (by rfl) rfl rfl (by (try simp only [List.map_toArray, List.map_cons, List.map_nil]); first | done | rfl | (simp only [List.length_drop, List.length_take]; rfl)) ?_
                                          with_reducible refine (laws_in.calls k5 _ _ y221 (rd t216 x11_5) false _ ?side1 ?side2 A57.out).mono ?_
                                          (case side1 => repeat (first | exact (by repeat (first | (with_reducible exact HR224.out) | (with_reducible refine Kd.C_alloc ?_ _) | (with_reducible refine Kd.C_drewN ?_ _) | (with_reducible refine Kd.C_drew ?_) | exact HR224.out)) | (with_reducible refine Kd.C_alloc ?_ _) | (with_reducible refine Kd.C_drewN ?_ _) | (with_reducible refine Kd.C_drew ?_)))
                                          (case side2 => exact HC224.out)
                                          rintro e w' ⟨rfl, ⟨nd, rfl⟩⟩
                                          refine ⟨_, rfl, ?_⟩
                                          refine hK.out _ _ ⟨hHeld.1, hHeld.2⟩ (fun hHeld => ?_)
                                          clear hK K
                                          refine norm_ (a' := ?_) ?_ ?_
                                          rotate_left
                                          · show Act.put _ (some 100) _ = _
                                            simp only [Act.put, List.setIfInBounds_toArray, List.set_cons_zero, List.set_cons_succ, i64_w, i32_w]
                                            rfl
                                          refine pure_ (i := 8) (N := some 101) (v := ?_) (a' := ?_) #[true, true, true, true, true, true, true, true, true, false, false, false, false, false, false, false, false] rfl rfl (any_of HT_.out (by kernel_rfl)) (fun _ _ _ h => h) (Or.inl ⟨by rfl, ?_⟩) ?_ ?_
                                          rotate_left
                                          · intro w'
                                            go_simp
                                            with_reducible rfl
                                          rotate_left
                                          · simp only [Act.put, List.setIfInBounds_toArray, List.set_cons_zero, List.set_cons_succ, i64_w, i32_w]
                                            rfl
                                          refine pure_ (i := 9) (N := some 102) (v := ?_) (a' := ?_) #[true, true, true, true, true, true, true, true, true, true, false, false, false, false, false, false, false] rfl rfl (any_of HT_.out (by kernel_rfl)) (fun _ _ _ h => h) (Or.inl ⟨by rfl, ?_⟩) ?_ ?_
                                          rotate_left
                                          · intro w'
                                            go_simp
                                            with_reducible rfl
                                          rotate_left
                                          · simp only [Act.put, List.setIfInBounds_toArray, List.set_cons_zero, List.set_cons_succ, i64_w, i32_w]
                                            rfl
                                          refine pure_ (i := 10) (N := some 103) (v := ?_) (a' := ?_) #[true, true, true, true, true, true, true, true, true, true, true, false, false, false, false, false, false] rfl rfl (any_of HT_.out (by kernel_rfl)) (fun _ _ _ h => h) (Or.inl ⟨by rfl, ?_⟩) ?_ ?_
                                          rotate_left
                                          · intro w'
                                            go_simp
                                            with_reducible rfl
                                          rotate_left
                                          · simp only [Act.put, List.setIfInBounds_toArray, List.set_cons_zero, List.set_cons_succ, i64_w, i32_w]
                                            rfl
                                          refine pure_ (i := 11) (N := some 104) (v := ?_) (a' := ?_) #[true, true, true, true, true, true, true, true, true, true, true, true, false, false, false, false, false] rfl rfl (any_of HT_.out (by kernel_rfl)) (fun _ _ _ h => h) (Or.inl ⟨by rfl, ?_⟩) ?_ ?_
                                          rotate_left
                                          · intro w'
                                            go_simp
                                            with_reducible rfl
                                          rotate_left
                                          · simp only [Act.put, List.setIfInBounds_toArray, List.set_cons_zero, List.set_cons_succ, i64_w, i32_w]
                                            rfl
                                          refine pure_ (i := 12) (N := some 105) (v := ?_) (a' := ?_) #[true, true, true, true, true, true, true, true, true, true, true, true, true, false, false, false, false] rfl rfl (any_of HT_.out (by kernel_rfl)) (fun _ _ _ h => h) (Or.inl ⟨by rfl, ?_⟩) ?_ ?_
                                          rotate_left
                                          · intro w'
                                            go_simp
                                            with_reducible rfl
                                          rotate_left
                                          · simp only [Act.put, List.setIfInBounds_toArray, List.set_cons_zero, List.set_cons_succ, i64_w, i32_w]
                                            rfl
                                          refine take_ (i := 13) (N := some 106) (v := ?_) (a' := ?_) #[true, true, true, true, true, true, true, true, true, true, true, true, true, true, false, false, false] rfl rfl (take_ofW HT_.out HW_.out (by kernel_rfl)) (fun _ _ _ h => h) (Or.inl ⟨by rfl, ?_⟩) hHeld ?_ ?_
                                          rotate_left
                                          · rintro w' ⟨s0, s1⟩
                                            go_simp
                                            with_reducible rfl
                                          rotate_left
                                          · simp only [Act.put, List.setIfInBounds_toArray, List.set_cons_zero, List.set_cons_succ, i64_w, i32_w]
                                            rfl
                                          refine one_ (i := 14) (N := some 107) #[true, true, true, true, true, true, true, true, true, true, true, true, true, true, true, false, false] rfl rfl (one_of HT_.out (by kernel_rfl)) (by decide) (fun K hK => ?_)
                                          refine goes_ Tryd.func28 (by kernel_rfl) rfl #[.slice Ao8 t196.length co8, .int .i64 (rd t216 x11_5)] (by rfl) rfl rfl (by (try simp only [List.map_toArray, List.map_cons, List.map_nil]); first | done | rfl | (simp only [List.length_drop, List.length_take]; rfl)) ?_
                                          with_reducible refine (laws_in.calls k5 _ _ t196 (rd t216 x11_5) true _ ?side1 ?side2 A62.out).mono ?_
                                          (case side1 => repeat (first | exact (Kd.R_reads' HO_3.out).2.2 | (with_reducible refine Kd.C_alloc ?_ _) | (with_reducible refine Kd.C_drewN ?_ _) | (with_reducible refine Kd.C_drew ?_)))
                                          (case side2 => exact (Kd.R_reads' HO_3.out).2.1)
                                          rintro e w' ⟨rfl, ⟨nd, rfl⟩⟩
                                          refine ⟨_, rfl, ?_⟩
                                          refine hK.out _ _ ⟨hHeld.1, hHeld.2⟩ (fun hHeld => ?_)
                                          clear hK K
                                          refine norm_ (a' := ?_) ?_ ?_
                                          rotate_left
                                          · show Act.put _ (some 107) _ = _
                                            simp only [Act.put, List.setIfInBounds_toArray, List.set_cons_zero, List.set_cons_succ, i64_w, i32_w]
                                            rfl
                                          refine pure_ (i := 15) (N := some 108) (v := ?_) (a' := ?_) #[true, true, true, true, true, true, true, true, true, true, true, true, true, true, true, true, false] rfl rfl (any_of HT_.out (by kernel_rfl)) (fun _ _ _ h => h) (Or.inl ⟨by rfl, ?_⟩) ?_ ?_
                                          rotate_left
                                          · intro w'
                                            go_simp
                                            with_reducible rfl
                                          rotate_left
                                          · simp only [Act.put, List.setIfInBounds_toArray, List.set_cons_zero, List.set_cons_succ, i64_w, i32_w]
                                            rfl
                                          refine pure_ (i := 16) (N := some 109) (v := ?_) (a' := ?_) #[true, true, true, true, true, true, true, true, true, true, true, true, true, true, true, true, true] rfl rfl (any_of HT_.out (by kernel_rfl)) (fun _ _ _ h => h) (Or.inl ⟨by rfl, ?_⟩) ?_ ?_
                                          rotate_left
                                          · intro w'
                                            go_simp
                                            with_reducible rfl
                                          rotate_left
                                          · simp only [Act.put, List.setIfInBounds_toArray, List.set_cons_zero, List.set_cons_succ, i64_w, i32_w]
                                            rfl
                                          refine done_ (done_of HT_.out (by kernel_rfl)) ?_
                                          try go_wp2
                                          go_roundg k5
                                          case measure => have := HJ5.out; have := HK2.out; have := HJ38.out; have := HJ45.out; have := HK5.out; omega
                                          case rel => exact ⟨(wrap64 (x11_5 + 1)), (by first | rfl | (simp; done) | (simp [*]; done)), H', ⟨by have := HJ5.out; have := HK2.out; have := HJ38.out; have := HJ45.out; have := HK5.out; omega⟩, ⟨by (with_reducible repeat (first | apply Kd.R_alloc | apply Kd.R_drewN | apply Kd.R_drew)); exact HO_3.out⟩, ⟨by (with_reducible repeat (first | apply Kd.R_alloc | apply Kd.R_drewN | apply Kd.R_drew)); exact HO_6.out⟩, ⟨by (with_reducible repeat (first | apply Kd.R_alloc | apply Kd.R_drewN | apply Kd.R_drew)); exact HO_9.out⟩, ⟨by (with_reducible repeat (first | apply Kd.R_alloc | apply Kd.R_drewN | apply Kd.R_drew)); exact HO_204000.out⟩, ⟨by (with_reducible repeat (first | refine blk_drewN ?_ _ | refine blk_drew ?_ | refine blk_alloc ?_ _)); exact BK203.out⟩, ⟨by repeat (first | (with_reducible first | exact HB.out | apply below_alloc | apply pw_below_drewN | apply below_drew1 | refine below_set ?_ GE203.out) | exact HB.out)⟩⟩
                                        · replace c63 := Bool.eq_false_iff.mpr c63
                                          subst c63
                                          have H1 : (some false) = some r := by rw [if_neg (show ¬ (false = true) by decide)] at H; exact H
                                          clear H
                                          have H := H1
                                          clear H1
                                          exact absurd ((Option.some.inj H).trans HTr_.out) (by simp)
                                    · rw [if_neg c56] at H
                                      exact absurd H (by simp)
                                  · rw [if_neg c55] at H
                                    exact absurd H (by simp)
                                · rw [if_neg c54] at H
                                  have c54b0 : decide (x11_5 < (t216.length : Int)) = false := decide_eq_false c54
                                  clear c54
                                  have H' := Aside0.mk H
                                  clear H
                                  obtain ⟨Ao70, co70, eo70⟩ := Kd.R_slice HO_9.out
                                  subst eo70
                                  go_wp2
                                  go_roundg k5
                                  case measure => have := HJ5.out; have := HK2.out; have := HJ38.out; have := HJ45.out; have := HK5.out; omega
                                  case rel => exact ⟨(wrap64 (x7_2 + 1)), (by first | rfl | (simp; done) | (simp [*]; done)), H', ⟨by have := HJ5.out; have := HK2.out; have := HJ38.out; have := HJ45.out; have := HK5.out; omega⟩, ⟨by (with_reducible repeat (first | apply Kd.R_alloc | apply Kd.R_drewN | apply Kd.R_drew)); exact Kd.R_mono HO_3.out (fun _ hk => trivial)⟩, ⟨by (with_reducible repeat (first | apply Kd.R_alloc | apply Kd.R_drewN | apply Kd.R_drew)); exact HO_6.out⟩, ⟨by (with_reducible repeat (first | apply Kd.R_alloc | apply Kd.R_drewN | apply Kd.R_drew)); exact HO_204000.out⟩, ⟨by (with_reducible repeat (first | refine blk_drewN ?_ _ | refine blk_drew ?_ | refine blk_alloc ?_ _)); exact BK203.out⟩, ⟨by repeat (first | (with_reducible first | exact HB.out | apply below_alloc | apply pw_below_drewN | apply below_drew1 | refine below_set ?_ GE203.out) | exact HB.out)⟩⟩
                · rw [if_neg c36] at H
                  exact absurd H (by simp)
              · rw [if_neg c35] at H
                have c35b0 : decide (x7_2 < (t209.length : Int)) = false := decide_eq_false c35
                clear c35
                replace H := Option.bind_eq_some_iff.mp H
                obtain ⟨t212, A710, H⟩ := H
                replace H : (some (t212 == 0)) = some r := H
                have A71 := Aside0.mk A710
                clear A710
                obtain rfl := Option.some.inj H
                obtain ⟨Ao72, co72, eo72⟩ := Kd.R_slice HO_6.out
                subst eo72
                go_wp2_with (first | ((with_reducible refine gate_callee (f := 16) rfl ?_); refine goesL_ (some 111) rfl rfl Tryd.func16 (by kernel_rfl) rfl #[.agg #[.slice none 0 0], .string (⟨#[97]⟩ : ByteArray)] rfl (by (try simp only [List.map_toArray, List.map_cons, List.map_nil]); first | done | rfl | (simp only [List.length_drop, List.length_take]; rfl)) ?_; (refine (impl_HomeOf.calls k2 _ _ ([] : List (S63)) (⟨#[97]⟩ : ByteArray) t212 _ ?side1 ?side2 A71.out).mono ?_); (case side1 => exact Kd.C_nil _ _); (case side2 => exact Nat.le_refl _); rintro e w73 ⟨rfl, hb⟩; refine ⟨_, rfl, ?_⟩; have n0_ := Aside0.mk (Kd.R_below (by (with_reducible repeat (first | apply Kd.R_alloc | apply Kd.R_drewN | apply Kd.R_drew)); exact HO_3.out) hb); have n1_ := Aside0.mk (Kd.R_below (by (with_reducible repeat (first | apply Kd.R_alloc | apply Kd.R_drewN | apply Kd.R_drew)); exact HO_6.out) hb); have n2_ := Aside0.mk (Kd.R_below (by (with_reducible repeat (first | apply Kd.R_alloc | apply Kd.R_drewN | apply Kd.R_drew)); exact HO_204000.out) hb); have n3_ := Aside0.mk (blk_below (g := gb203) (o := .cells #[.slice Ao11 t199.length co11] 28 (0, 0)) (by (with_reducible repeat (first | refine blk_drewN ?_ _ | refine blk_drew ?_ | refine blk_alloc ?_ _)); exact BK203.out) hb); have n4_ := Aside0.mk (below_step (by repeat (first | (with_reducible first | exact HB.out | apply below_alloc | apply pw_below_drewN | apply below_drew1 | refine below_set ?_ GE203.out) | exact HB.out)) hb); clear HO_3; clear HO_6; clear HO_204000; clear BK203; clear HB; have HO_3 := n0_; have HO_6 := n1_; have HO_204000 := n2_; have BK203 := n3_; have HB := n4_; clear n0_ n1_ n2_ n3_ n4_; (try clear hb); (try clear hb2); (try clear hk); (try clear hi)))
                go_ret
                exact ⟨by first | rfl | (simp [errW_none, errW_some] <;> rfl) | (simp [*, errW_none, errW_some] <;> rfl), by repeat (first | (with_reducible first | exact HB.out | apply below_alloc | apply pw_below_drewN | apply below_drew1 | refine below_set ?_ GE203.out) | exact HB.out)⟩

/-- THE ONE PURE STATEMENT of laws_FnRings: yours. -/
def laws_FnRings.Pure : Prop := ∀ (l0 : List Int), l0.length ≤ maxLen → l0.length * 1 ≤ 140737488351232 → (∀ x ∈ l0, (Lit.int .u8 x).wf = true) → ∃ k, laws_FnRings.f k l0 = some true
theorem laws_FnRings.walk (P : laws_FnRings.Pure) (a0 : Option Addr) (len0 cap0 : Nat) (z0 : List Int) (w : World) (w0 : (a0 = none ∧ len0 = 0 ∧ cap0 = 0 ∧ z0 = []) ∨ ∃ x, a0 = some x ∧ len0 ≤ cap0 ∧ cap0 ≤ maxLen ∧ z0.length = cap0 ∧ (∀ i, i < z0.length → w.cell? (x.add i) = some (.int .u8 (z0.getD i 0))) ∧ ∀ n ∈ z0, (Lit.int .u8 n).wf = true) (y0 : len0 * 1 ≤ 140737488351232) :
    Calls Tryd.prog 6 #[.slice a0 len0 cap0] w fun e w' => e = .returned (.bool true) ∧ Below w.heap.size w w' := by
  obtain ⟨l0, rfl, hr0, hm0, hw0, hc0⟩ := ReadsInt.ofRowC w0
  obtain ⟨k, h⟩ := P l0 hm0 y0 hw0
  refine (laws_FnRings.calls k _ _ l0 true w (Kd.C_of_reads (d := (0 : Int)) (h1 := fun _ => rfl) hr0) hc0 h rfl).mono ?_
  rintro e w' ⟨rfl, hd⟩
  exact ⟨rfl, hd⟩

end Go.Proofs.YtphicebbbkjdhaaDoor.GFnRings
