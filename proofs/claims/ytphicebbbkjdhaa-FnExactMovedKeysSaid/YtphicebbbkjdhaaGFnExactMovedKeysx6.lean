/- Walks of the functions that the law reaches: by programs of this session, over a tool's print. -/
import Derived.Test.YtphicebbbkjdhaaGFnExactMovedKeysx0
import Derived.Test.YtphicebbbkjdhaaGFnExactMovedKeysx1
import Derived.Test.YtphicebbbkjdhaaGFnExactMovedKeysx2
import Derived.Test.YtphicebbbkjdhaaGFnExactMovedKeysx3
import Derived.Test.YtphicebbbkjdhaaGFnExactMovedKeysx4
import Derived.Test.YtphicebbbkjdhaaGFnExactMovedKeysx5
namespace Go.Proofs.Ytphicebbbkjdhaa.GFnExactMovedKeys
open Go.RowKit Go.Proofs.YtphicebbbkjdhaaW.PrintWords Go.Proofs.YtphicebbbkjdhaaW.PrintLast Go.Proofs.YtphicebbbkjdhaaW.PrintMore
attribute [local go_sem] max2_int min2_int max_two min_two max_three min_three max_four min_four   -- for this text's walks alone
set_option linter.unusedVariables false
set_option linter.unusedSimpArgs false

/-! ### laws_FnExactMovedKeys: function 5 -/
def laws_FnExactMovedKeys.j0 : Nat → List ByteArray → List ByteArray → List ByteArray → Bool → List (S56) → List (S56) → Option (Bool)
 |0, _, _, _, _, _, _ => none
 |k + 1, x2, x8, x12, x84, x180000, x181000 => if x84 = true then (some false) else ((laws_markStringS.f k x12 1).bind fun bt230 => ((laws_heldStringS.f k bt230.2 1).bind fun t232 => (if t232 < 0 then (some false) else (if t232 = bt230.1 then ((laws_toRing.f k x180000).bind fun t233 => ((laws_toRing.f k x181000).bind fun t236 => ((laws_toStringS.f k x2).bind fun t239 => ((impl_MovedKeys.f k t233 t236 t239).bind fun t242 => ((laws_eqStringS.f k t242 x8).bind fun t245 => (if t245 = true then ((laws_heldStringS.f k bt230.2 1).bind fun t246 => (if t246 < 0 then (some false) else (if t246 = bt230.1 then (some true) else (some false)))) else (some false))))))) else (some false)))))
def laws_FnExactMovedKeys.f (k : Nat) (l0_0 : List (S56)) (l1_0 : List (S56)) (l2 : List ByteArray) : Option (Bool) := (laws_szRing.f l0_0 1048576).bind fun t181 => (if t181 < 0 then (some true) else ((laws_szRing.f l1_0 t181).bind fun t182 => (if t182 < 0 then (some true) else ((laws_szStringS.f k l2 t182).bind fun t183 => (if t183 < 0 then (some true) else ((laws_toRing.f k l0_0).bind fun t184 => ((laws_toRing.f k l1_0).bind fun t187 => ((laws_toStringS.f k l2).bind fun t190 => ((spec_MovedKeys.f k t184 t187 t190).bind fun t193 => ((laws_toRing.f k l0_0).bind fun t196 => ((laws_toRing.f k l1_0).bind fun t200 => ((laws_toStringS.f k l2).bind fun t204 => ((impl_MovedKeys.f k t196 t200 t204).bind fun t207 => ((laws_eqStringS.f k t207 t193).bind fun t210 => (if t210 = true then ((laws_toRing.f k l0_0).bind fun t211 => ((laws_eqRing.f k t196 t211).bind fun t214 => (if t214 = true then ((laws_toRing.f k l1_0).bind fun t215 => ((laws_eqRing.f k t200 t215).bind fun t218 => (if t218 = true then ((laws_toStringS.f k l2).bind fun t219 => ((laws_eqStringS.f k t204 t219).bind fun t222 => (if t222 = true then ((laws_markRing.f k t196 1).bind fun bt223 => ((laws_markRing.f k t200 bt223.1).bind fun bt225 => ((laws_markStringS.f k t204 bt225.1).bind fun bt227 => (if bt227.1 < 0 then (laws_FnExactMovedKeys.j0 k l2 t193 t207 true l0_0 l1_0) else ((laws_eqStringS.f k t207 t193).bind fun t229 => (laws_FnExactMovedKeys.j0 k l2 t193 t207 (!t229) l0_0 l1_0)))))) else (some false)))) else (some false)))) else (some false)))) else (some false))))))))))))))))
theorem laws_FnExactMovedKeys.mono_l : ∀ k, (∀ y0 y1 y2 y3 y4 y5, LeO (laws_FnExactMovedKeys.j0 k y0 y1 y2 y3 y4 y5) (laws_FnExactMovedKeys.j0 (k + 1) y0 y1 y2 y3 y4 y5))
 |0 => fun _ _ _ _ _ _ r h => by simp [laws_FnExactMovedKeys.j0] at h
 |k + 1 => by
    have ih0 := laws_FnExactMovedKeys.mono_l k
    · intro y0 y1 y2 y3 y4 y5
      unfold laws_FnExactMovedKeys.j0
      repeat' first
     |(with_reducible exact ih0 _ _ _ _ _ _)
     |(with_reducible exact impl_MovedKeys.mono _ _ _ _)
     |(with_reducible exact laws_eqRing.mono _ _ _)
     |(with_reducible exact laws_eqStringS.mono _ _ _)
     |(with_reducible exact laws_heldStringS.mono _ _ _)
     |(with_reducible exact laws_markRing.mono _ _ _)
     |(with_reducible exact laws_markStringS.mono _ _ _)
     |(with_reducible exact laws_szStringS.mono _ _ _)
     |(with_reducible exact laws_toRing.mono _ _)
     |(with_reducible exact laws_toStringS.mono _ _)
     |(with_reducible exact spec_MovedKeys.mono _ _ _ _)
     |(with_reducible exact LeO.refl _)
     |(with_reducible exact LeO.none _)
     |(with_reducible refine LeO.ite ?_ ?_)
     |(with_reducible refine LeO.bind ?_ (fun _ => ?_))
     |exact ih0 _ _ _ _ _ _
     |exact impl_MovedKeys.mono _ _ _ _
     |exact laws_eqRing.mono _ _ _
     |exact laws_eqStringS.mono _ _ _
     |exact laws_heldStringS.mono _ _ _
     |exact laws_markRing.mono _ _ _
     |exact laws_markStringS.mono _ _ _
     |exact laws_szStringS.mono _ _ _
     |exact laws_toRing.mono _ _
     |exact laws_toStringS.mono _ _
     |exact spec_MovedKeys.mono _ _ _ _
     |exact LeO.none _
     |refine LeO.ite ?_ ?_
     |refine LeO.bind ?_ (fun _ => ?_)
theorem laws_FnExactMovedKeys.mono : ∀ a0 a1 a2 k, LeO (laws_FnExactMovedKeys.f k a0 a1 a2) (laws_FnExactMovedKeys.f (k + 1) a0 a1 a2) := by
  intro a0 a1 a2 k
  have ih0 := laws_FnExactMovedKeys.mono_l k
  unfold laws_FnExactMovedKeys.f
  repeat' first
     |(with_reducible exact ih0 _ _ _ _ _ _)
     |(with_reducible exact impl_MovedKeys.mono _ _ _ _)
     |(with_reducible exact laws_eqRing.mono _ _ _)
     |(with_reducible exact laws_eqStringS.mono _ _ _)
     |(with_reducible exact laws_heldStringS.mono _ _ _)
     |(with_reducible exact laws_markRing.mono _ _ _)
     |(with_reducible exact laws_markStringS.mono _ _ _)
     |(with_reducible exact laws_szStringS.mono _ _ _)
     |(with_reducible exact laws_toRing.mono _ _)
     |(with_reducible exact laws_toStringS.mono _ _)
     |(with_reducible exact spec_MovedKeys.mono _ _ _ _)
     |(with_reducible exact LeO.refl _)
     |(with_reducible exact LeO.none _)
     |(with_reducible refine LeO.ite ?_ ?_)
     |(with_reducible refine LeO.bind ?_ (fun _ => ?_))
     |exact ih0 _ _ _ _ _ _
     |exact impl_MovedKeys.mono _ _ _ _
     |exact laws_eqRing.mono _ _ _
     |exact laws_eqStringS.mono _ _ _
     |exact laws_heldStringS.mono _ _ _
     |exact laws_markRing.mono _ _ _
     |exact laws_markStringS.mono _ _ _
     |exact laws_szStringS.mono _ _ _
     |exact laws_toRing.mono _ _
     |exact laws_toStringS.mono _ _
     |exact spec_MovedKeys.mono _ _ _ _
     |exact LeO.none _
     |refine LeO.ite ?_ ?_
     |refine LeO.bind ?_ (fun _ => ?_)
def laws_FnExactMovedKeys.T11 : Bool × List (List Nat × List Nat) := (true, [([], []), ([0], [0]), ([], []), ([2, 1], [2]), ([], []), ([4, 3], [4]), ([1, 3, 5, 5], [1, 3, 5]), ([6, 6, 0, 1, 2, 3, 4, 5, 6], [6])])
def laws_FnExactMovedKeys.B11 : List Nat := [0, 1, 0, 7, 0, 31, 63, 127]
theorem laws_FnExactMovedKeys.tab11 : rtab .any (opsOf Try.f5 11) = laws_FnExactMovedKeys.T11 := by kernel_rfl
theorem laws_FnExactMovedKeys.bits11 : waitsOk laws_FnExactMovedKeys.T11.2 laws_FnExactMovedKeys.B11 = true := by kernel_rfl
def laws_FnExactMovedKeys.T38 : Bool × List (List Nat × List Nat) := (true, [([], []), ([0], [0]), ([], []), ([2, 1], [2]), ([], []), ([4, 3], [4]), ([1, 3, 5, 5], [1, 3, 5]), ([6, 6, 0, 1, 2, 3, 4, 5, 6], [6])])
def laws_FnExactMovedKeys.B38 : List Nat := [0, 1, 0, 7, 0, 31, 63, 127]
theorem laws_FnExactMovedKeys.tab38 : rtab .any (opsOf Try.f5 38) = laws_FnExactMovedKeys.T38 := by kernel_rfl
theorem laws_FnExactMovedKeys.bits38 : waitsOk laws_FnExactMovedKeys.T38.2 laws_FnExactMovedKeys.B38 = true := by kernel_rfl
theorem laws_FnExactMovedKeys.j0_bad {r : Bool} : ∀ {k} {y0} {y1} {y2} {y4} {y5}, laws_FnExactMovedKeys.j0 k y0 y1 y2 true y4 y5 = some r → r = false
  | 0, _, _, _, _, _, h => by simp [laws_FnExactMovedKeys.j0] at h
  | k + 1, _, _, _, _, _, h => by simp only [laws_FnExactMovedKeys.j0, if_true] at h; exact (Option.some.inj h).symm
set_option maxHeartbeats 8000000 in
set_option maxRecDepth 100000 in
theorem laws_FnExactMovedKeys.calls (k : Nat) (A0_0 : Option Addr) (c0_0 : Nat) (l0_0 : List (S56)) (A1_0 : Option Addr) (c1_0 : Nat) (l1_0 : List (S56)) (A2 : Option Addr) (c2 : Nat) (l2 : List ByteArray) (r : Bool) (w : World) (hr0_0 : Kd.C k56 w A0_0 l0_0.length l0_0) (hc0_0 : l0_0.length ≤ c0_0) (hr1_0 : Kd.C k56 w A1_0 l1_0.length l1_0) (hc1_0 : l1_0.length ≤ c1_0) (hr2 : Kd.C Kd.string w A2 l2.length l2) (hc2 : l2.length ≤ c2) (h : laws_FnExactMovedKeys.f k l0_0 l1_0 l2 = some r) (HT0_ : r = true) :
    Calls Try.prog 5 #[.agg #[.slice A0_0 l0_0.length c0_0], .agg #[.slice A1_0 l1_0.length c1_0], .slice A2 l2.length c2] w fun e w' => e = .returned (.bool r) ∧ Below w.heap.size w w' := by
  have HTr_ := Aside0.mk HT0_
  clear HT0_
  have hu24 := Try.underlying24
  have hu29 := Try.underlying29
  have HR0_0 := Aside0.mk hr0_0
  have HC0_0 := Aside0.mk hc0_0
  clear hr0_0 hc0_0
  have HR1_0 := Aside0.mk hr1_0
  have HC1_0 := Aside0.mk hc1_0
  clear hr1_0 hc1_0
  have HR2 := Aside0.mk hr2
  have HC2 := Aside0.mk hc2
  clear hr2 hc2
  have HB := Aside0.mk (Below.refl w.heap.size w)
  have H : ((laws_szRing.f l0_0 1048576).bind fun t181 => (if t181 < 0 then (some true) else ((laws_szRing.f l1_0 t181).bind fun t182 => (if t182 < 0 then (some true) else ((laws_szStringS.f k l2 t182).bind fun t183 => (if t183 < 0 then (some true) else ((laws_toRing.f k l0_0).bind fun t184 => ((laws_toRing.f k l1_0).bind fun t187 => ((laws_toStringS.f k l2).bind fun t190 => ((spec_MovedKeys.f k t184 t187 t190).bind fun t193 => ((laws_toRing.f k l0_0).bind fun t196 => ((laws_toRing.f k l1_0).bind fun t200 => ((laws_toStringS.f k l2).bind fun t204 => ((impl_MovedKeys.f k t196 t200 t204).bind fun t207 => ((laws_eqStringS.f k t207 t193).bind fun t210 => (if t210 = true then ((laws_toRing.f k l0_0).bind fun t211 => ((laws_eqRing.f k t196 t211).bind fun t214 => (if t214 = true then ((laws_toRing.f k l1_0).bind fun t215 => ((laws_eqRing.f k t200 t215).bind fun t218 => (if t218 = true then ((laws_toStringS.f k l2).bind fun t219 => ((laws_eqStringS.f k t204 t219).bind fun t222 => (if t222 = true then ((laws_markRing.f k t196 1).bind fun bt223 => ((laws_markRing.f k t200 bt223.1).bind fun bt225 => ((laws_markStringS.f k t204 bt225.1).bind fun bt227 => (if bt227.1 < 0 then (laws_FnExactMovedKeys.j0 k l2 t193 t207 true l0_0 l1_0) else ((laws_eqStringS.f k t207 t193).bind fun t229 => (laws_FnExactMovedKeys.j0 k l2 t193 t207 (!t229) l0_0 l1_0)))))) else (some false)))) else (some false)))) else (some false)))) else (some false))))))))))))))))) = some r := h
  clear h
  replace H := Option.bind_eq_some_iff.mp H
  obtain ⟨t181, A40, H⟩ := H
  replace H : (if t181 < 0 then (some true) else ((laws_szRing.f l1_0 t181).bind fun t182 => (if t182 < 0 then (some true) else ((laws_szStringS.f k l2 t182).bind fun t183 => (if t183 < 0 then (some true) else ((laws_toRing.f k l0_0).bind fun t184 => ((laws_toRing.f k l1_0).bind fun t187 => ((laws_toStringS.f k l2).bind fun t190 => ((spec_MovedKeys.f k t184 t187 t190).bind fun t193 => ((laws_toRing.f k l0_0).bind fun t196 => ((laws_toRing.f k l1_0).bind fun t200 => ((laws_toStringS.f k l2).bind fun t204 => ((impl_MovedKeys.f k t196 t200 t204).bind fun t207 => ((laws_eqStringS.f k t207 t193).bind fun t210 => (if t210 = true then ((laws_toRing.f k l0_0).bind fun t211 => ((laws_eqRing.f k t196 t211).bind fun t214 => (if t214 = true then ((laws_toRing.f k l1_0).bind fun t215 => ((laws_eqRing.f k t200 t215).bind fun t218 => (if t218 = true then ((laws_toStringS.f k l2).bind fun t219 => ((laws_eqStringS.f k t204 t219).bind fun t222 => (if t222 = true then ((laws_markRing.f k t196 1).bind fun bt223 => ((laws_markRing.f k t200 bt223.1).bind fun bt225 => ((laws_markStringS.f k t204 bt225.1).bind fun bt227 => (if bt227.1 < 0 then (laws_FnExactMovedKeys.j0 k l2 t193 t207 true l0_0 l1_0) else ((laws_eqStringS.f k t207 t193).bind fun t229 => (laws_FnExactMovedKeys.j0 k l2 t193 t207 (!t229) l0_0 l1_0)))))) else (some false)))) else (some false)))) else (some false)))) else (some false)))))))))))))))) = some r := H
  have A4 := Aside0.mk A40
  clear A40
  by_cases c5 : t181 < 0
  · rw [if_pos c5] at H
    have c5b0 : decide (t181 < 0) = true := decide_eq_true c5
    clear c5
    obtain rfl := Option.some.inj H
    go_enter Try.func5, Try.ntmps5
    go_wp2_with (first|((with_reducible refine gate_dst (N := 3) rfl ?_); refine box_event ?hg (N := 3) ?hd (cs := #[.slice A0_0 l0_0.length c0_0]) (t := 24) ?hr ?_; (case hd => rfl); (case hg => rfl); (case hr => first|(go_simp; done)|(go_simp; rfl)); intro gb179 hg w6 hbox hb; have n0_ := Aside0.mk (zN (by repeat (first|(with_reducible first|exact HB.out|apply zI|apply zG|apply zH)|exact HB.out)) hb); have n1_ := Aside0.mk (hbox); have n2_ := Aside0.mk ((by rw [hg]; exact (below_size (by repeat (first|(with_reducible first|exact HB.out|apply zI|apply zG|apply zH)|exact HB.out))) : w.heap.size ≤ gb179)); have n3_ := Aside0.mk ((by rw [hg]; exact (below_size (by repeat (first|(with_reducible first|exact HB.out|apply zI|apply zG|apply zH)|exact HB.out))) : w.heap.size ≤ gb179)); clear HB; have HB := n0_; have BK179 := n1_; have GW179 := n2_; have GE179 := n3_; clear n0_ n1_ n2_ n3_; clear hb hbox hg)|((with_reducible refine gate_dst (N := 4) rfl ?_); refine box_event ?hg (N := 4) ?hd (cs := #[.slice A1_0 l1_0.length c1_0]) (t := 24) ?hr ?_; (case hd => rfl); (case hg => rfl); (case hr => first|(go_simp; done)|(go_simp; rfl)); intro gb180 hg w7 hbox hb; have n0_ := Aside0.mk (zK (g := gb179) (o := .cells #[.slice A0_0 l0_0.length c0_0] 24 (0, 0)) (by first|exact BK179.out|((with_reducible repeat (first|refine zA ?_ _|refine zC ?_|refine zB ?_ _)); exact BK179.out)) hb); have n1_ := Aside0.mk (zN (by repeat (first|(with_reducible first|exact HB.out|apply zI|apply zG|apply zH|refine zJ ?_ GE179.out)|exact HB.out)) hb); have n2_ := Aside0.mk (hbox); have n3_ := Aside0.mk ((by rw [hg]; exact (below_size (by repeat (first|(with_reducible first|exact HB.out|apply zI|apply zG|apply zH|refine zJ ?_ GE179.out)|exact HB.out))) : w.heap.size ≤ gb180)); have n4_ := Aside0.mk ((by rw [hg]; exact (below_size (by repeat (first|(with_reducible first|exact HB.out|apply zI|apply zG|apply zH|refine zJ ?_ GE179.out)|exact HB.out))) : w.heap.size ≤ gb180)); have n5_ := Aside0.mk ((by rw [hg]; exact Nat.ne_of_lt (blk_lt (g := gb179) (o := .cells #[.slice A0_0 l0_0.length c0_0] 24 (0, 0)) (by first|exact BK179.out|((with_reducible repeat (first|refine zA ?_ _|refine zC ?_|refine zB ?_ _)); exact BK179.out))) : gb179 ≠ gb180)); have n6_ := Aside0.mk ((by rw [hg]; exact Nat.ne_of_gt (blk_lt (g := gb179) (o := .cells #[.slice A0_0 l0_0.length c0_0] 24 (0, 0)) (by first|exact BK179.out|((with_reducible repeat (first|refine zA ?_ _|refine zC ?_|refine zB ?_ _)); exact BK179.out))) : gb180 ≠ gb179)); clear BK179; clear HB; have BK179 := n0_; have HB := n1_; have BK180 := n2_; have GW180 := n3_; have GE180 := n4_; have NB179_180 := n5_; have NB180_179 := n6_; clear n0_ n1_ n2_ n3_ n4_ n5_ n6_; clear hb hbox hg; have hnb8 := NB179_180.out; have hnc8 := NB180_179.out; have hcz9_0 : w7.cell? ⟨gb179, 0, none⟩ = some (.slice A0_0 l0_0.length c0_0) := (zO BK179.out 0).trans rfl; have hfz9_0 := zP BK179.out 0)|((with_reducible refine gate_callee (f := 6) rfl ?_); refine goesL_ (some 19) rfl rfl Try.func6 (by kernel_rfl) rfl #[.agg #[.slice A0_0 l0_0.length c0_0], .int .i64 1048576] rfl (by (try simp only [List.map_toArray, List.map_cons, List.map_nil]); first|done|rfl|(simp only [List.length_drop, List.length_take]; rfl)) ?_; (with_reducible refine (laws_szRing.calls _ _ l0_0 1048576 t181 _ ?side1 ?side2 A4.out).mono ?_); (case side1 => repeat (first|exact (Kd.C_below HR0_0.out HB.out)|(with_reducible refine Kd.C_alloc ?_ _)|(with_reducible refine Kd.C_drewN ?_ _)|(with_reducible refine Kd.C_drew ?_))); (case side2 => exact HC0_0.out); rintro e w10 ⟨rfl, hb⟩; refine ⟨_, rfl, ?_⟩; have n0_ := Aside0.mk (zK (g := gb179) (o := .cells #[.slice A0_0 l0_0.length c0_0] 24 (0, 0)) (by first|exact BK179.out|((with_reducible repeat (first|refine zA ?_ _|refine zC ?_|refine zB ?_ _)); exact BK179.out)) hb); have n1_ := Aside0.mk (zK (g := gb180) (o := .cells #[.slice A1_0 l1_0.length c1_0] 24 (0, 0)) (by first|exact BK180.out|((with_reducible repeat (first|refine zA ?_ _|refine zC ?_|refine zB ?_ _)); exact BK180.out)) hb); have n2_ := Aside0.mk (zN (by repeat (first|(with_reducible first|exact HB.out|apply zI|apply zG|apply zH|refine zJ ?_ GE179.out|refine zJ ?_ GE180.out)|exact HB.out)) hb); clear BK179; clear BK180; clear HB; have BK179 := n0_; have BK180 := n1_; have HB := n2_; clear n0_ n1_ n2_; (try clear hb); (try clear hb2); (try clear hk); (try clear hi)))
    go_ret
    exact ⟨by first|rfl|(simp [errW_none, errW_some] <;> rfl)|(simp [*, errW_none, errW_some] <;> rfl), by repeat (first|(with_reducible first|exact HB.out|apply zI|apply zG|apply zH|refine zJ ?_ GE179.out|refine zJ ?_ GE180.out)|exact HB.out)⟩
  · rw [if_neg c5] at H
    have c5b0 : decide (t181 < 0) = false := decide_eq_false c5
    clear c5
    replace H := Option.bind_eq_some_iff.mp H
    obtain ⟨t182, A110, H⟩ := H
    replace H : (if t182 < 0 then (some true) else ((laws_szStringS.f k l2 t182).bind fun t183 => (if t183 < 0 then (some true) else ((laws_toRing.f k l0_0).bind fun t184 => ((laws_toRing.f k l1_0).bind fun t187 => ((laws_toStringS.f k l2).bind fun t190 => ((spec_MovedKeys.f k t184 t187 t190).bind fun t193 => ((laws_toRing.f k l0_0).bind fun t196 => ((laws_toRing.f k l1_0).bind fun t200 => ((laws_toStringS.f k l2).bind fun t204 => ((impl_MovedKeys.f k t196 t200 t204).bind fun t207 => ((laws_eqStringS.f k t207 t193).bind fun t210 => (if t210 = true then ((laws_toRing.f k l0_0).bind fun t211 => ((laws_eqRing.f k t196 t211).bind fun t214 => (if t214 = true then ((laws_toRing.f k l1_0).bind fun t215 => ((laws_eqRing.f k t200 t215).bind fun t218 => (if t218 = true then ((laws_toStringS.f k l2).bind fun t219 => ((laws_eqStringS.f k t204 t219).bind fun t222 => (if t222 = true then ((laws_markRing.f k t196 1).bind fun bt223 => ((laws_markRing.f k t200 bt223.1).bind fun bt225 => ((laws_markStringS.f k t204 bt225.1).bind fun bt227 => (if bt227.1 < 0 then (laws_FnExactMovedKeys.j0 k l2 t193 t207 true l0_0 l1_0) else ((laws_eqStringS.f k t207 t193).bind fun t229 => (laws_FnExactMovedKeys.j0 k l2 t193 t207 (!t229) l0_0 l1_0)))))) else (some false)))) else (some false)))) else (some false)))) else (some false)))))))))))))) = some r := H
    have A11 := Aside0.mk A110
    clear A110
    by_cases c12 : t182 < 0
    · rw [if_pos c12] at H
      have c12b0 : decide (t182 < 0) = true := decide_eq_true c12
      clear c12
      obtain rfl := Option.some.inj H
      go_enter Try.func5, Try.ntmps5
      go_wp2_with (first|((with_reducible refine gate_dst (N := 3) rfl ?_); refine box_event ?hg (N := 3) ?hd (cs := #[.slice A0_0 l0_0.length c0_0]) (t := 24) ?hr ?_; (case hd => rfl); (case hg => rfl); (case hr => first|(go_simp; done)|(go_simp; rfl)); intro gb179 hg w13 hbox hb; have n0_ := Aside0.mk (zN (by repeat (first|(with_reducible first|exact HB.out|apply zI|apply zG|apply zH)|exact HB.out)) hb); have n1_ := Aside0.mk (hbox); have n2_ := Aside0.mk ((by rw [hg]; exact (below_size (by repeat (first|(with_reducible first|exact HB.out|apply zI|apply zG|apply zH)|exact HB.out))) : w.heap.size ≤ gb179)); have n3_ := Aside0.mk ((by rw [hg]; exact (below_size (by repeat (first|(with_reducible first|exact HB.out|apply zI|apply zG|apply zH)|exact HB.out))) : w.heap.size ≤ gb179)); clear HB; have HB := n0_; have BK179 := n1_; have GW179 := n2_; have GE179 := n3_; clear n0_ n1_ n2_ n3_; clear hb hbox hg)|((with_reducible refine gate_dst (N := 4) rfl ?_); refine box_event ?hg (N := 4) ?hd (cs := #[.slice A1_0 l1_0.length c1_0]) (t := 24) ?hr ?_; (case hd => rfl); (case hg => rfl); (case hr => first|(go_simp; done)|(go_simp; rfl)); intro gb180 hg w14 hbox hb; have n0_ := Aside0.mk (zK (g := gb179) (o := .cells #[.slice A0_0 l0_0.length c0_0] 24 (0, 0)) (by first|exact BK179.out|((with_reducible repeat (first|refine zA ?_ _|refine zC ?_|refine zB ?_ _)); exact BK179.out)) hb); have n1_ := Aside0.mk (zN (by repeat (first|(with_reducible first|exact HB.out|apply zI|apply zG|apply zH|refine zJ ?_ GE179.out)|exact HB.out)) hb); have n2_ := Aside0.mk (hbox); have n3_ := Aside0.mk ((by rw [hg]; exact (below_size (by repeat (first|(with_reducible first|exact HB.out|apply zI|apply zG|apply zH|refine zJ ?_ GE179.out)|exact HB.out))) : w.heap.size ≤ gb180)); have n4_ := Aside0.mk ((by rw [hg]; exact (below_size (by repeat (first|(with_reducible first|exact HB.out|apply zI|apply zG|apply zH|refine zJ ?_ GE179.out)|exact HB.out))) : w.heap.size ≤ gb180)); have n5_ := Aside0.mk ((by rw [hg]; exact Nat.ne_of_lt (blk_lt (g := gb179) (o := .cells #[.slice A0_0 l0_0.length c0_0] 24 (0, 0)) (by first|exact BK179.out|((with_reducible repeat (first|refine zA ?_ _|refine zC ?_|refine zB ?_ _)); exact BK179.out))) : gb179 ≠ gb180)); have n6_ := Aside0.mk ((by rw [hg]; exact Nat.ne_of_gt (blk_lt (g := gb179) (o := .cells #[.slice A0_0 l0_0.length c0_0] 24 (0, 0)) (by first|exact BK179.out|((with_reducible repeat (first|refine zA ?_ _|refine zC ?_|refine zB ?_ _)); exact BK179.out))) : gb180 ≠ gb179)); clear BK179; clear HB; have BK179 := n0_; have HB := n1_; have BK180 := n2_; have GW180 := n3_; have GE180 := n4_; have NB179_180 := n5_; have NB180_179 := n6_; clear n0_ n1_ n2_ n3_ n4_ n5_ n6_; clear hb hbox hg; have hnb15 := NB179_180.out; have hnc15 := NB180_179.out; have hcz16_0 : w14.cell? ⟨gb179, 0, none⟩ = some (.slice A0_0 l0_0.length c0_0) := (zO BK179.out 0).trans rfl; have hfz16_0 := zP BK179.out 0)|((with_reducible refine gate_callee (f := 6) rfl ?_); refine goesL_ (some 19) rfl rfl Try.func6 (by kernel_rfl) rfl #[.agg #[.slice A0_0 l0_0.length c0_0], .int .i64 1048576] rfl (by (try simp only [List.map_toArray, List.map_cons, List.map_nil]); first|done|rfl|(simp only [List.length_drop, List.length_take]; rfl)) ?_; (with_reducible refine (laws_szRing.calls _ _ l0_0 1048576 t181 _ ?side1 ?side2 A4.out).mono ?_); (case side1 => repeat (first|exact (Kd.C_below HR0_0.out HB.out)|(with_reducible refine Kd.C_alloc ?_ _)|(with_reducible refine Kd.C_drewN ?_ _)|(with_reducible refine Kd.C_drew ?_))); (case side2 => exact HC0_0.out); rintro e w17 ⟨rfl, hb⟩; refine ⟨_, rfl, ?_⟩; have n0_ := Aside0.mk (zK (g := gb179) (o := .cells #[.slice A0_0 l0_0.length c0_0] 24 (0, 0)) (by first|exact BK179.out|((with_reducible repeat (first|refine zA ?_ _|refine zC ?_|refine zB ?_ _)); exact BK179.out)) hb); have n1_ := Aside0.mk (zK (g := gb180) (o := .cells #[.slice A1_0 l1_0.length c1_0] 24 (0, 0)) (by first|exact BK180.out|((with_reducible repeat (first|refine zA ?_ _|refine zC ?_|refine zB ?_ _)); exact BK180.out)) hb); have n2_ := Aside0.mk (zN (by repeat (first|(with_reducible first|exact HB.out|apply zI|apply zG|apply zH|refine zJ ?_ GE179.out|refine zJ ?_ GE180.out)|exact HB.out)) hb); clear BK179; clear BK180; clear HB; have BK179 := n0_; have BK180 := n1_; have HB := n2_; clear n0_ n1_ n2_; (try clear hb); (try clear hb2); (try clear hk); (try clear hi); have hcz18_0 : w17.cell? ⟨gb180, 0, none⟩ = some (.slice A1_0 l1_0.length c1_0) := (zO BK180.out 0).trans rfl; have hfz18_0 := zP BK180.out 0)|((with_reducible refine gate_callee (f := 6) rfl ?_); refine goesL_ (some 24) rfl rfl Try.func6 (by kernel_rfl) rfl #[.agg #[.slice A1_0 l1_0.length c1_0], .int .i64 t181] rfl (by (try simp only [List.map_toArray, List.map_cons, List.map_nil]); first|done|rfl|(simp only [List.length_drop, List.length_take]; rfl)) ?_; (with_reducible refine (laws_szRing.calls _ _ l1_0 t181 t182 _ ?side1 ?side2 A11.out).mono ?_); (case side1 => repeat (first|exact (Kd.C_below HR1_0.out HB.out)|(with_reducible refine Kd.C_alloc ?_ _)|(with_reducible refine Kd.C_drewN ?_ _)|(with_reducible refine Kd.C_drew ?_))); (case side2 => exact HC1_0.out); rintro e w19 ⟨rfl, hb⟩; refine ⟨_, rfl, ?_⟩; have n0_ := Aside0.mk (zK (g := gb179) (o := .cells #[.slice A0_0 l0_0.length c0_0] 24 (0, 0)) (by first|exact BK179.out|((with_reducible repeat (first|refine zA ?_ _|refine zC ?_|refine zB ?_ _)); exact BK179.out)) hb); have n1_ := Aside0.mk (zK (g := gb180) (o := .cells #[.slice A1_0 l1_0.length c1_0] 24 (0, 0)) (by first|exact BK180.out|((with_reducible repeat (first|refine zA ?_ _|refine zC ?_|refine zB ?_ _)); exact BK180.out)) hb); have n2_ := Aside0.mk (zN (by repeat (first|(with_reducible first|exact HB.out|apply zI|apply zG|apply zH|refine zJ ?_ GE179.out|refine zJ ?_ GE180.out)|exact HB.out)) hb); clear BK179; clear BK180; clear HB; have BK179 := n0_; have BK180 := n1_; have HB := n2_; clear n0_ n1_ n2_; (try clear hb); (try clear hb2); (try clear hk); (try clear hi)))
      go_ret
      exact ⟨by first|rfl|(simp [errW_none, errW_some] <;> rfl)|(simp [*, errW_none, errW_some] <;> rfl), by repeat (first|(with_reducible first|exact HB.out|apply zI|apply zG|apply zH|refine zJ ?_ GE179.out|refine zJ ?_ GE180.out)|exact HB.out)⟩
    · rw [if_neg c12] at H
      have c12b0 : decide (t182 < 0) = false := decide_eq_false c12
      clear c12
      replace H := Option.bind_eq_some_iff.mp H
      obtain ⟨t183, A200, H⟩ := H
      replace H : (if t183 < 0 then (some true) else ((laws_toRing.f k l0_0).bind fun t184 => ((laws_toRing.f k l1_0).bind fun t187 => ((laws_toStringS.f k l2).bind fun t190 => ((spec_MovedKeys.f k t184 t187 t190).bind fun t193 => ((laws_toRing.f k l0_0).bind fun t196 => ((laws_toRing.f k l1_0).bind fun t200 => ((laws_toStringS.f k l2).bind fun t204 => ((impl_MovedKeys.f k t196 t200 t204).bind fun t207 => ((laws_eqStringS.f k t207 t193).bind fun t210 => (if t210 = true then ((laws_toRing.f k l0_0).bind fun t211 => ((laws_eqRing.f k t196 t211).bind fun t214 => (if t214 = true then ((laws_toRing.f k l1_0).bind fun t215 => ((laws_eqRing.f k t200 t215).bind fun t218 => (if t218 = true then ((laws_toStringS.f k l2).bind fun t219 => ((laws_eqStringS.f k t204 t219).bind fun t222 => (if t222 = true then ((laws_markRing.f k t196 1).bind fun bt223 => ((laws_markRing.f k t200 bt223.1).bind fun bt225 => ((laws_markStringS.f k t204 bt225.1).bind fun bt227 => (if bt227.1 < 0 then (laws_FnExactMovedKeys.j0 k l2 t193 t207 true l0_0 l1_0) else ((laws_eqStringS.f k t207 t193).bind fun t229 => (laws_FnExactMovedKeys.j0 k l2 t193 t207 (!t229) l0_0 l1_0)))))) else (some false)))) else (some false)))) else (some false)))) else (some false)))))))))))) = some r := H
      have A20 := Aside0.mk A200
      clear A200
      by_cases c21 : t183 < 0
      · rw [if_pos c21] at H
        have c21b0 : decide (t183 < 0) = true := decide_eq_true c21
        clear c21
        obtain rfl := Option.some.inj H
        go_enter Try.func5, Try.ntmps5
        go_wp2_with (first|((with_reducible refine gate_dst (N := 3) rfl ?_); refine box_event ?hg (N := 3) ?hd (cs := #[.slice A0_0 l0_0.length c0_0]) (t := 24) ?hr ?_; (case hd => rfl); (case hg => rfl); (case hr => first|(go_simp; done)|(go_simp; rfl)); intro gb179 hg w22 hbox hb; have n0_ := Aside0.mk (zN (by repeat (first|(with_reducible first|exact HB.out|apply zI|apply zG|apply zH)|exact HB.out)) hb); have n1_ := Aside0.mk (hbox); have n2_ := Aside0.mk ((by rw [hg]; exact (below_size (by repeat (first|(with_reducible first|exact HB.out|apply zI|apply zG|apply zH)|exact HB.out))) : w.heap.size ≤ gb179)); have n3_ := Aside0.mk ((by rw [hg]; exact (below_size (by repeat (first|(with_reducible first|exact HB.out|apply zI|apply zG|apply zH)|exact HB.out))) : w.heap.size ≤ gb179)); clear HB; have HB := n0_; have BK179 := n1_; have GW179 := n2_; have GE179 := n3_; clear n0_ n1_ n2_ n3_; clear hb hbox hg)|((with_reducible refine gate_dst (N := 4) rfl ?_); refine box_event ?hg (N := 4) ?hd (cs := #[.slice A1_0 l1_0.length c1_0]) (t := 24) ?hr ?_; (case hd => rfl); (case hg => rfl); (case hr => first|(go_simp; done)|(go_simp; rfl)); intro gb180 hg w23 hbox hb; have n0_ := Aside0.mk (zK (g := gb179) (o := .cells #[.slice A0_0 l0_0.length c0_0] 24 (0, 0)) (by first|exact BK179.out|((with_reducible repeat (first|refine zA ?_ _|refine zC ?_|refine zB ?_ _)); exact BK179.out)) hb); have n1_ := Aside0.mk (zN (by repeat (first|(with_reducible first|exact HB.out|apply zI|apply zG|apply zH|refine zJ ?_ GE179.out)|exact HB.out)) hb); have n2_ := Aside0.mk (hbox); have n3_ := Aside0.mk ((by rw [hg]; exact (below_size (by repeat (first|(with_reducible first|exact HB.out|apply zI|apply zG|apply zH|refine zJ ?_ GE179.out)|exact HB.out))) : w.heap.size ≤ gb180)); have n4_ := Aside0.mk ((by rw [hg]; exact (below_size (by repeat (first|(with_reducible first|exact HB.out|apply zI|apply zG|apply zH|refine zJ ?_ GE179.out)|exact HB.out))) : w.heap.size ≤ gb180)); have n5_ := Aside0.mk ((by rw [hg]; exact Nat.ne_of_lt (blk_lt (g := gb179) (o := .cells #[.slice A0_0 l0_0.length c0_0] 24 (0, 0)) (by first|exact BK179.out|((with_reducible repeat (first|refine zA ?_ _|refine zC ?_|refine zB ?_ _)); exact BK179.out))) : gb179 ≠ gb180)); have n6_ := Aside0.mk ((by rw [hg]; exact Nat.ne_of_gt (blk_lt (g := gb179) (o := .cells #[.slice A0_0 l0_0.length c0_0] 24 (0, 0)) (by first|exact BK179.out|((with_reducible repeat (first|refine zA ?_ _|refine zC ?_|refine zB ?_ _)); exact BK179.out))) : gb180 ≠ gb179)); clear BK179; clear HB; have BK179 := n0_; have HB := n1_; have BK180 := n2_; have GW180 := n3_; have GE180 := n4_; have NB179_180 := n5_; have NB180_179 := n6_; clear n0_ n1_ n2_ n3_ n4_ n5_ n6_; clear hb hbox hg; have hnb24 := NB179_180.out; have hnc24 := NB180_179.out; have hcz25_0 : w23.cell? ⟨gb179, 0, none⟩ = some (.slice A0_0 l0_0.length c0_0) := (zO BK179.out 0).trans rfl; have hfz25_0 := zP BK179.out 0)|((with_reducible refine gate_callee (f := 6) rfl ?_); refine goesL_ (some 19) rfl rfl Try.func6 (by kernel_rfl) rfl #[.agg #[.slice A0_0 l0_0.length c0_0], .int .i64 1048576] rfl (by (try simp only [List.map_toArray, List.map_cons, List.map_nil]); first|done|rfl|(simp only [List.length_drop, List.length_take]; rfl)) ?_; (with_reducible refine (laws_szRing.calls _ _ l0_0 1048576 t181 _ ?side1 ?side2 A4.out).mono ?_); (case side1 => repeat (first|exact (Kd.C_below HR0_0.out HB.out)|(with_reducible refine Kd.C_alloc ?_ _)|(with_reducible refine Kd.C_drewN ?_ _)|(with_reducible refine Kd.C_drew ?_))); (case side2 => exact HC0_0.out); rintro e w26 ⟨rfl, hb⟩; refine ⟨_, rfl, ?_⟩; have n0_ := Aside0.mk (zK (g := gb179) (o := .cells #[.slice A0_0 l0_0.length c0_0] 24 (0, 0)) (by first|exact BK179.out|((with_reducible repeat (first|refine zA ?_ _|refine zC ?_|refine zB ?_ _)); exact BK179.out)) hb); have n1_ := Aside0.mk (zK (g := gb180) (o := .cells #[.slice A1_0 l1_0.length c1_0] 24 (0, 0)) (by first|exact BK180.out|((with_reducible repeat (first|refine zA ?_ _|refine zC ?_|refine zB ?_ _)); exact BK180.out)) hb); have n2_ := Aside0.mk (zN (by repeat (first|(with_reducible first|exact HB.out|apply zI|apply zG|apply zH|refine zJ ?_ GE179.out|refine zJ ?_ GE180.out)|exact HB.out)) hb); clear BK179; clear BK180; clear HB; have BK179 := n0_; have BK180 := n1_; have HB := n2_; clear n0_ n1_ n2_; (try clear hb); (try clear hb2); (try clear hk); (try clear hi); have hcz27_0 : w26.cell? ⟨gb180, 0, none⟩ = some (.slice A1_0 l1_0.length c1_0) := (zO BK180.out 0).trans rfl; have hfz27_0 := zP BK180.out 0)|((with_reducible refine gate_callee (f := 6) rfl ?_); refine goesL_ (some 24) rfl rfl Try.func6 (by kernel_rfl) rfl #[.agg #[.slice A1_0 l1_0.length c1_0], .int .i64 t181] rfl (by (try simp only [List.map_toArray, List.map_cons, List.map_nil]); first|done|rfl|(simp only [List.length_drop, List.length_take]; rfl)) ?_; (with_reducible refine (laws_szRing.calls _ _ l1_0 t181 t182 _ ?side1 ?side2 A11.out).mono ?_); (case side1 => repeat (first|exact (Kd.C_below HR1_0.out HB.out)|(with_reducible refine Kd.C_alloc ?_ _)|(with_reducible refine Kd.C_drewN ?_ _)|(with_reducible refine Kd.C_drew ?_))); (case side2 => exact HC1_0.out); rintro e w28 ⟨rfl, hb⟩; refine ⟨_, rfl, ?_⟩; have n0_ := Aside0.mk (zK (g := gb179) (o := .cells #[.slice A0_0 l0_0.length c0_0] 24 (0, 0)) (by first|exact BK179.out|((with_reducible repeat (first|refine zA ?_ _|refine zC ?_|refine zB ?_ _)); exact BK179.out)) hb); have n1_ := Aside0.mk (zK (g := gb180) (o := .cells #[.slice A1_0 l1_0.length c1_0] 24 (0, 0)) (by first|exact BK180.out|((with_reducible repeat (first|refine zA ?_ _|refine zC ?_|refine zB ?_ _)); exact BK180.out)) hb); have n2_ := Aside0.mk (zN (by repeat (first|(with_reducible first|exact HB.out|apply zI|apply zG|apply zH|refine zJ ?_ GE179.out|refine zJ ?_ GE180.out)|exact HB.out)) hb); clear BK179; clear BK180; clear HB; have BK179 := n0_; have BK180 := n1_; have HB := n2_; clear n0_ n1_ n2_; (try clear hb); (try clear hb2); (try clear hk); (try clear hi))|((with_reducible refine gate_callee (f := 17) rfl ?_); refine goesL_ (some 29) rfl rfl Try.func17 (by kernel_rfl) rfl #[.slice A2 l2.length c2, .int .i64 t182] rfl (by (try simp only [List.map_toArray, List.map_cons, List.map_nil]); first|done|rfl|(simp only [List.length_drop, List.length_take]; rfl)) ?_; (with_reducible refine (laws_szStringS.calls k _ _ l2 t182 t183 _ ?side1 ?side2 A20.out).mono ?_); (case side1 => repeat (first|exact (Kd.C_below HR2.out HB.out)|(with_reducible refine Kd.C_alloc ?_ _)|(with_reducible refine Kd.C_drewN ?_ _)|(with_reducible refine Kd.C_drew ?_))); (case side2 => exact HC2.out); rintro e w' ⟨rfl, ⟨nd, rfl⟩⟩; refine ⟨_, rfl, ?_⟩))
        go_ret
        exact ⟨by first|rfl|(simp [errW_none, errW_some] <;> rfl)|(simp [*, errW_none, errW_some] <;> rfl), by repeat (first|(with_reducible first|exact HB.out|apply zI|apply zG|apply zH|refine zJ ?_ GE179.out|refine zJ ?_ GE180.out)|exact HB.out)⟩
      · rw [if_neg c21] at H
        have c21b0 : decide (t183 < 0) = false := decide_eq_false c21
        clear c21
        replace H := Option.bind_eq_some_iff.mp H
        obtain ⟨t184, A290, H⟩ := H
        replace H : ((laws_toRing.f k l1_0).bind fun t187 => ((laws_toStringS.f k l2).bind fun t190 => ((spec_MovedKeys.f k t184 t187 t190).bind fun t193 => ((laws_toRing.f k l0_0).bind fun t196 => ((laws_toRing.f k l1_0).bind fun t200 => ((laws_toStringS.f k l2).bind fun t204 => ((impl_MovedKeys.f k t196 t200 t204).bind fun t207 => ((laws_eqStringS.f k t207 t193).bind fun t210 => (if t210 = true then ((laws_toRing.f k l0_0).bind fun t211 => ((laws_eqRing.f k t196 t211).bind fun t214 => (if t214 = true then ((laws_toRing.f k l1_0).bind fun t215 => ((laws_eqRing.f k t200 t215).bind fun t218 => (if t218 = true then ((laws_toStringS.f k l2).bind fun t219 => ((laws_eqStringS.f k t204 t219).bind fun t222 => (if t222 = true then ((laws_markRing.f k t196 1).bind fun bt223 => ((laws_markRing.f k t200 bt223.1).bind fun bt225 => ((laws_markStringS.f k t204 bt225.1).bind fun bt227 => (if bt227.1 < 0 then (laws_FnExactMovedKeys.j0 k l2 t193 t207 true l0_0 l1_0) else ((laws_eqStringS.f k t207 t193).bind fun t229 => (laws_FnExactMovedKeys.j0 k l2 t193 t207 (!t229) l0_0 l1_0)))))) else (some false)))) else (some false)))) else (some false)))) else (some false)))))))))) = some r := H
        have A29 := Aside0.mk A290
        clear A290
        replace H := Option.bind_eq_some_iff.mp H
        obtain ⟨t187, A300, H⟩ := H
        replace H : ((laws_toStringS.f k l2).bind fun t190 => ((spec_MovedKeys.f k t184 t187 t190).bind fun t193 => ((laws_toRing.f k l0_0).bind fun t196 => ((laws_toRing.f k l1_0).bind fun t200 => ((laws_toStringS.f k l2).bind fun t204 => ((impl_MovedKeys.f k t196 t200 t204).bind fun t207 => ((laws_eqStringS.f k t207 t193).bind fun t210 => (if t210 = true then ((laws_toRing.f k l0_0).bind fun t211 => ((laws_eqRing.f k t196 t211).bind fun t214 => (if t214 = true then ((laws_toRing.f k l1_0).bind fun t215 => ((laws_eqRing.f k t200 t215).bind fun t218 => (if t218 = true then ((laws_toStringS.f k l2).bind fun t219 => ((laws_eqStringS.f k t204 t219).bind fun t222 => (if t222 = true then ((laws_markRing.f k t196 1).bind fun bt223 => ((laws_markRing.f k t200 bt223.1).bind fun bt225 => ((laws_markStringS.f k t204 bt225.1).bind fun bt227 => (if bt227.1 < 0 then (laws_FnExactMovedKeys.j0 k l2 t193 t207 true l0_0 l1_0) else ((laws_eqStringS.f k t207 t193).bind fun t229 => (laws_FnExactMovedKeys.j0 k l2 t193 t207 (!t229) l0_0 l1_0)))))) else (some false)))) else (some false)))) else (some false)))) else (some false))))))))) = some r := H
        have A30 := Aside0.mk A300
        clear A300
        replace H := Option.bind_eq_some_iff.mp H
        obtain ⟨t190, A310, H⟩ := H
        replace H : ((spec_MovedKeys.f k t184 t187 t190).bind fun t193 => ((laws_toRing.f k l0_0).bind fun t196 => ((laws_toRing.f k l1_0).bind fun t200 => ((laws_toStringS.f k l2).bind fun t204 => ((impl_MovedKeys.f k t196 t200 t204).bind fun t207 => ((laws_eqStringS.f k t207 t193).bind fun t210 => (if t210 = true then ((laws_toRing.f k l0_0).bind fun t211 => ((laws_eqRing.f k t196 t211).bind fun t214 => (if t214 = true then ((laws_toRing.f k l1_0).bind fun t215 => ((laws_eqRing.f k t200 t215).bind fun t218 => (if t218 = true then ((laws_toStringS.f k l2).bind fun t219 => ((laws_eqStringS.f k t204 t219).bind fun t222 => (if t222 = true then ((laws_markRing.f k t196 1).bind fun bt223 => ((laws_markRing.f k t200 bt223.1).bind fun bt225 => ((laws_markStringS.f k t204 bt225.1).bind fun bt227 => (if bt227.1 < 0 then (laws_FnExactMovedKeys.j0 k l2 t193 t207 true l0_0 l1_0) else ((laws_eqStringS.f k t207 t193).bind fun t229 => (laws_FnExactMovedKeys.j0 k l2 t193 t207 (!t229) l0_0 l1_0)))))) else (some false)))) else (some false)))) else (some false)))) else (some false)))))))) = some r := H
        have A31 := Aside0.mk A310
        clear A310
        replace H := Option.bind_eq_some_iff.mp H
        obtain ⟨t193, A320, H⟩ := H
        replace H : ((laws_toRing.f k l0_0).bind fun t196 => ((laws_toRing.f k l1_0).bind fun t200 => ((laws_toStringS.f k l2).bind fun t204 => ((impl_MovedKeys.f k t196 t200 t204).bind fun t207 => ((laws_eqStringS.f k t207 t193).bind fun t210 => (if t210 = true then ((laws_toRing.f k l0_0).bind fun t211 => ((laws_eqRing.f k t196 t211).bind fun t214 => (if t214 = true then ((laws_toRing.f k l1_0).bind fun t215 => ((laws_eqRing.f k t200 t215).bind fun t218 => (if t218 = true then ((laws_toStringS.f k l2).bind fun t219 => ((laws_eqStringS.f k t204 t219).bind fun t222 => (if t222 = true then ((laws_markRing.f k t196 1).bind fun bt223 => ((laws_markRing.f k t200 bt223.1).bind fun bt225 => ((laws_markStringS.f k t204 bt225.1).bind fun bt227 => (if bt227.1 < 0 then (laws_FnExactMovedKeys.j0 k l2 t193 t207 true l0_0 l1_0) else ((laws_eqStringS.f k t207 t193).bind fun t229 => (laws_FnExactMovedKeys.j0 k l2 t193 t207 (!t229) l0_0 l1_0)))))) else (some false)))) else (some false)))) else (some false)))) else (some false))))))) = some r := H
        have A32 := Aside0.mk A320
        clear A320
        replace H := Option.bind_eq_some_iff.mp H
        obtain ⟨t196, A330, H⟩ := H
        replace H : ((laws_toRing.f k l1_0).bind fun t200 => ((laws_toStringS.f k l2).bind fun t204 => ((impl_MovedKeys.f k t196 t200 t204).bind fun t207 => ((laws_eqStringS.f k t207 t193).bind fun t210 => (if t210 = true then ((laws_toRing.f k l0_0).bind fun t211 => ((laws_eqRing.f k t196 t211).bind fun t214 => (if t214 = true then ((laws_toRing.f k l1_0).bind fun t215 => ((laws_eqRing.f k t200 t215).bind fun t218 => (if t218 = true then ((laws_toStringS.f k l2).bind fun t219 => ((laws_eqStringS.f k t204 t219).bind fun t222 => (if t222 = true then ((laws_markRing.f k t196 1).bind fun bt223 => ((laws_markRing.f k t200 bt223.1).bind fun bt225 => ((laws_markStringS.f k t204 bt225.1).bind fun bt227 => (if bt227.1 < 0 then (laws_FnExactMovedKeys.j0 k l2 t193 t207 true l0_0 l1_0) else ((laws_eqStringS.f k t207 t193).bind fun t229 => (laws_FnExactMovedKeys.j0 k l2 t193 t207 (!t229) l0_0 l1_0)))))) else (some false)))) else (some false)))) else (some false)))) else (some false)))))) = some r := H
        have A33 := Aside0.mk A330
        clear A330
        replace H := Option.bind_eq_some_iff.mp H
        obtain ⟨t200, A340, H⟩ := H
        replace H : ((laws_toStringS.f k l2).bind fun t204 => ((impl_MovedKeys.f k t196 t200 t204).bind fun t207 => ((laws_eqStringS.f k t207 t193).bind fun t210 => (if t210 = true then ((laws_toRing.f k l0_0).bind fun t211 => ((laws_eqRing.f k t196 t211).bind fun t214 => (if t214 = true then ((laws_toRing.f k l1_0).bind fun t215 => ((laws_eqRing.f k t200 t215).bind fun t218 => (if t218 = true then ((laws_toStringS.f k l2).bind fun t219 => ((laws_eqStringS.f k t204 t219).bind fun t222 => (if t222 = true then ((laws_markRing.f k t196 1).bind fun bt223 => ((laws_markRing.f k t200 bt223.1).bind fun bt225 => ((laws_markStringS.f k t204 bt225.1).bind fun bt227 => (if bt227.1 < 0 then (laws_FnExactMovedKeys.j0 k l2 t193 t207 true l0_0 l1_0) else ((laws_eqStringS.f k t207 t193).bind fun t229 => (laws_FnExactMovedKeys.j0 k l2 t193 t207 (!t229) l0_0 l1_0)))))) else (some false)))) else (some false)))) else (some false)))) else (some false))))) = some r := H
        have A34 := Aside0.mk A340
        clear A340
        replace H := Option.bind_eq_some_iff.mp H
        obtain ⟨t204, A350, H⟩ := H
        replace H : ((impl_MovedKeys.f k t196 t200 t204).bind fun t207 => ((laws_eqStringS.f k t207 t193).bind fun t210 => (if t210 = true then ((laws_toRing.f k l0_0).bind fun t211 => ((laws_eqRing.f k t196 t211).bind fun t214 => (if t214 = true then ((laws_toRing.f k l1_0).bind fun t215 => ((laws_eqRing.f k t200 t215).bind fun t218 => (if t218 = true then ((laws_toStringS.f k l2).bind fun t219 => ((laws_eqStringS.f k t204 t219).bind fun t222 => (if t222 = true then ((laws_markRing.f k t196 1).bind fun bt223 => ((laws_markRing.f k t200 bt223.1).bind fun bt225 => ((laws_markStringS.f k t204 bt225.1).bind fun bt227 => (if bt227.1 < 0 then (laws_FnExactMovedKeys.j0 k l2 t193 t207 true l0_0 l1_0) else ((laws_eqStringS.f k t207 t193).bind fun t229 => (laws_FnExactMovedKeys.j0 k l2 t193 t207 (!t229) l0_0 l1_0)))))) else (some false)))) else (some false)))) else (some false)))) else (some false)))) = some r := H
        have A35 := Aside0.mk A350
        clear A350
        replace H := Option.bind_eq_some_iff.mp H
        obtain ⟨t207, A360, H⟩ := H
        replace H : ((laws_eqStringS.f k t207 t193).bind fun t210 => (if t210 = true then ((laws_toRing.f k l0_0).bind fun t211 => ((laws_eqRing.f k t196 t211).bind fun t214 => (if t214 = true then ((laws_toRing.f k l1_0).bind fun t215 => ((laws_eqRing.f k t200 t215).bind fun t218 => (if t218 = true then ((laws_toStringS.f k l2).bind fun t219 => ((laws_eqStringS.f k t204 t219).bind fun t222 => (if t222 = true then ((laws_markRing.f k t196 1).bind fun bt223 => ((laws_markRing.f k t200 bt223.1).bind fun bt225 => ((laws_markStringS.f k t204 bt225.1).bind fun bt227 => (if bt227.1 < 0 then (laws_FnExactMovedKeys.j0 k l2 t193 t207 true l0_0 l1_0) else ((laws_eqStringS.f k t207 t193).bind fun t229 => (laws_FnExactMovedKeys.j0 k l2 t193 t207 (!t229) l0_0 l1_0)))))) else (some false)))) else (some false)))) else (some false)))) else (some false))) = some r := H
        have A36 := Aside0.mk A360
        clear A360
        replace H := Option.bind_eq_some_iff.mp H
        obtain ⟨t210, A370, H⟩ := H
        replace H : (if t210 = true then ((laws_toRing.f k l0_0).bind fun t211 => ((laws_eqRing.f k t196 t211).bind fun t214 => (if t214 = true then ((laws_toRing.f k l1_0).bind fun t215 => ((laws_eqRing.f k t200 t215).bind fun t218 => (if t218 = true then ((laws_toStringS.f k l2).bind fun t219 => ((laws_eqStringS.f k t204 t219).bind fun t222 => (if t222 = true then ((laws_markRing.f k t196 1).bind fun bt223 => ((laws_markRing.f k t200 bt223.1).bind fun bt225 => ((laws_markStringS.f k t204 bt225.1).bind fun bt227 => (if bt227.1 < 0 then (laws_FnExactMovedKeys.j0 k l2 t193 t207 true l0_0 l1_0) else ((laws_eqStringS.f k t207 t193).bind fun t229 => (laws_FnExactMovedKeys.j0 k l2 t193 t207 (!t229) l0_0 l1_0)))))) else (some false)))) else (some false)))) else (some false)))) else (some false)) = some r := H
        have A37 := Aside0.mk A370
        clear A370
        by_cases c38 : t210 = true
        · subst c38
          have H1 : ((laws_toRing.f k l0_0).bind fun t211 => ((laws_eqRing.f k t196 t211).bind fun t214 => (if t214 = true then ((laws_toRing.f k l1_0).bind fun t215 => ((laws_eqRing.f k t200 t215).bind fun t218 => (if t218 = true then ((laws_toStringS.f k l2).bind fun t219 => ((laws_eqStringS.f k t204 t219).bind fun t222 => (if t222 = true then ((laws_markRing.f k t196 1).bind fun bt223 => ((laws_markRing.f k t200 bt223.1).bind fun bt225 => ((laws_markStringS.f k t204 bt225.1).bind fun bt227 => (if bt227.1 < 0 then (laws_FnExactMovedKeys.j0 k l2 t193 t207 true l0_0 l1_0) else ((laws_eqStringS.f k t207 t193).bind fun t229 => (laws_FnExactMovedKeys.j0 k l2 t193 t207 (!t229) l0_0 l1_0)))))) else (some false)))) else (some false)))) else (some false)))) = some r := by rw [if_pos rfl] at H; exact H
          clear H
          have H := H1
          clear H1
          replace H := Option.bind_eq_some_iff.mp H
          obtain ⟨t211, A390, H⟩ := H
          replace H : ((laws_eqRing.f k t196 t211).bind fun t214 => (if t214 = true then ((laws_toRing.f k l1_0).bind fun t215 => ((laws_eqRing.f k t200 t215).bind fun t218 => (if t218 = true then ((laws_toStringS.f k l2).bind fun t219 => ((laws_eqStringS.f k t204 t219).bind fun t222 => (if t222 = true then ((laws_markRing.f k t196 1).bind fun bt223 => ((laws_markRing.f k t200 bt223.1).bind fun bt225 => ((laws_markStringS.f k t204 bt225.1).bind fun bt227 => (if bt227.1 < 0 then (laws_FnExactMovedKeys.j0 k l2 t193 t207 true l0_0 l1_0) else ((laws_eqStringS.f k t207 t193).bind fun t229 => (laws_FnExactMovedKeys.j0 k l2 t193 t207 (!t229) l0_0 l1_0)))))) else (some false)))) else (some false)))) else (some false))) = some r := H
          have A39 := Aside0.mk A390
          clear A390
          replace H := Option.bind_eq_some_iff.mp H
          obtain ⟨t214, A400, H⟩ := H
          replace H : (if t214 = true then ((laws_toRing.f k l1_0).bind fun t215 => ((laws_eqRing.f k t200 t215).bind fun t218 => (if t218 = true then ((laws_toStringS.f k l2).bind fun t219 => ((laws_eqStringS.f k t204 t219).bind fun t222 => (if t222 = true then ((laws_markRing.f k t196 1).bind fun bt223 => ((laws_markRing.f k t200 bt223.1).bind fun bt225 => ((laws_markStringS.f k t204 bt225.1).bind fun bt227 => (if bt227.1 < 0 then (laws_FnExactMovedKeys.j0 k l2 t193 t207 true l0_0 l1_0) else ((laws_eqStringS.f k t207 t193).bind fun t229 => (laws_FnExactMovedKeys.j0 k l2 t193 t207 (!t229) l0_0 l1_0)))))) else (some false)))) else (some false)))) else (some false)) = some r := H
          have A40 := Aside0.mk A400
          clear A400
          by_cases c41 : t214 = true
          · subst c41
            have H1 : ((laws_toRing.f k l1_0).bind fun t215 => ((laws_eqRing.f k t200 t215).bind fun t218 => (if t218 = true then ((laws_toStringS.f k l2).bind fun t219 => ((laws_eqStringS.f k t204 t219).bind fun t222 => (if t222 = true then ((laws_markRing.f k t196 1).bind fun bt223 => ((laws_markRing.f k t200 bt223.1).bind fun bt225 => ((laws_markStringS.f k t204 bt225.1).bind fun bt227 => (if bt227.1 < 0 then (laws_FnExactMovedKeys.j0 k l2 t193 t207 true l0_0 l1_0) else ((laws_eqStringS.f k t207 t193).bind fun t229 => (laws_FnExactMovedKeys.j0 k l2 t193 t207 (!t229) l0_0 l1_0)))))) else (some false)))) else (some false)))) = some r := by rw [if_pos rfl] at H; exact H
            clear H
            have H := H1
            clear H1
            replace H := Option.bind_eq_some_iff.mp H
            obtain ⟨t215, A420, H⟩ := H
            replace H : ((laws_eqRing.f k t200 t215).bind fun t218 => (if t218 = true then ((laws_toStringS.f k l2).bind fun t219 => ((laws_eqStringS.f k t204 t219).bind fun t222 => (if t222 = true then ((laws_markRing.f k t196 1).bind fun bt223 => ((laws_markRing.f k t200 bt223.1).bind fun bt225 => ((laws_markStringS.f k t204 bt225.1).bind fun bt227 => (if bt227.1 < 0 then (laws_FnExactMovedKeys.j0 k l2 t193 t207 true l0_0 l1_0) else ((laws_eqStringS.f k t207 t193).bind fun t229 => (laws_FnExactMovedKeys.j0 k l2 t193 t207 (!t229) l0_0 l1_0)))))) else (some false)))) else (some false))) = some r := H
            have A42 := Aside0.mk A420
            clear A420
            replace H := Option.bind_eq_some_iff.mp H
            obtain ⟨t218, A430, H⟩ := H
            replace H : (if t218 = true then ((laws_toStringS.f k l2).bind fun t219 => ((laws_eqStringS.f k t204 t219).bind fun t222 => (if t222 = true then ((laws_markRing.f k t196 1).bind fun bt223 => ((laws_markRing.f k t200 bt223.1).bind fun bt225 => ((laws_markStringS.f k t204 bt225.1).bind fun bt227 => (if bt227.1 < 0 then (laws_FnExactMovedKeys.j0 k l2 t193 t207 true l0_0 l1_0) else ((laws_eqStringS.f k t207 t193).bind fun t229 => (laws_FnExactMovedKeys.j0 k l2 t193 t207 (!t229) l0_0 l1_0)))))) else (some false)))) else (some false)) = some r := H
            have A43 := Aside0.mk A430
            clear A430
            by_cases c44 : t218 = true
            · subst c44
              have H1 : ((laws_toStringS.f k l2).bind fun t219 => ((laws_eqStringS.f k t204 t219).bind fun t222 => (if t222 = true then ((laws_markRing.f k t196 1).bind fun bt223 => ((laws_markRing.f k t200 bt223.1).bind fun bt225 => ((laws_markStringS.f k t204 bt225.1).bind fun bt227 => (if bt227.1 < 0 then (laws_FnExactMovedKeys.j0 k l2 t193 t207 true l0_0 l1_0) else ((laws_eqStringS.f k t207 t193).bind fun t229 => (laws_FnExactMovedKeys.j0 k l2 t193 t207 (!t229) l0_0 l1_0)))))) else (some false)))) = some r := by rw [if_pos rfl] at H; exact H
              clear H
              have H := H1
              clear H1
              replace H := Option.bind_eq_some_iff.mp H
              obtain ⟨t219, A450, H⟩ := H
              replace H : ((laws_eqStringS.f k t204 t219).bind fun t222 => (if t222 = true then ((laws_markRing.f k t196 1).bind fun bt223 => ((laws_markRing.f k t200 bt223.1).bind fun bt225 => ((laws_markStringS.f k t204 bt225.1).bind fun bt227 => (if bt227.1 < 0 then (laws_FnExactMovedKeys.j0 k l2 t193 t207 true l0_0 l1_0) else ((laws_eqStringS.f k t207 t193).bind fun t229 => (laws_FnExactMovedKeys.j0 k l2 t193 t207 (!t229) l0_0 l1_0)))))) else (some false))) = some r := H
              have A45 := Aside0.mk A450
              clear A450
              replace H := Option.bind_eq_some_iff.mp H
              obtain ⟨t222, A460, H⟩ := H
              replace H : (if t222 = true then ((laws_markRing.f k t196 1).bind fun bt223 => ((laws_markRing.f k t200 bt223.1).bind fun bt225 => ((laws_markStringS.f k t204 bt225.1).bind fun bt227 => (if bt227.1 < 0 then (laws_FnExactMovedKeys.j0 k l2 t193 t207 true l0_0 l1_0) else ((laws_eqStringS.f k t207 t193).bind fun t229 => (laws_FnExactMovedKeys.j0 k l2 t193 t207 (!t229) l0_0 l1_0)))))) else (some false)) = some r := H
              have A46 := Aside0.mk A460
              clear A460
              by_cases c47 : t222 = true
              · subst c47
                have H1 : ((laws_markRing.f k t196 1).bind fun bt223 => ((laws_markRing.f k t200 bt223.1).bind fun bt225 => ((laws_markStringS.f k t204 bt225.1).bind fun bt227 => (if bt227.1 < 0 then (laws_FnExactMovedKeys.j0 k l2 t193 t207 true l0_0 l1_0) else ((laws_eqStringS.f k t207 t193).bind fun t229 => (laws_FnExactMovedKeys.j0 k l2 t193 t207 (!t229) l0_0 l1_0)))))) = some r := by rw [if_pos rfl] at H; exact H
                clear H
                have H := H1
                clear H1
                replace H := Option.bind_eq_some_iff.mp H
                obtain ⟨⟨t223, t224⟩, A480, H⟩ := H
                replace H : ((laws_markRing.f k t200 t223).bind fun bt225 => ((laws_markStringS.f k t204 bt225.1).bind fun bt227 => (if bt227.1 < 0 then (laws_FnExactMovedKeys.j0 k l2 t193 t207 true l0_0 l1_0) else ((laws_eqStringS.f k t207 t193).bind fun t229 => (laws_FnExactMovedKeys.j0 k l2 t193 t207 (!t229) l0_0 l1_0))))) = some r := H
                have A48 := Aside0.mk A480
                clear A480
                replace H := Option.bind_eq_some_iff.mp H
                obtain ⟨⟨t225, t226⟩, A490, H⟩ := H
                replace H : ((laws_markStringS.f k t204 t225).bind fun bt227 => (if bt227.1 < 0 then (laws_FnExactMovedKeys.j0 k l2 t193 t207 true l0_0 l1_0) else ((laws_eqStringS.f k t207 t193).bind fun t229 => (laws_FnExactMovedKeys.j0 k l2 t193 t207 (!t229) l0_0 l1_0)))) = some r := H
                have A49 := Aside0.mk A490
                clear A490
                replace H := Option.bind_eq_some_iff.mp H
                obtain ⟨⟨t227, t228⟩, A500, H⟩ := H
                replace H : (if t227 < 0 then (laws_FnExactMovedKeys.j0 k l2 t193 t207 true l0_0 l1_0) else ((laws_eqStringS.f k t207 t193).bind fun t229 => (laws_FnExactMovedKeys.j0 k l2 t193 t207 (!t229) l0_0 l1_0))) = some r := H
                have A50 := Aside0.mk A500
                clear A500
                have HC51 := Aside0.mk H
                clear H
                go_enter Try.func5, Try.ntmps5
                try go_wp2_with (first|((with_reducible refine gate_dst (N := 3) rfl ?_); refine box_event ?hg (N := 3) ?hd (cs := #[.slice A0_0 l0_0.length c0_0]) (t := 24) ?hr ?_; (case hd => rfl); (case hg => rfl); (case hr => first|(go_simp; done)|(go_simp; rfl)); intro gb179 hg w52 hbox hb; have n0_ := Aside0.mk (zN (by repeat (first|(with_reducible first|exact HB.out|apply zI|apply zG|apply zH)|exact HB.out)) hb); have n1_ := Aside0.mk (hbox); have n2_ := Aside0.mk ((by rw [hg]; exact (below_size (by repeat (first|(with_reducible first|exact HB.out|apply zI|apply zG|apply zH)|exact HB.out))) : w.heap.size ≤ gb179)); have n3_ := Aside0.mk ((by rw [hg]; exact (below_size (by repeat (first|(with_reducible first|exact HB.out|apply zI|apply zG|apply zH)|exact HB.out))) : w.heap.size ≤ gb179)); clear HB; have HB := n0_; have BK179 := n1_; have GW179 := n2_; have GE179 := n3_; clear n0_ n1_ n2_ n3_; clear hb hbox hg)|((with_reducible refine gate_dst (N := 4) rfl ?_); refine box_event ?hg (N := 4) ?hd (cs := #[.slice A1_0 l1_0.length c1_0]) (t := 24) ?hr ?_; (case hd => rfl); (case hg => rfl); (case hr => first|(go_simp; done)|(go_simp; rfl)); intro gb180 hg w53 hbox hb; have n0_ := Aside0.mk (zK (g := gb179) (o := .cells #[.slice A0_0 l0_0.length c0_0] 24 (0, 0)) (by first|exact BK179.out|((with_reducible repeat (first|refine zA ?_ _|refine zC ?_|refine zB ?_ _)); exact BK179.out)) hb); have n1_ := Aside0.mk (zN (by repeat (first|(with_reducible first|exact HB.out|apply zI|apply zG|apply zH|refine zJ ?_ GE179.out)|exact HB.out)) hb); have n2_ := Aside0.mk (hbox); have n3_ := Aside0.mk ((by rw [hg]; exact (below_size (by repeat (first|(with_reducible first|exact HB.out|apply zI|apply zG|apply zH|refine zJ ?_ GE179.out)|exact HB.out))) : w.heap.size ≤ gb180)); have n4_ := Aside0.mk ((by rw [hg]; exact (below_size (by repeat (first|(with_reducible first|exact HB.out|apply zI|apply zG|apply zH|refine zJ ?_ GE179.out)|exact HB.out))) : w.heap.size ≤ gb180)); have n5_ := Aside0.mk ((by rw [hg]; exact Nat.ne_of_lt (blk_lt (g := gb179) (o := .cells #[.slice A0_0 l0_0.length c0_0] 24 (0, 0)) (by first|exact BK179.out|((with_reducible repeat (first|refine zA ?_ _|refine zC ?_|refine zB ?_ _)); exact BK179.out))) : gb179 ≠ gb180)); have n6_ := Aside0.mk ((by rw [hg]; exact Nat.ne_of_gt (blk_lt (g := gb179) (o := .cells #[.slice A0_0 l0_0.length c0_0] 24 (0, 0)) (by first|exact BK179.out|((with_reducible repeat (first|refine zA ?_ _|refine zC ?_|refine zB ?_ _)); exact BK179.out))) : gb180 ≠ gb179)); clear BK179; clear HB; have BK179 := n0_; have HB := n1_; have BK180 := n2_; have GW180 := n3_; have GE180 := n4_; have NB179_180 := n5_; have NB180_179 := n6_; clear n0_ n1_ n2_ n3_ n4_ n5_ n6_; clear hb hbox hg; have hnb54 := NB179_180.out; have hnc54 := NB180_179.out; have hcz55_0 : w53.cell? ⟨gb179, 0, none⟩ = some (.slice A0_0 l0_0.length c0_0) := (zO BK179.out 0).trans rfl; have hfz55_0 := zP BK179.out 0)|((with_reducible refine gate_callee (f := 6) rfl ?_); refine goesL_ (some 19) rfl rfl Try.func6 (by kernel_rfl) rfl #[.agg #[.slice A0_0 l0_0.length c0_0], .int .i64 1048576] rfl (by (try simp only [List.map_toArray, List.map_cons, List.map_nil]); first|done|rfl|(simp only [List.length_drop, List.length_take]; rfl)) ?_; (with_reducible refine (laws_szRing.calls _ _ l0_0 1048576 t181 _ ?side1 ?side2 A4.out).mono ?_); (case side1 => repeat (first|exact (Kd.C_below HR0_0.out HB.out)|(with_reducible refine Kd.C_alloc ?_ _)|(with_reducible refine Kd.C_drewN ?_ _)|(with_reducible refine Kd.C_drew ?_))); (case side2 => exact HC0_0.out); rintro e w56 ⟨rfl, hb⟩; refine ⟨_, rfl, ?_⟩; have n0_ := Aside0.mk (zK (g := gb179) (o := .cells #[.slice A0_0 l0_0.length c0_0] 24 (0, 0)) (by first|exact BK179.out|((with_reducible repeat (first|refine zA ?_ _|refine zC ?_|refine zB ?_ _)); exact BK179.out)) hb); have n1_ := Aside0.mk (zK (g := gb180) (o := .cells #[.slice A1_0 l1_0.length c1_0] 24 (0, 0)) (by first|exact BK180.out|((with_reducible repeat (first|refine zA ?_ _|refine zC ?_|refine zB ?_ _)); exact BK180.out)) hb); have n2_ := Aside0.mk (zN (by repeat (first|(with_reducible first|exact HB.out|apply zI|apply zG|apply zH|refine zJ ?_ GE179.out|refine zJ ?_ GE180.out)|exact HB.out)) hb); clear BK179; clear BK180; clear HB; have BK179 := n0_; have BK180 := n1_; have HB := n2_; clear n0_ n1_ n2_; (try clear hb); (try clear hb2); (try clear hk); (try clear hi); have hcz57_0 : w56.cell? ⟨gb180, 0, none⟩ = some (.slice A1_0 l1_0.length c1_0) := (zO BK180.out 0).trans rfl; have hfz57_0 := zP BK180.out 0)|((with_reducible refine gate_callee (f := 6) rfl ?_); refine goesL_ (some 24) rfl rfl Try.func6 (by kernel_rfl) rfl #[.agg #[.slice A1_0 l1_0.length c1_0], .int .i64 t181] rfl (by (try simp only [List.map_toArray, List.map_cons, List.map_nil]); first|done|rfl|(simp only [List.length_drop, List.length_take]; rfl)) ?_; (with_reducible refine (laws_szRing.calls _ _ l1_0 t181 t182 _ ?side1 ?side2 A11.out).mono ?_); (case side1 => repeat (first|exact (Kd.C_below HR1_0.out HB.out)|(with_reducible refine Kd.C_alloc ?_ _)|(with_reducible refine Kd.C_drewN ?_ _)|(with_reducible refine Kd.C_drew ?_))); (case side2 => exact HC1_0.out); rintro e w58 ⟨rfl, hb⟩; refine ⟨_, rfl, ?_⟩; have n0_ := Aside0.mk (zK (g := gb179) (o := .cells #[.slice A0_0 l0_0.length c0_0] 24 (0, 0)) (by first|exact BK179.out|((with_reducible repeat (first|refine zA ?_ _|refine zC ?_|refine zB ?_ _)); exact BK179.out)) hb); have n1_ := Aside0.mk (zK (g := gb180) (o := .cells #[.slice A1_0 l1_0.length c1_0] 24 (0, 0)) (by first|exact BK180.out|((with_reducible repeat (first|refine zA ?_ _|refine zC ?_|refine zB ?_ _)); exact BK180.out)) hb); have n2_ := Aside0.mk (zN (by repeat (first|(with_reducible first|exact HB.out|apply zI|apply zG|apply zH|refine zJ ?_ GE179.out|refine zJ ?_ GE180.out)|exact HB.out)) hb); clear BK179; clear BK180; clear HB; have BK179 := n0_; have BK180 := n1_; have HB := n2_; clear n0_ n1_ n2_; (try clear hb); (try clear hb2); (try clear hk); (try clear hi))|((with_reducible refine gate_callee (f := 17) rfl ?_); refine goesL_ (some 29) rfl rfl Try.func17 (by kernel_rfl) rfl #[.slice A2 l2.length c2, .int .i64 t182] rfl (by (try simp only [List.map_toArray, List.map_cons, List.map_nil]); first|done|rfl|(simp only [List.length_drop, List.length_take]; rfl)) ?_; (with_reducible refine (laws_szStringS.calls k _ _ l2 t182 t183 _ ?side1 ?side2 A20.out).mono ?_); (case side1 => repeat (first|exact (Kd.C_below HR2.out HB.out)|(with_reducible refine Kd.C_alloc ?_ _)|(with_reducible refine Kd.C_drewN ?_ _)|(with_reducible refine Kd.C_drew ?_))); (case side2 => exact HC2.out); rintro e w' ⟨rfl, ⟨nd, rfl⟩⟩; refine ⟨_, rfl, ?_⟩; (try (rw [drewN_self w58]; generalize hq_ : World.drewN w58 _ = w58; have n0_ : Aside0 (w58.heap[gb179]? = some (.cells #[.slice A0_0 l0_0.length c0_0] 24 (0, 0))) := ⟨by rw [← hq_]; exact (by first|exact BK179.out|((with_reducible repeat (first|refine zA ?_ _|refine zC ?_|refine zB ?_ _)); exact BK179.out))⟩; have n1_ : Aside0 (w58.heap[gb180]? = some (.cells #[.slice A1_0 l1_0.length c1_0] 24 (0, 0))) := ⟨by rw [← hq_]; exact (by first|exact BK180.out|((with_reducible repeat (first|refine zA ?_ _|refine zC ?_|refine zB ?_ _)); exact BK180.out))⟩; have n2_ : Aside0 (Below w.heap.size w w58) := ⟨by rw [← hq_]; exact (by repeat (first|(with_reducible first|exact HB.out|apply zI|apply zG|apply zH|refine zJ ?_ GE179.out|refine zJ ?_ GE180.out)|exact HB.out))⟩; clear BK179 BK180 HB hq_; have BK179 := n0_; have BK180 := n1_; have HB := n2_; clear n0_ n1_ n2_))))
                have n0_ := Aside0.mk (zC BK179.out)
                have n1_ := Aside0.mk (zC BK180.out)
                have n2_ := Aside0.mk (zH HB.out)
                clear BK179
                clear BK180
                clear HB
                have BK179 := n0_
                have BK180 := n1_
                have HB := n2_
                clear n0_ n1_ n2_
                refine start_ (n := 8) (S := fun w' => w'.cell? ⟨gb179, 0, none⟩ = some (.slice A0_0 l0_0.length c0_0) ∧ w'.cell? ⟨gb180, 0, none⟩ = some (.slice A1_0 l1_0.length c1_0)) (ds := []) #[false, false, false, false, false, false, false, false] (by kernel_rfl) rfl rfl ⟨(zO BK179.out 0).trans rfl, (zO BK180.out 0).trans rfl⟩ (fun hHeld => ?_); refine with_tabW laws_FnExactMovedKeys.tab11 laws_FnExactMovedKeys.bits11 (fun HT_ HW_ => ?_)
                generalize w58.drew = w59 at BK179 BK180 HB hHeld ⊢
                refine pure_ (i := 4) (N := some 36) (v := ?_) (a' := ?_) #[false, false, false, false, true, false, false, false] rfl rfl (any_of HT_.out (by kernel_rfl)) (fun _ _ _ h => h) (Or.inl ⟨by rfl, ?_⟩) ?_ ?_
                rotate_left
                · intro w'
                  go_simp
                  with_reducible rfl
                rotate_left
                · simp only [Act.put, List.setIfInBounds_toArray, List.set_cons_zero, List.set_cons_succ, i64_w, i32_w]
                  rfl
                refine take_ (i := 0) (N := some 32) (v := ?_) (a' := ?_) #[true, false, false, false, true, false, false, false] rfl rfl (take_ofW HT_.out HW_.out (by kernel_rfl)) (fun _ _ _ h => h) (Or.inl ⟨by rfl, ?_⟩) hHeld ?_ ?_
                rotate_left
                · rintro w' ⟨s0, s1⟩
                  go_simp
                  with_reducible rfl
                rotate_left
                · simp only [Act.put, List.setIfInBounds_toArray, List.set_cons_zero, List.set_cons_succ, i64_w, i32_w]
                  rfl
                refine take_ (i := 2) (N := some 34) (v := ?_) (a' := ?_) #[true, false, true, false, true, false, false, false] rfl rfl (take_ofW HT_.out HW_.out (by kernel_rfl)) (fun _ _ _ h => h) (Or.inl ⟨by rfl, ?_⟩) hHeld ?_ ?_
                rotate_left
                · rintro w' ⟨s0, s1⟩
                  go_simp
                  with_reducible rfl
                rotate_left
                · simp only [Act.put, List.setIfInBounds_toArray, List.set_cons_zero, List.set_cons_succ, i64_w, i32_w]
                  rfl
                refine one_ (i := 1) (N := some 33) #[true, true, true, false, true, false, false, false] rfl rfl (one_of HT_.out (by kernel_rfl)) (by decide) (fun K hK => ?_)
                refine goes_ Try.func8 (by kernel_rfl) rfl #[.agg #[.slice A0_0 l0_0.length c0_0]] (by rfl) rfl rfl (by (try simp only [List.map_toArray, List.map_cons, List.map_nil]); first|done|rfl|(simp only [List.length_drop, List.length_take]; rfl)) ?_
                with_reducible refine (laws_toRing.calls k _ _ l0_0 t184 _ ?side1 ?side2 A29.out).mono ?_
                (case side1 => repeat (first|exact (Kd.C_below HR0_0.out HB.out)|(with_reducible refine Kd.C_alloc ?_ _)|(with_reducible refine Kd.C_drewN ?_ _)|(with_reducible refine Kd.C_drew ?_)))
                (case side2 => exact HC0_0.out)
                rintro e w60 ⟨v185, rfl, ho0, hb⟩
                refine ⟨_, rfl, ?_⟩
                have n0_ := Aside0.mk (Kd.R_lower ho0 (below_size (by repeat (first|(with_reducible first|exact HB.out|apply zI|apply zG|apply zH|refine zJ ?_ GE179.out|refine zJ ?_ GE180.out)|exact HB.out))))
                have n1_ := Aside0.mk (zK (g := gb179) (o := .cells #[.slice A0_0 l0_0.length c0_0] 24 (0, 0)) (by first|exact BK179.out|((with_reducible repeat (first|refine zA ?_ _|refine zC ?_|refine zB ?_ _)); exact BK179.out)) hb)
                have n2_ := Aside0.mk (zK (g := gb180) (o := .cells #[.slice A1_0 l1_0.length c1_0] 24 (0, 0)) (by first|exact BK180.out|((with_reducible repeat (first|refine zA ?_ _|refine zC ?_|refine zB ?_ _)); exact BK180.out)) hb)
                have n3_ := Aside0.mk (zN (by repeat (first|(with_reducible first|exact HB.out|apply zI|apply zG|apply zH|refine zJ ?_ GE179.out|refine zJ ?_ GE180.out)|exact HB.out)) hb)
                clear BK179
                clear BK180
                clear HB
                have HO186 := n0_
                have BK179 := n1_
                have BK180 := n2_
                have HB := n3_
                clear n0_ n1_ n2_ n3_
                (try clear hb)
                (try clear hb2)
                (try clear hk)
                (try clear hi)
                (try clear ho0)
                refine hK.out _ _ ⟨(zO BK179.out 0).trans rfl, (zO BK180.out 0).trans rfl⟩ (fun hHeld => ?_)
                clear hK K
                refine norm_ (a' := ?_) ?_ ?_
                rotate_left
                · show Act.put _ (some 33) _ = _
                  simp only [Act.put, List.setIfInBounds_toArray, List.set_cons_zero, List.set_cons_succ, i64_w, i32_w]
                  rfl
                refine one_ (i := 3) (N := some 35) #[true, true, true, true, true, false, false, false] rfl rfl (one_of HT_.out (by kernel_rfl)) (by decide) (fun K hK => ?_)
                refine goes_ Try.func8 (by kernel_rfl) rfl #[.agg #[.slice A1_0 l1_0.length c1_0]] (by rfl) rfl rfl (by (try simp only [List.map_toArray, List.map_cons, List.map_nil]); first|done|rfl|(simp only [List.length_drop, List.length_take]; rfl)) ?_
                with_reducible refine (laws_toRing.calls k _ _ l1_0 t187 _ ?side1 ?side2 A30.out).mono ?_
                (case side1 => repeat (first|exact (Kd.C_below HR1_0.out HB.out)|(with_reducible refine Kd.C_alloc ?_ _)|(with_reducible refine Kd.C_drewN ?_ _)|(with_reducible refine Kd.C_drew ?_)))
                (case side2 => exact HC1_0.out)
                rintro e w61 ⟨v188, rfl, ho0, hb⟩
                refine ⟨_, rfl, ?_⟩
                have n0_ := Aside0.mk (Kd.R_elder' (by (with_reducible repeat (first|apply zE|apply zD|apply zF)); exact HO186.out) (Kd.R_base ho0) hb)
                have n1_ := Aside0.mk (Kd.R_lower (Kd.R_new' ho0 (Kd.R_lt (by (with_reducible repeat (first|apply zE|apply zD|apply zF)); exact HO186.out))) (below_size (by repeat (first|(with_reducible first|exact HB.out|apply zI|apply zG|apply zH|refine zJ ?_ GE179.out|refine zJ ?_ GE180.out)|exact HB.out))))
                have n2_ := Aside0.mk (zK (g := gb179) (o := .cells #[.slice A0_0 l0_0.length c0_0] 24 (0, 0)) (by first|exact BK179.out|((with_reducible repeat (first|refine zA ?_ _|refine zC ?_|refine zB ?_ _)); exact BK179.out)) hb)
                have n3_ := Aside0.mk (zK (g := gb180) (o := .cells #[.slice A1_0 l1_0.length c1_0] 24 (0, 0)) (by first|exact BK180.out|((with_reducible repeat (first|refine zA ?_ _|refine zC ?_|refine zB ?_ _)); exact BK180.out)) hb)
                have n4_ := Aside0.mk (zN (by repeat (first|(with_reducible first|exact HB.out|apply zI|apply zG|apply zH|refine zJ ?_ GE179.out|refine zJ ?_ GE180.out)|exact HB.out)) hb)
                clear HO186
                clear BK179
                clear BK180
                clear HB
                have HO186 := n0_
                have HO189 := n1_
                have BK179 := n2_
                have BK180 := n3_
                have HB := n4_
                clear n0_ n1_ n2_ n3_ n4_
                (try clear hb)
                (try clear hb2)
                (try clear hk)
                (try clear hi)
                (try clear ho0)
                refine hK.out _ _ ⟨(zO BK179.out 0).trans rfl, (zO BK180.out 0).trans rfl⟩ (fun hHeld => ?_)
                clear hK K
                refine norm_ (a' := ?_) ?_ ?_
                rotate_left
                · show Act.put _ (some 35) _ = _
                  simp only [Act.put, List.setIfInBounds_toArray, List.set_cons_zero, List.set_cons_succ, i64_w, i32_w]
                  rfl
                refine one_ (i := 5) (N := some 37) #[true, true, true, true, true, true, false, false] rfl rfl (one_of HT_.out (by kernel_rfl)) (by decide) (fun K hK => ?_)
                refine goes_ Try.func19 (by kernel_rfl) rfl #[.slice A2 l2.length c2] (by rfl) rfl rfl (by (try simp only [List.map_toArray, List.map_cons, List.map_nil]); first|done|rfl|(simp only [List.length_drop, List.length_take]; rfl)) ?_
                with_reducible refine (laws_toStringS.calls k _ _ l2 t190 _ ?side1 ?side2 A31.out).mono ?_
                (case side1 => repeat (first|exact (Kd.C_below HR2.out HB.out)|(with_reducible refine Kd.C_alloc ?_ _)|(with_reducible refine Kd.C_drewN ?_ _)|(with_reducible refine Kd.C_drew ?_)))
                (case side2 => exact HC2.out)
                rintro e w62 ⟨v191, rfl, ho0, hb⟩
                refine ⟨_, rfl, ?_⟩
                have n0_ := Aside0.mk (zM (by (with_reducible repeat (first|apply zE|apply zD|apply zF)); exact HO186.out) hb)
                have n1_ := Aside0.mk (zM (by (with_reducible repeat (first|apply zE|apply zD|apply zF)); exact HO189.out) hb)
                have n2_ := Aside0.mk (Kd.R_lower ho0 (below_size (by repeat (first|(with_reducible first|exact HB.out|apply zI|apply zG|apply zH|refine zJ ?_ GE179.out|refine zJ ?_ GE180.out)|exact HB.out))))
                have n3_ := Aside0.mk (zK (g := gb179) (o := .cells #[.slice A0_0 l0_0.length c0_0] 24 (0, 0)) (by first|exact BK179.out|((with_reducible repeat (first|refine zA ?_ _|refine zC ?_|refine zB ?_ _)); exact BK179.out)) hb)
                have n4_ := Aside0.mk (zK (g := gb180) (o := .cells #[.slice A1_0 l1_0.length c1_0] 24 (0, 0)) (by first|exact BK180.out|((with_reducible repeat (first|refine zA ?_ _|refine zC ?_|refine zB ?_ _)); exact BK180.out)) hb)
                have n5_ := Aside0.mk (zN (by repeat (first|(with_reducible first|exact HB.out|apply zI|apply zG|apply zH|refine zJ ?_ GE179.out|refine zJ ?_ GE180.out)|exact HB.out)) hb)
                clear HO186
                clear HO189
                clear BK179
                clear BK180
                clear HB
                have HO186 := n0_
                have HO189 := n1_
                have HO192 := n2_
                have BK179 := n3_
                have BK180 := n4_
                have HB := n5_
                clear n0_ n1_ n2_ n3_ n4_ n5_
                (try clear hb)
                (try clear hb2)
                (try clear hk)
                (try clear hi)
                (try clear ho0)
                obtain ⟨Ao63, co63, eo63⟩ := Kd.R_slice HO186.out
                (first|subst eo63|(injection eo63 with f1_ f2_ f3_; have f4_ := f1_.symm; have f5_ := f3_.symm; clear f1_ f2_ f3_; subst f4_; subst f5_))
                obtain ⟨Ao64, co64, eo64⟩ := Kd.R_slice HO189.out
                (first|subst eo64|(injection eo64 with f1_ f2_ f3_; have f4_ := f1_.symm; have f5_ := f3_.symm; clear f1_ f2_ f3_; subst f4_; subst f5_))
                obtain ⟨Ao65, co65, eo65⟩ := Kd.R_slice HO192.out
                (first|subst eo65|(injection eo65 with f1_ f2_ f3_; have f4_ := f1_.symm; have f5_ := f3_.symm; clear f1_ f2_ f3_; subst f4_; subst f5_))
                refine hK.out _ _ ⟨(zO BK179.out 0).trans rfl, (zO BK180.out 0).trans rfl⟩ (fun hHeld => ?_)
                clear hK K
                refine norm_ (a' := ?_) ?_ ?_
                rotate_left
                · show Act.put _ (some 37) _ = _
                  simp only [Act.put, List.setIfInBounds_toArray, List.set_cons_zero, List.set_cons_succ, i64_w, i32_w]
                  rfl
                refine one_ (i := 6) (N := some 38) #[true, true, true, true, true, true, true, false] rfl rfl (one_of HT_.out (by kernel_rfl)) (by decide) (fun K hK => ?_)
                refine goes_ Try.func18 (by kernel_rfl) rfl #[.agg #[.slice Ao63 t184.length co63], .agg #[.slice Ao64 t187.length co64], .slice Ao65 t190.length co65] (by rfl) rfl rfl (by (try simp only [List.map_toArray, List.map_cons, List.map_nil]); first|done|rfl|(simp only [List.length_drop, List.length_take]; rfl)) ?_
                with_reducible refine (spec_MovedKeys.calls k _ _ t184 _ _ t187 _ _ t190 t193 _ ?side1 ?side2 ?side3 ?side4 ?side5 ?side6 A32.out).mono ?_
                (case side1 => repeat (first|exact (Kd.R_reads' HO186.out).2.2|(with_reducible refine Kd.C_alloc ?_ _)|(with_reducible refine Kd.C_drewN ?_ _)|(with_reducible refine Kd.C_drew ?_)))
                (case side2 => exact (Kd.R_reads' HO186.out).2.1)
                (case side3 => repeat (first|exact (Kd.R_reads' HO189.out).2.2|(with_reducible refine Kd.C_alloc ?_ _)|(with_reducible refine Kd.C_drewN ?_ _)|(with_reducible refine Kd.C_drew ?_)))
                (case side4 => exact (Kd.R_reads' HO189.out).2.1)
                (case side5 => repeat (first|exact (Kd.R_reads' HO192.out).2.2|(with_reducible refine Kd.C_alloc ?_ _)|(with_reducible refine Kd.C_drewN ?_ _)|(with_reducible refine Kd.C_drew ?_)))
                (case side6 => exact (Kd.R_reads' HO192.out).2.1)
                rintro e w66 ⟨v194, rfl, ho0, hb⟩
                refine ⟨_, rfl, ?_⟩
                have n0_ := Aside0.mk (zM (by (with_reducible repeat (first|apply zE|apply zD|apply zF)); exact HO186.out) hb)
                have n1_ := Aside0.mk (zM (by (with_reducible repeat (first|apply zE|apply zD|apply zF)); exact HO189.out) hb)
                have n2_ := Aside0.mk (Kd.R_elder' (by (with_reducible repeat (first|apply zE|apply zD|apply zF)); exact HO192.out) (Kd.R_base ho0) hb)
                have n3_ := Aside0.mk (Kd.R_lower (Kd.R_new' ho0 (Kd.R_lt (by (with_reducible repeat (first|apply zE|apply zD|apply zF)); exact HO192.out))) (below_size (by repeat (first|(with_reducible first|exact HB.out|apply zI|apply zG|apply zH|refine zJ ?_ GE179.out|refine zJ ?_ GE180.out)|exact HB.out))))
                have n4_ := Aside0.mk (zK (g := gb179) (o := .cells #[.slice A0_0 l0_0.length c0_0] 24 (0, 0)) (by first|exact BK179.out|((with_reducible repeat (first|refine zA ?_ _|refine zC ?_|refine zB ?_ _)); exact BK179.out)) hb)
                have n5_ := Aside0.mk (zK (g := gb180) (o := .cells #[.slice A1_0 l1_0.length c1_0] 24 (0, 0)) (by first|exact BK180.out|((with_reducible repeat (first|refine zA ?_ _|refine zC ?_|refine zB ?_ _)); exact BK180.out)) hb)
                have n6_ := Aside0.mk (zN (by repeat (first|(with_reducible first|exact HB.out|apply zI|apply zG|apply zH|refine zJ ?_ GE179.out|refine zJ ?_ GE180.out)|exact HB.out)) hb)
                clear HO186
                clear HO189
                clear HO192
                clear BK179
                clear BK180
                clear HB
                have HO186 := n0_
                have HO189 := n1_
                have HO192 := n2_
                have HO195 := n3_
                have BK179 := n4_
                have BK180 := n5_
                have HB := n6_
                clear n0_ n1_ n2_ n3_ n4_ n5_ n6_
                (try clear hb)
                (try clear hb2)
                (try clear hk)
                (try clear hi)
                (try clear ho0)
                refine hK.out _ _ ⟨(zO BK179.out 0).trans rfl, (zO BK180.out 0).trans rfl⟩ (fun hHeld => ?_)
                clear hK K
                refine norm_ (a' := ?_) ?_ ?_
                rotate_left
                · show Act.put _ (some 38) _ = _
                  simp only [Act.put, List.setIfInBounds_toArray, List.set_cons_zero, List.set_cons_succ, i64_w, i32_w]
                  rfl
                refine pure_ (i := 7) (N := some 8) (v := ?_) (a' := ?_) #[true, true, true, true, true, true, true, true] rfl rfl (any_of HT_.out (by kernel_rfl)) (fun _ _ _ h => h) (Or.inl ⟨by rfl, ?_⟩) ?_ ?_
                rotate_left
                · intro w'
                  go_simp
                  with_reducible rfl
                rotate_left
                · simp only [Act.put, List.setIfInBounds_toArray, List.set_cons_zero, List.set_cons_succ, i64_w, i32_w]
                  rfl
                refine done_ (done_of HT_.out (by kernel_rfl)) ?_
                have hcz67_0 : w66.cell? ⟨gb179, 0, none⟩ = some (.slice A0_0 l0_0.length c0_0) := (zO BK179.out 0).trans rfl
                have hfz67_0 := zP BK179.out 0
                try go_wp2_with (first|((with_reducible refine gate_callee (f := 8) rfl ?_); refine goesL_ (some 40) rfl rfl Try.func8 (by kernel_rfl) rfl #[.agg #[.slice A0_0 l0_0.length c0_0]] rfl (by (try simp only [List.map_toArray, List.map_cons, List.map_nil]); first|done|rfl|(simp only [List.length_drop, List.length_take]; rfl)) ?_; (with_reducible refine (laws_toRing.calls k _ _ l0_0 t196 _ ?side1 ?side2 A33.out).mono ?_); (case side1 => repeat (first|exact (Kd.C_below HR0_0.out HB.out)|(with_reducible refine Kd.C_alloc ?_ _)|(with_reducible refine Kd.C_drewN ?_ _)|(with_reducible refine Kd.C_drew ?_))); (case side2 => exact HC0_0.out); rintro e w68 ⟨v197, rfl, ho0, hb⟩; refine ⟨_, rfl, ?_⟩; have n0_ := Aside0.mk (Kd.R_elder' (by (with_reducible repeat (first|apply zE|apply zD|apply zF)); exact HO186.out) (Kd.R_base ho0) hb); have n1_ := Aside0.mk (Kd.R_elder' (by (with_reducible repeat (first|apply zE|apply zD|apply zF)); exact HO189.out) (Kd.R_base ho0) hb); have n2_ := Aside0.mk (zM (by (with_reducible repeat (first|apply zE|apply zD|apply zF)); exact HO192.out) hb); have n3_ := Aside0.mk (zM (by (with_reducible repeat (first|apply zE|apply zD|apply zF)); exact HO195.out) hb); have n4_ := Aside0.mk (Kd.R_lower (Kd.R_new' (Kd.R_new' ho0 (Kd.R_lt (by (with_reducible repeat (first|apply zE|apply zD|apply zF)); exact HO186.out))) (Kd.R_lt (by (with_reducible repeat (first|apply zE|apply zD|apply zF)); exact HO189.out))) (below_size (by repeat (first|(with_reducible first|exact HB.out|apply zI|apply zG|apply zH|refine zJ ?_ GE179.out|refine zJ ?_ GE180.out)|exact HB.out)))); have n5_ := Aside0.mk (zK (g := gb179) (o := .cells #[.slice A0_0 l0_0.length c0_0] 24 (0, 0)) (by first|exact BK179.out|((with_reducible repeat (first|refine zA ?_ _|refine zC ?_|refine zB ?_ _)); exact BK179.out)) hb); have n6_ := Aside0.mk (zK (g := gb180) (o := .cells #[.slice A1_0 l1_0.length c1_0] 24 (0, 0)) (by first|exact BK180.out|((with_reducible repeat (first|refine zA ?_ _|refine zC ?_|refine zB ?_ _)); exact BK180.out)) hb); have n7_ := Aside0.mk (zN (by repeat (first|(with_reducible first|exact HB.out|apply zI|apply zG|apply zH|refine zJ ?_ GE179.out|refine zJ ?_ GE180.out)|exact HB.out)) hb); clear HO186; clear HO189; clear HO192; clear HO195; clear BK179; clear BK180; clear HB; have HO186 := n0_; have HO189 := n1_; have HO192 := n2_; have HO195 := n3_; have HO198 := n4_; have BK179 := n5_; have BK180 := n6_; have HB := n7_; clear n0_ n1_ n2_ n3_ n4_ n5_ n6_ n7_; (try clear hb); (try clear hb2); (try clear hk); (try clear hi); (try clear ho0))|((with_reducible refine gate_dst (N := 9) rfl ?_); refine box_event ?hg (N := 9) ?hd (cs := #[.slice none 0 0]) (t := 29) ?hr ?_; (case hd => rfl); (case hg => rfl); (case hr => first|(go_simp; done)|(go_simp; rfl)); intro gb199 hg w69 hbox hb; have n0_ := Aside0.mk (zM (by (with_reducible repeat (first|apply zE|apply zD|apply zF)); exact HO186.out) hb); have n1_ := Aside0.mk (zM (by (with_reducible repeat (first|apply zE|apply zD|apply zF)); exact HO189.out) hb); have n2_ := Aside0.mk (zM (by (with_reducible repeat (first|apply zE|apply zD|apply zF)); exact HO192.out) hb); have n3_ := Aside0.mk (zM (by (with_reducible repeat (first|apply zE|apply zD|apply zF)); exact HO195.out) hb); have n4_ := Aside0.mk (zM (by (with_reducible repeat (first|apply zE|apply zD|apply zF)); exact HO198.out) hb); have n5_ := Aside0.mk (zK (g := gb179) (o := .cells #[.slice A0_0 l0_0.length c0_0] 24 (0, 0)) (by first|exact BK179.out|((with_reducible repeat (first|refine zA ?_ _|refine zC ?_|refine zB ?_ _)); exact BK179.out)) hb); have n6_ := Aside0.mk (zK (g := gb180) (o := .cells #[.slice A1_0 l1_0.length c1_0] 24 (0, 0)) (by first|exact BK180.out|((with_reducible repeat (first|refine zA ?_ _|refine zC ?_|refine zB ?_ _)); exact BK180.out)) hb); have n7_ := Aside0.mk (zN (by repeat (first|(with_reducible first|exact HB.out|apply zI|apply zG|apply zH|refine zJ ?_ GE179.out|refine zJ ?_ GE180.out)|exact HB.out)) hb); have n8_ := Aside0.mk (hbox); have n9_ := Aside0.mk ((by rw [hg]; exact (below_size (by repeat (first|(with_reducible first|exact HB.out|apply zI|apply zG|apply zH|refine zJ ?_ GE179.out|refine zJ ?_ GE180.out)|exact HB.out))) : w.heap.size ≤ gb199)); have n10_ := Aside0.mk ((by rw [hg]; exact (below_size (by repeat (first|(with_reducible first|exact HB.out|apply zI|apply zG|apply zH|refine zJ ?_ GE179.out|refine zJ ?_ GE180.out)|exact HB.out))) : w.heap.size ≤ gb199)); have n11_ := Aside0.mk ((by rw [hg]; exact Nat.ne_of_lt (blk_lt (g := gb179) (o := .cells #[.slice A0_0 l0_0.length c0_0] 24 (0, 0)) (by first|exact BK179.out|((with_reducible repeat (first|refine zA ?_ _|refine zC ?_|refine zB ?_ _)); exact BK179.out))) : gb179 ≠ gb199)); have n12_ := Aside0.mk ((by rw [hg]; exact Nat.ne_of_gt (blk_lt (g := gb179) (o := .cells #[.slice A0_0 l0_0.length c0_0] 24 (0, 0)) (by first|exact BK179.out|((with_reducible repeat (first|refine zA ?_ _|refine zC ?_|refine zB ?_ _)); exact BK179.out))) : gb199 ≠ gb179)); have n13_ := Aside0.mk ((by rw [hg]; exact Nat.ne_of_lt (blk_lt (g := gb180) (o := .cells #[.slice A1_0 l1_0.length c1_0] 24 (0, 0)) (by first|exact BK180.out|((with_reducible repeat (first|refine zA ?_ _|refine zC ?_|refine zB ?_ _)); exact BK180.out))) : gb180 ≠ gb199)); have n14_ := Aside0.mk ((by rw [hg]; exact Nat.ne_of_gt (blk_lt (g := gb180) (o := .cells #[.slice A1_0 l1_0.length c1_0] 24 (0, 0)) (by first|exact BK180.out|((with_reducible repeat (first|refine zA ?_ _|refine zC ?_|refine zB ?_ _)); exact BK180.out))) : gb199 ≠ gb180)); clear HO186; clear HO189; clear HO192; clear HO195; clear HO198; clear BK179; clear BK180; clear HB; have HO186 := n0_; have HO189 := n1_; have HO192 := n2_; have HO195 := n3_; have HO198 := n4_; have BK179 := n5_; have BK180 := n6_; have HB := n7_; have BK199 := n8_; have GW199 := n9_; have GE199 := n10_; have NB179_199 := n11_; have NB199_179 := n12_; have NB180_199 := n13_; have NB199_180 := n14_; clear n0_ n1_ n2_ n3_ n4_ n5_ n6_ n7_ n8_ n9_ n10_ n11_ n12_ n13_ n14_; clear hb hbox hg; obtain ⟨Ao70, co70, eo70⟩ := Kd.R_slice HO198.out; subst eo70; have hnb71 := NB199_179.out; have hnc71 := NB179_199.out; have hnb72 := NB199_180.out; have hnc72 := NB180_199.out; have hcz73_0 : w69.cell? ⟨gb199, 0, none⟩ = some (.slice none 0 0) := (zO BK199.out 0).trans rfl; have hfz73_0 := zP BK199.out 0; have hcz74_0 : w69.cell? ⟨gb180, 0, none⟩ = some (.slice A1_0 l1_0.length c1_0) := (zO BK180.out 0).trans rfl; have hfz74_0 := zP BK180.out 0)|((with_reducible refine gate_callee (f := 8) rfl ?_); refine goesL_ (some 42) rfl rfl Try.func8 (by kernel_rfl) rfl #[.agg #[.slice A1_0 l1_0.length c1_0]] rfl (by (try simp only [List.map_toArray, List.map_cons, List.map_nil]); first|done|rfl|(simp only [List.length_drop, List.length_take]; rfl)) ?_; (with_reducible refine (laws_toRing.calls k _ _ l1_0 t200 _ ?side1 ?side2 A34.out).mono ?_); (case side1 => exact Kd.C_below HR1_0.out (by repeat (first|(with_reducible first|exact HB.out|apply zI|apply zG|apply zH|refine zJ ?_ GE179.out|refine zJ ?_ GE180.out|refine zJ ?_ GE199.out)|exact HB.out))); (case side2 => exact HC1_0.out); rintro e w75 ⟨v201, rfl, ho0, hb⟩; refine ⟨_, rfl, ?_⟩; have n0_ := Aside0.mk (Kd.R_elder' (by (with_reducible repeat (first|apply zE|apply zD|apply zF)); exact (zR (zL (p := ⟨gb199, 0, none⟩) (zQ HO186.out BK199.out (by decide)) (fun _ hk => hk.2) (.slice Ao70 t196.length co70)) (fun _ h_ => h_.1))) (Kd.R_base ho0) hb); have n1_ := Aside0.mk (Kd.R_elder' (by (with_reducible repeat (first|apply zE|apply zD|apply zF)); exact (zR (zL (p := ⟨gb199, 0, none⟩) (zQ HO189.out BK199.out (by decide)) (fun _ hk => hk.2) (.slice Ao70 t196.length co70)) (fun _ h_ => h_.1))) (Kd.R_base ho0) hb); have n2_ := Aside0.mk (zM (by (with_reducible repeat (first|apply zE|apply zD|apply zF)); exact (zR (zL (p := ⟨gb199, 0, none⟩) (zQ HO192.out BK199.out (by decide)) (fun _ hk => hk.2) (.slice Ao70 t196.length co70)) (fun _ h_ => h_.1))) hb); have n3_ := Aside0.mk (zM (by (with_reducible repeat (first|apply zE|apply zD|apply zF)); exact (zR (zL (p := ⟨gb199, 0, none⟩) (zQ HO195.out BK199.out (by decide)) (fun _ hk => hk.2) (.slice Ao70 t196.length co70)) (fun _ h_ => h_.1))) hb); have n4_ := Aside0.mk (Kd.R_elder' (by (with_reducible repeat (first|apply zE|apply zD|apply zF)); exact (zR (zL (p := ⟨gb199, 0, none⟩) (zQ HO198.out BK199.out (by decide)) (fun _ hk => hk.2) (.slice Ao70 t196.length co70)) (fun _ h_ => h_.1))) (Kd.R_base ho0) hb); have n5_ := Aside0.mk (Kd.R_lower (Kd.R_new' (Kd.R_new' (Kd.R_new' ho0 (Kd.R_lt (by (with_reducible repeat (first|apply zE|apply zD|apply zF)); exact (zR (zL (p := ⟨gb199, 0, none⟩) (zQ HO186.out BK199.out (by decide)) (fun _ hk => hk.2) (.slice Ao70 t196.length co70)) (fun _ h_ => h_.1))))) (Kd.R_lt (by (with_reducible repeat (first|apply zE|apply zD|apply zF)); exact (zR (zL (p := ⟨gb199, 0, none⟩) (zQ HO189.out BK199.out (by decide)) (fun _ hk => hk.2) (.slice Ao70 t196.length co70)) (fun _ h_ => h_.1))))) (Kd.R_lt (by (with_reducible repeat (first|apply zE|apply zD|apply zF)); exact (zR (zL (p := ⟨gb199, 0, none⟩) (zQ HO198.out BK199.out (by decide)) (fun _ hk => hk.2) (.slice Ao70 t196.length co70)) (fun _ h_ => h_.1))))) (below_size (by repeat (first|(with_reducible first|exact HB.out|apply zI|apply zG|apply zH|refine zJ ?_ GE179.out|refine zJ ?_ GE180.out|refine zJ ?_ GE199.out)|exact HB.out)))); have n6_ := Aside0.mk (zK (g := gb179) (o := .cells #[.slice A0_0 l0_0.length c0_0] 24 (0, 0)) (by (with_reducible repeat (first|refine zA ?_ _|refine zC ?_|refine zB ?_ _)); refine zT ?_ NB179_199.out _; (with_reducible repeat (first|refine zA ?_ _|refine zC ?_|refine zB ?_ _)); exact BK179.out) hb); have n7_ := Aside0.mk (zK (g := gb180) (o := .cells #[.slice A1_0 l1_0.length c1_0] 24 (0, 0)) (by (with_reducible repeat (first|refine zA ?_ _|refine zC ?_|refine zB ?_ _)); refine zT ?_ NB180_199.out _; (with_reducible repeat (first|refine zA ?_ _|refine zC ?_|refine zB ?_ _)); exact BK180.out) hb); have n8_ := Aside0.mk (zK (g := gb199) (o := .cells #[.slice Ao70 t196.length co70] 29 (0, 0)) (by (with_reducible repeat (first|refine zA ?_ _|refine zC ?_|refine zB ?_ _)); refine blk_put (cs := #[.slice none 0 0]) ?_ 0 _ rfl; (with_reducible repeat (first|refine zA ?_ _|refine zC ?_|refine zB ?_ _)); exact BK199.out) hb); have n9_ := Aside0.mk (zN (by repeat (first|(with_reducible first|exact HB.out|apply zI|apply zG|apply zH|refine zJ ?_ GE179.out|refine zJ ?_ GE180.out|refine zJ ?_ GE199.out)|exact HB.out)) hb); clear HO186; clear HO189; clear HO192; clear HO195; clear HO198; clear BK179; clear BK180; clear BK199; clear HB; have HO186 := n0_; have HO189 := n1_; have HO192 := n2_; have HO195 := n3_; have HO198 := n4_; have HO202 := n5_; have BK179 := n6_; have BK180 := n7_; have BK199 := n8_; have HB := n9_; clear n0_ n1_ n2_ n3_ n4_ n5_ n6_ n7_ n8_ n9_; (try clear hb); (try clear hb2); (try clear hk); (try clear hi); (try clear ho0))|((with_reducible refine gate_dst (N := 10) rfl ?_); refine box_event ?hg (N := 10) ?hd (cs := #[.slice none 0 0]) (t := 29) ?hr ?_; (case hd => rfl); (case hg => rfl); (case hr => first|(go_simp; done)|(go_simp; rfl)); intro gb203 hg w76 hbox hb; have n0_ := Aside0.mk (zM (by (with_reducible repeat (first|apply zE|apply zD|apply zF)); exact HO186.out) hb); have n1_ := Aside0.mk (zM (by (with_reducible repeat (first|apply zE|apply zD|apply zF)); exact HO189.out) hb); have n2_ := Aside0.mk (zM (by (with_reducible repeat (first|apply zE|apply zD|apply zF)); exact HO192.out) hb); have n3_ := Aside0.mk (zM (by (with_reducible repeat (first|apply zE|apply zD|apply zF)); exact HO195.out) hb); have n4_ := Aside0.mk (zM (by (with_reducible repeat (first|apply zE|apply zD|apply zF)); exact HO198.out) hb); have n5_ := Aside0.mk (zM (by (with_reducible repeat (first|apply zE|apply zD|apply zF)); exact HO202.out) hb); have n6_ := Aside0.mk (zK (g := gb179) (o := .cells #[.slice A0_0 l0_0.length c0_0] 24 (0, 0)) (by first|exact BK179.out|((with_reducible repeat (first|refine zA ?_ _|refine zC ?_|refine zB ?_ _)); exact BK179.out)) hb); have n7_ := Aside0.mk (zK (g := gb180) (o := .cells #[.slice A1_0 l1_0.length c1_0] 24 (0, 0)) (by first|exact BK180.out|((with_reducible repeat (first|refine zA ?_ _|refine zC ?_|refine zB ?_ _)); exact BK180.out)) hb); have n8_ := Aside0.mk (zK (g := gb199) (o := .cells #[.slice Ao70 t196.length co70] 29 (0, 0)) (by first|exact BK199.out|((with_reducible repeat (first|refine zA ?_ _|refine zC ?_|refine zB ?_ _)); exact BK199.out)) hb); have n9_ := Aside0.mk (zN (by repeat (first|(with_reducible first|exact HB.out|apply zI|apply zG|apply zH|refine zJ ?_ GE179.out|refine zJ ?_ GE180.out|refine zJ ?_ GE199.out)|exact HB.out)) hb); have n10_ := Aside0.mk (hbox); have n11_ := Aside0.mk ((by rw [hg]; exact (below_size (by repeat (first|(with_reducible first|exact HB.out|apply zI|apply zG|apply zH|refine zJ ?_ GE179.out|refine zJ ?_ GE180.out|refine zJ ?_ GE199.out)|exact HB.out))) : w.heap.size ≤ gb203)); have n12_ := Aside0.mk ((by rw [hg]; exact (below_size (by repeat (first|(with_reducible first|exact HB.out|apply zI|apply zG|apply zH|refine zJ ?_ GE179.out|refine zJ ?_ GE180.out|refine zJ ?_ GE199.out)|exact HB.out))) : w.heap.size ≤ gb203)); have n13_ := Aside0.mk ((by rw [hg]; exact Nat.ne_of_lt (blk_lt (g := gb179) (o := .cells #[.slice A0_0 l0_0.length c0_0] 24 (0, 0)) (by first|exact BK179.out|((with_reducible repeat (first|refine zA ?_ _|refine zC ?_|refine zB ?_ _)); exact BK179.out))) : gb179 ≠ gb203)); have n14_ := Aside0.mk ((by rw [hg]; exact Nat.ne_of_gt (blk_lt (g := gb179) (o := .cells #[.slice A0_0 l0_0.length c0_0] 24 (0, 0)) (by first|exact BK179.out|((with_reducible repeat (first|refine zA ?_ _|refine zC ?_|refine zB ?_ _)); exact BK179.out))) : gb203 ≠ gb179)); have n15_ := Aside0.mk ((by rw [hg]; exact Nat.ne_of_lt (blk_lt (g := gb180) (o := .cells #[.slice A1_0 l1_0.length c1_0] 24 (0, 0)) (by first|exact BK180.out|((with_reducible repeat (first|refine zA ?_ _|refine zC ?_|refine zB ?_ _)); exact BK180.out))) : gb180 ≠ gb203)); have n16_ := Aside0.mk ((by rw [hg]; exact Nat.ne_of_gt (blk_lt (g := gb180) (o := .cells #[.slice A1_0 l1_0.length c1_0] 24 (0, 0)) (by first|exact BK180.out|((with_reducible repeat (first|refine zA ?_ _|refine zC ?_|refine zB ?_ _)); exact BK180.out))) : gb203 ≠ gb180)); have n17_ := Aside0.mk ((by rw [hg]; exact Nat.ne_of_lt (blk_lt (g := gb199) (o := .cells #[.slice Ao70 t196.length co70] 29 (0, 0)) (by first|exact BK199.out|((with_reducible repeat (first|refine zA ?_ _|refine zC ?_|refine zB ?_ _)); exact BK199.out))) : gb199 ≠ gb203)); have n18_ := Aside0.mk ((by rw [hg]; exact Nat.ne_of_gt (blk_lt (g := gb199) (o := .cells #[.slice Ao70 t196.length co70] 29 (0, 0)) (by first|exact BK199.out|((with_reducible repeat (first|refine zA ?_ _|refine zC ?_|refine zB ?_ _)); exact BK199.out))) : gb203 ≠ gb199)); clear HO186; clear HO189; clear HO192; clear HO195; clear HO198; clear HO202; clear BK179; clear BK180; clear BK199; clear HB; have HO186 := n0_; have HO189 := n1_; have HO192 := n2_; have HO195 := n3_; have HO198 := n4_; have HO202 := n5_; have BK179 := n6_; have BK180 := n7_; have BK199 := n8_; have HB := n9_; have BK203 := n10_; have GW203 := n11_; have GE203 := n12_; have NB179_203 := n13_; have NB203_179 := n14_; have NB180_203 := n15_; have NB203_180 := n16_; have NB199_203 := n17_; have NB203_199 := n18_; clear n0_ n1_ n2_ n3_ n4_ n5_ n6_ n7_ n8_ n9_ n10_ n11_ n12_ n13_ n14_ n15_ n16_ n17_ n18_; clear hb hbox hg; obtain ⟨Ao77, co77, eo77⟩ := Kd.R_slice HO202.out; subst eo77; have hnb78 := NB203_179.out; have hnc78 := NB179_203.out; have hnb79 := NB203_180.out; have hnc79 := NB180_203.out; have hnb80 := NB203_199.out; have hnc80 := NB199_203.out; have hcz81_0 : w76.cell? ⟨gb203, 0, none⟩ = some (.slice none 0 0) := (zO BK203.out 0).trans rfl; have hfz81_0 := zP BK203.out 0)|((with_reducible refine gate_callee (f := 19) rfl ?_); refine goesL_ (some 44) rfl rfl Try.func19 (by kernel_rfl) rfl #[.slice A2 l2.length c2] rfl (by (try simp only [List.map_toArray, List.map_cons, List.map_nil]); first|done|rfl|(simp only [List.length_drop, List.length_take]; rfl)) ?_; (with_reducible refine (laws_toStringS.calls k _ _ l2 t204 _ ?side1 ?side2 A35.out).mono ?_); (case side1 => exact Kd.C_below HR2.out (by repeat (first|(with_reducible first|exact HB.out|apply zI|apply zG|apply zH|refine zJ ?_ GE179.out|refine zJ ?_ GE180.out|refine zJ ?_ GE199.out|refine zJ ?_ GE203.out)|exact HB.out))); (case side2 => exact HC2.out); rintro e w82 ⟨v205, rfl, ho0, hb⟩; refine ⟨_, rfl, ?_⟩; have n0_ := Aside0.mk (zM (by (with_reducible repeat (first|apply zE|apply zD|apply zF)); exact (zR (zL (p := ⟨gb203, 0, none⟩) (zQ HO186.out BK203.out (by decide)) (fun _ hk => hk.2) (.slice Ao77 t200.length co77)) (fun _ h_ => h_.1))) hb); have n1_ := Aside0.mk (zM (by (with_reducible repeat (first|apply zE|apply zD|apply zF)); exact (zR (zL (p := ⟨gb203, 0, none⟩) (zQ HO189.out BK203.out (by decide)) (fun _ hk => hk.2) (.slice Ao77 t200.length co77)) (fun _ h_ => h_.1))) hb); have n2_ := Aside0.mk (Kd.R_elder' (by (with_reducible repeat (first|apply zE|apply zD|apply zF)); exact (zR (zL (p := ⟨gb203, 0, none⟩) (zQ HO192.out BK203.out (by decide)) (fun _ hk => hk.2) (.slice Ao77 t200.length co77)) (fun _ h_ => h_.1))) (Kd.R_base ho0) hb); have n3_ := Aside0.mk (Kd.R_elder' (by (with_reducible repeat (first|apply zE|apply zD|apply zF)); exact (zR (zL (p := ⟨gb203, 0, none⟩) (zQ HO195.out BK203.out (by decide)) (fun _ hk => hk.2) (.slice Ao77 t200.length co77)) (fun _ h_ => h_.1))) (Kd.R_base ho0) hb); have n4_ := Aside0.mk (zM (by (with_reducible repeat (first|apply zE|apply zD|apply zF)); exact (zR (zL (p := ⟨gb203, 0, none⟩) (zQ HO198.out BK203.out (by decide)) (fun _ hk => hk.2) (.slice Ao77 t200.length co77)) (fun _ h_ => h_.1))) hb); have n5_ := Aside0.mk (zM (by (with_reducible repeat (first|apply zE|apply zD|apply zF)); exact (zR (zL (p := ⟨gb203, 0, none⟩) (zQ HO202.out BK203.out (by decide)) (fun _ hk => hk.2) (.slice Ao77 t200.length co77)) (fun _ h_ => h_.1))) hb); have n6_ := Aside0.mk (Kd.R_lower (Kd.R_new' (Kd.R_new' ho0 (Kd.R_lt (by (with_reducible repeat (first|apply zE|apply zD|apply zF)); exact (zR (zL (p := ⟨gb203, 0, none⟩) (zQ HO192.out BK203.out (by decide)) (fun _ hk => hk.2) (.slice Ao77 t200.length co77)) (fun _ h_ => h_.1))))) (Kd.R_lt (by (with_reducible repeat (first|apply zE|apply zD|apply zF)); exact (zR (zL (p := ⟨gb203, 0, none⟩) (zQ HO195.out BK203.out (by decide)) (fun _ hk => hk.2) (.slice Ao77 t200.length co77)) (fun _ h_ => h_.1))))) (below_size (by repeat (first|(with_reducible first|exact HB.out|apply zI|apply zG|apply zH|refine zJ ?_ GE179.out|refine zJ ?_ GE180.out|refine zJ ?_ GE199.out|refine zJ ?_ GE203.out)|exact HB.out)))); have n7_ := Aside0.mk (zK (g := gb179) (o := .cells #[.slice A0_0 l0_0.length c0_0] 24 (0, 0)) (by (with_reducible repeat (first|refine zA ?_ _|refine zC ?_|refine zB ?_ _)); refine zT ?_ NB179_203.out _; (with_reducible repeat (first|refine zA ?_ _|refine zC ?_|refine zB ?_ _)); exact BK179.out) hb); have n8_ := Aside0.mk (zK (g := gb180) (o := .cells #[.slice A1_0 l1_0.length c1_0] 24 (0, 0)) (by (with_reducible repeat (first|refine zA ?_ _|refine zC ?_|refine zB ?_ _)); refine zT ?_ NB180_203.out _; (with_reducible repeat (first|refine zA ?_ _|refine zC ?_|refine zB ?_ _)); exact BK180.out) hb); have n9_ := Aside0.mk (zK (g := gb199) (o := .cells #[.slice Ao70 t196.length co70] 29 (0, 0)) (by (with_reducible repeat (first|refine zA ?_ _|refine zC ?_|refine zB ?_ _)); refine zT ?_ NB199_203.out _; (with_reducible repeat (first|refine zA ?_ _|refine zC ?_|refine zB ?_ _)); exact BK199.out) hb); have n10_ := Aside0.mk (zK (g := gb203) (o := .cells #[.slice Ao77 t200.length co77] 29 (0, 0)) (by (with_reducible repeat (first|refine zA ?_ _|refine zC ?_|refine zB ?_ _)); refine blk_put (cs := #[.slice none 0 0]) ?_ 0 _ rfl; (with_reducible repeat (first|refine zA ?_ _|refine zC ?_|refine zB ?_ _)); exact BK203.out) hb); have n11_ := Aside0.mk (zN (by repeat (first|(with_reducible first|exact HB.out|apply zI|apply zG|apply zH|refine zJ ?_ GE179.out|refine zJ ?_ GE180.out|refine zJ ?_ GE199.out|refine zJ ?_ GE203.out)|exact HB.out)) hb); clear HO186; clear HO189; clear HO192; clear HO195; clear HO198; clear HO202; clear BK179; clear BK180; clear BK199; clear BK203; clear HB; have HO186 := n0_; have HO189 := n1_; have HO192 := n2_; have HO195 := n3_; have HO198 := n4_; have HO202 := n5_; have HO206 := n6_; have BK179 := n7_; have BK180 := n8_; have BK199 := n9_; have BK203 := n10_; have HB := n11_; clear n0_ n1_ n2_ n3_ n4_ n5_ n6_ n7_ n8_ n9_ n10_ n11_; (try clear hb); (try clear hb2); (try clear hk); (try clear hi); (try clear ho0); have hcz83_0 : w82.cell? ⟨gb199, 0, none⟩ = some (.slice Ao70 t196.length co70) := (zO BK199.out 0).trans rfl; have hfz83_0 := zP BK199.out 0; have hcz84_0 : w82.cell? ⟨gb203, 0, none⟩ = some (.slice Ao77 t200.length co77) := (zO BK203.out 0).trans rfl; have hfz84_0 := zP BK203.out 0; obtain ⟨Ao85, co85, eo85⟩ := Kd.R_slice HO206.out; subst eo85)|((with_reducible refine gate_callee (f := 20) rfl ?_); refine goesL_ (some 48) rfl rfl Try.func20 (by kernel_rfl) rfl #[.agg #[.slice Ao70 t196.length co70], .agg #[.slice Ao77 t200.length co77], .slice Ao85 t204.length co85] rfl (by (try simp only [List.map_toArray, List.map_cons, List.map_nil]); first|done|rfl|(simp only [List.length_drop, List.length_take]; rfl)) ?_; (with_reducible refine (impl_MovedKeys.calls k _ _ t196 _ _ t200 _ _ t204 t207 _ ?side1 ?side2 ?side3 ?side4 ?side5 ?side6 A36.out).mono ?_); (case side1 => repeat (first|exact (Kd.R_reads' HO198.out).2.2|(with_reducible refine Kd.C_alloc ?_ _)|(with_reducible refine Kd.C_drewN ?_ _)|(with_reducible refine Kd.C_drew ?_))); (case side2 => exact (Kd.R_reads' HO198.out).2.1); (case side3 => repeat (first|exact (Kd.R_reads' HO202.out).2.2|(with_reducible refine Kd.C_alloc ?_ _)|(with_reducible refine Kd.C_drewN ?_ _)|(with_reducible refine Kd.C_drew ?_))); (case side4 => exact (Kd.R_reads' HO202.out).2.1); (case side5 => repeat (first|exact (Kd.R_reads' HO206.out).2.2|(with_reducible refine Kd.C_alloc ?_ _)|(with_reducible refine Kd.C_drewN ?_ _)|(with_reducible refine Kd.C_drew ?_))); (case side6 => exact (Kd.R_reads' HO206.out).2.1); rintro e w86 ⟨v208, rfl, ho0, hb⟩; refine ⟨_, rfl, ?_⟩; have n0_ := Aside0.mk (zM (by (with_reducible repeat (first|apply zE|apply zD|apply zF)); exact HO186.out) hb); have n1_ := Aside0.mk (zM (by (with_reducible repeat (first|apply zE|apply zD|apply zF)); exact HO189.out) hb); have n2_ := Aside0.mk (Kd.R_elder' (by (with_reducible repeat (first|apply zE|apply zD|apply zF)); exact HO192.out) (Kd.R_base ho0) hb); have n3_ := Aside0.mk (Kd.R_elder' (by (with_reducible repeat (first|apply zE|apply zD|apply zF)); exact HO195.out) (Kd.R_base ho0) hb); have n4_ := Aside0.mk (zM (by (with_reducible repeat (first|apply zE|apply zD|apply zF)); exact HO198.out) hb); have n5_ := Aside0.mk (zM (by (with_reducible repeat (first|apply zE|apply zD|apply zF)); exact HO202.out) hb); have n6_ := Aside0.mk (Kd.R_elder' (by (with_reducible repeat (first|apply zE|apply zD|apply zF)); exact HO206.out) (Kd.R_base ho0) hb); have n7_ := Aside0.mk (Kd.R_lower (Kd.R_new' (Kd.R_new' (Kd.R_new' ho0 (Kd.R_lt (by (with_reducible repeat (first|apply zE|apply zD|apply zF)); exact HO192.out))) (Kd.R_lt (by (with_reducible repeat (first|apply zE|apply zD|apply zF)); exact HO195.out))) (Kd.R_lt (by (with_reducible repeat (first|apply zE|apply zD|apply zF)); exact HO206.out))) (below_size (by repeat (first|(with_reducible first|exact HB.out|apply zI|apply zG|apply zH|refine zJ ?_ GE179.out|refine zJ ?_ GE180.out|refine zJ ?_ GE199.out|refine zJ ?_ GE203.out)|exact HB.out)))); have n8_ := Aside0.mk (zK (g := gb179) (o := .cells #[.slice A0_0 l0_0.length c0_0] 24 (0, 0)) (by first|exact BK179.out|((with_reducible repeat (first|refine zA ?_ _|refine zC ?_|refine zB ?_ _)); exact BK179.out)) hb); have n9_ := Aside0.mk (zK (g := gb180) (o := .cells #[.slice A1_0 l1_0.length c1_0] 24 (0, 0)) (by first|exact BK180.out|((with_reducible repeat (first|refine zA ?_ _|refine zC ?_|refine zB ?_ _)); exact BK180.out)) hb); have n10_ := Aside0.mk (zK (g := gb199) (o := .cells #[.slice Ao70 t196.length co70] 29 (0, 0)) (by first|exact BK199.out|((with_reducible repeat (first|refine zA ?_ _|refine zC ?_|refine zB ?_ _)); exact BK199.out)) hb); have n11_ := Aside0.mk (zK (g := gb203) (o := .cells #[.slice Ao77 t200.length co77] 29 (0, 0)) (by first|exact BK203.out|((with_reducible repeat (first|refine zA ?_ _|refine zC ?_|refine zB ?_ _)); exact BK203.out)) hb); have n12_ := Aside0.mk (zN (by repeat (first|(with_reducible first|exact HB.out|apply zI|apply zG|apply zH|refine zJ ?_ GE179.out|refine zJ ?_ GE180.out|refine zJ ?_ GE199.out|refine zJ ?_ GE203.out)|exact HB.out)) hb); clear HO186; clear HO189; clear HO192; clear HO195; clear HO198; clear HO202; clear HO206; clear BK179; clear BK180; clear BK199; clear BK203; clear HB; have HO186 := n0_; have HO189 := n1_; have HO192 := n2_; have HO195 := n3_; have HO198 := n4_; have HO202 := n5_; have HO206 := n6_; have HO209 := n7_; have BK179 := n8_; have BK180 := n9_; have BK199 := n10_; have BK203 := n11_; have HB := n12_; clear n0_ n1_ n2_ n3_ n4_ n5_ n6_ n7_ n8_ n9_ n10_ n11_ n12_; (try clear hb); (try clear hb2); (try clear hk); (try clear hi); (try clear ho0); obtain ⟨Ao87, co87, eo87⟩ := Kd.R_slice HO209.out; subst eo87; obtain ⟨Ao88, co88, eo88⟩ := Kd.R_slice HO195.out; subst eo88)|((with_reducible refine gate_callee (f := 21) rfl ?_); refine goesL_ (some 51) rfl rfl Try.func21 (by kernel_rfl) rfl #[.slice Ao87 t207.length co87, .slice Ao88 t193.length co88] rfl (by (try simp only [List.map_toArray, List.map_cons, List.map_nil]); first|done|rfl|(simp only [List.length_drop, List.length_take]; rfl)) ?_; (with_reducible refine (laws_eqStringS.calls k _ _ t207 _ _ t193 true _ ?side1 ?side2 ?side3 ?side4 A37.out ?prem).mono ?_); (case prem => first|(rfl)|(exact HTr_.out)|(assumption)|(refine (Bool.eq_false_or_eq_true _).resolve_right (fun hz => ?_); rw [hz, if_neg (by decide)] at H; exact absurd ((Option.some.inj H).trans HTr_.out) (by simp))|(refine (Bool.eq_false_or_eq_true _).resolve_right (fun hz => ?_); have H := H'.out; rw [hz] at H; exact absurd ((laws_FnExactMovedKeys.j0_bad H).symm.trans HTr_.out) (by simp))); (case side1 => repeat (first|exact (Kd.R_reads' HO209.out).2.2|(with_reducible refine Kd.C_alloc ?_ _)|(with_reducible refine Kd.C_drewN ?_ _)|(with_reducible refine Kd.C_drew ?_))); (case side2 => exact (Kd.R_reads' HO209.out).2.1); (case side3 => repeat (first|exact (Kd.R_reads' HO195.out).2.2|(with_reducible refine Kd.C_alloc ?_ _)|(with_reducible refine Kd.C_drewN ?_ _)|(with_reducible refine Kd.C_drew ?_))); (case side4 => exact (Kd.R_reads' HO195.out).2.1); rintro e w' ⟨rfl, ⟨nd, rfl⟩⟩; refine ⟨_, rfl, ?_⟩))
                (try (rw [drewN_self w86]; generalize hq_ : World.drewN w86 _ = w86; have n0_ : Aside0 (Kd.R k47 47 w86 w.heap.size (fun k_ => some k_ ≠ (.slice Ao64 t187.length co64 : Value).ownBlock ∧ some k_ ≠ (.slice Ao70 t196.length co70 : Value).ownBlock ∧ some k_ ≠ (.slice Ao77 t200.length co77 : Value).ownBlock) (.slice Ao63 t184.length co63) t184) := ⟨by rw [← hq_]; exact (by (with_reducible repeat (first|apply zE|apply zD|apply zF)); exact zR HO186.out (fun _ hk => ⟨hk.1.1.2, ⟨hk.1.2, hk.2⟩⟩))⟩; have n1_ : Aside0 (Kd.R k47 47 w86 w.heap.size (fun k_ => some k_ ≠ (.slice Ao63 t184.length co63 : Value).ownBlock ∧ some k_ ≠ (.slice Ao70 t196.length co70 : Value).ownBlock ∧ some k_ ≠ (.slice Ao77 t200.length co77 : Value).ownBlock) (.slice Ao64 t187.length co64) t187) := ⟨by rw [← hq_]; exact (by (with_reducible repeat (first|apply zE|apply zD|apply zF)); exact zR HO189.out (fun _ hk => ⟨hk.1.1.2, ⟨hk.1.2, hk.2⟩⟩))⟩; have n2_ : Aside0 (Kd.R Kd.string 9 w86 w.heap.size (fun k_ => some k_ ≠ (.slice Ao88 t193.length co88 : Value).ownBlock ∧ some k_ ≠ (.slice Ao85 t204.length co85 : Value).ownBlock ∧ some k_ ≠ (.slice Ao87 t207.length co87 : Value).ownBlock) (.slice Ao65 t190.length co65) t190) := ⟨by rw [← hq_]; exact (by (with_reducible repeat (first|apply zE|apply zD|apply zF)); exact zR HO192.out (fun _ hk => ⟨hk.1.1.2, ⟨hk.1.2, hk.2⟩⟩))⟩; have n3_ : Aside0 (Kd.R Kd.string 9 w86 w.heap.size (fun k_ => some k_ ≠ (.slice Ao65 t190.length co65 : Value).ownBlock ∧ some k_ ≠ (.slice Ao85 t204.length co85 : Value).ownBlock ∧ some k_ ≠ (.slice Ao87 t207.length co87 : Value).ownBlock) (.slice Ao88 t193.length co88) t193) := ⟨by rw [← hq_]; exact (by (with_reducible repeat (first|apply zE|apply zD|apply zF)); exact zR HO195.out (fun _ hk => ⟨hk.1.1.2, ⟨hk.1.2, hk.2⟩⟩))⟩; have n4_ : Aside0 (Kd.R k47 47 w86 w.heap.size (fun k_ => some k_ ≠ (.slice Ao63 t184.length co63 : Value).ownBlock ∧ some k_ ≠ (.slice Ao64 t187.length co64 : Value).ownBlock ∧ some k_ ≠ (.slice Ao77 t200.length co77 : Value).ownBlock) (.slice Ao70 t196.length co70) t196) := ⟨by rw [← hq_]; exact (by (with_reducible repeat (first|apply zE|apply zD|apply zF)); exact zR HO198.out (fun _ hk => ⟨hk.1.1.2, ⟨hk.1.2, hk.2⟩⟩))⟩; have n5_ : Aside0 (Kd.R k47 47 w86 w.heap.size (fun k_ => some k_ ≠ (.slice Ao63 t184.length co63 : Value).ownBlock ∧ some k_ ≠ (.slice Ao64 t187.length co64 : Value).ownBlock ∧ some k_ ≠ (.slice Ao70 t196.length co70 : Value).ownBlock) (.slice Ao77 t200.length co77) t200) := ⟨by rw [← hq_]; exact (by (with_reducible repeat (first|apply zE|apply zD|apply zF)); exact zR HO202.out (fun _ hk => ⟨hk.1.1.2, ⟨hk.1.2, hk.2⟩⟩))⟩; have n6_ : Aside0 (Kd.R Kd.string 9 w86 w.heap.size (fun k_ => some k_ ≠ (.slice Ao65 t190.length co65 : Value).ownBlock ∧ some k_ ≠ (.slice Ao88 t193.length co88 : Value).ownBlock ∧ some k_ ≠ (.slice Ao87 t207.length co87 : Value).ownBlock) (.slice Ao85 t204.length co85) t204) := ⟨by rw [← hq_]; exact (by (with_reducible repeat (first|apply zE|apply zD|apply zF)); exact zR HO206.out (fun _ hk => ⟨hk.1.1.2, ⟨hk.1.2, hk.2⟩⟩))⟩; have n7_ : Aside0 (Kd.R Kd.string 9 w86 w.heap.size (fun k_ => some k_ ≠ (.slice Ao65 t190.length co65 : Value).ownBlock ∧ some k_ ≠ (.slice Ao88 t193.length co88 : Value).ownBlock ∧ some k_ ≠ (.slice Ao85 t204.length co85 : Value).ownBlock) (.slice Ao87 t207.length co87) t207) := ⟨by rw [← hq_]; exact (by (with_reducible repeat (first|apply zE|apply zD|apply zF)); exact zR HO209.out (fun _ hk => ⟨hk.1.1.2, ⟨hk.1.2, hk.2⟩⟩))⟩; have n8_ : Aside0 (w86.heap[gb179]? = some (.cells #[.slice A0_0 l0_0.length c0_0] 24 (0, 0))) := ⟨by rw [← hq_]; exact (by first|exact BK179.out|((with_reducible repeat (first|refine zA ?_ _|refine zC ?_|refine zB ?_ _)); exact BK179.out))⟩; have n9_ : Aside0 (w86.heap[gb180]? = some (.cells #[.slice A1_0 l1_0.length c1_0] 24 (0, 0))) := ⟨by rw [← hq_]; exact (by first|exact BK180.out|((with_reducible repeat (first|refine zA ?_ _|refine zC ?_|refine zB ?_ _)); exact BK180.out))⟩; have n10_ : Aside0 (w86.heap[gb199]? = some (.cells #[.slice Ao70 t196.length co70] 29 (0, 0))) := ⟨by rw [← hq_]; exact (by first|exact BK199.out|((with_reducible repeat (first|refine zA ?_ _|refine zC ?_|refine zB ?_ _)); exact BK199.out))⟩; have n11_ : Aside0 (w86.heap[gb203]? = some (.cells #[.slice Ao77 t200.length co77] 29 (0, 0))) := ⟨by rw [← hq_]; exact (by first|exact BK203.out|((with_reducible repeat (first|refine zA ?_ _|refine zC ?_|refine zB ?_ _)); exact BK203.out))⟩; have n12_ : Aside0 (Below w.heap.size w w86) := ⟨by rw [← hq_]; exact (by repeat (first|(with_reducible first|exact HB.out|apply zI|apply zG|apply zH|refine zJ ?_ GE179.out|refine zJ ?_ GE180.out|refine zJ ?_ GE199.out|refine zJ ?_ GE203.out)|exact HB.out))⟩; clear HO186 HO189 HO192 HO195 HO198 HO202 HO206 HO209 BK179 BK180 BK199 BK203 HB hq_; have HO186 := n0_; have HO189 := n1_; have HO192 := n2_; have HO195 := n3_; have HO198 := n4_; have HO202 := n5_; have HO206 := n6_; have HO209 := n7_; have BK179 := n8_; have BK180 := n9_; have BK199 := n10_; have BK203 := n11_; have HB := n12_; clear n0_ n1_ n2_ n3_ n4_ n5_ n6_ n7_ n8_ n9_ n10_ n11_ n12_))
                have n0_ := Aside0.mk (zF HO186.out)
                have n1_ := Aside0.mk (zF HO189.out)
                have n2_ := Aside0.mk (zF HO192.out)
                have n3_ := Aside0.mk (zF HO195.out)
                have n4_ := Aside0.mk (zF HO198.out)
                have n5_ := Aside0.mk (zF HO202.out)
                have n6_ := Aside0.mk (zF HO206.out)
                have n7_ := Aside0.mk (zF HO209.out)
                have n8_ := Aside0.mk (zC BK179.out)
                have n9_ := Aside0.mk (zC BK180.out)
                have n10_ := Aside0.mk (zC BK199.out)
                have n11_ := Aside0.mk (zC BK203.out)
                have n12_ := Aside0.mk (zH HB.out)
                clear HO186
                clear HO189
                clear HO192
                clear HO195
                clear HO198
                clear HO202
                clear HO206
                clear HO209
                clear BK179
                clear BK180
                clear BK199
                clear BK203
                clear HB
                have HO186 := n0_
                have HO189 := n1_
                have HO192 := n2_
                have HO195 := n3_
                have HO198 := n4_
                have HO202 := n5_
                have HO206 := n6_
                have HO209 := n7_
                have BK179 := n8_
                have BK180 := n9_
                have BK199 := n10_
                have BK203 := n11_
                have HB := n12_
                clear n0_ n1_ n2_ n3_ n4_ n5_ n6_ n7_ n8_ n9_ n10_ n11_ n12_
                refine start_ (n := 5) (S := fun w' => w'.cell? ⟨gb199, 0, none⟩ = some (.slice Ao70 t196.length co70) ∧ w'.cell? ⟨gb179, 0, none⟩ = some (.slice A0_0 l0_0.length c0_0)) (ds := []) #[false, false, false, false, false] (by kernel_rfl) rfl rfl ⟨(zO BK199.out 0).trans rfl, (zO BK179.out 0).trans rfl⟩ (fun hHeld => ?_)
                generalize w86.drew = w89 at HO186 HO189 HO192 HO195 HO198 HO202 HO206 HO209 BK179 BK180 BK199 BK203 HB hHeld ⊢
                refine take_ (i := 0) (N := some 53) (v := ?_) (a' := ?_) #[true, false, false, false, false] rfl rfl (by kernel_rfl) (fun _ _ _ h => h) (Or.inl ⟨by rfl, ?_⟩) hHeld ?_ ?_
                rotate_left
                · rintro w' ⟨s0, s1⟩
                  go_simp
                  with_reducible rfl
                rotate_left
                · simp only [Act.put, List.setIfInBounds_toArray, List.set_cons_zero, List.set_cons_succ, i64_w, i32_w]
                  rfl
                refine take_ (i := 1) (N := some 54) (v := ?_) (a' := ?_) #[true, true, false, false, false] rfl rfl (by kernel_rfl) (fun _ _ _ h => h) (Or.inl ⟨by rfl, ?_⟩) hHeld ?_ ?_
                rotate_left
                · rintro w' ⟨s0, s1⟩
                  go_simp
                  with_reducible rfl
                rotate_left
                · simp only [Act.put, List.setIfInBounds_toArray, List.set_cons_zero, List.set_cons_succ, i64_w, i32_w]
                  rfl
                refine one_ (i := 2) (N := some 55) #[true, true, true, false, false] rfl rfl (by kernel_rfl) (by decide) (fun K hK => ?_)
                refine goes_ Try.func8 (by kernel_rfl) rfl #[.agg #[.slice A0_0 l0_0.length c0_0]] (by rfl) rfl rfl (by (try simp only [List.map_toArray, List.map_cons, List.map_nil]); first|done|rfl|(simp only [List.length_drop, List.length_take]; rfl)) ?_
                with_reducible refine (laws_toRing.calls k _ _ l0_0 t211 _ ?side1 ?side2 A39.out).mono ?_
                (case side1 => repeat (first|exact (Kd.C_below HR0_0.out HB.out)|(with_reducible refine Kd.C_alloc ?_ _)|(with_reducible refine Kd.C_drewN ?_ _)|(with_reducible refine Kd.C_drew ?_)))
                (case side2 => exact HC0_0.out)
                rintro e w90 ⟨v212, rfl, ho0, hb⟩
                refine ⟨_, rfl, ?_⟩
                have n0_ := Aside0.mk (Kd.R_elder' (by (with_reducible repeat (first|apply zE|apply zD|apply zF)); exact HO186.out) (Kd.R_base ho0) hb)
                have n1_ := Aside0.mk (Kd.R_elder' (by (with_reducible repeat (first|apply zE|apply zD|apply zF)); exact HO189.out) (Kd.R_base ho0) hb)
                have n2_ := Aside0.mk (zM (by (with_reducible repeat (first|apply zE|apply zD|apply zF)); exact HO192.out) hb)
                have n3_ := Aside0.mk (zM (by (with_reducible repeat (first|apply zE|apply zD|apply zF)); exact HO195.out) hb)
                have n4_ := Aside0.mk (Kd.R_elder' (by (with_reducible repeat (first|apply zE|apply zD|apply zF)); exact HO198.out) (Kd.R_base ho0) hb)
                have n5_ := Aside0.mk (Kd.R_elder' (by (with_reducible repeat (first|apply zE|apply zD|apply zF)); exact HO202.out) (Kd.R_base ho0) hb)
                have n6_ := Aside0.mk (zM (by (with_reducible repeat (first|apply zE|apply zD|apply zF)); exact HO206.out) hb)
                have n7_ := Aside0.mk (zM (by (with_reducible repeat (first|apply zE|apply zD|apply zF)); exact HO209.out) hb)
                have n8_ := Aside0.mk (Kd.R_lower (Kd.R_new' (Kd.R_new' (Kd.R_new' (Kd.R_new' ho0 (Kd.R_lt (by (with_reducible repeat (first|apply zE|apply zD|apply zF)); exact HO186.out))) (Kd.R_lt (by (with_reducible repeat (first|apply zE|apply zD|apply zF)); exact HO189.out))) (Kd.R_lt (by (with_reducible repeat (first|apply zE|apply zD|apply zF)); exact HO198.out))) (Kd.R_lt (by (with_reducible repeat (first|apply zE|apply zD|apply zF)); exact HO202.out))) (below_size (by repeat (first|(with_reducible first|exact HB.out|apply zI|apply zG|apply zH|refine zJ ?_ GE179.out|refine zJ ?_ GE180.out|refine zJ ?_ GE199.out|refine zJ ?_ GE203.out)|exact HB.out))))
                have n9_ := Aside0.mk (zK (g := gb179) (o := .cells #[.slice A0_0 l0_0.length c0_0] 24 (0, 0)) (by first|exact BK179.out|((with_reducible repeat (first|refine zA ?_ _|refine zC ?_|refine zB ?_ _)); exact BK179.out)) hb)
                have n10_ := Aside0.mk (zK (g := gb180) (o := .cells #[.slice A1_0 l1_0.length c1_0] 24 (0, 0)) (by first|exact BK180.out|((with_reducible repeat (first|refine zA ?_ _|refine zC ?_|refine zB ?_ _)); exact BK180.out)) hb)
                have n11_ := Aside0.mk (zK (g := gb199) (o := .cells #[.slice Ao70 t196.length co70] 29 (0, 0)) (by first|exact BK199.out|((with_reducible repeat (first|refine zA ?_ _|refine zC ?_|refine zB ?_ _)); exact BK199.out)) hb)
                have n12_ := Aside0.mk (zK (g := gb203) (o := .cells #[.slice Ao77 t200.length co77] 29 (0, 0)) (by first|exact BK203.out|((with_reducible repeat (first|refine zA ?_ _|refine zC ?_|refine zB ?_ _)); exact BK203.out)) hb)
                have n13_ := Aside0.mk (zN (by repeat (first|(with_reducible first|exact HB.out|apply zI|apply zG|apply zH|refine zJ ?_ GE179.out|refine zJ ?_ GE180.out|refine zJ ?_ GE199.out|refine zJ ?_ GE203.out)|exact HB.out)) hb)
                clear HO186
                clear HO189
                clear HO192
                clear HO195
                clear HO198
                clear HO202
                clear HO206
                clear HO209
                clear BK179
                clear BK180
                clear BK199
                clear BK203
                clear HB
                have HO186 := n0_
                have HO189 := n1_
                have HO192 := n2_
                have HO195 := n3_
                have HO198 := n4_
                have HO202 := n5_
                have HO206 := n6_
                have HO209 := n7_
                have HO213 := n8_
                have BK179 := n9_
                have BK180 := n10_
                have BK199 := n11_
                have BK203 := n12_
                have HB := n13_
                clear n0_ n1_ n2_ n3_ n4_ n5_ n6_ n7_ n8_ n9_ n10_ n11_ n12_ n13_
                (try clear hb)
                (try clear hb2)
                (try clear hk)
                (try clear hi)
                (try clear ho0)
                obtain ⟨Ao91, co91, eo91⟩ := Kd.R_slice HO213.out
                (first|subst eo91|(injection eo91 with f1_ f2_ f3_; have f4_ := f1_.symm; have f5_ := f3_.symm; clear f1_ f2_ f3_; subst f4_; subst f5_))
                refine hK.out _ _ ⟨(zO BK199.out 0).trans rfl, (zO BK179.out 0).trans rfl⟩ (fun hHeld => ?_)
                clear hK K
                refine norm_ (a' := ?_) ?_ ?_
                rotate_left
                · show Act.put _ (some 55) _ = _
                  simp only [Act.put, List.setIfInBounds_toArray, List.set_cons_zero, List.set_cons_succ, i64_w, i32_w]
                  rfl
                refine one_ (i := 3) (N := some 56) #[true, true, true, true, false] rfl rfl (by kernel_rfl) (by decide) (fun K hK => ?_)
                refine goes_ Try.func10 (by kernel_rfl) rfl #[.agg #[.slice Ao70 t196.length co70], .agg #[.slice Ao91 t211.length co91]] (by rfl) rfl rfl (by (try simp only [List.map_toArray, List.map_cons, List.map_nil]); first|done|rfl|(simp only [List.length_drop, List.length_take]; rfl)) ?_
                with_reducible refine (laws_eqRing.calls k _ _ t196 _ _ t211 true _ ?side1 ?side2 ?side3 ?side4 A40.out ?prem).mono ?_
                case prem => first|(rfl)|(exact HTr_.out)|(assumption)|(refine (Bool.eq_false_or_eq_true _).resolve_right (fun hz => ?_); rw [hz, if_neg (by decide)] at H; exact absurd ((Option.some.inj H).trans HTr_.out) (by simp))|(refine (Bool.eq_false_or_eq_true _).resolve_right (fun hz => ?_); have H := H'.out; rw [hz] at H; exact absurd ((laws_FnExactMovedKeys.j0_bad H).symm.trans HTr_.out) (by simp))
                (case side1 => repeat (first|exact (Kd.R_reads' HO198.out).2.2|(with_reducible refine Kd.C_alloc ?_ _)|(with_reducible refine Kd.C_drewN ?_ _)|(with_reducible refine Kd.C_drew ?_)))
                (case side2 => exact (Kd.R_reads' HO198.out).2.1)
                (case side3 => repeat (first|exact (Kd.R_reads' HO213.out).2.2|(with_reducible refine Kd.C_alloc ?_ _)|(with_reducible refine Kd.C_drewN ?_ _)|(with_reducible refine Kd.C_drew ?_)))
                (case side4 => exact (Kd.R_reads' HO213.out).2.1)
                rintro e w92 ⟨rfl, hb⟩
                refine ⟨_, rfl, ?_⟩
                have n0_ := Aside0.mk (zM (by (with_reducible repeat (first|apply zE|apply zD|apply zF)); exact HO186.out) hb)
                have n1_ := Aside0.mk (zM (by (with_reducible repeat (first|apply zE|apply zD|apply zF)); exact HO189.out) hb)
                have n2_ := Aside0.mk (zM (by (with_reducible repeat (first|apply zE|apply zD|apply zF)); exact HO192.out) hb)
                have n3_ := Aside0.mk (zM (by (with_reducible repeat (first|apply zE|apply zD|apply zF)); exact HO195.out) hb)
                have n4_ := Aside0.mk (zM (by (with_reducible repeat (first|apply zE|apply zD|apply zF)); exact HO198.out) hb)
                have n5_ := Aside0.mk (zM (by (with_reducible repeat (first|apply zE|apply zD|apply zF)); exact HO202.out) hb)
                have n6_ := Aside0.mk (zM (by (with_reducible repeat (first|apply zE|apply zD|apply zF)); exact HO206.out) hb)
                have n7_ := Aside0.mk (zM (by (with_reducible repeat (first|apply zE|apply zD|apply zF)); exact HO209.out) hb)
                have n8_ := Aside0.mk (zM (by (with_reducible repeat (first|apply zE|apply zD|apply zF)); exact HO213.out) hb)
                have n9_ := Aside0.mk (zK (g := gb179) (o := .cells #[.slice A0_0 l0_0.length c0_0] 24 (0, 0)) (by first|exact BK179.out|((with_reducible repeat (first|refine zA ?_ _|refine zC ?_|refine zB ?_ _)); exact BK179.out)) hb)
                have n10_ := Aside0.mk (zK (g := gb180) (o := .cells #[.slice A1_0 l1_0.length c1_0] 24 (0, 0)) (by first|exact BK180.out|((with_reducible repeat (first|refine zA ?_ _|refine zC ?_|refine zB ?_ _)); exact BK180.out)) hb)
                have n11_ := Aside0.mk (zK (g := gb199) (o := .cells #[.slice Ao70 t196.length co70] 29 (0, 0)) (by first|exact BK199.out|((with_reducible repeat (first|refine zA ?_ _|refine zC ?_|refine zB ?_ _)); exact BK199.out)) hb)
                have n12_ := Aside0.mk (zK (g := gb203) (o := .cells #[.slice Ao77 t200.length co77] 29 (0, 0)) (by first|exact BK203.out|((with_reducible repeat (first|refine zA ?_ _|refine zC ?_|refine zB ?_ _)); exact BK203.out)) hb)
                have n13_ := Aside0.mk (zN (by repeat (first|(with_reducible first|exact HB.out|apply zI|apply zG|apply zH|refine zJ ?_ GE179.out|refine zJ ?_ GE180.out|refine zJ ?_ GE199.out|refine zJ ?_ GE203.out)|exact HB.out)) hb)
                clear HO186
                clear HO189
                clear HO192
                clear HO195
                clear HO198
                clear HO202
                clear HO206
                clear HO209
                clear HO213
                clear BK179
                clear BK180
                clear BK199
                clear BK203
                clear HB
                have HO186 := n0_
                have HO189 := n1_
                have HO192 := n2_
                have HO195 := n3_
                have HO198 := n4_
                have HO202 := n5_
                have HO206 := n6_
                have HO209 := n7_
                have HO213 := n8_
                have BK179 := n9_
                have BK180 := n10_
                have BK199 := n11_
                have BK203 := n12_
                have HB := n13_
                clear n0_ n1_ n2_ n3_ n4_ n5_ n6_ n7_ n8_ n9_ n10_ n11_ n12_ n13_
                (try clear hb)
                (try clear hb2)
                (try clear hk)
                (try clear hi)
                refine hK.out _ _ ⟨(zO BK199.out 0).trans rfl, (zO BK179.out 0).trans rfl⟩ (fun hHeld => ?_)
                clear hK K
                refine norm_ (a' := ?_) ?_ ?_
                rotate_left
                · show Act.put _ (some 56) _ = _
                  simp only [Act.put, List.setIfInBounds_toArray, List.set_cons_zero, List.set_cons_succ, i64_w, i32_w]
                  rfl
                refine pure_ (i := 4) (N := some 57) (v := ?_) (a' := ?_) #[true, true, true, true, true] rfl rfl (by kernel_rfl) (fun _ _ _ h => h) (Or.inl ⟨by rfl, ?_⟩) ?_ ?_
                rotate_left
                · intro w'
                  go_simp
                  with_reducible rfl
                rotate_left
                · simp only [Act.put, List.setIfInBounds_toArray, List.set_cons_zero, List.set_cons_succ, i64_w, i32_w]
                  rfl
                refine done_ (by kernel_rfl) ?_
                try go_wp2
                have n0_ := Aside0.mk (zF HO186.out)
                have n1_ := Aside0.mk (zF HO189.out)
                have n2_ := Aside0.mk (zF HO192.out)
                have n3_ := Aside0.mk (zF HO195.out)
                have n4_ := Aside0.mk (zF HO198.out)
                have n5_ := Aside0.mk (zF HO202.out)
                have n6_ := Aside0.mk (zF HO206.out)
                have n7_ := Aside0.mk (zF HO209.out)
                have n8_ := Aside0.mk (zF HO213.out)
                have n9_ := Aside0.mk (zC BK179.out)
                have n10_ := Aside0.mk (zC BK180.out)
                have n11_ := Aside0.mk (zC BK199.out)
                have n12_ := Aside0.mk (zC BK203.out)
                have n13_ := Aside0.mk (zH HB.out)
                clear HO186
                clear HO189
                clear HO192
                clear HO195
                clear HO198
                clear HO202
                clear HO206
                clear HO209
                clear HO213
                clear BK179
                clear BK180
                clear BK199
                clear BK203
                clear HB
                have HO186 := n0_
                have HO189 := n1_
                have HO192 := n2_
                have HO195 := n3_
                have HO198 := n4_
                have HO202 := n5_
                have HO206 := n6_
                have HO209 := n7_
                have HO213 := n8_
                have BK179 := n9_
                have BK180 := n10_
                have BK199 := n11_
                have BK203 := n12_
                have HB := n13_
                clear n0_ n1_ n2_ n3_ n4_ n5_ n6_ n7_ n8_ n9_ n10_ n11_ n12_ n13_
                refine start_ (n := 5) (S := fun w' => w'.cell? ⟨gb203, 0, none⟩ = some (.slice Ao77 t200.length co77) ∧ w'.cell? ⟨gb180, 0, none⟩ = some (.slice A1_0 l1_0.length c1_0)) (ds := []) #[false, false, false, false, false] (by kernel_rfl) rfl rfl ⟨(zO BK203.out 0).trans rfl, (zO BK180.out 0).trans rfl⟩ (fun hHeld => ?_)
                generalize w92.drew = w93 at HO186 HO189 HO192 HO195 HO198 HO202 HO206 HO209 HO213 BK179 BK180 BK199 BK203 HB hHeld ⊢
                refine take_ (i := 0) (N := some 58) (v := ?_) (a' := ?_) #[true, false, false, false, false] rfl rfl (by kernel_rfl) (fun _ _ _ h => h) (Or.inl ⟨by rfl, ?_⟩) hHeld ?_ ?_
                rotate_left
                · rintro w' ⟨s0, s1⟩
                  go_simp
                  with_reducible rfl
                rotate_left
                · simp only [Act.put, List.setIfInBounds_toArray, List.set_cons_zero, List.set_cons_succ, i64_w, i32_w]
                  rfl
                refine take_ (i := 1) (N := some 59) (v := ?_) (a' := ?_) #[true, true, false, false, false] rfl rfl (by kernel_rfl) (fun _ _ _ h => h) (Or.inl ⟨by rfl, ?_⟩) hHeld ?_ ?_
                rotate_left
                · rintro w' ⟨s0, s1⟩
                  go_simp
                  with_reducible rfl
                rotate_left
                · simp only [Act.put, List.setIfInBounds_toArray, List.set_cons_zero, List.set_cons_succ, i64_w, i32_w]
                  rfl
                refine one_ (i := 2) (N := some 60) #[true, true, true, false, false] rfl rfl (by kernel_rfl) (by decide) (fun K hK => ?_)
                refine goes_ Try.func8 (by kernel_rfl) rfl #[.agg #[.slice A1_0 l1_0.length c1_0]] (by rfl) rfl rfl (by (try simp only [List.map_toArray, List.map_cons, List.map_nil]); first|done|rfl|(simp only [List.length_drop, List.length_take]; rfl)) ?_
                with_reducible refine (laws_toRing.calls k _ _ l1_0 t215 _ ?side1 ?side2 A42.out).mono ?_
                (case side1 => repeat (first|exact (Kd.C_below HR1_0.out HB.out)|(with_reducible refine Kd.C_alloc ?_ _)|(with_reducible refine Kd.C_drewN ?_ _)|(with_reducible refine Kd.C_drew ?_)))
                (case side2 => exact HC1_0.out)
                rintro e w94 ⟨v216, rfl, ho0, hb⟩
                refine ⟨_, rfl, ?_⟩
                have n0_ := Aside0.mk (Kd.R_elder' (by (with_reducible repeat (first|apply zE|apply zD|apply zF)); exact HO186.out) (Kd.R_base ho0) hb)
                have n1_ := Aside0.mk (Kd.R_elder' (by (with_reducible repeat (first|apply zE|apply zD|apply zF)); exact HO189.out) (Kd.R_base ho0) hb)
                have n2_ := Aside0.mk (zM (by (with_reducible repeat (first|apply zE|apply zD|apply zF)); exact HO192.out) hb)
                have n3_ := Aside0.mk (zM (by (with_reducible repeat (first|apply zE|apply zD|apply zF)); exact HO195.out) hb)
                have n4_ := Aside0.mk (Kd.R_elder' (by (with_reducible repeat (first|apply zE|apply zD|apply zF)); exact HO198.out) (Kd.R_base ho0) hb)
                have n5_ := Aside0.mk (Kd.R_elder' (by (with_reducible repeat (first|apply zE|apply zD|apply zF)); exact HO202.out) (Kd.R_base ho0) hb)
                have n6_ := Aside0.mk (zM (by (with_reducible repeat (first|apply zE|apply zD|apply zF)); exact HO206.out) hb)
                have n7_ := Aside0.mk (zM (by (with_reducible repeat (first|apply zE|apply zD|apply zF)); exact HO209.out) hb)
                have n8_ := Aside0.mk (Kd.R_elder' (by (with_reducible repeat (first|apply zE|apply zD|apply zF)); exact HO213.out) (Kd.R_base ho0) hb)
                have n9_ := Aside0.mk (Kd.R_lower (Kd.R_new' (Kd.R_new' (Kd.R_new' (Kd.R_new' (Kd.R_new' ho0 (Kd.R_lt (by (with_reducible repeat (first|apply zE|apply zD|apply zF)); exact HO186.out))) (Kd.R_lt (by (with_reducible repeat (first|apply zE|apply zD|apply zF)); exact HO189.out))) (Kd.R_lt (by (with_reducible repeat (first|apply zE|apply zD|apply zF)); exact HO198.out))) (Kd.R_lt (by (with_reducible repeat (first|apply zE|apply zD|apply zF)); exact HO202.out))) (Kd.R_lt (by (with_reducible repeat (first|apply zE|apply zD|apply zF)); exact HO213.out))) (below_size (by repeat (first|(with_reducible first|exact HB.out|apply zI|apply zG|apply zH|refine zJ ?_ GE179.out|refine zJ ?_ GE180.out|refine zJ ?_ GE199.out|refine zJ ?_ GE203.out)|exact HB.out))))
                have n10_ := Aside0.mk (zK (g := gb179) (o := .cells #[.slice A0_0 l0_0.length c0_0] 24 (0, 0)) (by first|exact BK179.out|((with_reducible repeat (first|refine zA ?_ _|refine zC ?_|refine zB ?_ _)); exact BK179.out)) hb)
                have n11_ := Aside0.mk (zK (g := gb180) (o := .cells #[.slice A1_0 l1_0.length c1_0] 24 (0, 0)) (by first|exact BK180.out|((with_reducible repeat (first|refine zA ?_ _|refine zC ?_|refine zB ?_ _)); exact BK180.out)) hb)
                have n12_ := Aside0.mk (zK (g := gb199) (o := .cells #[.slice Ao70 t196.length co70] 29 (0, 0)) (by first|exact BK199.out|((with_reducible repeat (first|refine zA ?_ _|refine zC ?_|refine zB ?_ _)); exact BK199.out)) hb)
                have n13_ := Aside0.mk (zK (g := gb203) (o := .cells #[.slice Ao77 t200.length co77] 29 (0, 0)) (by first|exact BK203.out|((with_reducible repeat (first|refine zA ?_ _|refine zC ?_|refine zB ?_ _)); exact BK203.out)) hb)
                have n14_ := Aside0.mk (zN (by repeat (first|(with_reducible first|exact HB.out|apply zI|apply zG|apply zH|refine zJ ?_ GE179.out|refine zJ ?_ GE180.out|refine zJ ?_ GE199.out|refine zJ ?_ GE203.out)|exact HB.out)) hb)
                clear HO186
                clear HO189
                clear HO192
                clear HO195
                clear HO198
                clear HO202
                clear HO206
                clear HO209
                clear HO213
                clear BK179
                clear BK180
                clear BK199
                clear BK203
                clear HB
                have HO186 := n0_
                have HO189 := n1_
                have HO192 := n2_
                have HO195 := n3_
                have HO198 := n4_
                have HO202 := n5_
                have HO206 := n6_
                have HO209 := n7_
                have HO213 := n8_
                have HO217 := n9_
                have BK179 := n10_
                have BK180 := n11_
                have BK199 := n12_
                have BK203 := n13_
                have HB := n14_
                clear n0_ n1_ n2_ n3_ n4_ n5_ n6_ n7_ n8_ n9_ n10_ n11_ n12_ n13_ n14_
                (try clear hb)
                (try clear hb2)
                (try clear hk)
                (try clear hi)
                (try clear ho0)
                obtain ⟨Ao95, co95, eo95⟩ := Kd.R_slice HO217.out
                (first|subst eo95|(injection eo95 with f1_ f2_ f3_; have f4_ := f1_.symm; have f5_ := f3_.symm; clear f1_ f2_ f3_; subst f4_; subst f5_))
                refine hK.out _ _ ⟨(zO BK203.out 0).trans rfl, (zO BK180.out 0).trans rfl⟩ (fun hHeld => ?_)
                clear hK K
                refine norm_ (a' := ?_) ?_ ?_
                rotate_left
                · show Act.put _ (some 60) _ = _
                  simp only [Act.put, List.setIfInBounds_toArray, List.set_cons_zero, List.set_cons_succ, i64_w, i32_w]
                  rfl
                refine one_ (i := 3) (N := some 61) #[true, true, true, true, false] rfl rfl (by kernel_rfl) (by decide) (fun K hK => ?_)
                refine goes_ Try.func10 (by kernel_rfl) rfl #[.agg #[.slice Ao77 t200.length co77], .agg #[.slice Ao95 t215.length co95]] (by rfl) rfl rfl (by (try simp only [List.map_toArray, List.map_cons, List.map_nil]); first|done|rfl|(simp only [List.length_drop, List.length_take]; rfl)) ?_
                with_reducible refine (laws_eqRing.calls k _ _ t200 _ _ t215 true _ ?side1 ?side2 ?side3 ?side4 A43.out ?prem).mono ?_
                case prem => first|(rfl)|(exact HTr_.out)|(assumption)|(refine (Bool.eq_false_or_eq_true _).resolve_right (fun hz => ?_); rw [hz, if_neg (by decide)] at H; exact absurd ((Option.some.inj H).trans HTr_.out) (by simp))|(refine (Bool.eq_false_or_eq_true _).resolve_right (fun hz => ?_); have H := H'.out; rw [hz] at H; exact absurd ((laws_FnExactMovedKeys.j0_bad H).symm.trans HTr_.out) (by simp))
                (case side1 => repeat (first|exact (Kd.R_reads' HO202.out).2.2|(with_reducible refine Kd.C_alloc ?_ _)|(with_reducible refine Kd.C_drewN ?_ _)|(with_reducible refine Kd.C_drew ?_)))
                (case side2 => exact (Kd.R_reads' HO202.out).2.1)
                (case side3 => repeat (first|exact (Kd.R_reads' HO217.out).2.2|(with_reducible refine Kd.C_alloc ?_ _)|(with_reducible refine Kd.C_drewN ?_ _)|(with_reducible refine Kd.C_drew ?_)))
                (case side4 => exact (Kd.R_reads' HO217.out).2.1)
                rintro e w96 ⟨rfl, hb⟩
                refine ⟨_, rfl, ?_⟩
                have n0_ := Aside0.mk (zM (by (with_reducible repeat (first|apply zE|apply zD|apply zF)); exact HO186.out) hb)
                have n1_ := Aside0.mk (zM (by (with_reducible repeat (first|apply zE|apply zD|apply zF)); exact HO189.out) hb)
                have n2_ := Aside0.mk (zM (by (with_reducible repeat (first|apply zE|apply zD|apply zF)); exact HO192.out) hb)
                have n3_ := Aside0.mk (zM (by (with_reducible repeat (first|apply zE|apply zD|apply zF)); exact HO195.out) hb)
                have n4_ := Aside0.mk (zM (by (with_reducible repeat (first|apply zE|apply zD|apply zF)); exact HO198.out) hb)
                have n5_ := Aside0.mk (zM (by (with_reducible repeat (first|apply zE|apply zD|apply zF)); exact HO202.out) hb)
                have n6_ := Aside0.mk (zM (by (with_reducible repeat (first|apply zE|apply zD|apply zF)); exact HO206.out) hb)
                have n7_ := Aside0.mk (zM (by (with_reducible repeat (first|apply zE|apply zD|apply zF)); exact HO209.out) hb)
                have n8_ := Aside0.mk (zM (by (with_reducible repeat (first|apply zE|apply zD|apply zF)); exact HO213.out) hb)
                have n9_ := Aside0.mk (zM (by (with_reducible repeat (first|apply zE|apply zD|apply zF)); exact HO217.out) hb)
                have n10_ := Aside0.mk (zK (g := gb179) (o := .cells #[.slice A0_0 l0_0.length c0_0] 24 (0, 0)) (by first|exact BK179.out|((with_reducible repeat (first|refine zA ?_ _|refine zC ?_|refine zB ?_ _)); exact BK179.out)) hb)
                have n11_ := Aside0.mk (zK (g := gb180) (o := .cells #[.slice A1_0 l1_0.length c1_0] 24 (0, 0)) (by first|exact BK180.out|((with_reducible repeat (first|refine zA ?_ _|refine zC ?_|refine zB ?_ _)); exact BK180.out)) hb)
                have n12_ := Aside0.mk (zK (g := gb199) (o := .cells #[.slice Ao70 t196.length co70] 29 (0, 0)) (by first|exact BK199.out|((with_reducible repeat (first|refine zA ?_ _|refine zC ?_|refine zB ?_ _)); exact BK199.out)) hb)
                have n13_ := Aside0.mk (zK (g := gb203) (o := .cells #[.slice Ao77 t200.length co77] 29 (0, 0)) (by first|exact BK203.out|((with_reducible repeat (first|refine zA ?_ _|refine zC ?_|refine zB ?_ _)); exact BK203.out)) hb)
                have n14_ := Aside0.mk (zN (by repeat (first|(with_reducible first|exact HB.out|apply zI|apply zG|apply zH|refine zJ ?_ GE179.out|refine zJ ?_ GE180.out|refine zJ ?_ GE199.out|refine zJ ?_ GE203.out)|exact HB.out)) hb)
                clear HO186
                clear HO189
                clear HO192
                clear HO195
                clear HO198
                clear HO202
                clear HO206
                clear HO209
                clear HO213
                clear HO217
                clear BK179
                clear BK180
                clear BK199
                clear BK203
                clear HB
                have HO186 := n0_
                have HO189 := n1_
                have HO192 := n2_
                have HO195 := n3_
                have HO198 := n4_
                have HO202 := n5_
                have HO206 := n6_
                have HO209 := n7_
                have HO213 := n8_
                have HO217 := n9_
                have BK179 := n10_
                have BK180 := n11_
                have BK199 := n12_
                have BK203 := n13_
                have HB := n14_
                clear n0_ n1_ n2_ n3_ n4_ n5_ n6_ n7_ n8_ n9_ n10_ n11_ n12_ n13_ n14_
                (try clear hb)
                (try clear hb2)
                (try clear hk)
                (try clear hi)
                refine hK.out _ _ ⟨(zO BK203.out 0).trans rfl, (zO BK180.out 0).trans rfl⟩ (fun hHeld => ?_)
                clear hK K
                refine norm_ (a' := ?_) ?_ ?_
                rotate_left
                · show Act.put _ (some 61) _ = _
                  simp only [Act.put, List.setIfInBounds_toArray, List.set_cons_zero, List.set_cons_succ, i64_w, i32_w]
                  rfl
                refine pure_ (i := 4) (N := some 62) (v := ?_) (a' := ?_) #[true, true, true, true, true] rfl rfl (by kernel_rfl) (fun _ _ _ h => h) (Or.inl ⟨by rfl, ?_⟩) ?_ ?_
                rotate_left
                · intro w'
                  go_simp
                  with_reducible rfl
                rotate_left
                · simp only [Act.put, List.setIfInBounds_toArray, List.set_cons_zero, List.set_cons_succ, i64_w, i32_w]
                  rfl
                refine done_ (by kernel_rfl) ?_
                go_upto_region 28 with (first|((with_reducible refine gate_callee (f := 19) rfl ?_); refine goesL_ (some 65) rfl rfl Try.func19 (by kernel_rfl) rfl #[.slice A2 l2.length c2] rfl (by (try simp only [List.map_toArray, List.map_cons, List.map_nil]); first|done|rfl|(simp only [List.length_drop, List.length_take]; rfl)) ?_; (with_reducible refine (laws_toStringS.calls k _ _ l2 t219 _ ?side1 ?side2 A45.out).mono ?_); (case side1 => repeat (first|exact (Kd.C_below HR2.out HB.out)|(with_reducible refine Kd.C_alloc ?_ _)|(with_reducible refine Kd.C_drewN ?_ _)|(with_reducible refine Kd.C_drew ?_))); (case side2 => exact HC2.out); rintro e w97 ⟨v220, rfl, ho0, hb⟩; refine ⟨_, rfl, ?_⟩; have n0_ := Aside0.mk (zM (by (with_reducible repeat (first|apply zE|apply zD|apply zF)); exact HO186.out) hb); have n1_ := Aside0.mk (zM (by (with_reducible repeat (first|apply zE|apply zD|apply zF)); exact HO189.out) hb); have n2_ := Aside0.mk (Kd.R_elder' (by (with_reducible repeat (first|apply zE|apply zD|apply zF)); exact HO192.out) (Kd.R_base ho0) hb); have n3_ := Aside0.mk (Kd.R_elder' (by (with_reducible repeat (first|apply zE|apply zD|apply zF)); exact HO195.out) (Kd.R_base ho0) hb); have n4_ := Aside0.mk (zM (by (with_reducible repeat (first|apply zE|apply zD|apply zF)); exact HO198.out) hb); have n5_ := Aside0.mk (zM (by (with_reducible repeat (first|apply zE|apply zD|apply zF)); exact HO202.out) hb); have n6_ := Aside0.mk (Kd.R_elder' (by (with_reducible repeat (first|apply zE|apply zD|apply zF)); exact HO206.out) (Kd.R_base ho0) hb); have n7_ := Aside0.mk (Kd.R_elder' (by (with_reducible repeat (first|apply zE|apply zD|apply zF)); exact HO209.out) (Kd.R_base ho0) hb); have n8_ := Aside0.mk (zM (by (with_reducible repeat (first|apply zE|apply zD|apply zF)); exact HO213.out) hb); have n9_ := Aside0.mk (zM (by (with_reducible repeat (first|apply zE|apply zD|apply zF)); exact HO217.out) hb); have n10_ := Aside0.mk (Kd.R_lower (Kd.R_new' (Kd.R_new' (Kd.R_new' (Kd.R_new' ho0 (Kd.R_lt (by (with_reducible repeat (first|apply zE|apply zD|apply zF)); exact HO192.out))) (Kd.R_lt (by (with_reducible repeat (first|apply zE|apply zD|apply zF)); exact HO195.out))) (Kd.R_lt (by (with_reducible repeat (first|apply zE|apply zD|apply zF)); exact HO206.out))) (Kd.R_lt (by (with_reducible repeat (first|apply zE|apply zD|apply zF)); exact HO209.out))) (below_size (by repeat (first|(with_reducible first|exact HB.out|apply zI|apply zG|apply zH|refine zJ ?_ GE179.out|refine zJ ?_ GE180.out|refine zJ ?_ GE199.out|refine zJ ?_ GE203.out)|exact HB.out)))); have n11_ := Aside0.mk (zK (g := gb179) (o := .cells #[.slice A0_0 l0_0.length c0_0] 24 (0, 0)) (by first|exact BK179.out|((with_reducible repeat (first|refine zA ?_ _|refine zC ?_|refine zB ?_ _)); exact BK179.out)) hb); have n12_ := Aside0.mk (zK (g := gb180) (o := .cells #[.slice A1_0 l1_0.length c1_0] 24 (0, 0)) (by first|exact BK180.out|((with_reducible repeat (first|refine zA ?_ _|refine zC ?_|refine zB ?_ _)); exact BK180.out)) hb); have n13_ := Aside0.mk (zK (g := gb199) (o := .cells #[.slice Ao70 t196.length co70] 29 (0, 0)) (by first|exact BK199.out|((with_reducible repeat (first|refine zA ?_ _|refine zC ?_|refine zB ?_ _)); exact BK199.out)) hb); have n14_ := Aside0.mk (zK (g := gb203) (o := .cells #[.slice Ao77 t200.length co77] 29 (0, 0)) (by first|exact BK203.out|((with_reducible repeat (first|refine zA ?_ _|refine zC ?_|refine zB ?_ _)); exact BK203.out)) hb); have n15_ := Aside0.mk (zN (by repeat (first|(with_reducible first|exact HB.out|apply zI|apply zG|apply zH|refine zJ ?_ GE179.out|refine zJ ?_ GE180.out|refine zJ ?_ GE199.out|refine zJ ?_ GE203.out)|exact HB.out)) hb); clear HO186; clear HO189; clear HO192; clear HO195; clear HO198; clear HO202; clear HO206; clear HO209; clear HO213; clear HO217; clear BK179; clear BK180; clear BK199; clear BK203; clear HB; have HO186 := n0_; have HO189 := n1_; have HO192 := n2_; have HO195 := n3_; have HO198 := n4_; have HO202 := n5_; have HO206 := n6_; have HO209 := n7_; have HO213 := n8_; have HO217 := n9_; have HO221 := n10_; have BK179 := n11_; have BK180 := n12_; have BK199 := n13_; have BK203 := n14_; have HB := n15_; clear n0_ n1_ n2_ n3_ n4_ n5_ n6_ n7_ n8_ n9_ n10_ n11_ n12_ n13_ n14_ n15_; (try clear hb); (try clear hb2); (try clear hk); (try clear hi); (try clear ho0); obtain ⟨Ao98, co98, eo98⟩ := Kd.R_slice HO221.out; subst eo98)|((with_reducible refine gate_callee (f := 21) rfl ?_); refine goesL_ (some 66) rfl rfl Try.func21 (by kernel_rfl) rfl #[.slice Ao85 t204.length co85, .slice Ao98 t219.length co98] rfl (by (try simp only [List.map_toArray, List.map_cons, List.map_nil]); first|done|rfl|(simp only [List.length_drop, List.length_take]; rfl)) ?_; (with_reducible refine (laws_eqStringS.calls k _ _ t204 _ _ t219 true _ ?side1 ?side2 ?side3 ?side4 A46.out ?prem).mono ?_); (case prem => first|(rfl)|(exact HTr_.out)|(assumption)|(refine (Bool.eq_false_or_eq_true _).resolve_right (fun hz => ?_); rw [hz, if_neg (by decide)] at H; exact absurd ((Option.some.inj H).trans HTr_.out) (by simp))|(refine (Bool.eq_false_or_eq_true _).resolve_right (fun hz => ?_); have H := H'.out; rw [hz] at H; exact absurd ((laws_FnExactMovedKeys.j0_bad H).symm.trans HTr_.out) (by simp))); (case side1 => repeat (first|exact (Kd.R_reads' HO206.out).2.2|(with_reducible refine Kd.C_alloc ?_ _)|(with_reducible refine Kd.C_drewN ?_ _)|(with_reducible refine Kd.C_drew ?_))); (case side2 => exact (Kd.R_reads' HO206.out).2.1); (case side3 => repeat (first|exact (Kd.R_reads' HO221.out).2.2|(with_reducible refine Kd.C_alloc ?_ _)|(with_reducible refine Kd.C_drewN ?_ _)|(with_reducible refine Kd.C_drew ?_))); (case side4 => exact (Kd.R_reads' HO221.out).2.1); rintro e w' ⟨rfl, ⟨nd, rfl⟩⟩; refine ⟨_, rfl, ?_⟩; have hcz99_0 : w97.cell? ⟨gb199, 0, none⟩ = some (.slice Ao70 t196.length co70) := (zO BK199.out 0).trans rfl; have hfz99_0 := zP BK199.out 0)|((with_reducible refine gate_callee (f := 14) rfl ?_); refine goesL_ (some 70) rfl rfl Try.func14 (by kernel_rfl) rfl #[.agg #[.slice Ao70 t196.length co70], .int .i64 1] rfl (by (try simp only [List.map_toArray, List.map_cons, List.map_nil]); first|done|rfl|(simp only [List.length_drop, List.length_take]; rfl)) ?_; (with_reducible refine (laws_markRing.calls k (fun k_ => some k_ = (.slice Ao70 t196.length co70 : Value).ownBlock) (.slice Ao70 t196.length co70) t196 1 t223 t224 w _ ?side1 ?side2 A48.out).mono ?_); (case side1 => repeat (first|(with_reducible first|exact HB.out|apply zI|apply zG|apply zH|refine zJ ?_ GE179.out|refine zJ ?_ GE180.out|refine zJ ?_ GE199.out|refine zJ ?_ GE203.out)|exact HB.out)); (case side2 => exact Kd.R_tight rfl HO198.out); rintro e w100 ⟨rfl, hy0, hb, hkp⟩; refine ⟨_, rfl, ?_⟩; have n0_ := Aside0.mk (blk_kept (by first|exact BK179.out|exact zA BK179.out _|((with_reducible repeat (first|refine zA ?_ _|refine zC ?_|refine zB ?_ _)); exact BK179.out)) hkp (fun hs_ => (fun e_ => (Kd.R_ne HO198.out BK179.out (by decide)) e_) hs_)); have n1_ := Aside0.mk (blk_kept (by first|exact BK180.out|exact zA BK180.out _|((with_reducible repeat (first|refine zA ?_ _|refine zC ?_|refine zB ?_ _)); exact BK180.out)) hkp (fun hs_ => (fun e_ => (Kd.R_ne HO198.out BK180.out (by decide)) e_) hs_)); have n2_ := Aside0.mk (zR (ok' := fun k_ => some k_ ≠ (.slice Ao64 t187.length co64 : Value).ownBlock ∧ some k_ ≠ (.slice Ao70 t196.length co70 : Value).ownBlock ∧ some k_ ≠ (.slice Ao77 t200.length co77 : Value).ownBlock ∧ some k_ ≠ (.slice Ao91 t211.length co91 : Value).ownBlock ∧ some k_ ≠ (.slice Ao95 t215.length co95 : Value).ownBlock) (Kd.R_keptB (HO186.out) hkp (fun k_ hk_ hs_ => by first|exact hk_.1.1.1.2 hs_|(have h_ := hk_; (try simp only [and_assoc] at h_); first|exact h_ hs_|exact h_.1 hs_|exact h_.2 hs_|exact h_.2.1 hs_|exact h_.2.2 hs_|exact h_.2.2.1 hs_|exact h_.2.2.2 hs_|exact h_.2.2.2.1 hs_|exact h_.2.2.2.2 hs_|exact h_.2.2.2.2.1 hs_))) (fun k_ hk_ => by first|exact ⟨hk_.1.1.1.1.1.2, hk_.1.1.1.1.2, hk_.1.1.1.2, hk_.1.1.2, hk_.1.2⟩|(have h_ := hk_; (try simp only [and_assoc] at h_); refine ⟨?_, ?_, ?_, ?_, ?_⟩ <;> first|exact h_|exact h_.1|exact h_.2|exact h_.2.1|exact h_.2.2|exact h_.2.2.1|exact h_.2.2.2|exact h_.2.2.2.1|exact h_.2.2.2.2|exact h_.2.2.2.2.1))); have n3_ := Aside0.mk (zR (ok' := fun k_ => some k_ ≠ (.slice Ao63 t184.length co63 : Value).ownBlock ∧ some k_ ≠ (.slice Ao70 t196.length co70 : Value).ownBlock ∧ some k_ ≠ (.slice Ao77 t200.length co77 : Value).ownBlock ∧ some k_ ≠ (.slice Ao91 t211.length co91 : Value).ownBlock ∧ some k_ ≠ (.slice Ao95 t215.length co95 : Value).ownBlock) (Kd.R_keptB (HO189.out) hkp (fun k_ hk_ hs_ => by first|exact hk_.1.1.1.2 hs_|(have h_ := hk_; (try simp only [and_assoc] at h_); first|exact h_ hs_|exact h_.1 hs_|exact h_.2 hs_|exact h_.2.1 hs_|exact h_.2.2 hs_|exact h_.2.2.1 hs_|exact h_.2.2.2 hs_|exact h_.2.2.2.1 hs_|exact h_.2.2.2.2 hs_|exact h_.2.2.2.2.1 hs_))) (fun k_ hk_ => by first|exact ⟨hk_.1.1.1.1.1.2, hk_.1.1.1.1.2, hk_.1.1.1.2, hk_.1.1.2, hk_.1.2⟩|(have h_ := hk_; (try simp only [and_assoc] at h_); refine ⟨?_, ?_, ?_, ?_, ?_⟩ <;> first|exact h_|exact h_.1|exact h_.2|exact h_.2.1|exact h_.2.2|exact h_.2.2.1|exact h_.2.2.2|exact h_.2.2.2.1|exact h_.2.2.2.2|exact h_.2.2.2.2.1))); have n4_ := Aside0.mk (zR (ok' := fun k_ => some k_ ≠ (.slice Ao88 t193.length co88 : Value).ownBlock ∧ some k_ ≠ (.slice Ao85 t204.length co85 : Value).ownBlock ∧ some k_ ≠ (.slice Ao87 t207.length co87 : Value).ownBlock ∧ some k_ ≠ (.slice Ao98 t219.length co98 : Value).ownBlock) (Kd.R_keptB ((Kd.R_apart' HO192.out (Kd.R_typed HO198.out) (by decide))) hkp (fun k_ hk_ hs_ => by first|exact hk_.2 hs_|(have h_ := hk_; (try simp only [and_assoc] at h_); first|exact h_ hs_|exact h_.1 hs_|exact h_.2 hs_|exact h_.2.1 hs_|exact h_.2.2 hs_|exact h_.2.2.1 hs_|exact h_.2.2.2 hs_|exact h_.2.2.2.1 hs_|exact h_.2.2.2.2 hs_|exact h_.2.2.2.2.1 hs_))) (fun k_ hk_ => by first|exact ⟨hk_.1.1.1.1.1.2, hk_.1.1.1.1.2, hk_.1.1.1.2, hk_.1.1.2⟩|(have h_ := hk_; (try simp only [and_assoc] at h_); refine ⟨?_, ?_, ?_, ?_⟩ <;> first|exact h_|exact h_.1|exact h_.2|exact h_.2.1|exact h_.2.2|exact h_.2.2.1|exact h_.2.2.2|exact h_.2.2.2.1|exact h_.2.2.2.2|exact h_.2.2.2.2.1))); have n5_ := Aside0.mk (zR (ok' := fun k_ => some k_ ≠ (.slice Ao65 t190.length co65 : Value).ownBlock ∧ some k_ ≠ (.slice Ao85 t204.length co85 : Value).ownBlock ∧ some k_ ≠ (.slice Ao87 t207.length co87 : Value).ownBlock ∧ some k_ ≠ (.slice Ao98 t219.length co98 : Value).ownBlock) (Kd.R_keptB ((Kd.R_apart' HO195.out (Kd.R_typed HO198.out) (by decide))) hkp (fun k_ hk_ hs_ => by first|exact hk_.2 hs_|(have h_ := hk_; (try simp only [and_assoc] at h_); first|exact h_ hs_|exact h_.1 hs_|exact h_.2 hs_|exact h_.2.1 hs_|exact h_.2.2 hs_|exact h_.2.2.1 hs_|exact h_.2.2.2 hs_|exact h_.2.2.2.1 hs_|exact h_.2.2.2.2 hs_|exact h_.2.2.2.2.1 hs_))) (fun k_ hk_ => by first|exact ⟨hk_.1.1.1.1.1.2, hk_.1.1.1.1.2, hk_.1.1.1.2, hk_.1.1.2⟩|(have h_ := hk_; (try simp only [and_assoc] at h_); refine ⟨?_, ?_, ?_, ?_⟩ <;> first|exact h_|exact h_.1|exact h_.2|exact h_.2.1|exact h_.2.2|exact h_.2.2.1|exact h_.2.2.2|exact h_.2.2.2.1|exact h_.2.2.2.2|exact h_.2.2.2.2.1))); have n6_ := Aside0.mk (Kd.R_reok rfl hy0 (fun k_ e_ => HO198.out.1 k_ e_)); have n7_ := Aside0.mk (blk_kept (by first|exact BK199.out|exact zA BK199.out _|((with_reducible repeat (first|refine zA ?_ _|refine zC ?_|refine zB ?_ _)); exact BK199.out)) hkp (fun hs_ => (fun e_ => (Kd.R_ne HO198.out BK199.out (by decide)) e_) hs_)); have n8_ := Aside0.mk (zR (ok' := fun k_ => some k_ ≠ (.slice Ao63 t184.length co63 : Value).ownBlock ∧ some k_ ≠ (.slice Ao64 t187.length co64 : Value).ownBlock ∧ some k_ ≠ (.slice Ao70 t196.length co70 : Value).ownBlock ∧ some k_ ≠ (.slice Ao91 t211.length co91 : Value).ownBlock ∧ some k_ ≠ (.slice Ao95 t215.length co95 : Value).ownBlock) (Kd.R_keptB (HO202.out) hkp (fun k_ hk_ hs_ => by first|exact hk_.1.1.2 hs_|(have h_ := hk_; (try simp only [and_assoc] at h_); first|exact h_ hs_|exact h_.1 hs_|exact h_.2 hs_|exact h_.2.1 hs_|exact h_.2.2 hs_|exact h_.2.2.1 hs_|exact h_.2.2.2 hs_|exact h_.2.2.2.1 hs_|exact h_.2.2.2.2 hs_|exact h_.2.2.2.2.1 hs_))) (fun k_ hk_ => by first|exact ⟨hk_.1.1.1.1.1.2, hk_.1.1.1.1.2, hk_.1.1.1.2, hk_.1.1.2, hk_.1.2⟩|(have h_ := hk_; (try simp only [and_assoc] at h_); refine ⟨?_, ?_, ?_, ?_, ?_⟩ <;> first|exact h_|exact h_.1|exact h_.2|exact h_.2.1|exact h_.2.2|exact h_.2.2.1|exact h_.2.2.2|exact h_.2.2.2.1|exact h_.2.2.2.2|exact h_.2.2.2.2.1))); have n9_ := Aside0.mk (blk_kept (by first|exact BK203.out|exact zA BK203.out _|((with_reducible repeat (first|refine zA ?_ _|refine zC ?_|refine zB ?_ _)); exact BK203.out)) hkp (fun hs_ => (fun e_ => (Kd.R_ne HO198.out BK203.out (by decide)) e_) hs_)); have n10_ := Aside0.mk (zR (ok' := fun k_ => some k_ ≠ (.slice Ao65 t190.length co65 : Value).ownBlock ∧ some k_ ≠ (.slice Ao88 t193.length co88 : Value).ownBlock ∧ some k_ ≠ (.slice Ao87 t207.length co87 : Value).ownBlock ∧ some k_ ≠ (.slice Ao98 t219.length co98 : Value).ownBlock) (Kd.R_keptB ((Kd.R_apart' HO206.out (Kd.R_typed HO198.out) (by decide))) hkp (fun k_ hk_ hs_ => by first|exact hk_.2 hs_|(have h_ := hk_; (try simp only [and_assoc] at h_); first|exact h_ hs_|exact h_.1 hs_|exact h_.2 hs_|exact h_.2.1 hs_|exact h_.2.2 hs_|exact h_.2.2.1 hs_|exact h_.2.2.2 hs_|exact h_.2.2.2.1 hs_|exact h_.2.2.2.2 hs_|exact h_.2.2.2.2.1 hs_))) (fun k_ hk_ => by first|exact ⟨hk_.1.1.1.1.1.2, hk_.1.1.1.1.2, hk_.1.1.1.2, hk_.1.1.2⟩|(have h_ := hk_; (try simp only [and_assoc] at h_); refine ⟨?_, ?_, ?_, ?_⟩ <;> first|exact h_|exact h_.1|exact h_.2|exact h_.2.1|exact h_.2.2|exact h_.2.2.1|exact h_.2.2.2|exact h_.2.2.2.1|exact h_.2.2.2.2|exact h_.2.2.2.2.1))); have n11_ := Aside0.mk (zR (ok' := fun k_ => some k_ ≠ (.slice Ao65 t190.length co65 : Value).ownBlock ∧ some k_ ≠ (.slice Ao88 t193.length co88 : Value).ownBlock ∧ some k_ ≠ (.slice Ao85 t204.length co85 : Value).ownBlock ∧ some k_ ≠ (.slice Ao98 t219.length co98 : Value).ownBlock) (Kd.R_keptB ((Kd.R_apart' HO209.out (Kd.R_typed HO198.out) (by decide))) hkp (fun k_ hk_ hs_ => by first|exact hk_.2 hs_|(have h_ := hk_; (try simp only [and_assoc] at h_); first|exact h_ hs_|exact h_.1 hs_|exact h_.2 hs_|exact h_.2.1 hs_|exact h_.2.2 hs_|exact h_.2.2.1 hs_|exact h_.2.2.2 hs_|exact h_.2.2.2.1 hs_|exact h_.2.2.2.2 hs_|exact h_.2.2.2.2.1 hs_))) (fun k_ hk_ => by first|exact ⟨hk_.1.1.1.1.1.2, hk_.1.1.1.1.2, hk_.1.1.1.2, hk_.1.1.2⟩|(have h_ := hk_; (try simp only [and_assoc] at h_); refine ⟨?_, ?_, ?_, ?_⟩ <;> first|exact h_|exact h_.1|exact h_.2|exact h_.2.1|exact h_.2.2|exact h_.2.2.1|exact h_.2.2.2|exact h_.2.2.2.1|exact h_.2.2.2.2|exact h_.2.2.2.2.1))); have n12_ := Aside0.mk (zR (ok' := fun k_ => some k_ ≠ (.slice Ao63 t184.length co63 : Value).ownBlock ∧ some k_ ≠ (.slice Ao64 t187.length co64 : Value).ownBlock ∧ some k_ ≠ (.slice Ao70 t196.length co70 : Value).ownBlock ∧ some k_ ≠ (.slice Ao77 t200.length co77 : Value).ownBlock ∧ some k_ ≠ (.slice Ao95 t215.length co95 : Value).ownBlock) (Kd.R_keptB (HO213.out) hkp (fun k_ hk_ hs_ => by first|exact hk_.1.1.2 hs_|(have h_ := hk_; (try simp only [and_assoc] at h_); first|exact h_ hs_|exact h_.1 hs_|exact h_.2 hs_|exact h_.2.1 hs_|exact h_.2.2 hs_|exact h_.2.2.1 hs_|exact h_.2.2.2 hs_|exact h_.2.2.2.1 hs_|exact h_.2.2.2.2 hs_|exact h_.2.2.2.2.1 hs_))) (fun k_ hk_ => by first|exact ⟨hk_.1.1.1.1.1.2, hk_.1.1.1.1.2, hk_.1.1.1.2, hk_.1.1.2, hk_.1.2⟩|(have h_ := hk_; (try simp only [and_assoc] at h_); refine ⟨?_, ?_, ?_, ?_, ?_⟩ <;> first|exact h_|exact h_.1|exact h_.2|exact h_.2.1|exact h_.2.2|exact h_.2.2.1|exact h_.2.2.2|exact h_.2.2.2.1|exact h_.2.2.2.2|exact h_.2.2.2.2.1))); have n13_ := Aside0.mk (zR (ok' := fun k_ => some k_ ≠ (.slice Ao63 t184.length co63 : Value).ownBlock ∧ some k_ ≠ (.slice Ao64 t187.length co64 : Value).ownBlock ∧ some k_ ≠ (.slice Ao70 t196.length co70 : Value).ownBlock ∧ some k_ ≠ (.slice Ao77 t200.length co77 : Value).ownBlock ∧ some k_ ≠ (.slice Ao91 t211.length co91 : Value).ownBlock) (Kd.R_keptB (HO217.out) hkp (fun k_ hk_ hs_ => by first|exact hk_.1.1.2 hs_|(have h_ := hk_; (try simp only [and_assoc] at h_); first|exact h_ hs_|exact h_.1 hs_|exact h_.2 hs_|exact h_.2.1 hs_|exact h_.2.2 hs_|exact h_.2.2.1 hs_|exact h_.2.2.2 hs_|exact h_.2.2.2.1 hs_|exact h_.2.2.2.2 hs_|exact h_.2.2.2.2.1 hs_))) (fun k_ hk_ => by first|exact ⟨hk_.1.1.1.1.1.2, hk_.1.1.1.1.2, hk_.1.1.1.2, hk_.1.1.2, hk_.1.2⟩|(have h_ := hk_; (try simp only [and_assoc] at h_); refine ⟨?_, ?_, ?_, ?_, ?_⟩ <;> first|exact h_|exact h_.1|exact h_.2|exact h_.2.1|exact h_.2.2|exact h_.2.2.1|exact h_.2.2.2|exact h_.2.2.2.1|exact h_.2.2.2.2|exact h_.2.2.2.2.1))); have n14_ := Aside0.mk (zR (ok' := fun k_ => some k_ ≠ (.slice Ao65 t190.length co65 : Value).ownBlock ∧ some k_ ≠ (.slice Ao88 t193.length co88 : Value).ownBlock ∧ some k_ ≠ (.slice Ao85 t204.length co85 : Value).ownBlock ∧ some k_ ≠ (.slice Ao87 t207.length co87 : Value).ownBlock) (Kd.R_keptB ((Kd.R_apart' HO221.out (Kd.R_typed HO198.out) (by decide))) hkp (fun k_ hk_ hs_ => by first|exact hk_.2 hs_|(have h_ := hk_; (try simp only [and_assoc] at h_); first|exact h_ hs_|exact h_.1 hs_|exact h_.2 hs_|exact h_.2.1 hs_|exact h_.2.2 hs_|exact h_.2.2.1 hs_|exact h_.2.2.2 hs_|exact h_.2.2.2.1 hs_|exact h_.2.2.2.2 hs_|exact h_.2.2.2.2.1 hs_))) (fun k_ hk_ => by first|exact ⟨hk_.1.1.1.1.1.2, hk_.1.1.1.1.2, hk_.1.1.1.2, hk_.1.1.2⟩|(have h_ := hk_; (try simp only [and_assoc] at h_); refine ⟨?_, ?_, ?_, ?_⟩ <;> first|exact h_|exact h_.1|exact h_.2|exact h_.2.1|exact h_.2.2|exact h_.2.2.1|exact h_.2.2.2|exact h_.2.2.2.1|exact h_.2.2.2.2|exact h_.2.2.2.2.1))); have n15_ := Aside0.mk (hb); clear BK179; clear BK180; clear HO186; clear HO189; clear HO192; clear HO195; clear HO198; clear BK199; clear HO202; clear BK203; clear HO206; clear HO209; clear HO213; clear HO217; clear HO221; clear HB; have BK179 := n0_; have BK180 := n1_; have HO186 := n2_; have HO189 := n3_; have HO192 := n4_; have HO195 := n5_; have HO198 := n6_; have BK199 := n7_; have HO202 := n8_; have BK203 := n9_; have HO206 := n10_; have HO209 := n11_; have HO213 := n12_; have HO217 := n13_; have HO221 := n14_; have HB := n15_; clear n0_ n1_ n2_ n3_ n4_ n5_ n6_ n7_ n8_ n9_ n10_ n11_ n12_ n13_ n14_ n15_; (try clear hb); (try clear hkp); (try clear hy0); have hcz101_0 : w100.cell? ⟨gb203, 0, none⟩ = some (.slice Ao77 t200.length co77) := (zO BK203.out 0).trans rfl; have hfz101_0 := zP BK203.out 0)|((with_reducible refine gate_callee (f := 14) rfl ?_); refine goesL_ (some 73) rfl rfl Try.func14 (by kernel_rfl) rfl #[.agg #[.slice Ao77 t200.length co77], .int .i64 t223] rfl (by (try simp only [List.map_toArray, List.map_cons, List.map_nil]); first|done|rfl|(simp only [List.length_drop, List.length_take]; rfl)) ?_; (with_reducible refine (laws_markRing.calls k (fun k_ => some k_ = (.slice Ao77 t200.length co77 : Value).ownBlock) (.slice Ao77 t200.length co77) t200 t223 t225 t226 w _ ?side1 ?side2 A49.out).mono ?_); (case side1 => repeat (first|(with_reducible first|exact HB.out|apply zI|apply zG|apply zH|refine zJ ?_ GE179.out|refine zJ ?_ GE180.out|refine zJ ?_ GE199.out|refine zJ ?_ GE203.out)|exact HB.out)); (case side2 => exact Kd.R_tight rfl HO202.out); rintro e w102 ⟨rfl, hy0, hb, hkp⟩; refine ⟨_, rfl, ?_⟩; have n0_ := Aside0.mk (blk_kept (by first|exact BK179.out|exact zA BK179.out _|((with_reducible repeat (first|refine zA ?_ _|refine zC ?_|refine zB ?_ _)); exact BK179.out)) hkp (fun hs_ => (fun e_ => (Kd.R_ne HO202.out BK179.out (by decide)) e_) hs_)); have n1_ := Aside0.mk (blk_kept (by first|exact BK180.out|exact zA BK180.out _|((with_reducible repeat (first|refine zA ?_ _|refine zC ?_|refine zB ?_ _)); exact BK180.out)) hkp (fun hs_ => (fun e_ => (Kd.R_ne HO202.out BK180.out (by decide)) e_) hs_)); have n2_ := Aside0.mk (zR (ok' := fun k_ => some k_ ≠ (.slice Ao64 t187.length co64 : Value).ownBlock ∧ some k_ ≠ (.slice Ao70 t196.length co70 : Value).ownBlock ∧ some k_ ≠ (.slice Ao77 t200.length co77 : Value).ownBlock ∧ some k_ ≠ (.slice Ao91 t211.length co91 : Value).ownBlock ∧ some k_ ≠ (.slice Ao95 t215.length co95 : Value).ownBlock) (Kd.R_keptB (HO186.out) hkp (fun k_ hk_ hs_ => by first|exact hk_.2.2.1 hs_|(have h_ := hk_; (try simp only [and_assoc] at h_); first|exact h_ hs_|exact h_.1 hs_|exact h_.2 hs_|exact h_.2.1 hs_|exact h_.2.2 hs_|exact h_.2.2.1 hs_|exact h_.2.2.2 hs_|exact h_.2.2.2.1 hs_|exact h_.2.2.2.2 hs_|exact h_.2.2.2.2.1 hs_))) (fun k_ hk_ => by first|exact ⟨hk_.1.1, hk_.1.2.1, hk_.1.2.2.1, hk_.1.2.2.2.1, hk_.1.2.2.2.2⟩|(have h_ := hk_; (try simp only [and_assoc] at h_); refine ⟨?_, ?_, ?_, ?_, ?_⟩ <;> first|exact h_|exact h_.1|exact h_.2|exact h_.2.1|exact h_.2.2|exact h_.2.2.1|exact h_.2.2.2|exact h_.2.2.2.1|exact h_.2.2.2.2|exact h_.2.2.2.2.1))); have n3_ := Aside0.mk (zR (ok' := fun k_ => some k_ ≠ (.slice Ao63 t184.length co63 : Value).ownBlock ∧ some k_ ≠ (.slice Ao70 t196.length co70 : Value).ownBlock ∧ some k_ ≠ (.slice Ao77 t200.length co77 : Value).ownBlock ∧ some k_ ≠ (.slice Ao91 t211.length co91 : Value).ownBlock ∧ some k_ ≠ (.slice Ao95 t215.length co95 : Value).ownBlock) (Kd.R_keptB (HO189.out) hkp (fun k_ hk_ hs_ => by first|exact hk_.2.2.1 hs_|(have h_ := hk_; (try simp only [and_assoc] at h_); first|exact h_ hs_|exact h_.1 hs_|exact h_.2 hs_|exact h_.2.1 hs_|exact h_.2.2 hs_|exact h_.2.2.1 hs_|exact h_.2.2.2 hs_|exact h_.2.2.2.1 hs_|exact h_.2.2.2.2 hs_|exact h_.2.2.2.2.1 hs_))) (fun k_ hk_ => by first|exact ⟨hk_.1.1, hk_.1.2.1, hk_.1.2.2.1, hk_.1.2.2.2.1, hk_.1.2.2.2.2⟩|(have h_ := hk_; (try simp only [and_assoc] at h_); refine ⟨?_, ?_, ?_, ?_, ?_⟩ <;> first|exact h_|exact h_.1|exact h_.2|exact h_.2.1|exact h_.2.2|exact h_.2.2.1|exact h_.2.2.2|exact h_.2.2.2.1|exact h_.2.2.2.2|exact h_.2.2.2.2.1))); have n4_ := Aside0.mk (zR (ok' := fun k_ => some k_ ≠ (.slice Ao88 t193.length co88 : Value).ownBlock ∧ some k_ ≠ (.slice Ao85 t204.length co85 : Value).ownBlock ∧ some k_ ≠ (.slice Ao87 t207.length co87 : Value).ownBlock ∧ some k_ ≠ (.slice Ao98 t219.length co98 : Value).ownBlock) (Kd.R_keptB ((Kd.R_apart' HO192.out (Kd.R_typed HO202.out) (by decide))) hkp (fun k_ hk_ hs_ => by first|exact hk_.2 hs_|(have h_ := hk_; (try simp only [and_assoc] at h_); first|exact h_ hs_|exact h_.1 hs_|exact h_.2 hs_|exact h_.2.1 hs_|exact h_.2.2 hs_|exact h_.2.2.1 hs_|exact h_.2.2.2 hs_|exact h_.2.2.2.1 hs_|exact h_.2.2.2.2 hs_|exact h_.2.2.2.2.1 hs_))) (fun k_ hk_ => by first|exact ⟨hk_.1.1.1, hk_.1.1.2.1, hk_.1.1.2.2.1, hk_.1.1.2.2.2⟩|(have h_ := hk_; (try simp only [and_assoc] at h_); refine ⟨?_, ?_, ?_, ?_⟩ <;> first|exact h_|exact h_.1|exact h_.2|exact h_.2.1|exact h_.2.2|exact h_.2.2.1|exact h_.2.2.2|exact h_.2.2.2.1|exact h_.2.2.2.2|exact h_.2.2.2.2.1))); have n5_ := Aside0.mk (zR (ok' := fun k_ => some k_ ≠ (.slice Ao65 t190.length co65 : Value).ownBlock ∧ some k_ ≠ (.slice Ao85 t204.length co85 : Value).ownBlock ∧ some k_ ≠ (.slice Ao87 t207.length co87 : Value).ownBlock ∧ some k_ ≠ (.slice Ao98 t219.length co98 : Value).ownBlock) (Kd.R_keptB ((Kd.R_apart' HO195.out (Kd.R_typed HO202.out) (by decide))) hkp (fun k_ hk_ hs_ => by first|exact hk_.2 hs_|(have h_ := hk_; (try simp only [and_assoc] at h_); first|exact h_ hs_|exact h_.1 hs_|exact h_.2 hs_|exact h_.2.1 hs_|exact h_.2.2 hs_|exact h_.2.2.1 hs_|exact h_.2.2.2 hs_|exact h_.2.2.2.1 hs_|exact h_.2.2.2.2 hs_|exact h_.2.2.2.2.1 hs_))) (fun k_ hk_ => by first|exact ⟨hk_.1.1.1, hk_.1.1.2.1, hk_.1.1.2.2.1, hk_.1.1.2.2.2⟩|(have h_ := hk_; (try simp only [and_assoc] at h_); refine ⟨?_, ?_, ?_, ?_⟩ <;> first|exact h_|exact h_.1|exact h_.2|exact h_.2.1|exact h_.2.2|exact h_.2.2.1|exact h_.2.2.2|exact h_.2.2.2.1|exact h_.2.2.2.2|exact h_.2.2.2.2.1))); have n6_ := Aside0.mk (zR (ok' := fun k_ => some k_ ≠ (.slice Ao63 t184.length co63 : Value).ownBlock ∧ some k_ ≠ (.slice Ao64 t187.length co64 : Value).ownBlock ∧ some k_ ≠ (.slice Ao77 t200.length co77 : Value).ownBlock ∧ some k_ ≠ (.slice Ao91 t211.length co91 : Value).ownBlock ∧ some k_ ≠ (.slice Ao95 t215.length co95 : Value).ownBlock) (Kd.R_keptB (HO198.out) hkp (fun k_ hk_ hs_ => by first|exact hk_.1.1.2 hs_|(have h_ := hk_; (try simp only [and_assoc] at h_); first|exact h_ hs_|exact h_.1 hs_|exact h_.2 hs_|exact h_.2.1 hs_|exact h_.2.2 hs_|exact h_.2.2.1 hs_|exact h_.2.2.2 hs_|exact h_.2.2.2.1 hs_|exact h_.2.2.2.2 hs_|exact h_.2.2.2.2.1 hs_))) (fun k_ hk_ => by first|exact ⟨hk_.1.1.1.1.1.2, hk_.1.1.1.1.2, hk_.1.1.1.2, hk_.1.1.2, hk_.1.2⟩|(have h_ := hk_; (try simp only [and_assoc] at h_); refine ⟨?_, ?_, ?_, ?_, ?_⟩ <;> first|exact h_|exact h_.1|exact h_.2|exact h_.2.1|exact h_.2.2|exact h_.2.2.1|exact h_.2.2.2|exact h_.2.2.2.1|exact h_.2.2.2.2|exact h_.2.2.2.2.1))); have n7_ := Aside0.mk (blk_kept (by first|exact BK199.out|exact zA BK199.out _|((with_reducible repeat (first|refine zA ?_ _|refine zC ?_|refine zB ?_ _)); exact BK199.out)) hkp (fun hs_ => (fun e_ => (Kd.R_ne HO202.out BK199.out (by decide)) e_) hs_)); have n8_ := Aside0.mk (Kd.R_reok rfl hy0 (fun k_ e_ => HO202.out.1 k_ e_)); have n9_ := Aside0.mk (blk_kept (by first|exact BK203.out|exact zA BK203.out _|((with_reducible repeat (first|refine zA ?_ _|refine zC ?_|refine zB ?_ _)); exact BK203.out)) hkp (fun hs_ => (fun e_ => (Kd.R_ne HO202.out BK203.out (by decide)) e_) hs_)); have n10_ := Aside0.mk (zR (ok' := fun k_ => some k_ ≠ (.slice Ao65 t190.length co65 : Value).ownBlock ∧ some k_ ≠ (.slice Ao88 t193.length co88 : Value).ownBlock ∧ some k_ ≠ (.slice Ao87 t207.length co87 : Value).ownBlock ∧ some k_ ≠ (.slice Ao98 t219.length co98 : Value).ownBlock) (Kd.R_keptB ((Kd.R_apart' HO206.out (Kd.R_typed HO202.out) (by decide))) hkp (fun k_ hk_ hs_ => by first|exact hk_.2 hs_|(have h_ := hk_; (try simp only [and_assoc] at h_); first|exact h_ hs_|exact h_.1 hs_|exact h_.2 hs_|exact h_.2.1 hs_|exact h_.2.2 hs_|exact h_.2.2.1 hs_|exact h_.2.2.2 hs_|exact h_.2.2.2.1 hs_|exact h_.2.2.2.2 hs_|exact h_.2.2.2.2.1 hs_))) (fun k_ hk_ => by first|exact ⟨hk_.1.1.1, hk_.1.1.2.1, hk_.1.1.2.2.1, hk_.1.1.2.2.2⟩|(have h_ := hk_; (try simp only [and_assoc] at h_); refine ⟨?_, ?_, ?_, ?_⟩ <;> first|exact h_|exact h_.1|exact h_.2|exact h_.2.1|exact h_.2.2|exact h_.2.2.1|exact h_.2.2.2|exact h_.2.2.2.1|exact h_.2.2.2.2|exact h_.2.2.2.2.1))); have n11_ := Aside0.mk (zR (ok' := fun k_ => some k_ ≠ (.slice Ao65 t190.length co65 : Value).ownBlock ∧ some k_ ≠ (.slice Ao88 t193.length co88 : Value).ownBlock ∧ some k_ ≠ (.slice Ao85 t204.length co85 : Value).ownBlock ∧ some k_ ≠ (.slice Ao98 t219.length co98 : Value).ownBlock) (Kd.R_keptB ((Kd.R_apart' HO209.out (Kd.R_typed HO202.out) (by decide))) hkp (fun k_ hk_ hs_ => by first|exact hk_.2 hs_|(have h_ := hk_; (try simp only [and_assoc] at h_); first|exact h_ hs_|exact h_.1 hs_|exact h_.2 hs_|exact h_.2.1 hs_|exact h_.2.2 hs_|exact h_.2.2.1 hs_|exact h_.2.2.2 hs_|exact h_.2.2.2.1 hs_|exact h_.2.2.2.2 hs_|exact h_.2.2.2.2.1 hs_))) (fun k_ hk_ => by first|exact ⟨hk_.1.1.1, hk_.1.1.2.1, hk_.1.1.2.2.1, hk_.1.1.2.2.2⟩|(have h_ := hk_; (try simp only [and_assoc] at h_); refine ⟨?_, ?_, ?_, ?_⟩ <;> first|exact h_|exact h_.1|exact h_.2|exact h_.2.1|exact h_.2.2|exact h_.2.2.1|exact h_.2.2.2|exact h_.2.2.2.1|exact h_.2.2.2.2|exact h_.2.2.2.2.1))); have n12_ := Aside0.mk (zR (ok' := fun k_ => some k_ ≠ (.slice Ao63 t184.length co63 : Value).ownBlock ∧ some k_ ≠ (.slice Ao64 t187.length co64 : Value).ownBlock ∧ some k_ ≠ (.slice Ao70 t196.length co70 : Value).ownBlock ∧ some k_ ≠ (.slice Ao77 t200.length co77 : Value).ownBlock ∧ some k_ ≠ (.slice Ao95 t215.length co95 : Value).ownBlock) (Kd.R_keptB (HO213.out) hkp (fun k_ hk_ hs_ => by first|exact hk_.2.2.2.1 hs_|(have h_ := hk_; (try simp only [and_assoc] at h_); first|exact h_ hs_|exact h_.1 hs_|exact h_.2 hs_|exact h_.2.1 hs_|exact h_.2.2 hs_|exact h_.2.2.1 hs_|exact h_.2.2.2 hs_|exact h_.2.2.2.1 hs_|exact h_.2.2.2.2 hs_|exact h_.2.2.2.2.1 hs_))) (fun k_ hk_ => by first|exact ⟨hk_.1.1, hk_.1.2.1, hk_.1.2.2.1, hk_.1.2.2.2.1, hk_.1.2.2.2.2⟩|(have h_ := hk_; (try simp only [and_assoc] at h_); refine ⟨?_, ?_, ?_, ?_, ?_⟩ <;> first|exact h_|exact h_.1|exact h_.2|exact h_.2.1|exact h_.2.2|exact h_.2.2.1|exact h_.2.2.2|exact h_.2.2.2.1|exact h_.2.2.2.2|exact h_.2.2.2.2.1))); have n13_ := Aside0.mk (zR (ok' := fun k_ => some k_ ≠ (.slice Ao63 t184.length co63 : Value).ownBlock ∧ some k_ ≠ (.slice Ao64 t187.length co64 : Value).ownBlock ∧ some k_ ≠ (.slice Ao70 t196.length co70 : Value).ownBlock ∧ some k_ ≠ (.slice Ao77 t200.length co77 : Value).ownBlock ∧ some k_ ≠ (.slice Ao91 t211.length co91 : Value).ownBlock) (Kd.R_keptB (HO217.out) hkp (fun k_ hk_ hs_ => by first|exact hk_.2.2.2.1 hs_|(have h_ := hk_; (try simp only [and_assoc] at h_); first|exact h_ hs_|exact h_.1 hs_|exact h_.2 hs_|exact h_.2.1 hs_|exact h_.2.2 hs_|exact h_.2.2.1 hs_|exact h_.2.2.2 hs_|exact h_.2.2.2.1 hs_|exact h_.2.2.2.2 hs_|exact h_.2.2.2.2.1 hs_))) (fun k_ hk_ => by first|exact ⟨hk_.1.1, hk_.1.2.1, hk_.1.2.2.1, hk_.1.2.2.2.1, hk_.1.2.2.2.2⟩|(have h_ := hk_; (try simp only [and_assoc] at h_); refine ⟨?_, ?_, ?_, ?_, ?_⟩ <;> first|exact h_|exact h_.1|exact h_.2|exact h_.2.1|exact h_.2.2|exact h_.2.2.1|exact h_.2.2.2|exact h_.2.2.2.1|exact h_.2.2.2.2|exact h_.2.2.2.2.1))); have n14_ := Aside0.mk (zR (ok' := fun k_ => some k_ ≠ (.slice Ao65 t190.length co65 : Value).ownBlock ∧ some k_ ≠ (.slice Ao88 t193.length co88 : Value).ownBlock ∧ some k_ ≠ (.slice Ao85 t204.length co85 : Value).ownBlock ∧ some k_ ≠ (.slice Ao87 t207.length co87 : Value).ownBlock) (Kd.R_keptB ((Kd.R_apart' HO221.out (Kd.R_typed HO202.out) (by decide))) hkp (fun k_ hk_ hs_ => by first|exact hk_.2 hs_|(have h_ := hk_; (try simp only [and_assoc] at h_); first|exact h_ hs_|exact h_.1 hs_|exact h_.2 hs_|exact h_.2.1 hs_|exact h_.2.2 hs_|exact h_.2.2.1 hs_|exact h_.2.2.2 hs_|exact h_.2.2.2.1 hs_|exact h_.2.2.2.2 hs_|exact h_.2.2.2.2.1 hs_))) (fun k_ hk_ => by first|exact ⟨hk_.1.1.1, hk_.1.1.2.1, hk_.1.1.2.2.1, hk_.1.1.2.2.2⟩|(have h_ := hk_; (try simp only [and_assoc] at h_); refine ⟨?_, ?_, ?_, ?_⟩ <;> first|exact h_|exact h_.1|exact h_.2|exact h_.2.1|exact h_.2.2|exact h_.2.2.1|exact h_.2.2.2|exact h_.2.2.2.1|exact h_.2.2.2.2|exact h_.2.2.2.2.1))); have n15_ := Aside0.mk (hb); clear BK179; clear BK180; clear HO186; clear HO189; clear HO192; clear HO195; clear HO198; clear BK199; clear HO202; clear BK203; clear HO206; clear HO209; clear HO213; clear HO217; clear HO221; clear HB; have BK179 := n0_; have BK180 := n1_; have HO186 := n2_; have HO189 := n3_; have HO192 := n4_; have HO195 := n5_; have HO198 := n6_; have BK199 := n7_; have HO202 := n8_; have BK203 := n9_; have HO206 := n10_; have HO209 := n11_; have HO213 := n12_; have HO217 := n13_; have HO221 := n14_; have HB := n15_; clear n0_ n1_ n2_ n3_ n4_ n5_ n6_ n7_ n8_ n9_ n10_ n11_ n12_ n13_ n14_ n15_; (try clear hb); (try clear hkp); (try clear hy0))|((with_reducible refine gate_callee (f := 22) rfl ?_); refine goesL_ (some 76) rfl rfl Try.func22 (by kernel_rfl) rfl #[.slice Ao85 t204.length co85, .int .i64 t225] rfl (by (try simp only [List.map_toArray, List.map_cons, List.map_nil]); first|done|rfl|(simp only [List.length_drop, List.length_take]; rfl)) ?_; (with_reducible refine (laws_markStringS.calls k (fun k_ => some k_ = (.slice Ao85 t204.length co85 : Value).ownBlock) (.slice Ao85 t204.length co85) t204 t225 t227 t228 w _ ?side1 ?side2 A50.out).mono ?_); (case side1 => repeat (first|(with_reducible first|exact HB.out|apply zI|apply zG|apply zH|refine zJ ?_ GE179.out|refine zJ ?_ GE180.out|refine zJ ?_ GE199.out|refine zJ ?_ GE203.out)|exact HB.out)); (case side2 => exact Kd.R_tight rfl HO206.out); rintro e w103 ⟨rfl, hy0, hb, hkp⟩; refine ⟨_, rfl, ?_⟩; have n0_ := Aside0.mk (blk_kept (by first|exact BK179.out|exact zA BK179.out _|((with_reducible repeat (first|refine zA ?_ _|refine zC ?_|refine zB ?_ _)); exact BK179.out)) hkp (fun hs_ => (fun e_ => (Kd.R_ne HO206.out BK179.out (by decide)) e_) hs_)); have n1_ := Aside0.mk (blk_kept (by first|exact BK180.out|exact zA BK180.out _|((with_reducible repeat (first|refine zA ?_ _|refine zC ?_|refine zB ?_ _)); exact BK180.out)) hkp (fun hs_ => (fun e_ => (Kd.R_ne HO206.out BK180.out (by decide)) e_) hs_)); have n2_ := Aside0.mk (zR (ok' := fun k_ => some k_ ≠ (.slice Ao64 t187.length co64 : Value).ownBlock ∧ some k_ ≠ (.slice Ao70 t196.length co70 : Value).ownBlock ∧ some k_ ≠ (.slice Ao77 t200.length co77 : Value).ownBlock ∧ some k_ ≠ (.slice Ao91 t211.length co91 : Value).ownBlock ∧ some k_ ≠ (.slice Ao95 t215.length co95 : Value).ownBlock) (Kd.R_keptB ((Kd.R_apart' HO186.out (Kd.R_typed HO206.out) (by decide))) hkp (fun k_ hk_ hs_ => by first|exact hk_.2 hs_|(have h_ := hk_; (try simp only [and_assoc] at h_); first|exact h_ hs_|exact h_.1 hs_|exact h_.2 hs_|exact h_.2.1 hs_|exact h_.2.2 hs_|exact h_.2.2.1 hs_|exact h_.2.2.2 hs_|exact h_.2.2.2.1 hs_|exact h_.2.2.2.2 hs_|exact h_.2.2.2.2.1 hs_))) (fun k_ hk_ => by first|exact ⟨hk_.1.1.1, hk_.1.1.2.1, hk_.1.1.2.2.1, hk_.1.1.2.2.2.1, hk_.1.1.2.2.2.2⟩|(have h_ := hk_; (try simp only [and_assoc] at h_); refine ⟨?_, ?_, ?_, ?_, ?_⟩ <;> first|exact h_|exact h_.1|exact h_.2|exact h_.2.1|exact h_.2.2|exact h_.2.2.1|exact h_.2.2.2|exact h_.2.2.2.1|exact h_.2.2.2.2|exact h_.2.2.2.2.1))); have n3_ := Aside0.mk (zR (ok' := fun k_ => some k_ ≠ (.slice Ao63 t184.length co63 : Value).ownBlock ∧ some k_ ≠ (.slice Ao70 t196.length co70 : Value).ownBlock ∧ some k_ ≠ (.slice Ao77 t200.length co77 : Value).ownBlock ∧ some k_ ≠ (.slice Ao91 t211.length co91 : Value).ownBlock ∧ some k_ ≠ (.slice Ao95 t215.length co95 : Value).ownBlock) (Kd.R_keptB ((Kd.R_apart' HO189.out (Kd.R_typed HO206.out) (by decide))) hkp (fun k_ hk_ hs_ => by first|exact hk_.2 hs_|(have h_ := hk_; (try simp only [and_assoc] at h_); first|exact h_ hs_|exact h_.1 hs_|exact h_.2 hs_|exact h_.2.1 hs_|exact h_.2.2 hs_|exact h_.2.2.1 hs_|exact h_.2.2.2 hs_|exact h_.2.2.2.1 hs_|exact h_.2.2.2.2 hs_|exact h_.2.2.2.2.1 hs_))) (fun k_ hk_ => by first|exact ⟨hk_.1.1.1, hk_.1.1.2.1, hk_.1.1.2.2.1, hk_.1.1.2.2.2.1, hk_.1.1.2.2.2.2⟩|(have h_ := hk_; (try simp only [and_assoc] at h_); refine ⟨?_, ?_, ?_, ?_, ?_⟩ <;> first|exact h_|exact h_.1|exact h_.2|exact h_.2.1|exact h_.2.2|exact h_.2.2.1|exact h_.2.2.2|exact h_.2.2.2.1|exact h_.2.2.2.2|exact h_.2.2.2.2.1))); have n4_ := Aside0.mk (zR (ok' := fun k_ => some k_ ≠ (.slice Ao88 t193.length co88 : Value).ownBlock ∧ some k_ ≠ (.slice Ao85 t204.length co85 : Value).ownBlock ∧ some k_ ≠ (.slice Ao87 t207.length co87 : Value).ownBlock ∧ some k_ ≠ (.slice Ao98 t219.length co98 : Value).ownBlock) (Kd.R_keptB (HO192.out) hkp (fun k_ hk_ hs_ => by first|exact hk_.2.1 hs_|(have h_ := hk_; (try simp only [and_assoc] at h_); first|exact h_ hs_|exact h_.1 hs_|exact h_.2 hs_|exact h_.2.1 hs_|exact h_.2.2 hs_|exact h_.2.2.1 hs_|exact h_.2.2.2 hs_|exact h_.2.2.2.1 hs_|exact h_.2.2.2.2 hs_|exact h_.2.2.2.2.1 hs_))) (fun k_ hk_ => by first|exact ⟨hk_.1.1, hk_.1.2.1, hk_.1.2.2.1, hk_.1.2.2.2⟩|(have h_ := hk_; (try simp only [and_assoc] at h_); refine ⟨?_, ?_, ?_, ?_⟩ <;> first|exact h_|exact h_.1|exact h_.2|exact h_.2.1|exact h_.2.2|exact h_.2.2.1|exact h_.2.2.2|exact h_.2.2.2.1|exact h_.2.2.2.2|exact h_.2.2.2.2.1))); have n5_ := Aside0.mk (zR (ok' := fun k_ => some k_ ≠ (.slice Ao65 t190.length co65 : Value).ownBlock ∧ some k_ ≠ (.slice Ao85 t204.length co85 : Value).ownBlock ∧ some k_ ≠ (.slice Ao87 t207.length co87 : Value).ownBlock ∧ some k_ ≠ (.slice Ao98 t219.length co98 : Value).ownBlock) (Kd.R_keptB (HO195.out) hkp (fun k_ hk_ hs_ => by first|exact hk_.2.1 hs_|(have h_ := hk_; (try simp only [and_assoc] at h_); first|exact h_ hs_|exact h_.1 hs_|exact h_.2 hs_|exact h_.2.1 hs_|exact h_.2.2 hs_|exact h_.2.2.1 hs_|exact h_.2.2.2 hs_|exact h_.2.2.2.1 hs_|exact h_.2.2.2.2 hs_|exact h_.2.2.2.2.1 hs_))) (fun k_ hk_ => by first|exact ⟨hk_.1.1, hk_.1.2.1, hk_.1.2.2.1, hk_.1.2.2.2⟩|(have h_ := hk_; (try simp only [and_assoc] at h_); refine ⟨?_, ?_, ?_, ?_⟩ <;> first|exact h_|exact h_.1|exact h_.2|exact h_.2.1|exact h_.2.2|exact h_.2.2.1|exact h_.2.2.2|exact h_.2.2.2.1|exact h_.2.2.2.2|exact h_.2.2.2.2.1))); have n6_ := Aside0.mk (zR (ok' := fun k_ => some k_ ≠ (.slice Ao63 t184.length co63 : Value).ownBlock ∧ some k_ ≠ (.slice Ao64 t187.length co64 : Value).ownBlock ∧ some k_ ≠ (.slice Ao77 t200.length co77 : Value).ownBlock ∧ some k_ ≠ (.slice Ao91 t211.length co91 : Value).ownBlock ∧ some k_ ≠ (.slice Ao95 t215.length co95 : Value).ownBlock) (Kd.R_keptB ((Kd.R_apart' HO198.out (Kd.R_typed HO206.out) (by decide))) hkp (fun k_ hk_ hs_ => by first|exact hk_.2 hs_|(have h_ := hk_; (try simp only [and_assoc] at h_); first|exact h_ hs_|exact h_.1 hs_|exact h_.2 hs_|exact h_.2.1 hs_|exact h_.2.2 hs_|exact h_.2.2.1 hs_|exact h_.2.2.2 hs_|exact h_.2.2.2.1 hs_|exact h_.2.2.2.2 hs_|exact h_.2.2.2.2.1 hs_))) (fun k_ hk_ => by first|exact ⟨hk_.1.1.1, hk_.1.1.2.1, hk_.1.1.2.2.1, hk_.1.1.2.2.2.1, hk_.1.1.2.2.2.2⟩|(have h_ := hk_; (try simp only [and_assoc] at h_); refine ⟨?_, ?_, ?_, ?_, ?_⟩ <;> first|exact h_|exact h_.1|exact h_.2|exact h_.2.1|exact h_.2.2|exact h_.2.2.1|exact h_.2.2.2|exact h_.2.2.2.1|exact h_.2.2.2.2|exact h_.2.2.2.2.1))); have n7_ := Aside0.mk (blk_kept (by first|exact BK199.out|exact zA BK199.out _|((with_reducible repeat (first|refine zA ?_ _|refine zC ?_|refine zB ?_ _)); exact BK199.out)) hkp (fun hs_ => (fun e_ => (Kd.R_ne HO206.out BK199.out (by decide)) e_) hs_)); have n8_ := Aside0.mk (zR (ok' := fun k_ => some k_ ≠ (.slice Ao63 t184.length co63 : Value).ownBlock ∧ some k_ ≠ (.slice Ao64 t187.length co64 : Value).ownBlock ∧ some k_ ≠ (.slice Ao70 t196.length co70 : Value).ownBlock ∧ some k_ ≠ (.slice Ao91 t211.length co91 : Value).ownBlock ∧ some k_ ≠ (.slice Ao95 t215.length co95 : Value).ownBlock) (Kd.R_keptB ((Kd.R_apart' HO202.out (Kd.R_typed HO206.out) (by decide))) hkp (fun k_ hk_ hs_ => by first|exact hk_.2 hs_|(have h_ := hk_; (try simp only [and_assoc] at h_); first|exact h_ hs_|exact h_.1 hs_|exact h_.2 hs_|exact h_.2.1 hs_|exact h_.2.2 hs_|exact h_.2.2.1 hs_|exact h_.2.2.2 hs_|exact h_.2.2.2.1 hs_|exact h_.2.2.2.2 hs_|exact h_.2.2.2.2.1 hs_))) (fun k_ hk_ => by first|exact ⟨hk_.1.1.1, hk_.1.1.2.1, hk_.1.1.2.2.1, hk_.1.1.2.2.2.1, hk_.1.1.2.2.2.2⟩|(have h_ := hk_; (try simp only [and_assoc] at h_); refine ⟨?_, ?_, ?_, ?_, ?_⟩ <;> first|exact h_|exact h_.1|exact h_.2|exact h_.2.1|exact h_.2.2|exact h_.2.2.1|exact h_.2.2.2|exact h_.2.2.2.1|exact h_.2.2.2.2|exact h_.2.2.2.2.1))); have n9_ := Aside0.mk (blk_kept (by first|exact BK203.out|exact zA BK203.out _|((with_reducible repeat (first|refine zA ?_ _|refine zC ?_|refine zB ?_ _)); exact BK203.out)) hkp (fun hs_ => (fun e_ => (Kd.R_ne HO206.out BK203.out (by decide)) e_) hs_)); have n10_ := Aside0.mk (Kd.R_reok rfl hy0 (fun k_ e_ => HO206.out.1 k_ e_)); have n11_ := Aside0.mk (zR (ok' := fun k_ => some k_ ≠ (.slice Ao65 t190.length co65 : Value).ownBlock ∧ some k_ ≠ (.slice Ao88 t193.length co88 : Value).ownBlock ∧ some k_ ≠ (.slice Ao85 t204.length co85 : Value).ownBlock ∧ some k_ ≠ (.slice Ao98 t219.length co98 : Value).ownBlock) (Kd.R_keptB (HO209.out) hkp (fun k_ hk_ hs_ => by first|exact hk_.2.2.1 hs_|(have h_ := hk_; (try simp only [and_assoc] at h_); first|exact h_ hs_|exact h_.1 hs_|exact h_.2 hs_|exact h_.2.1 hs_|exact h_.2.2 hs_|exact h_.2.2.1 hs_|exact h_.2.2.2 hs_|exact h_.2.2.2.1 hs_|exact h_.2.2.2.2 hs_|exact h_.2.2.2.2.1 hs_))) (fun k_ hk_ => by first|exact ⟨hk_.1.1, hk_.1.2.1, hk_.1.2.2.1, hk_.1.2.2.2⟩|(have h_ := hk_; (try simp only [and_assoc] at h_); refine ⟨?_, ?_, ?_, ?_⟩ <;> first|exact h_|exact h_.1|exact h_.2|exact h_.2.1|exact h_.2.2|exact h_.2.2.1|exact h_.2.2.2|exact h_.2.2.2.1|exact h_.2.2.2.2|exact h_.2.2.2.2.1))); have n12_ := Aside0.mk (zR (ok' := fun k_ => some k_ ≠ (.slice Ao63 t184.length co63 : Value).ownBlock ∧ some k_ ≠ (.slice Ao64 t187.length co64 : Value).ownBlock ∧ some k_ ≠ (.slice Ao70 t196.length co70 : Value).ownBlock ∧ some k_ ≠ (.slice Ao77 t200.length co77 : Value).ownBlock ∧ some k_ ≠ (.slice Ao95 t215.length co95 : Value).ownBlock) (Kd.R_keptB ((Kd.R_apart' HO213.out (Kd.R_typed HO206.out) (by decide))) hkp (fun k_ hk_ hs_ => by first|exact hk_.2 hs_|(have h_ := hk_; (try simp only [and_assoc] at h_); first|exact h_ hs_|exact h_.1 hs_|exact h_.2 hs_|exact h_.2.1 hs_|exact h_.2.2 hs_|exact h_.2.2.1 hs_|exact h_.2.2.2 hs_|exact h_.2.2.2.1 hs_|exact h_.2.2.2.2 hs_|exact h_.2.2.2.2.1 hs_))) (fun k_ hk_ => by first|exact ⟨hk_.1.1.1, hk_.1.1.2.1, hk_.1.1.2.2.1, hk_.1.1.2.2.2.1, hk_.1.1.2.2.2.2⟩|(have h_ := hk_; (try simp only [and_assoc] at h_); refine ⟨?_, ?_, ?_, ?_, ?_⟩ <;> first|exact h_|exact h_.1|exact h_.2|exact h_.2.1|exact h_.2.2|exact h_.2.2.1|exact h_.2.2.2|exact h_.2.2.2.1|exact h_.2.2.2.2|exact h_.2.2.2.2.1))); have n13_ := Aside0.mk (zR (ok' := fun k_ => some k_ ≠ (.slice Ao63 t184.length co63 : Value).ownBlock ∧ some k_ ≠ (.slice Ao64 t187.length co64 : Value).ownBlock ∧ some k_ ≠ (.slice Ao70 t196.length co70 : Value).ownBlock ∧ some k_ ≠ (.slice Ao77 t200.length co77 : Value).ownBlock ∧ some k_ ≠ (.slice Ao91 t211.length co91 : Value).ownBlock) (Kd.R_keptB ((Kd.R_apart' HO217.out (Kd.R_typed HO206.out) (by decide))) hkp (fun k_ hk_ hs_ => by first|exact hk_.2 hs_|(have h_ := hk_; (try simp only [and_assoc] at h_); first|exact h_ hs_|exact h_.1 hs_|exact h_.2 hs_|exact h_.2.1 hs_|exact h_.2.2 hs_|exact h_.2.2.1 hs_|exact h_.2.2.2 hs_|exact h_.2.2.2.1 hs_|exact h_.2.2.2.2 hs_|exact h_.2.2.2.2.1 hs_))) (fun k_ hk_ => by first|exact ⟨hk_.1.1.1, hk_.1.1.2.1, hk_.1.1.2.2.1, hk_.1.1.2.2.2.1, hk_.1.1.2.2.2.2⟩|(have h_ := hk_; (try simp only [and_assoc] at h_); refine ⟨?_, ?_, ?_, ?_, ?_⟩ <;> first|exact h_|exact h_.1|exact h_.2|exact h_.2.1|exact h_.2.2|exact h_.2.2.1|exact h_.2.2.2|exact h_.2.2.2.1|exact h_.2.2.2.2|exact h_.2.2.2.2.1))); have n14_ := Aside0.mk (zR (ok' := fun k_ => some k_ ≠ (.slice Ao65 t190.length co65 : Value).ownBlock ∧ some k_ ≠ (.slice Ao88 t193.length co88 : Value).ownBlock ∧ some k_ ≠ (.slice Ao85 t204.length co85 : Value).ownBlock ∧ some k_ ≠ (.slice Ao87 t207.length co87 : Value).ownBlock) (Kd.R_keptB (HO221.out) hkp (fun k_ hk_ hs_ => by first|exact hk_.2.2.1 hs_|(have h_ := hk_; (try simp only [and_assoc] at h_); first|exact h_ hs_|exact h_.1 hs_|exact h_.2 hs_|exact h_.2.1 hs_|exact h_.2.2 hs_|exact h_.2.2.1 hs_|exact h_.2.2.2 hs_|exact h_.2.2.2.1 hs_|exact h_.2.2.2.2 hs_|exact h_.2.2.2.2.1 hs_))) (fun k_ hk_ => by first|exact ⟨hk_.1.1, hk_.1.2.1, hk_.1.2.2.1, hk_.1.2.2.2⟩|(have h_ := hk_; (try simp only [and_assoc] at h_); refine ⟨?_, ?_, ?_, ?_⟩ <;> first|exact h_|exact h_.1|exact h_.2|exact h_.2.1|exact h_.2.2|exact h_.2.2.1|exact h_.2.2.2|exact h_.2.2.2.1|exact h_.2.2.2.2|exact h_.2.2.2.2.1))); have n15_ := Aside0.mk (hb); clear BK179; clear BK180; clear HO186; clear HO189; clear HO192; clear HO195; clear HO198; clear BK199; clear HO202; clear BK203; clear HO206; clear HO209; clear HO213; clear HO217; clear HO221; clear HB; have BK179 := n0_; have BK180 := n1_; have HO186 := n2_; have HO189 := n3_; have HO192 := n4_; have HO195 := n5_; have HO198 := n6_; have BK199 := n7_; have HO202 := n8_; have BK203 := n9_; have HO206 := n10_; have HO209 := n11_; have HO213 := n12_; have HO217 := n13_; have HO221 := n14_; have HB := n15_; clear n0_ n1_ n2_ n3_ n4_ n5_ n6_ n7_ n8_ n9_ n10_ n11_ n12_ n13_ n14_ n15_; (try clear hb); (try clear hkp); (try clear hy0)))
                (try simp only [Act.put, List.setIfInBounds_toArray, List.set_cons_zero, List.set_cons_succ])
                go_cut [84] (fun v84 wc => ∃ (kq : Nat) (x84_50 : Bool), v84 = .bool x84_50 ∧ Aside0 (laws_FnExactMovedKeys.j0 kq l2 t193 t207 x84_50 l0_0 l1_0 = some r) ∧ Aside0 (kq ≤ k) ∧ Aside0 (Kd.R Kd.string 9 wc w.heap.size (fun k_ => some k_ ≠ ((.slice Ao87 t207.length co87) : Value).ownBlock) (.slice Ao88 t193.length co88) t193) ∧ Aside0 (Kd.R Kd.string 9 wc w.heap.size (fun k_ => some k_ ≠ ((.slice Ao88 t193.length co88) : Value).ownBlock) (.slice Ao87 t207.length co87) t207) ∧ Aside0 (Kd.R k47 47 wc w.heap.size (fun k_ => some k_ ≠ ((.slice Ao77 t200.length co77) : Value).ownBlock) (.slice Ao70 t196.length co70) t224) ∧ Aside0 (Kd.R k47 47 wc w.heap.size (fun k_ => some k_ ≠ ((.slice Ao70 t196.length co70) : Value).ownBlock) (.slice Ao77 t200.length co77) t226) ∧ Aside0 (wc.heap[gb179]? = some (.cells #[(.slice A0_0 l0_0.length c0_0)] 24 (0, 0))) ∧ Aside0 (wc.heap[gb180]? = some (.cells #[(.slice A1_0 l1_0.length c1_0)] 24 (0, 0))) ∧ Aside0 (wc.heap[gb199]? = some (.cells #[(.slice Ao70 t196.length co70)] 29 (0, 0))) ∧ Aside0 (wc.heap[gb203]? = some (.cells #[(.slice Ao77 t200.length co77)] 29 (0, 0))) ∧ Aside0 (Below w.heap.size w wc))
                case first =>
                  have H := HC51.out
                  clear HC51
                  by_cases c104 : t227 < 0
                  · rw [if_pos c104] at H
                    have c104b0 : decide (t227 < 0) = true := decide_eq_true c104
                    clear c104
                    (first|rw [c104b0]|(simp only [i64_w, i32_w]; rw [c104b0])|skip)
                    exact absurd ((laws_FnExactMovedKeys.j0_bad H).symm.trans HTr_.out) (by simp)
                  · rw [if_neg c104] at H
                    have c104b0 : decide (t227 < 0) = false := decide_eq_false c104
                    clear c104
                    (first|rw [c104b0]|(simp only [i64_w, i32_w]; rw [c104b0])|skip)
                    replace H := Option.bind_eq_some_iff.mp H
                    obtain ⟨t229, A1050, H⟩ := H
                    replace H : (laws_FnExactMovedKeys.j0 k l2 t193 t207 (!t229) l0_0 l1_0) = some r := H
                    have A105 := Aside0.mk A1050
                    clear A1050
                    have H' := Aside0.mk H
                    clear H
                    go_wp2_with (first|(go_at_call 21; (with_reducible refine (laws_eqStringS.calls k _ _ t207 _ _ t193 t229 _ ?side1 ?side2 ?side3 ?side4 A105.out ?prem).mono ?_); (case prem => first|(rfl)|(exact HTr_.out)|(assumption)|(refine (Bool.eq_false_or_eq_true _).resolve_right (fun hz => ?_); rw [hz, if_neg (by decide)] at H; exact absurd ((Option.some.inj H).trans HTr_.out) (by simp))|(refine (Bool.eq_false_or_eq_true _).resolve_right (fun hz => ?_); have H := H'.out; rw [hz] at H; exact absurd ((laws_FnExactMovedKeys.j0_bad H).symm.trans HTr_.out) (by simp))); (case side1 => repeat (first|exact (Kd.R_reads' HO209.out).2.2|(with_reducible refine Kd.C_alloc ?_ _)|(with_reducible refine Kd.C_drewN ?_ _)|(with_reducible refine Kd.C_drew ?_))); (case side2 => exact (Kd.R_reads' HO209.out).2.1); (case side3 => repeat (first|exact (Kd.R_reads' HO195.out).2.2|(with_reducible refine Kd.C_alloc ?_ _)|(with_reducible refine Kd.C_drewN ?_ _)|(with_reducible refine Kd.C_drew ?_))); (case side4 => exact (Kd.R_reads' HO195.out).2.1); rintro e w' ⟨rfl, ⟨nd, rfl⟩⟩))
                    go_meet
                    case rel => exact ⟨_, (!t229), (by first|rfl|(simp; done)|(simp [*]; done)), H', ⟨by first|omega|exact Nat.le_refl _⟩, ⟨by (with_reducible repeat (first|apply zE|apply zD|apply zF)); exact zR HO195.out (fun _ hk => hk.2.2.1)⟩, ⟨by (with_reducible repeat (first|apply zE|apply zD|apply zF)); exact zR HO209.out (fun _ hk => hk.2.1)⟩, ⟨by (with_reducible repeat (first|apply zE|apply zD|apply zF)); exact zR HO198.out (fun _ hk => hk.2.2.1)⟩, ⟨by (with_reducible repeat (first|apply zE|apply zD|apply zF)); exact zR HO202.out (fun _ hk => hk.2.2.1)⟩, ⟨by first|exact BK179.out|((with_reducible repeat (first|refine zA ?_ _|refine zC ?_|refine zB ?_ _)); exact BK179.out)⟩, ⟨by first|exact BK180.out|((with_reducible repeat (first|refine zA ?_ _|refine zC ?_|refine zB ?_ _)); exact BK180.out)⟩, ⟨by first|exact BK199.out|((with_reducible repeat (first|refine zA ?_ _|refine zC ?_|refine zB ?_ _)); exact BK199.out)⟩, ⟨by first|exact BK203.out|((with_reducible repeat (first|refine zA ?_ _|refine zC ?_|refine zB ?_ _)); exact BK203.out)⟩, ⟨by repeat (first|(with_reducible first|exact HB.out|apply zI|apply zG|apply zH|refine zJ ?_ GE179.out|refine zJ ?_ GE180.out|refine zJ ?_ GE199.out|refine zJ ?_ GE203.out)|exact HB.out)⟩⟩
                case rest =>
                  clear HC51
                  try clear c1
                  try clear c2
                  try clear p2
                  try clear c7
                  try clear c8
                  try clear c10
                  try clear c14
                  try clear c18
                  try clear c19
                  try clear c20
                  try clear c21
                  try clear c22
                  try clear c71
                  try clear c72
                  try clear c78
                  try clear c79
                  try clear c80
                  try clear c104
                  try clear c104b0
                  try clear hcz101_0
                  try clear hcz67_0
                  try clear hcz73_0
                  try clear hcz74_0
                  try clear hcz81_0
                  try clear hcz83_0
                  try clear hcz84_0
                  try clear hcz99_0
                  try clear hfz101_0
                  try clear hfz67_0
                  try clear hfz73_0
                  try clear hfz74_0
                  try clear hfz81_0
                  try clear hfz83_0
                  try clear hfz84_0
                  try clear hfz99_0
                  obtain ⟨kq, x84_50, rfl, HA, HJ50, HO_8, HO_12, HO_200000, HO_204000, BK179, BK180, BK199, BK203, HB⟩ := hcut
                  have hl200000_50 := (Kd.R_reads' HO_200000.out).1
                  rw [hl200000_50] at HO_200000
                  (try simp only [hl200000_50])
                  (try simp only [hl200000_50] at BK179)
                  (try simp only [hl200000_50] at BK180)
                  (try simp only [hl200000_50] at BK199)
                  (try simp only [hl200000_50] at BK203)
                  (try simp only [hl200000_50] at HO_8)
                  (try simp only [hl200000_50] at HO_12)
                  (try simp only [hl200000_50] at HO_204000)
                  have hl204000_50 := (Kd.R_reads' HO_204000.out).1
                  rw [hl204000_50] at HO_204000
                  (try simp only [hl204000_50])
                  (try simp only [hl204000_50] at BK179)
                  (try simp only [hl204000_50] at BK180)
                  (try simp only [hl204000_50] at BK199)
                  (try simp only [hl204000_50] at BK203)
                  (try simp only [hl204000_50] at HO_8)
                  (try simp only [hl204000_50] at HO_12)
                  (try simp only [hl204000_50] at HO_200000)
                  cases kq with
                 |zero => exact absurd HA.out (by simp [laws_FnExactMovedKeys.j0])
                 |succ kj50 =>
                    have H := HA.out
                    clear HA
                    simp only [laws_FnExactMovedKeys.j0] at H
                    by_cases c106 : x84_50 = true
                    · subst c106
                      have H1 : (some false) = some r := by rw [if_pos rfl] at H; exact H
                      clear H
                      have H := H1
                      clear H1
                      exact absurd ((Option.some.inj H).trans HTr_.out) (by simp)
                    · replace c106 := Bool.eq_false_iff.mpr c106
                      subst c106
                      have H1 : ((laws_markStringS.f kj50 t207 1).bind fun bt230 => ((laws_heldStringS.f kj50 bt230.2 1).bind fun t232 => (if t232 < 0 then (some false) else (if t232 = bt230.1 then ((laws_toRing.f kj50 l0_0).bind fun t233 => ((laws_toRing.f kj50 l1_0).bind fun t236 => ((laws_toStringS.f kj50 l2).bind fun t239 => ((impl_MovedKeys.f kj50 t233 t236 t239).bind fun t242 => ((laws_eqStringS.f kj50 t242 t193).bind fun t245 => (if t245 = true then ((laws_heldStringS.f kj50 bt230.2 1).bind fun t246 => (if t246 < 0 then (some false) else (if t246 = bt230.1 then (some true) else (some false)))) else (some false))))))) else (some false))))) = some r := by rw [if_neg (show ¬ (false = true) by decide)] at H; exact H
                      clear H
                      have H := H1
                      clear H1
                      replace H := Option.bind_eq_some_iff.mp H
                      obtain ⟨⟨t230, t231⟩, A1070, H⟩ := H
                      replace H : ((laws_heldStringS.f kj50 t231 1).bind fun t232 => (if t232 < 0 then (some false) else (if t232 = t230 then ((laws_toRing.f kj50 l0_0).bind fun t233 => ((laws_toRing.f kj50 l1_0).bind fun t236 => ((laws_toStringS.f kj50 l2).bind fun t239 => ((impl_MovedKeys.f kj50 t233 t236 t239).bind fun t242 => ((laws_eqStringS.f kj50 t242 t193).bind fun t245 => (if t245 = true then ((laws_heldStringS.f kj50 t231 1).bind fun t246 => (if t246 < 0 then (some false) else (if t246 = t230 then (some true) else (some false)))) else (some false))))))) else (some false)))) = some r := H
                      have A107 := Aside0.mk A1070
                      clear A1070
                      replace H := Option.bind_eq_some_iff.mp H
                      obtain ⟨t232, A1080, H⟩ := H
                      replace H : (if t232 < 0 then (some false) else (if t232 = t230 then ((laws_toRing.f kj50 l0_0).bind fun t233 => ((laws_toRing.f kj50 l1_0).bind fun t236 => ((laws_toStringS.f kj50 l2).bind fun t239 => ((impl_MovedKeys.f kj50 t233 t236 t239).bind fun t242 => ((laws_eqStringS.f kj50 t242 t193).bind fun t245 => (if t245 = true then ((laws_heldStringS.f kj50 t231 1).bind fun t246 => (if t246 < 0 then (some false) else (if t246 = t230 then (some true) else (some false)))) else (some false))))))) else (some false))) = some r := H
                      have A108 := Aside0.mk A1080
                      clear A1080
                      by_cases c109 : t232 < 0
                      · rw [if_pos c109] at H
                        have c109b0 : decide (t232 < 0) = true := decide_eq_true c109
                        clear c109
                        exact absurd ((Option.some.inj H).trans HTr_.out) (by simp)
                      · rw [if_neg c109] at H
                        have c109b0 : decide (t232 < 0) = false := decide_eq_false c109
                        clear c109
                        by_cases c112 : t232 = t230
                        · rw [if_pos c112] at H
                          have c112b0 : (t232 == t230) = true := beq_iff_eq.mpr c112
                          have c112b1 : (t232 != t230) = false := bne_eq_false_iff_eq.mpr c112
                          clear c112
                          replace H := Option.bind_eq_some_iff.mp H
                          obtain ⟨t233, A1130, H⟩ := H
                          replace H : ((laws_toRing.f kj50 l1_0).bind fun t236 => ((laws_toStringS.f kj50 l2).bind fun t239 => ((impl_MovedKeys.f kj50 t233 t236 t239).bind fun t242 => ((laws_eqStringS.f kj50 t242 t193).bind fun t245 => (if t245 = true then ((laws_heldStringS.f kj50 t231 1).bind fun t246 => (if t246 < 0 then (some false) else (if t246 = t230 then (some true) else (some false)))) else (some false)))))) = some r := H
                          have A113 := Aside0.mk A1130
                          clear A1130
                          replace H := Option.bind_eq_some_iff.mp H
                          obtain ⟨t236, A1140, H⟩ := H
                          replace H : ((laws_toStringS.f kj50 l2).bind fun t239 => ((impl_MovedKeys.f kj50 t233 t236 t239).bind fun t242 => ((laws_eqStringS.f kj50 t242 t193).bind fun t245 => (if t245 = true then ((laws_heldStringS.f kj50 t231 1).bind fun t246 => (if t246 < 0 then (some false) else (if t246 = t230 then (some true) else (some false)))) else (some false))))) = some r := H
                          have A114 := Aside0.mk A1140
                          clear A1140
                          replace H := Option.bind_eq_some_iff.mp H
                          obtain ⟨t239, A1150, H⟩ := H
                          replace H : ((impl_MovedKeys.f kj50 t233 t236 t239).bind fun t242 => ((laws_eqStringS.f kj50 t242 t193).bind fun t245 => (if t245 = true then ((laws_heldStringS.f kj50 t231 1).bind fun t246 => (if t246 < 0 then (some false) else (if t246 = t230 then (some true) else (some false)))) else (some false)))) = some r := H
                          have A115 := Aside0.mk A1150
                          clear A1150
                          replace H := Option.bind_eq_some_iff.mp H
                          obtain ⟨t242, A1160, H⟩ := H
                          replace H : ((laws_eqStringS.f kj50 t242 t193).bind fun t245 => (if t245 = true then ((laws_heldStringS.f kj50 t231 1).bind fun t246 => (if t246 < 0 then (some false) else (if t246 = t230 then (some true) else (some false)))) else (some false))) = some r := H
                          have A116 := Aside0.mk A1160
                          clear A1160
                          replace H := Option.bind_eq_some_iff.mp H
                          obtain ⟨t245, A1170, H⟩ := H
                          replace H : (if t245 = true then ((laws_heldStringS.f kj50 t231 1).bind fun t246 => (if t246 < 0 then (some false) else (if t246 = t230 then (some true) else (some false)))) else (some false)) = some r := H
                          have A117 := Aside0.mk A1170
                          clear A1170
                          by_cases c118 : t245 = true
                          · subst c118
                            have H1 : ((laws_heldStringS.f kj50 t231 1).bind fun t246 => (if t246 < 0 then (some false) else (if t246 = t230 then (some true) else (some false)))) = some r := by rw [if_pos rfl] at H; exact H
                            clear H
                            have H := H1
                            clear H1
                            replace H := Option.bind_eq_some_iff.mp H
                            obtain ⟨t246, A1190, H⟩ := H
                            replace H : (if t246 < 0 then (some false) else (if t246 = t230 then (some true) else (some false))) = some r := H
                            have A119 := Aside0.mk A1190
                            clear A1190
                            by_cases c120 : t246 < 0
                            · rw [if_pos c120] at H
                              have c120b0 : decide (t246 < 0) = true := decide_eq_true c120
                              clear c120
                              exact absurd ((Option.some.inj H).trans HTr_.out) (by simp)
                            · rw [if_neg c120] at H
                              have c120b0 : decide (t246 < 0) = false := decide_eq_false c120
                              clear c120
                              by_cases c133 : t246 = t230
                              · rw [if_pos c133] at H
                                have c133b0 : (t246 == t230) = true := beq_iff_eq.mpr c133
                                have c133b1 : (t246 != t230) = false := bne_eq_false_iff_eq.mpr c133
                                clear c133
                                obtain rfl := Option.some.inj H
                                try go_wp2_with (first|((with_reducible refine gate_callee (f := 22) rfl ?_); refine goesL_ (some 87) rfl rfl Try.func22 (by kernel_rfl) rfl #[.slice Ao87 t207.length co87, .int .i64 1] rfl (by (try simp only [List.map_toArray, List.map_cons, List.map_nil]); first|done|rfl|(simp only [List.length_drop, List.length_take]; rfl)) ?_; (with_reducible refine (laws_markStringS.calls kj50 (fun k_ => some k_ = (.slice Ao87 t207.length co87 : Value).ownBlock) (.slice Ao87 t207.length co87) t207 1 t230 t231 w _ ?side1 ?side2 A107.out).mono ?_); (case side1 => repeat (first|(with_reducible first|exact HB.out|apply zI|apply zG|apply zH|refine zJ ?_ GE179.out|refine zJ ?_ GE180.out|refine zJ ?_ GE199.out|refine zJ ?_ GE203.out)|exact HB.out)); (case side2 => exact Kd.R_tight rfl HO_12.out); rintro e w134 ⟨rfl, hy0, hb, hkp⟩; refine ⟨_, rfl, ?_⟩; have n0_ := Aside0.mk (zR (ok' := fun k_ => some k_ ≠ (.slice Ao87 t207.length co87 : Value).ownBlock) (Kd.R_keptB (HO_8.out) hkp (fun k_ hk_ hs_ => (hk_) hs_)) (fun k_ hk_ => hk_.1)); have n1_ := Aside0.mk (Kd.R_reok rfl hy0 (fun k_ e_ => HO_12.out.1 k_ e_)); have n2_ := Aside0.mk (zR (ok' := fun k_ => some k_ ≠ (.slice Ao77 t226.length co77 : Value).ownBlock) (Kd.R_keptB ((Kd.R_apart' HO_200000.out (Kd.R_typed HO_12.out) (by decide))) hkp (fun k_ hk_ hs_ => by first|exact hk_.2 hs_|(have h_ := hk_; (try simp only [and_assoc] at h_); first|exact h_ hs_|exact h_.1 hs_|exact h_.2 hs_|exact h_.2.1 hs_|exact h_.2.2 hs_|exact h_.2.2.1 hs_|exact h_.2.2.2 hs_|exact h_.2.2.2.1 hs_|exact h_.2.2.2.2 hs_|exact h_.2.2.2.2.1 hs_))) (fun k_ hk_ => by first|exact hk_.1.1|(have h_ := hk_; (try simp only [and_assoc] at h_); first|exact h_|exact h_.1|exact h_.2|exact h_.2.1|exact h_.2.2|exact h_.2.2.1|exact h_.2.2.2|exact h_.2.2.2.1|exact h_.2.2.2.2|exact h_.2.2.2.2.1))); have n3_ := Aside0.mk (zR (ok' := fun k_ => some k_ ≠ (.slice Ao70 t224.length co70 : Value).ownBlock) (Kd.R_keptB ((Kd.R_apart' HO_204000.out (Kd.R_typed HO_12.out) (by decide))) hkp (fun k_ hk_ hs_ => by first|exact hk_.2 hs_|(have h_ := hk_; (try simp only [and_assoc] at h_); first|exact h_ hs_|exact h_.1 hs_|exact h_.2 hs_|exact h_.2.1 hs_|exact h_.2.2 hs_|exact h_.2.2.1 hs_|exact h_.2.2.2 hs_|exact h_.2.2.2.1 hs_|exact h_.2.2.2.2 hs_|exact h_.2.2.2.2.1 hs_))) (fun k_ hk_ => by first|exact hk_.1.1|(have h_ := hk_; (try simp only [and_assoc] at h_); first|exact h_|exact h_.1|exact h_.2|exact h_.2.1|exact h_.2.2|exact h_.2.2.1|exact h_.2.2.2|exact h_.2.2.2.1|exact h_.2.2.2.2|exact h_.2.2.2.2.1))); have n4_ := Aside0.mk (blk_kept (by first|exact BK179.out|exact zA BK179.out _|((with_reducible repeat (first|refine zA ?_ _|refine zC ?_|refine zB ?_ _)); exact BK179.out)) hkp (fun hs_ => (fun e_ => (Kd.R_ne HO_12.out BK179.out (by decide)) e_) hs_)); have n5_ := Aside0.mk (blk_kept (by first|exact BK180.out|exact zA BK180.out _|((with_reducible repeat (first|refine zA ?_ _|refine zC ?_|refine zB ?_ _)); exact BK180.out)) hkp (fun hs_ => (fun e_ => (Kd.R_ne HO_12.out BK180.out (by decide)) e_) hs_)); have n6_ := Aside0.mk (blk_kept (by first|exact BK199.out|exact zA BK199.out _|((with_reducible repeat (first|refine zA ?_ _|refine zC ?_|refine zB ?_ _)); exact BK199.out)) hkp (fun hs_ => (fun e_ => (Kd.R_ne HO_12.out BK199.out (by decide)) e_) hs_)); have n7_ := Aside0.mk (blk_kept (by first|exact BK203.out|exact zA BK203.out _|((with_reducible repeat (first|refine zA ?_ _|refine zC ?_|refine zB ?_ _)); exact BK203.out)) hkp (fun hs_ => (fun e_ => (Kd.R_ne HO_12.out BK203.out (by decide)) e_) hs_)); have n8_ := Aside0.mk (hb); clear HO_8; clear HO_12; clear HO_200000; clear HO_204000; clear BK179; clear BK180; clear BK199; clear BK203; clear HB; have HO_8 := n0_; have HO_12 := n1_; have HO_200000 := n2_; have HO_204000 := n3_; have BK179 := n4_; have BK180 := n5_; have BK199 := n6_; have BK203 := n7_; have HB := n8_; clear n0_ n1_ n2_ n3_ n4_ n5_ n6_ n7_ n8_; (try clear hb); (try clear hkp); (try clear hy0))|((with_reducible refine gate_callee (f := 23) rfl ?_); refine goesL_ (some 90) rfl rfl Try.func23 (by kernel_rfl) rfl #[.slice Ao87 t231.length co87, .int .i64 1] rfl (by (try simp only [List.map_toArray, List.map_cons, List.map_nil]); first|done|(rw [show t231.length = t207.length from (Kd.R_reads' HO_12.out).1.symm] <;> rfl)|rfl|(simp only [List.length_drop, List.length_take]; rfl)) ?_; (with_reducible refine (laws_heldStringS.calls kj50 _ _ t231 1 t232 _ ?side1 ?side2 A108.out ?prem).mono ?_); (case prem => first|(exact HTr_.out)|(intro hz; rw [if_pos hz] at H; exact absurd ((Option.some.inj H).trans HTr_.out) (by simp))|(intro hz; rw [if_pos hz] at H; exact absurd (Option.some.inj H) (by have := HTr_.out; omega))|(exact of_decide_eq_false (by assumption))|(omega)); (case side1 => repeat (first|exact (Kd.R_reads' HO_12.out).2.2|(with_reducible refine Kd.C_alloc ?_ _)|(with_reducible refine Kd.C_drewN ?_ _)|(with_reducible refine Kd.C_drew ?_))); (case side2 => rw [show t231.length = t207.length from (Kd.R_reads' HO_12.out).1.symm]; exact (Kd.R_reads' HO_12.out).2.1); rintro e w135 ⟨rfl, hb⟩; refine ⟨_, rfl, ?_⟩; have n0_ := Aside0.mk (zM (by (with_reducible repeat (first|apply zE|apply zD|apply zF)); exact HO_8.out) hb); have n1_ := Aside0.mk (zM (by (with_reducible repeat (first|apply zE|apply zD|apply zF)); exact HO_12.out) hb); have n2_ := Aside0.mk (zM (by (with_reducible repeat (first|apply zE|apply zD|apply zF)); exact HO_200000.out) hb); have n3_ := Aside0.mk (zM (by (with_reducible repeat (first|apply zE|apply zD|apply zF)); exact HO_204000.out) hb); have n4_ := Aside0.mk (zK (g := gb179) (o := .cells #[.slice A0_0 l0_0.length c0_0] 24 (0, 0)) (by first|exact BK179.out|((with_reducible repeat (first|refine zA ?_ _|refine zC ?_|refine zB ?_ _)); exact BK179.out)) hb); have n5_ := Aside0.mk (zK (g := gb180) (o := .cells #[.slice A1_0 l1_0.length c1_0] 24 (0, 0)) (by first|exact BK180.out|((with_reducible repeat (first|refine zA ?_ _|refine zC ?_|refine zB ?_ _)); exact BK180.out)) hb); have n6_ := Aside0.mk (zK (g := gb199) (o := .cells #[.slice Ao70 t224.length co70] 29 (0, 0)) (by first|exact BK199.out|((with_reducible repeat (first|refine zA ?_ _|refine zC ?_|refine zB ?_ _)); exact BK199.out)) hb); have n7_ := Aside0.mk (zK (g := gb203) (o := .cells #[.slice Ao77 t226.length co77] 29 (0, 0)) (by first|exact BK203.out|((with_reducible repeat (first|refine zA ?_ _|refine zC ?_|refine zB ?_ _)); exact BK203.out)) hb); have n8_ := Aside0.mk (zN (by repeat (first|(with_reducible first|exact HB.out|apply zI|apply zG|apply zH|refine zJ ?_ GE179.out|refine zJ ?_ GE180.out|refine zJ ?_ GE199.out|refine zJ ?_ GE203.out)|exact HB.out)) hb); clear HO_8; clear HO_12; clear HO_200000; clear HO_204000; clear BK179; clear BK180; clear BK199; clear BK203; clear HB; have HO_8 := n0_; have HO_12 := n1_; have HO_200000 := n2_; have HO_204000 := n3_; have BK179 := n4_; have BK180 := n5_; have BK199 := n6_; have BK203 := n7_; have HB := n8_; clear n0_ n1_ n2_ n3_ n4_ n5_ n6_ n7_ n8_; (try clear hb); (try clear hb2); (try clear hk); (try clear hi)))
                                have n0_ := Aside0.mk (zF HO_8.out)
                                have n1_ := Aside0.mk (zF HO_12.out)
                                have n2_ := Aside0.mk (zF HO_200000.out)
                                have n3_ := Aside0.mk (zF HO_204000.out)
                                have n4_ := Aside0.mk (zC BK179.out)
                                have n5_ := Aside0.mk (zC BK180.out)
                                have n6_ := Aside0.mk (zC BK199.out)
                                have n7_ := Aside0.mk (zC BK203.out)
                                have n8_ := Aside0.mk (zH HB.out)
                                clear HO_8
                                clear HO_12
                                clear HO_200000
                                clear HO_204000
                                clear BK179
                                clear BK180
                                clear BK199
                                clear BK203
                                clear HB
                                have HO_8 := n0_
                                have HO_12 := n1_
                                have HO_200000 := n2_
                                have HO_204000 := n3_
                                have BK179 := n4_
                                have BK180 := n5_
                                have BK199 := n6_
                                have BK203 := n7_
                                have HB := n8_
                                clear n0_ n1_ n2_ n3_ n4_ n5_ n6_ n7_ n8_
                                refine start_ (n := 8) (S := fun w' => w'.cell? ⟨gb179, 0, none⟩ = some (.slice A0_0 l0_0.length c0_0) ∧ w'.cell? ⟨gb180, 0, none⟩ = some (.slice A1_0 l1_0.length c1_0)) (ds := []) #[false, false, false, false, false, false, false, false] (by kernel_rfl) rfl rfl ⟨(zO BK179.out 0).trans rfl, (zO BK180.out 0).trans rfl⟩ (fun hHeld => ?_); refine with_tabW laws_FnExactMovedKeys.tab38 laws_FnExactMovedKeys.bits38 (fun HT_ HW_ => ?_)
                                generalize w135.drew = w136 at HO_8 HO_12 HO_200000 HO_204000 BK179 BK180 BK199 BK203 HB hHeld ⊢
                                refine pure_ (i := 4) (N := some 100) (v := ?_) (a' := ?_) #[false, false, false, false, true, false, false, false] rfl rfl (any_of HT_.out (by kernel_rfl)) (fun _ _ _ h => h) (Or.inl ⟨by rfl, ?_⟩) ?_ ?_
                                rotate_left
                                · intro w'
                                  go_simp
                                  with_reducible rfl
                                rotate_left
                                · simp only [Act.put, List.setIfInBounds_toArray, List.set_cons_zero, List.set_cons_succ, i64_w, i32_w]
                                  rfl
                                refine take_ (i := 0) (N := some 96) (v := ?_) (a' := ?_) #[true, false, false, false, true, false, false, false] rfl rfl (take_ofW HT_.out HW_.out (by kernel_rfl)) (fun _ _ _ h => h) (Or.inl ⟨by rfl, ?_⟩) hHeld ?_ ?_
                                rotate_left
                                · rintro w' ⟨s0, s1⟩
                                  go_simp
                                  with_reducible rfl
                                rotate_left
                                · simp only [Act.put, List.setIfInBounds_toArray, List.set_cons_zero, List.set_cons_succ, i64_w, i32_w]
                                  rfl
                                refine take_ (i := 2) (N := some 98) (v := ?_) (a' := ?_) #[true, false, true, false, true, false, false, false] rfl rfl (take_ofW HT_.out HW_.out (by kernel_rfl)) (fun _ _ _ h => h) (Or.inl ⟨by rfl, ?_⟩) hHeld ?_ ?_
                                rotate_left
                                · rintro w' ⟨s0, s1⟩
                                  go_simp
                                  with_reducible rfl
                                rotate_left
                                · simp only [Act.put, List.setIfInBounds_toArray, List.set_cons_zero, List.set_cons_succ, i64_w, i32_w]
                                  rfl
                                refine one_ (i := 1) (N := some 97) #[true, true, true, false, true, false, false, false] rfl rfl (one_of HT_.out (by kernel_rfl)) (by decide) (fun K hK => ?_)
                                refine goes_ Try.func8 (by kernel_rfl) rfl #[.agg #[.slice A0_0 l0_0.length c0_0]] (by rfl) rfl rfl (by (try simp only [List.map_toArray, List.map_cons, List.map_nil]); first|done|rfl|(simp only [List.length_drop, List.length_take]; rfl)) ?_
                                with_reducible refine (laws_toRing.calls kj50 _ _ l0_0 t233 _ ?side1 ?side2 A113.out).mono ?_
                                (case side1 => repeat (first|exact (Kd.C_below HR0_0.out HB.out)|(with_reducible refine Kd.C_alloc ?_ _)|(with_reducible refine Kd.C_drewN ?_ _)|(with_reducible refine Kd.C_drew ?_)))
                                (case side2 => exact HC0_0.out)
                                rintro e w137 ⟨v234, rfl, ho0, hb⟩
                                refine ⟨_, rfl, ?_⟩
                                have n0_ := Aside0.mk (zM (by (with_reducible repeat (first|apply zE|apply zD|apply zF)); exact HO_8.out) hb)
                                have n1_ := Aside0.mk (zM (by (with_reducible repeat (first|apply zE|apply zD|apply zF)); exact HO_12.out) hb)
                                have n2_ := Aside0.mk (Kd.R_elder' (by (with_reducible repeat (first|apply zE|apply zD|apply zF)); exact HO_200000.out) (Kd.R_base ho0) hb)
                                have n3_ := Aside0.mk (Kd.R_elder' (by (with_reducible repeat (first|apply zE|apply zD|apply zF)); exact HO_204000.out) (Kd.R_base ho0) hb)
                                have n4_ := Aside0.mk (Kd.R_lower (Kd.R_new' (Kd.R_new' ho0 (Kd.R_lt (by (with_reducible repeat (first|apply zE|apply zD|apply zF)); exact HO_200000.out))) (Kd.R_lt (by (with_reducible repeat (first|apply zE|apply zD|apply zF)); exact HO_204000.out))) (below_size (by repeat (first|(with_reducible first|exact HB.out|apply zI|apply zG|apply zH|refine zJ ?_ GE179.out|refine zJ ?_ GE180.out|refine zJ ?_ GE199.out|refine zJ ?_ GE203.out)|exact HB.out))))
                                have n5_ := Aside0.mk (zK (g := gb179) (o := .cells #[.slice A0_0 l0_0.length c0_0] 24 (0, 0)) (by first|exact BK179.out|((with_reducible repeat (first|refine zA ?_ _|refine zC ?_|refine zB ?_ _)); exact BK179.out)) hb)
                                have n6_ := Aside0.mk (zK (g := gb180) (o := .cells #[.slice A1_0 l1_0.length c1_0] 24 (0, 0)) (by first|exact BK180.out|((with_reducible repeat (first|refine zA ?_ _|refine zC ?_|refine zB ?_ _)); exact BK180.out)) hb)
                                have n7_ := Aside0.mk (zK (g := gb199) (o := .cells #[.slice Ao70 t224.length co70] 29 (0, 0)) (by first|exact BK199.out|((with_reducible repeat (first|refine zA ?_ _|refine zC ?_|refine zB ?_ _)); exact BK199.out)) hb)
                                have n8_ := Aside0.mk (zK (g := gb203) (o := .cells #[.slice Ao77 t226.length co77] 29 (0, 0)) (by first|exact BK203.out|((with_reducible repeat (first|refine zA ?_ _|refine zC ?_|refine zB ?_ _)); exact BK203.out)) hb)
                                have n9_ := Aside0.mk (zN (by repeat (first|(with_reducible first|exact HB.out|apply zI|apply zG|apply zH|refine zJ ?_ GE179.out|refine zJ ?_ GE180.out|refine zJ ?_ GE199.out|refine zJ ?_ GE203.out)|exact HB.out)) hb)
                                clear HO_8
                                clear HO_12
                                clear HO_200000
                                clear HO_204000
                                clear BK179
                                clear BK180
                                clear BK199
                                clear BK203
                                clear HB
                                have HO_8 := n0_
                                have HO_12 := n1_
                                have HO_200000 := n2_
                                have HO_204000 := n3_
                                have HO235 := n4_
                                have BK179 := n5_
                                have BK180 := n6_
                                have BK199 := n7_
                                have BK203 := n8_
                                have HB := n9_
                                clear n0_ n1_ n2_ n3_ n4_ n5_ n6_ n7_ n8_ n9_
                                (try clear hb)
                                (try clear hb2)
                                (try clear hk)
                                (try clear hi)
                                (try clear ho0)
                                refine hK.out _ _ ⟨(zO BK179.out 0).trans rfl, (zO BK180.out 0).trans rfl⟩ (fun hHeld => ?_)
                                clear hK K
                                refine norm_ (a' := ?_) ?_ ?_
                                rotate_left
                                · show Act.put _ (some 97) _ = _
                                  simp only [Act.put, List.setIfInBounds_toArray, List.set_cons_zero, List.set_cons_succ, i64_w, i32_w]
                                  rfl
                                refine one_ (i := 3) (N := some 99) #[true, true, true, true, true, false, false, false] rfl rfl (one_of HT_.out (by kernel_rfl)) (by decide) (fun K hK => ?_)
                                refine goes_ Try.func8 (by kernel_rfl) rfl #[.agg #[.slice A1_0 l1_0.length c1_0]] (by rfl) rfl rfl (by (try simp only [List.map_toArray, List.map_cons, List.map_nil]); first|done|rfl|(simp only [List.length_drop, List.length_take]; rfl)) ?_
                                with_reducible refine (laws_toRing.calls kj50 _ _ l1_0 t236 _ ?side1 ?side2 A114.out).mono ?_
                                (case side1 => repeat (first|exact (Kd.C_below HR1_0.out HB.out)|(with_reducible refine Kd.C_alloc ?_ _)|(with_reducible refine Kd.C_drewN ?_ _)|(with_reducible refine Kd.C_drew ?_)))
                                (case side2 => exact HC1_0.out)
                                rintro e w138 ⟨v237, rfl, ho0, hb⟩
                                refine ⟨_, rfl, ?_⟩
                                have n0_ := Aside0.mk (zM (by (with_reducible repeat (first|apply zE|apply zD|apply zF)); exact HO_8.out) hb)
                                have n1_ := Aside0.mk (zM (by (with_reducible repeat (first|apply zE|apply zD|apply zF)); exact HO_12.out) hb)
                                have n2_ := Aside0.mk (Kd.R_elder' (by (with_reducible repeat (first|apply zE|apply zD|apply zF)); exact HO_200000.out) (Kd.R_base ho0) hb)
                                have n3_ := Aside0.mk (Kd.R_elder' (by (with_reducible repeat (first|apply zE|apply zD|apply zF)); exact HO_204000.out) (Kd.R_base ho0) hb)
                                have n4_ := Aside0.mk (Kd.R_elder' (by (with_reducible repeat (first|apply zE|apply zD|apply zF)); exact HO235.out) (Kd.R_base ho0) hb)
                                have n5_ := Aside0.mk (Kd.R_lower (Kd.R_new' (Kd.R_new' (Kd.R_new' ho0 (Kd.R_lt (by (with_reducible repeat (first|apply zE|apply zD|apply zF)); exact HO_200000.out))) (Kd.R_lt (by (with_reducible repeat (first|apply zE|apply zD|apply zF)); exact HO_204000.out))) (Kd.R_lt (by (with_reducible repeat (first|apply zE|apply zD|apply zF)); exact HO235.out))) (below_size (by repeat (first|(with_reducible first|exact HB.out|apply zI|apply zG|apply zH|refine zJ ?_ GE179.out|refine zJ ?_ GE180.out|refine zJ ?_ GE199.out|refine zJ ?_ GE203.out)|exact HB.out))))
                                have n6_ := Aside0.mk (zK (g := gb179) (o := .cells #[.slice A0_0 l0_0.length c0_0] 24 (0, 0)) (by first|exact BK179.out|((with_reducible repeat (first|refine zA ?_ _|refine zC ?_|refine zB ?_ _)); exact BK179.out)) hb)
                                have n7_ := Aside0.mk (zK (g := gb180) (o := .cells #[.slice A1_0 l1_0.length c1_0] 24 (0, 0)) (by first|exact BK180.out|((with_reducible repeat (first|refine zA ?_ _|refine zC ?_|refine zB ?_ _)); exact BK180.out)) hb)
                                have n8_ := Aside0.mk (zK (g := gb199) (o := .cells #[.slice Ao70 t224.length co70] 29 (0, 0)) (by first|exact BK199.out|((with_reducible repeat (first|refine zA ?_ _|refine zC ?_|refine zB ?_ _)); exact BK199.out)) hb)
                                have n9_ := Aside0.mk (zK (g := gb203) (o := .cells #[.slice Ao77 t226.length co77] 29 (0, 0)) (by first|exact BK203.out|((with_reducible repeat (first|refine zA ?_ _|refine zC ?_|refine zB ?_ _)); exact BK203.out)) hb)
                                have n10_ := Aside0.mk (zN (by repeat (first|(with_reducible first|exact HB.out|apply zI|apply zG|apply zH|refine zJ ?_ GE179.out|refine zJ ?_ GE180.out|refine zJ ?_ GE199.out|refine zJ ?_ GE203.out)|exact HB.out)) hb)
                                clear HO_8
                                clear HO_12
                                clear HO_200000
                                clear HO_204000
                                clear HO235
                                clear BK179
                                clear BK180
                                clear BK199
                                clear BK203
                                clear HB
                                have HO_8 := n0_
                                have HO_12 := n1_
                                have HO_200000 := n2_
                                have HO_204000 := n3_
                                have HO235 := n4_
                                have HO238 := n5_
                                have BK179 := n6_
                                have BK180 := n7_
                                have BK199 := n8_
                                have BK203 := n9_
                                have HB := n10_
                                clear n0_ n1_ n2_ n3_ n4_ n5_ n6_ n7_ n8_ n9_ n10_
                                (try clear hb)
                                (try clear hb2)
                                (try clear hk)
                                (try clear hi)
                                (try clear ho0)
                                refine hK.out _ _ ⟨(zO BK179.out 0).trans rfl, (zO BK180.out 0).trans rfl⟩ (fun hHeld => ?_)
                                clear hK K
                                refine norm_ (a' := ?_) ?_ ?_
                                rotate_left
                                · show Act.put _ (some 99) _ = _
                                  simp only [Act.put, List.setIfInBounds_toArray, List.set_cons_zero, List.set_cons_succ, i64_w, i32_w]
                                  rfl
                                refine one_ (i := 5) (N := some 101) #[true, true, true, true, true, true, false, false] rfl rfl (one_of HT_.out (by kernel_rfl)) (by decide) (fun K hK => ?_)
                                refine goes_ Try.func19 (by kernel_rfl) rfl #[.slice A2 l2.length c2] (by rfl) rfl rfl (by (try simp only [List.map_toArray, List.map_cons, List.map_nil]); first|done|rfl|(simp only [List.length_drop, List.length_take]; rfl)) ?_
                                with_reducible refine (laws_toStringS.calls kj50 _ _ l2 t239 _ ?side1 ?side2 A115.out).mono ?_
                                (case side1 => repeat (first|exact (Kd.C_below HR2.out HB.out)|(with_reducible refine Kd.C_alloc ?_ _)|(with_reducible refine Kd.C_drewN ?_ _)|(with_reducible refine Kd.C_drew ?_)))
                                (case side2 => exact HC2.out)
                                rintro e w139 ⟨v240, rfl, ho0, hb⟩
                                refine ⟨_, rfl, ?_⟩
                                have n0_ := Aside0.mk (Kd.R_elder' (by (with_reducible repeat (first|apply zE|apply zD|apply zF)); exact HO_8.out) (Kd.R_base ho0) hb)
                                have n1_ := Aside0.mk (Kd.R_elder' (by (with_reducible repeat (first|apply zE|apply zD|apply zF)); exact HO_12.out) (Kd.R_base ho0) hb)
                                have n2_ := Aside0.mk (zM (by (with_reducible repeat (first|apply zE|apply zD|apply zF)); exact HO_200000.out) hb)
                                have n3_ := Aside0.mk (zM (by (with_reducible repeat (first|apply zE|apply zD|apply zF)); exact HO_204000.out) hb)
                                have n4_ := Aside0.mk (zM (by (with_reducible repeat (first|apply zE|apply zD|apply zF)); exact HO235.out) hb)
                                have n5_ := Aside0.mk (zM (by (with_reducible repeat (first|apply zE|apply zD|apply zF)); exact HO238.out) hb)
                                have n6_ := Aside0.mk (Kd.R_lower (Kd.R_new' (Kd.R_new' ho0 (Kd.R_lt (by (with_reducible repeat (first|apply zE|apply zD|apply zF)); exact HO_8.out))) (Kd.R_lt (by (with_reducible repeat (first|apply zE|apply zD|apply zF)); exact HO_12.out))) (below_size (by repeat (first|(with_reducible first|exact HB.out|apply zI|apply zG|apply zH|refine zJ ?_ GE179.out|refine zJ ?_ GE180.out|refine zJ ?_ GE199.out|refine zJ ?_ GE203.out)|exact HB.out))))
                                have n7_ := Aside0.mk (zK (g := gb179) (o := .cells #[.slice A0_0 l0_0.length c0_0] 24 (0, 0)) (by first|exact BK179.out|((with_reducible repeat (first|refine zA ?_ _|refine zC ?_|refine zB ?_ _)); exact BK179.out)) hb)
                                have n8_ := Aside0.mk (zK (g := gb180) (o := .cells #[.slice A1_0 l1_0.length c1_0] 24 (0, 0)) (by first|exact BK180.out|((with_reducible repeat (first|refine zA ?_ _|refine zC ?_|refine zB ?_ _)); exact BK180.out)) hb)
                                have n9_ := Aside0.mk (zK (g := gb199) (o := .cells #[.slice Ao70 t224.length co70] 29 (0, 0)) (by first|exact BK199.out|((with_reducible repeat (first|refine zA ?_ _|refine zC ?_|refine zB ?_ _)); exact BK199.out)) hb)
                                have n10_ := Aside0.mk (zK (g := gb203) (o := .cells #[.slice Ao77 t226.length co77] 29 (0, 0)) (by first|exact BK203.out|((with_reducible repeat (first|refine zA ?_ _|refine zC ?_|refine zB ?_ _)); exact BK203.out)) hb)
                                have n11_ := Aside0.mk (zN (by repeat (first|(with_reducible first|exact HB.out|apply zI|apply zG|apply zH|refine zJ ?_ GE179.out|refine zJ ?_ GE180.out|refine zJ ?_ GE199.out|refine zJ ?_ GE203.out)|exact HB.out)) hb)
                                clear HO_8
                                clear HO_12
                                clear HO_200000
                                clear HO_204000
                                clear HO235
                                clear HO238
                                clear BK179
                                clear BK180
                                clear BK199
                                clear BK203
                                clear HB
                                have HO_8 := n0_
                                have HO_12 := n1_
                                have HO_200000 := n2_
                                have HO_204000 := n3_
                                have HO235 := n4_
                                have HO238 := n5_
                                have HO241 := n6_
                                have BK179 := n7_
                                have BK180 := n8_
                                have BK199 := n9_
                                have BK203 := n10_
                                have HB := n11_
                                clear n0_ n1_ n2_ n3_ n4_ n5_ n6_ n7_ n8_ n9_ n10_ n11_
                                (try clear hb)
                                (try clear hb2)
                                (try clear hk)
                                (try clear hi)
                                (try clear ho0)
                                obtain ⟨Ao140, co140, eo140⟩ := Kd.R_slice HO235.out
                                (first|subst eo140|(injection eo140 with f1_ f2_ f3_; have f4_ := f1_.symm; have f5_ := f3_.symm; clear f1_ f2_ f3_; subst f4_; subst f5_))
                                obtain ⟨Ao141, co141, eo141⟩ := Kd.R_slice HO238.out
                                (first|subst eo141|(injection eo141 with f1_ f2_ f3_; have f4_ := f1_.symm; have f5_ := f3_.symm; clear f1_ f2_ f3_; subst f4_; subst f5_))
                                obtain ⟨Ao142, co142, eo142⟩ := Kd.R_slice HO241.out
                                (first|subst eo142|(injection eo142 with f1_ f2_ f3_; have f4_ := f1_.symm; have f5_ := f3_.symm; clear f1_ f2_ f3_; subst f4_; subst f5_))
                                refine hK.out _ _ ⟨(zO BK179.out 0).trans rfl, (zO BK180.out 0).trans rfl⟩ (fun hHeld => ?_)
                                clear hK K
                                refine norm_ (a' := ?_) ?_ ?_
                                rotate_left
                                · show Act.put _ (some 101) _ = _
                                  simp only [Act.put, List.setIfInBounds_toArray, List.set_cons_zero, List.set_cons_succ, i64_w, i32_w]
                                  rfl
                                refine one_ (i := 6) (N := some 102) #[true, true, true, true, true, true, true, false] rfl rfl (one_of HT_.out (by kernel_rfl)) (by decide) (fun K hK => ?_)
                                refine goes_ Try.func20 (by kernel_rfl) rfl #[.agg #[.slice Ao140 t233.length co140], .agg #[.slice Ao141 t236.length co141], .slice Ao142 t239.length co142] (by rfl) rfl rfl (by (try simp only [List.map_toArray, List.map_cons, List.map_nil]); first|done|rfl|(simp only [List.length_drop, List.length_take]; rfl)) ?_
                                with_reducible refine (impl_MovedKeys.calls kj50 _ _ t233 _ _ t236 _ _ t239 t242 _ ?side1 ?side2 ?side3 ?side4 ?side5 ?side6 A116.out).mono ?_
                                (case side1 => repeat (first|exact (Kd.R_reads' HO235.out).2.2|(with_reducible refine Kd.C_alloc ?_ _)|(with_reducible refine Kd.C_drewN ?_ _)|(with_reducible refine Kd.C_drew ?_)))
                                (case side2 => exact (Kd.R_reads' HO235.out).2.1)
                                (case side3 => repeat (first|exact (Kd.R_reads' HO238.out).2.2|(with_reducible refine Kd.C_alloc ?_ _)|(with_reducible refine Kd.C_drewN ?_ _)|(with_reducible refine Kd.C_drew ?_)))
                                (case side4 => exact (Kd.R_reads' HO238.out).2.1)
                                (case side5 => repeat (first|exact (Kd.R_reads' HO241.out).2.2|(with_reducible refine Kd.C_alloc ?_ _)|(with_reducible refine Kd.C_drewN ?_ _)|(with_reducible refine Kd.C_drew ?_)))
                                (case side6 => exact (Kd.R_reads' HO241.out).2.1)
                                rintro e w143 ⟨v243, rfl, ho0, hb⟩
                                refine ⟨_, rfl, ?_⟩
                                have n0_ := Aside0.mk (Kd.R_elder' (by (with_reducible repeat (first|apply zE|apply zD|apply zF)); exact HO_8.out) (Kd.R_base ho0) hb)
                                have n1_ := Aside0.mk (Kd.R_elder' (by (with_reducible repeat (first|apply zE|apply zD|apply zF)); exact HO_12.out) (Kd.R_base ho0) hb)
                                have n2_ := Aside0.mk (zM (by (with_reducible repeat (first|apply zE|apply zD|apply zF)); exact HO_200000.out) hb)
                                have n3_ := Aside0.mk (zM (by (with_reducible repeat (first|apply zE|apply zD|apply zF)); exact HO_204000.out) hb)
                                have n4_ := Aside0.mk (zM (by (with_reducible repeat (first|apply zE|apply zD|apply zF)); exact HO235.out) hb)
                                have n5_ := Aside0.mk (zM (by (with_reducible repeat (first|apply zE|apply zD|apply zF)); exact HO238.out) hb)
                                have n6_ := Aside0.mk (Kd.R_elder' (by (with_reducible repeat (first|apply zE|apply zD|apply zF)); exact HO241.out) (Kd.R_base ho0) hb)
                                have n7_ := Aside0.mk (Kd.R_lower (Kd.R_new' (Kd.R_new' (Kd.R_new' ho0 (Kd.R_lt (by (with_reducible repeat (first|apply zE|apply zD|apply zF)); exact HO_8.out))) (Kd.R_lt (by (with_reducible repeat (first|apply zE|apply zD|apply zF)); exact HO_12.out))) (Kd.R_lt (by (with_reducible repeat (first|apply zE|apply zD|apply zF)); exact HO241.out))) (below_size (by repeat (first|(with_reducible first|exact HB.out|apply zI|apply zG|apply zH|refine zJ ?_ GE179.out|refine zJ ?_ GE180.out|refine zJ ?_ GE199.out|refine zJ ?_ GE203.out)|exact HB.out))))
                                have n8_ := Aside0.mk (zK (g := gb179) (o := .cells #[.slice A0_0 l0_0.length c0_0] 24 (0, 0)) (by first|exact BK179.out|((with_reducible repeat (first|refine zA ?_ _|refine zC ?_|refine zB ?_ _)); exact BK179.out)) hb)
                                have n9_ := Aside0.mk (zK (g := gb180) (o := .cells #[.slice A1_0 l1_0.length c1_0] 24 (0, 0)) (by first|exact BK180.out|((with_reducible repeat (first|refine zA ?_ _|refine zC ?_|refine zB ?_ _)); exact BK180.out)) hb)
                                have n10_ := Aside0.mk (zK (g := gb199) (o := .cells #[.slice Ao70 t224.length co70] 29 (0, 0)) (by first|exact BK199.out|((with_reducible repeat (first|refine zA ?_ _|refine zC ?_|refine zB ?_ _)); exact BK199.out)) hb)
                                have n11_ := Aside0.mk (zK (g := gb203) (o := .cells #[.slice Ao77 t226.length co77] 29 (0, 0)) (by first|exact BK203.out|((with_reducible repeat (first|refine zA ?_ _|refine zC ?_|refine zB ?_ _)); exact BK203.out)) hb)
                                have n12_ := Aside0.mk (zN (by repeat (first|(with_reducible first|exact HB.out|apply zI|apply zG|apply zH|refine zJ ?_ GE179.out|refine zJ ?_ GE180.out|refine zJ ?_ GE199.out|refine zJ ?_ GE203.out)|exact HB.out)) hb)
                                clear HO_8
                                clear HO_12
                                clear HO_200000
                                clear HO_204000
                                clear HO235
                                clear HO238
                                clear HO241
                                clear BK179
                                clear BK180
                                clear BK199
                                clear BK203
                                clear HB
                                have HO_8 := n0_
                                have HO_12 := n1_
                                have HO_200000 := n2_
                                have HO_204000 := n3_
                                have HO235 := n4_
                                have HO238 := n5_
                                have HO241 := n6_
                                have HO244 := n7_
                                have BK179 := n8_
                                have BK180 := n9_
                                have BK199 := n10_
                                have BK203 := n11_
                                have HB := n12_
                                clear n0_ n1_ n2_ n3_ n4_ n5_ n6_ n7_ n8_ n9_ n10_ n11_ n12_
                                (try clear hb)
                                (try clear hb2)
                                (try clear hk)
                                (try clear hi)
                                (try clear ho0)
                                refine hK.out _ _ ⟨(zO BK179.out 0).trans rfl, (zO BK180.out 0).trans rfl⟩ (fun hHeld => ?_)
                                clear hK K
                                refine norm_ (a' := ?_) ?_ ?_
                                rotate_left
                                · show Act.put _ (some 102) _ = _
                                  simp only [Act.put, List.setIfInBounds_toArray, List.set_cons_zero, List.set_cons_succ, i64_w, i32_w]
                                  rfl
                                refine pure_ (i := 7) (N := some 16) (v := ?_) (a' := ?_) #[true, true, true, true, true, true, true, true] rfl rfl (any_of HT_.out (by kernel_rfl)) (fun _ _ _ h => h) (Or.inl ⟨by rfl, ?_⟩) ?_ ?_
                                rotate_left
                                · intro w'
                                  go_simp
                                  with_reducible rfl
                                rotate_left
                                · simp only [Act.put, List.setIfInBounds_toArray, List.set_cons_zero, List.set_cons_succ, i64_w, i32_w]
                                  rfl
                                refine done_ (done_of HT_.out (by kernel_rfl)) ?_
                                obtain ⟨Ao144, co144, eo144⟩ := Kd.R_slice HO244.out
                                subst eo144
                                try go_wp2_with (first|((with_reducible refine gate_callee (f := 21) rfl ?_); refine goesL_ (some 105) rfl rfl Try.func21 (by kernel_rfl) rfl #[.slice Ao144 t242.length co144, .slice Ao88 t193.length co88] rfl (by (try simp only [List.map_toArray, List.map_cons, List.map_nil]); first|done|rfl|(simp only [List.length_drop, List.length_take]; rfl)) ?_; (with_reducible refine (laws_eqStringS.calls kj50 _ _ t242 _ _ t193 true _ ?side1 ?side2 ?side3 ?side4 A117.out ?prem).mono ?_); (case prem => first|(rfl)|(exact HTr_.out)|(assumption)|(refine (Bool.eq_false_or_eq_true _).resolve_right (fun hz => ?_); rw [hz, if_neg (by decide)] at H; exact absurd ((Option.some.inj H).trans HTr_.out) (by simp))|(refine (Bool.eq_false_or_eq_true _).resolve_right (fun hz => ?_); have H := H'.out; rw [hz] at H; exact absurd ((laws_FnExactMovedKeys.j0_bad H).symm.trans HTr_.out) (by simp))); (case side1 => repeat (first|exact (Kd.R_reads' HO244.out).2.2|(with_reducible refine Kd.C_alloc ?_ _)|(with_reducible refine Kd.C_drewN ?_ _)|(with_reducible refine Kd.C_drew ?_))); (case side2 => exact (Kd.R_reads' HO244.out).2.1); (case side3 => repeat (first|exact (Kd.R_reads' HO_8.out).2.2|(with_reducible refine Kd.C_alloc ?_ _)|(with_reducible refine Kd.C_drewN ?_ _)|(with_reducible refine Kd.C_drew ?_))); (case side4 => exact (Kd.R_reads' HO_8.out).2.1); rintro e w' ⟨rfl, ⟨nd, rfl⟩⟩; refine ⟨_, rfl, ?_⟩)|((with_reducible refine gate_callee (f := 23) rfl ?_); refine goesL_ (some 109) rfl rfl Try.func23 (by kernel_rfl) rfl #[.slice Ao87 t231.length co87, .int .i64 1] rfl (by (try simp only [List.map_toArray, List.map_cons, List.map_nil]); first|done|(rw [show t231.length = t207.length from (Kd.R_reads' HO_12.out).1.symm] <;> rfl)|rfl|(simp only [List.length_drop, List.length_take]; rfl)) ?_; (with_reducible refine (laws_heldStringS.calls kj50 _ _ t231 1 t246 _ ?side1 ?side2 A119.out ?prem).mono ?_); (case prem => first|(exact HTr_.out)|(intro hz; rw [if_pos hz] at H; exact absurd ((Option.some.inj H).trans HTr_.out) (by simp))|(intro hz; rw [if_pos hz] at H; exact absurd (Option.some.inj H) (by have := HTr_.out; omega))|(exact of_decide_eq_false (by assumption))|(omega)); (case side1 => repeat (first|exact (Kd.R_reads' HO_12.out).2.2|(with_reducible refine Kd.C_alloc ?_ _)|(with_reducible refine Kd.C_drewN ?_ _)|(with_reducible refine Kd.C_drew ?_))); (case side2 => rw [show t231.length = t207.length from (Kd.R_reads' HO_12.out).1.symm]; exact (Kd.R_reads' HO_12.out).2.1); rintro e w145 ⟨rfl, hb⟩; refine ⟨_, rfl, ?_⟩; have n0_ := Aside0.mk (zM (by (with_reducible repeat (first|apply zE|apply zD|apply zF)); exact HO_8.out) hb); have n1_ := Aside0.mk (zM (by (with_reducible repeat (first|apply zE|apply zD|apply zF)); exact HO_12.out) hb); have n2_ := Aside0.mk (zM (by (with_reducible repeat (first|apply zE|apply zD|apply zF)); exact HO_200000.out) hb); have n3_ := Aside0.mk (zM (by (with_reducible repeat (first|apply zE|apply zD|apply zF)); exact HO_204000.out) hb); have n4_ := Aside0.mk (zM (by (with_reducible repeat (first|apply zE|apply zD|apply zF)); exact HO235.out) hb); have n5_ := Aside0.mk (zM (by (with_reducible repeat (first|apply zE|apply zD|apply zF)); exact HO238.out) hb); have n6_ := Aside0.mk (zM (by (with_reducible repeat (first|apply zE|apply zD|apply zF)); exact HO241.out) hb); have n7_ := Aside0.mk (zM (by (with_reducible repeat (first|apply zE|apply zD|apply zF)); exact HO244.out) hb); have n8_ := Aside0.mk (zK (g := gb179) (o := .cells #[.slice A0_0 l0_0.length c0_0] 24 (0, 0)) (by first|exact BK179.out|((with_reducible repeat (first|refine zA ?_ _|refine zC ?_|refine zB ?_ _)); exact BK179.out)) hb); have n9_ := Aside0.mk (zK (g := gb180) (o := .cells #[.slice A1_0 l1_0.length c1_0] 24 (0, 0)) (by first|exact BK180.out|((with_reducible repeat (first|refine zA ?_ _|refine zC ?_|refine zB ?_ _)); exact BK180.out)) hb); have n10_ := Aside0.mk (zK (g := gb199) (o := .cells #[.slice Ao70 t224.length co70] 29 (0, 0)) (by first|exact BK199.out|((with_reducible repeat (first|refine zA ?_ _|refine zC ?_|refine zB ?_ _)); exact BK199.out)) hb); have n11_ := Aside0.mk (zK (g := gb203) (o := .cells #[.slice Ao77 t226.length co77] 29 (0, 0)) (by first|exact BK203.out|((with_reducible repeat (first|refine zA ?_ _|refine zC ?_|refine zB ?_ _)); exact BK203.out)) hb); have n12_ := Aside0.mk (zN (by repeat (first|(with_reducible first|exact HB.out|apply zI|apply zG|apply zH|refine zJ ?_ GE179.out|refine zJ ?_ GE180.out|refine zJ ?_ GE199.out|refine zJ ?_ GE203.out)|exact HB.out)) hb); clear HO_8; clear HO_12; clear HO_200000; clear HO_204000; clear HO235; clear HO238; clear HO241; clear HO244; clear BK179; clear BK180; clear BK199; clear BK203; clear HB; have HO_8 := n0_; have HO_12 := n1_; have HO_200000 := n2_; have HO_204000 := n3_; have HO235 := n4_; have HO238 := n5_; have HO241 := n6_; have HO244 := n7_; have BK179 := n8_; have BK180 := n9_; have BK199 := n10_; have BK203 := n11_; have HB := n12_; clear n0_ n1_ n2_ n3_ n4_ n5_ n6_ n7_ n8_ n9_ n10_ n11_ n12_; (try clear hb); (try clear hb2); (try clear hk); (try clear hi)))
                                go_ret
                                exact ⟨by first|rfl|(simp [errW_none, errW_some] <;> rfl)|(simp [*, errW_none, errW_some] <;> rfl), by repeat (first|(with_reducible first|exact HB.out|apply zI|apply zG|apply zH|refine zJ ?_ GE179.out|refine zJ ?_ GE180.out|refine zJ ?_ GE199.out|refine zJ ?_ GE203.out)|exact HB.out)⟩
                              · rw [if_neg c133] at H
                                have c133b0 : (t246 == t230) = false := beq_eq_false_iff_ne.mpr c133
                                have c133b1 : (t246 != t230) = true := bne_iff_ne.mpr c133
                                exact absurd ((Option.some.inj H).trans HTr_.out) (by simp)
                          · replace c118 := Bool.eq_false_iff.mpr c118
                            subst c118
                            have H1 : (some false) = some r := by rw [if_neg (show ¬ (false = true) by decide)] at H; exact H
                            clear H
                            have H := H1
                            clear H1
                            exact absurd ((Option.some.inj H).trans HTr_.out) (by simp)
                        · rw [if_neg c112] at H
                          have c112b0 : (t232 == t230) = false := beq_eq_false_iff_ne.mpr c112
                          have c112b1 : (t232 != t230) = true := bne_iff_ne.mpr c112
                          exact absurd ((Option.some.inj H).trans HTr_.out) (by simp)
              · replace c47 := Bool.eq_false_iff.mpr c47
                subst c47
                have H1 : (some false) = some r := by rw [if_neg (show ¬ (false = true) by decide)] at H; exact H
                clear H
                have H := H1
                clear H1
                exact absurd ((Option.some.inj H).trans HTr_.out) (by simp)
            · replace c44 := Bool.eq_false_iff.mpr c44
              subst c44
              have H1 : (some false) = some r := by rw [if_neg (show ¬ (false = true) by decide)] at H; exact H
              clear H
              have H := H1
              clear H1
              exact absurd ((Option.some.inj H).trans HTr_.out) (by simp)
          · replace c41 := Bool.eq_false_iff.mpr c41
            subst c41
            have H1 : (some false) = some r := by rw [if_neg (show ¬ (false = true) by decide)] at H; exact H
            clear H
            have H := H1
            clear H1
            exact absurd ((Option.some.inj H).trans HTr_.out) (by simp)
        · replace c38 := Bool.eq_false_iff.mpr c38
          subst c38
          have H1 : (some false) = some r := by rw [if_neg (show ¬ (false = true) by decide)] at H; exact H
          clear H
          have H := H1
          clear H1
          exact absurd ((Option.some.inj H).trans HTr_.out) (by simp)
end Go.Proofs.Ytphicebbbkjdhaa.GFnExactMovedKeys
