/- Walks of the functions that the law reaches: by programs of this session, over a tool's print. -/
import Derived.Test.YtjiekmbonmbhlaaGFnExactLayx0
import Derived.Test.YtjiekmbonmbhlaaGFnExactLayx1
import Derived.Test.YtjiekmbonmbhlaaGFnExactLayx3
import Derived.Test.YtjiekmbonmbhlaaGFnExactLayx5
import Derived.Test.YtjiekmbonmbhlaaGFnExactLayx6
import Derived.Test.YtjiekmbonmbhlaaGFnExactLayx8
namespace Go.Proofs.Ytjiekmbonmbhlaa.GFnExactLay
open Go.RowKit Go.Proofs.YtjiekmbonmbhlaaW.PrintWords Go.Proofs.YtjiekmbonmbhlaaW.PrintLast Go.Proofs.YtjiekmbonmbhlaaW.PrintMore
attribute [local go_sem] max2_int min2_int max_two min_two max_three min_three max_four min_four   -- for this text's walks alone
set_option linter.unusedVariables false
set_option linter.unusedSimpArgs false

/-! ### laws_FnExactLay: function 10 -/
mutual
def laws_FnExactLay.j0 : Nat → ByteArray → ByteArray → Int → Bool → Int → Bool → Bool → List (S126) → Int → List (S81) → Int → List (S81) → Int → List (S81) → Int → Option (Bool)
  | 0, _, _, _, _, _, _, _, _, _, _, _, _, _, _, _ => none
  | k + 1, x1, x2, x9, x10, x13, x14, x64, x217000, x217001, x229000, x229001, x234000, x234001, x241000, x241001 => if x64 = true then (some false) else ((laws_toArena.f k x217000 x217001).bind fun bt242 => ((laws_eqArena.f k x234000 x234001 bt242.1 bt242.2).bind fun t246 => (if t246 = true then ((laws_markArena.f k x234000 x234001 1).bind fun bt247 => (if bt247.1 < 0 then (laws_FnExactLay.j1 k x1 x2 x9 x10 true x217000 x217001 x229000 x229001 x241000 x241001) else ((laws_eqArena.f k x241000 x241001 x229000 x229001).bind fun t249 => (if t249 = true then (if x13 = x9 then (laws_FnExactLay.j1 k x1 x2 x9 x10 (x14 != x10) x217000 x217001 x229000 x229001 x241000 x241001) else (laws_FnExactLay.j1 k x1 x2 x9 x10 true x217000 x217001 x229000 x229001 x241000 x241001)) else (laws_FnExactLay.j1 k x1 x2 x9 x10 true x217000 x217001 x229000 x229001 x241000 x241001))))) else (some false))))
def laws_FnExactLay.j1 : Nat → ByteArray → ByteArray → Int → Bool → Bool → List (S126) → Int → List (S81) → Int → List (S81) → Int → Option (Bool)
  | 0, _, _, _, _, _, _, _, _, _, _, _ => none
  | k + 1, x1, x2, x9, x10, x90, x217000, x217001, x229000, x229001, x241000, x241001 => if x90 = true then (some false) else ((laws_markArena.f k x241000 x241001 1).bind fun bt250 => ((laws_heldArena.f k bt250.2 x241001 1).bind fun t252 => (if t252 < 0 then (some false) else (if t252 = bt250.1 then ((laws_toArena.f k x217000 x217001).bind fun bt253 => ((impl_Lay.f k bt253.1 bt253.2 x1 x2).bind fun bt257 => ((laws_eqArena.f k bt257.1 bt257.2.1 x229000 x229001).bind fun t264 => (if t264 = true then (if bt257.2.2.1 = x9 then (laws_FnExactLay.j2 k bt250.1 (bt257.2.2.2 != x10) bt250.2 x241001) else (laws_FnExactLay.j2 k bt250.1 true bt250.2 x241001)) else (laws_FnExactLay.j2 k bt250.1 true bt250.2 x241001))))) else (some false)))))
def laws_FnExactLay.j2 : Nat → Int → Bool → List (S81) → Int → Option (Bool)
  | 0, _, _, _, _ => none
  | k + 1, x16, x124, x241000, x241001 => if x124 = true then (some false) else ((laws_heldArena.f k x241000 x241001 1).bind fun t265 => (if t265 < 0 then (some false) else (if t265 = x16 then (some true) else (some false))))
end
def laws_FnExactLay.f (k : Nat) (l0_0 : List (S126)) (a0_1 : Int) (a1 : ByteArray) (a2 : ByteArray) : Option (Bool) := if (a1.size : Int) > 1048576 then (some true) else (if (a2.size : Int) > 1048576 then (some true) else ((laws_szArena.f k l0_0 a0_1 1048576).bind fun t217 => (if t217 < 0 then (some true) else ((laws_toArena.f k l0_0 a0_1).bind fun bt218 => ((spec_Lay.f k bt218.1 bt218.2 a1 a2).bind fun bt222 => ((laws_toArena.f k l0_0 a0_1).bind fun bt229 => ((impl_Lay.f k bt229.1 bt229.2 a1 a2).bind fun bt234 => ((laws_eqArena.f k bt234.1 bt234.2.1 bt222.1 bt222.2.1).bind fun t241 => (if t241 = true then (if bt234.2.2.1 = bt222.2.2.1 then (laws_FnExactLay.j0 k a1 a2 bt222.2.2.1 bt222.2.2.2 bt234.2.2.1 bt234.2.2.2 (bt234.2.2.2 != bt222.2.2.2) l0_0 a0_1 bt222.1 bt222.2.1 bt229.1 bt229.2 bt234.1 bt234.2.1) else (laws_FnExactLay.j0 k a1 a2 bt222.2.2.1 bt222.2.2.2 bt234.2.2.1 bt234.2.2.2 true l0_0 a0_1 bt222.1 bt222.2.1 bt229.1 bt229.2 bt234.1 bt234.2.1)) else (laws_FnExactLay.j0 k a1 a2 bt222.2.2.1 bt222.2.2.2 bt234.2.2.1 bt234.2.2.2 true l0_0 a0_1 bt222.1 bt222.2.1 bt229.1 bt229.2 bt234.1 bt234.2.1))))))))))
theorem laws_FnExactLay.mono_l : ∀ k, (∀ y0 y1 y2 y3 y4 y5 y6 y7 y8 y9 y10 y11 y12 y13 y14, LeO (laws_FnExactLay.j0 k y0 y1 y2 y3 y4 y5 y6 y7 y8 y9 y10 y11 y12 y13 y14) (laws_FnExactLay.j0 (k + 1) y0 y1 y2 y3 y4 y5 y6 y7 y8 y9 y10 y11 y12 y13 y14)) ∧ (∀ y0 y1 y2 y3 y4 y5 y6 y7 y8 y9 y10, LeO (laws_FnExactLay.j1 k y0 y1 y2 y3 y4 y5 y6 y7 y8 y9 y10) (laws_FnExactLay.j1 (k + 1) y0 y1 y2 y3 y4 y5 y6 y7 y8 y9 y10)) ∧ (∀ y0 y1 y2 y3, LeO (laws_FnExactLay.j2 k y0 y1 y2 y3) (laws_FnExactLay.j2 (k + 1) y0 y1 y2 y3))
  | 0 => ⟨fun _ _ _ _ _ _ _ _ _ _ _ _ _ _ _ r h => by simp [laws_FnExactLay.j0] at h, fun _ _ _ _ _ _ _ _ _ _ _ r h => by simp [laws_FnExactLay.j1] at h, fun _ _ _ _ r h => by simp [laws_FnExactLay.j2] at h⟩
  | k + 1 => by
    obtain ⟨ih0, ih1, ih2⟩ := laws_FnExactLay.mono_l k
    refine ⟨?_, ?_, ?_⟩
    · intro y0 y1 y2 y3 y4 y5 y6 y7 y8 y9 y10 y11 y12 y13 y14
      unfold laws_FnExactLay.j0
      repeat' first
      | (with_reducible exact ih0 _ _ _ _ _ _ _ _ _ _ _ _ _ _ _)
      | (with_reducible exact ih1 _ _ _ _ _ _ _ _ _ _ _)
      | (with_reducible exact ih2 _ _ _ _)
      | (with_reducible exact impl_Lay.mono _ _ _ _ _)
      | (with_reducible exact laws_eqArena.mono _ _ _ _ _)
      | (with_reducible exact laws_heldArena.mono _ _ _ _)
      | (with_reducible exact laws_markArena.mono _ _ _ _)
      | (with_reducible exact laws_szArena.mono _ _ _ _)
      | (with_reducible exact laws_toArena.mono _ _ _)
      | (with_reducible exact spec_Lay.mono _ _ _ _ _)
      | (with_reducible exact LeO.refl _)
      | (with_reducible exact LeO.none _)
      | (with_reducible refine LeO.ite ?_ ?_)
      | (with_reducible refine LeO.bind ?_ (fun _ => ?_))
      | exact ih0 _ _ _ _ _ _ _ _ _ _ _ _ _ _ _
      | exact ih1 _ _ _ _ _ _ _ _ _ _ _
      | exact ih2 _ _ _ _
      | exact impl_Lay.mono _ _ _ _ _
      | exact laws_eqArena.mono _ _ _ _ _
      | exact laws_heldArena.mono _ _ _ _
      | exact laws_markArena.mono _ _ _ _
      | exact laws_szArena.mono _ _ _ _
      | exact laws_toArena.mono _ _ _
      | exact spec_Lay.mono _ _ _ _ _
      | exact LeO.none _
      | refine LeO.ite ?_ ?_
      | refine LeO.bind ?_ (fun _ => ?_)
    · intro y0 y1 y2 y3 y4 y5 y6 y7 y8 y9 y10
      unfold laws_FnExactLay.j1
      repeat' first
      | (with_reducible exact ih0 _ _ _ _ _ _ _ _ _ _ _ _ _ _ _)
      | (with_reducible exact ih1 _ _ _ _ _ _ _ _ _ _ _)
      | (with_reducible exact ih2 _ _ _ _)
      | (with_reducible exact impl_Lay.mono _ _ _ _ _)
      | (with_reducible exact laws_eqArena.mono _ _ _ _ _)
      | (with_reducible exact laws_heldArena.mono _ _ _ _)
      | (with_reducible exact laws_markArena.mono _ _ _ _)
      | (with_reducible exact laws_szArena.mono _ _ _ _)
      | (with_reducible exact laws_toArena.mono _ _ _)
      | (with_reducible exact spec_Lay.mono _ _ _ _ _)
      | (with_reducible exact LeO.refl _)
      | (with_reducible exact LeO.none _)
      | (with_reducible refine LeO.ite ?_ ?_)
      | (with_reducible refine LeO.bind ?_ (fun _ => ?_))
      | exact ih0 _ _ _ _ _ _ _ _ _ _ _ _ _ _ _
      | exact ih1 _ _ _ _ _ _ _ _ _ _ _
      | exact ih2 _ _ _ _
      | exact impl_Lay.mono _ _ _ _ _
      | exact laws_eqArena.mono _ _ _ _ _
      | exact laws_heldArena.mono _ _ _ _
      | exact laws_markArena.mono _ _ _ _
      | exact laws_szArena.mono _ _ _ _
      | exact laws_toArena.mono _ _ _
      | exact spec_Lay.mono _ _ _ _ _
      | exact LeO.none _
      | refine LeO.ite ?_ ?_
      | refine LeO.bind ?_ (fun _ => ?_)
    · intro y0 y1 y2 y3
      unfold laws_FnExactLay.j2
      repeat' first
      | (with_reducible exact ih0 _ _ _ _ _ _ _ _ _ _ _ _ _ _ _)
      | (with_reducible exact ih1 _ _ _ _ _ _ _ _ _ _ _)
      | (with_reducible exact ih2 _ _ _ _)
      | (with_reducible exact impl_Lay.mono _ _ _ _ _)
      | (with_reducible exact laws_eqArena.mono _ _ _ _ _)
      | (with_reducible exact laws_heldArena.mono _ _ _ _)
      | (with_reducible exact laws_markArena.mono _ _ _ _)
      | (with_reducible exact laws_szArena.mono _ _ _ _)
      | (with_reducible exact laws_toArena.mono _ _ _)
      | (with_reducible exact spec_Lay.mono _ _ _ _ _)
      | (with_reducible exact LeO.refl _)
      | (with_reducible exact LeO.none _)
      | (with_reducible refine LeO.ite ?_ ?_)
      | (with_reducible refine LeO.bind ?_ (fun _ => ?_))
      | exact ih0 _ _ _ _ _ _ _ _ _ _ _ _ _ _ _
      | exact ih1 _ _ _ _ _ _ _ _ _ _ _
      | exact ih2 _ _ _ _
      | exact impl_Lay.mono _ _ _ _ _
      | exact laws_eqArena.mono _ _ _ _ _
      | exact laws_heldArena.mono _ _ _ _
      | exact laws_markArena.mono _ _ _ _
      | exact laws_szArena.mono _ _ _ _
      | exact laws_toArena.mono _ _ _
      | exact spec_Lay.mono _ _ _ _ _
      | exact LeO.none _
      | refine LeO.ite ?_ ?_
      | refine LeO.bind ?_ (fun _ => ?_)
theorem laws_FnExactLay.mono : ∀ a0 a1 a2 a3 k, LeO (laws_FnExactLay.f k a0 a1 a2 a3) (laws_FnExactLay.f (k + 1) a0 a1 a2 a3) := by
  intro a0 a1 a2 a3 k
  obtain ⟨ih0, ih1, ih2⟩ := laws_FnExactLay.mono_l k
  unfold laws_FnExactLay.f
  repeat' first
      | (with_reducible exact ih0 _ _ _ _ _ _ _ _ _ _ _ _ _ _ _)
      | (with_reducible exact ih1 _ _ _ _ _ _ _ _ _ _ _)
      | (with_reducible exact ih2 _ _ _ _)
      | (with_reducible exact impl_Lay.mono _ _ _ _ _)
      | (with_reducible exact laws_eqArena.mono _ _ _ _ _)
      | (with_reducible exact laws_heldArena.mono _ _ _ _)
      | (with_reducible exact laws_markArena.mono _ _ _ _)
      | (with_reducible exact laws_szArena.mono _ _ _ _)
      | (with_reducible exact laws_toArena.mono _ _ _)
      | (with_reducible exact spec_Lay.mono _ _ _ _ _)
      | (with_reducible exact LeO.refl _)
      | (with_reducible exact LeO.none _)
      | (with_reducible refine LeO.ite ?_ ?_)
      | (with_reducible refine LeO.bind ?_ (fun _ => ?_))
      | exact ih0 _ _ _ _ _ _ _ _ _ _ _ _ _ _ _
      | exact ih1 _ _ _ _ _ _ _ _ _ _ _
      | exact ih2 _ _ _ _
      | exact impl_Lay.mono _ _ _ _ _
      | exact laws_eqArena.mono _ _ _ _ _
      | exact laws_heldArena.mono _ _ _ _
      | exact laws_markArena.mono _ _ _ _
      | exact laws_szArena.mono _ _ _ _
      | exact laws_toArena.mono _ _ _
      | exact spec_Lay.mono _ _ _ _ _
      | exact LeO.none _
      | refine LeO.ite ?_ ?_
      | refine LeO.bind ?_ (fun _ => ?_)
theorem laws_FnExactLay.j0_bad {r : Bool} : ∀ {k} {y0} {y1} {y2} {y3} {y4} {y5} {y7} {y8} {y9} {y10} {y11} {y12} {y13} {y14}, laws_FnExactLay.j0 k y0 y1 y2 y3 y4 y5 true y7 y8 y9 y10 y11 y12 y13 y14 = some r → r = false
  | 0, _, _, _, _, _, _, _, _, _, _, _, _, _, _, h => by simp [laws_FnExactLay.j0] at h
  | k + 1, _, _, _, _, _, _, _, _, _, _, _, _, _, _, h => by simp only [laws_FnExactLay.j0, if_true] at h; exact (Option.some.inj h).symm
theorem laws_FnExactLay.j1_bad {r : Bool} : ∀ {k} {y0} {y1} {y2} {y3} {y5} {y6} {y7} {y8} {y9} {y10}, laws_FnExactLay.j1 k y0 y1 y2 y3 true y5 y6 y7 y8 y9 y10 = some r → r = false
  | 0, _, _, _, _, _, _, _, _, _, _, h => by simp [laws_FnExactLay.j1] at h
  | k + 1, _, _, _, _, _, _, _, _, _, _, h => by simp only [laws_FnExactLay.j1, if_true] at h; exact (Option.some.inj h).symm
theorem laws_FnExactLay.j2_bad {r : Bool} : ∀ {k} {y0} {y2} {y3}, laws_FnExactLay.j2 k y0 true y2 y3 = some r → r = false
  | 0, _, _, _, h => by simp [laws_FnExactLay.j2] at h
  | k + 1, _, _, _, h => by simp only [laws_FnExactLay.j2, if_true] at h; exact (Option.some.inj h).symm
set_option maxHeartbeats 8000000 in
set_option maxRecDepth 100000 in
theorem laws_FnExactLay.calls (k : Nat) (A0_0 : Option Addr) (c0_0 : Nat) (l0_0 : List (S126)) (a0_1 : Int) (a1 : ByteArray) (a2 : ByteArray) (r : Bool) (w : World) (hr0_0 : Kd.C k126 w A0_0 l0_0.length l0_0) (hc0_0 : l0_0.length ≤ c0_0) (h : laws_FnExactLay.f k l0_0 a0_1 a1 a2 = some r) (HT0_ : r = true) :
    Calls Try.prog 10 #[.agg #[.slice A0_0 l0_0.length c0_0, .int .i64 a0_1], .string a1, .string a2] w fun e w' => e = .returned (.bool r) ∧ Below w.heap.size w w' := by
  have HTr_ := Aside0.mk HT0_
  clear HT0_
  have hu61 := Try.underlying61
  have hu65 := Try.underlying65
  have HR0_0 := Aside0.mk hr0_0
  have HC0_0 := Aside0.mk hc0_0
  clear hr0_0 hc0_0
  have HB := Aside0.mk (Below.refl w.heap.size w)
  have H : (if (a1.size : Int) > 1048576 then (some true) else (if (a2.size : Int) > 1048576 then (some true) else ((laws_szArena.f k l0_0 a0_1 1048576).bind fun t217 => (if t217 < 0 then (some true) else ((laws_toArena.f k l0_0 a0_1).bind fun bt218 => ((spec_Lay.f k bt218.1 bt218.2 a1 a2).bind fun bt222 => ((laws_toArena.f k l0_0 a0_1).bind fun bt229 => ((impl_Lay.f k bt229.1 bt229.2 a1 a2).bind fun bt234 => ((laws_eqArena.f k bt234.1 bt234.2.1 bt222.1 bt222.2.1).bind fun t241 => (if t241 = true then (if bt234.2.2.1 = bt222.2.2.1 then (laws_FnExactLay.j0 k a1 a2 bt222.2.2.1 bt222.2.2.2 bt234.2.2.1 bt234.2.2.2 (bt234.2.2.2 != bt222.2.2.2) l0_0 a0_1 bt222.1 bt222.2.1 bt229.1 bt229.2 bt234.1 bt234.2.1) else (laws_FnExactLay.j0 k a1 a2 bt222.2.2.1 bt222.2.2.2 bt234.2.2.1 bt234.2.2.2 true l0_0 a0_1 bt222.1 bt222.2.1 bt229.1 bt229.2 bt234.1 bt234.2.1)) else (laws_FnExactLay.j0 k a1 a2 bt222.2.2.1 bt222.2.2.2 bt234.2.2.1 bt234.2.2.2 true l0_0 a0_1 bt222.1 bt222.2.1 bt229.1 bt229.2 bt234.1 bt234.2.1))))))))))) = some r := h
  clear h
  by_cases c4 : (a1.size : Int) > 1048576
  · rw [if_pos c4] at H
    have c4b0 : decide (1048576 < (a1.size : Int)) = true := decide_eq_true c4
    have c4b1 : decide (1048576 < a1.size) = true := decide_eq_true (by omega)
    clear c4
    obtain rfl := Option.some.inj H
    go_enter Try.func10, Try.ntmps10
    go_wp2_with (first | ((with_reducible refine gate_dst (N := 3) rfl ?_); refine box_event ?hg (N := 3) ?hd (cs := #[.slice A0_0 l0_0.length c0_0, .int .i64 a0_1]) (t := 61) ?hr ?_; (case hd => rfl); (case hg => rfl); (case hr => first | (go_simp; done) | (go_simp; rfl)); intro gb216 hg w5 hbox hb; have n0_ := Aside0.mk (below_step (by repeat (first | (with_reducible first | exact HB.out | apply below_alloc | apply pw_below_drewN | apply below_drew1) | exact HB.out)) hb); have n1_ := Aside0.mk (hbox); have n2_ := Aside0.mk ((by rw [hg]; exact (below_size (by repeat (first | (with_reducible first | exact HB.out | apply below_alloc | apply pw_below_drewN | apply below_drew1) | exact HB.out))) : w.heap.size ≤ gb216)); have n3_ := Aside0.mk ((by rw [hg]; exact (below_size (by repeat (first | (with_reducible first | exact HB.out | apply below_alloc | apply pw_below_drewN | apply below_drew1) | exact HB.out))) : w.heap.size ≤ gb216)); clear HB; have HB := n0_; have BK216 := n1_; have GW216 := n2_; have GE216 := n3_; clear n0_ n1_ n2_ n3_; clear hb hbox hg))
    go_ret
    exact ⟨by first | rfl | (simp [errW_none, errW_some] <;> rfl) | (simp [*, errW_none, errW_some] <;> rfl), by repeat (first | (with_reducible first | exact HB.out | apply below_alloc | apply pw_below_drewN | apply below_drew1 | refine below_set ?_ GE216.out) | exact HB.out)⟩
  · rw [if_neg c4] at H
    have c4b0 : decide (1048576 < (a1.size : Int)) = false := decide_eq_false c4
    have c4b1 : decide (1048576 < a1.size) = false := decide_eq_false (by omega)
    clear c4
    by_cases c6 : (a2.size : Int) > 1048576
    · rw [if_pos c6] at H
      have c6b0 : decide (1048576 < (a2.size : Int)) = true := decide_eq_true c6
      have c6b1 : decide (1048576 < a2.size) = true := decide_eq_true (by omega)
      clear c6
      obtain rfl := Option.some.inj H
      go_enter Try.func10, Try.ntmps10
      go_wp2_with (first | ((with_reducible refine gate_dst (N := 3) rfl ?_); refine box_event ?hg (N := 3) ?hd (cs := #[.slice A0_0 l0_0.length c0_0, .int .i64 a0_1]) (t := 61) ?hr ?_; (case hd => rfl); (case hg => rfl); (case hr => first | (go_simp; done) | (go_simp; rfl)); intro gb216 hg w7 hbox hb; have n0_ := Aside0.mk (below_step (by repeat (first | (with_reducible first | exact HB.out | apply below_alloc | apply pw_below_drewN | apply below_drew1) | exact HB.out)) hb); have n1_ := Aside0.mk (hbox); have n2_ := Aside0.mk ((by rw [hg]; exact (below_size (by repeat (first | (with_reducible first | exact HB.out | apply below_alloc | apply pw_below_drewN | apply below_drew1) | exact HB.out))) : w.heap.size ≤ gb216)); have n3_ := Aside0.mk ((by rw [hg]; exact (below_size (by repeat (first | (with_reducible first | exact HB.out | apply below_alloc | apply pw_below_drewN | apply below_drew1) | exact HB.out))) : w.heap.size ≤ gb216)); clear HB; have HB := n0_; have BK216 := n1_; have GW216 := n2_; have GE216 := n3_; clear n0_ n1_ n2_ n3_; clear hb hbox hg))
      go_ret
      exact ⟨by first | rfl | (simp [errW_none, errW_some] <;> rfl) | (simp [*, errW_none, errW_some] <;> rfl), by repeat (first | (with_reducible first | exact HB.out | apply below_alloc | apply pw_below_drewN | apply below_drew1 | refine below_set ?_ GE216.out) | exact HB.out)⟩
    · rw [if_neg c6] at H
      have c6b0 : decide (1048576 < (a2.size : Int)) = false := decide_eq_false c6
      have c6b1 : decide (1048576 < a2.size) = false := decide_eq_false (by omega)
      clear c6
      replace H := Option.bind_eq_some_iff.mp H
      obtain ⟨t217, A80, H⟩ := H
      replace H : (if t217 < 0 then (some true) else ((laws_toArena.f k l0_0 a0_1).bind fun bt218 => ((spec_Lay.f k bt218.1 bt218.2 a1 a2).bind fun bt222 => ((laws_toArena.f k l0_0 a0_1).bind fun bt229 => ((impl_Lay.f k bt229.1 bt229.2 a1 a2).bind fun bt234 => ((laws_eqArena.f k bt234.1 bt234.2.1 bt222.1 bt222.2.1).bind fun t241 => (if t241 = true then (if bt234.2.2.1 = bt222.2.2.1 then (laws_FnExactLay.j0 k a1 a2 bt222.2.2.1 bt222.2.2.2 bt234.2.2.1 bt234.2.2.2 (bt234.2.2.2 != bt222.2.2.2) l0_0 a0_1 bt222.1 bt222.2.1 bt229.1 bt229.2 bt234.1 bt234.2.1) else (laws_FnExactLay.j0 k a1 a2 bt222.2.2.1 bt222.2.2.2 bt234.2.2.1 bt234.2.2.2 true l0_0 a0_1 bt222.1 bt222.2.1 bt229.1 bt229.2 bt234.1 bt234.2.1)) else (laws_FnExactLay.j0 k a1 a2 bt222.2.2.1 bt222.2.2.2 bt234.2.2.1 bt234.2.2.2 true l0_0 a0_1 bt222.1 bt222.2.1 bt229.1 bt229.2 bt234.1 bt234.2.1)))))))) = some r := H
      have A8 := Aside0.mk A80
      clear A80
      by_cases c9 : t217 < 0
      · rw [if_pos c9] at H
        have c9b0 : decide (t217 < 0) = true := decide_eq_true c9
        clear c9
        obtain rfl := Option.some.inj H
        go_enter Try.func10, Try.ntmps10
        go_wp2_with (first | ((with_reducible refine gate_dst (N := 3) rfl ?_); refine box_event ?hg (N := 3) ?hd (cs := #[.slice A0_0 l0_0.length c0_0, .int .i64 a0_1]) (t := 61) ?hr ?_; (case hd => rfl); (case hg => rfl); (case hr => first | (go_simp; done) | (go_simp; rfl)); intro gb216 hg w10 hbox hb; have n0_ := Aside0.mk (below_step (by repeat (first | (with_reducible first | exact HB.out | apply below_alloc | apply pw_below_drewN | apply below_drew1) | exact HB.out)) hb); have n1_ := Aside0.mk (hbox); have n2_ := Aside0.mk ((by rw [hg]; exact (below_size (by repeat (first | (with_reducible first | exact HB.out | apply below_alloc | apply pw_below_drewN | apply below_drew1) | exact HB.out))) : w.heap.size ≤ gb216)); have n3_ := Aside0.mk ((by rw [hg]; exact (below_size (by repeat (first | (with_reducible first | exact HB.out | apply below_alloc | apply pw_below_drewN | apply below_drew1) | exact HB.out))) : w.heap.size ≤ gb216)); clear HB; have HB := n0_; have BK216 := n1_; have GW216 := n2_; have GE216 := n3_; clear n0_ n1_ n2_ n3_; clear hb hbox hg; have hcz11_0 : w10.cell? ⟨gb216, 0, none⟩ = some (.slice A0_0 l0_0.length c0_0) := (blk_cell BK216.out 0).trans rfl; have hcz11_1 : w10.cell? ⟨gb216, 1, none⟩ = some (.int .i64 a0_1) := (blk_cell BK216.out 1).trans rfl; have hfz11_0 := blk_frozen BK216.out 0; have hfz11_1 := blk_frozen BK216.out 1) | ((with_reducible refine gate_callee (f := 43) rfl ?_); refine goesL_ (some 29) rfl rfl Try.func43 (by kernel_rfl) rfl #[.agg #[.slice A0_0 l0_0.length c0_0, .int .i64 a0_1], .int .i64 1048576] rfl (by (try simp only [List.map_toArray, List.map_cons, List.map_nil]); first | done | rfl | (simp only [List.length_drop, List.length_take]; rfl)) ?_; (with_reducible refine (laws_szArena.calls k _ _ l0_0 a0_1 1048576 t217 _ ?side1 ?side2 A8.out).mono ?_); (case side1 => repeat (first | exact (Kd.C_below HR0_0.out HB.out) | (with_reducible refine Kd.C_alloc ?_ _) | (with_reducible refine Kd.C_drewN ?_ _) | (with_reducible refine Kd.C_drew ?_))); (case side2 => exact HC0_0.out); rintro e w12 ⟨rfl, hb⟩; refine ⟨_, rfl, ?_⟩; have n0_ := Aside0.mk (blk_below (g := gb216) (o := .cells #[.slice A0_0 l0_0.length c0_0, .int .i64 a0_1] 61 (0, 0)) (by (with_reducible repeat (first | refine blk_drewN ?_ _ | refine blk_drew ?_ | refine blk_alloc ?_ _)); exact BK216.out) hb); have n1_ := Aside0.mk (below_step (by repeat (first | (with_reducible first | exact HB.out | apply below_alloc | apply pw_below_drewN | apply below_drew1 | refine below_set ?_ GE216.out) | exact HB.out)) hb); clear BK216; clear HB; have BK216 := n0_; have HB := n1_; clear n0_ n1_; (try clear hb); (try clear hb2); (try clear hk); (try clear hi)))
        go_ret
        exact ⟨by first | rfl | (simp [errW_none, errW_some] <;> rfl) | (simp [*, errW_none, errW_some] <;> rfl), by repeat (first | (with_reducible first | exact HB.out | apply below_alloc | apply pw_below_drewN | apply below_drew1 | refine below_set ?_ GE216.out) | exact HB.out)⟩
      · rw [if_neg c9] at H
        have c9b0 : decide (t217 < 0) = false := decide_eq_false c9
        clear c9
        replace H := Option.bind_eq_some_iff.mp H
        obtain ⟨⟨t218, t221⟩, A130, H⟩ := H
        replace H : ((spec_Lay.f k t218 t221 a1 a2).bind fun bt222 => ((laws_toArena.f k l0_0 a0_1).bind fun bt229 => ((impl_Lay.f k bt229.1 bt229.2 a1 a2).bind fun bt234 => ((laws_eqArena.f k bt234.1 bt234.2.1 bt222.1 bt222.2.1).bind fun t241 => (if t241 = true then (if bt234.2.2.1 = bt222.2.2.1 then (laws_FnExactLay.j0 k a1 a2 bt222.2.2.1 bt222.2.2.2 bt234.2.2.1 bt234.2.2.2 (bt234.2.2.2 != bt222.2.2.2) l0_0 a0_1 bt222.1 bt222.2.1 bt229.1 bt229.2 bt234.1 bt234.2.1) else (laws_FnExactLay.j0 k a1 a2 bt222.2.2.1 bt222.2.2.2 bt234.2.2.1 bt234.2.2.2 true l0_0 a0_1 bt222.1 bt222.2.1 bt229.1 bt229.2 bt234.1 bt234.2.1)) else (laws_FnExactLay.j0 k a1 a2 bt222.2.2.1 bt222.2.2.2 bt234.2.2.1 bt234.2.2.2 true l0_0 a0_1 bt222.1 bt222.2.1 bt229.1 bt229.2 bt234.1 bt234.2.1)))))) = some r := H
        have A13 := Aside0.mk A130
        clear A130
        replace H := Option.bind_eq_some_iff.mp H
        obtain ⟨⟨t222, t225, t226, t227⟩, A140, H⟩ := H
        replace H : ((laws_toArena.f k l0_0 a0_1).bind fun bt229 => ((impl_Lay.f k bt229.1 bt229.2 a1 a2).bind fun bt234 => ((laws_eqArena.f k bt234.1 bt234.2.1 t222 t225).bind fun t241 => (if t241 = true then (if bt234.2.2.1 = t226 then (laws_FnExactLay.j0 k a1 a2 t226 t227 bt234.2.2.1 bt234.2.2.2 (bt234.2.2.2 != t227) l0_0 a0_1 t222 t225 bt229.1 bt229.2 bt234.1 bt234.2.1) else (laws_FnExactLay.j0 k a1 a2 t226 t227 bt234.2.2.1 bt234.2.2.2 true l0_0 a0_1 t222 t225 bt229.1 bt229.2 bt234.1 bt234.2.1)) else (laws_FnExactLay.j0 k a1 a2 t226 t227 bt234.2.2.1 bt234.2.2.2 true l0_0 a0_1 t222 t225 bt229.1 bt229.2 bt234.1 bt234.2.1))))) = some r := H
        have A14 := Aside0.mk A140
        clear A140
        replace H := Option.bind_eq_some_iff.mp H
        obtain ⟨⟨t229, t232⟩, A150, H⟩ := H
        replace H : ((impl_Lay.f k t229 t232 a1 a2).bind fun bt234 => ((laws_eqArena.f k bt234.1 bt234.2.1 t222 t225).bind fun t241 => (if t241 = true then (if bt234.2.2.1 = t226 then (laws_FnExactLay.j0 k a1 a2 t226 t227 bt234.2.2.1 bt234.2.2.2 (bt234.2.2.2 != t227) l0_0 a0_1 t222 t225 t229 t232 bt234.1 bt234.2.1) else (laws_FnExactLay.j0 k a1 a2 t226 t227 bt234.2.2.1 bt234.2.2.2 true l0_0 a0_1 t222 t225 t229 t232 bt234.1 bt234.2.1)) else (laws_FnExactLay.j0 k a1 a2 t226 t227 bt234.2.2.1 bt234.2.2.2 true l0_0 a0_1 t222 t225 t229 t232 bt234.1 bt234.2.1)))) = some r := H
        have A15 := Aside0.mk A150
        clear A150
        replace H := Option.bind_eq_some_iff.mp H
        obtain ⟨⟨t234, t237, t238, t239⟩, A160, H⟩ := H
        replace H : ((laws_eqArena.f k t234 t237 t222 t225).bind fun t241 => (if t241 = true then (if t238 = t226 then (laws_FnExactLay.j0 k a1 a2 t226 t227 t238 t239 (t239 != t227) l0_0 a0_1 t222 t225 t229 t232 t234 t237) else (laws_FnExactLay.j0 k a1 a2 t226 t227 t238 t239 true l0_0 a0_1 t222 t225 t229 t232 t234 t237)) else (laws_FnExactLay.j0 k a1 a2 t226 t227 t238 t239 true l0_0 a0_1 t222 t225 t229 t232 t234 t237))) = some r := H
        have A16 := Aside0.mk A160
        clear A160
        have HC17 := Aside0.mk H
        clear H
        go_enter Try.func10, Try.ntmps10
        go_upto_region 12 with (first | ((with_reducible refine gate_dst (N := 3) rfl ?_); refine box_event ?hg (N := 3) ?hd (cs := #[.slice A0_0 l0_0.length c0_0, .int .i64 a0_1]) (t := 61) ?hr ?_; (case hd => rfl); (case hg => rfl); (case hr => first | (go_simp; done) | (go_simp; rfl)); intro gb216 hg w18 hbox hb; have n0_ := Aside0.mk (below_step (by repeat (first | (with_reducible first | exact HB.out | apply below_alloc | apply pw_below_drewN | apply below_drew1) | exact HB.out)) hb); have n1_ := Aside0.mk (hbox); have n2_ := Aside0.mk ((by rw [hg]; exact (below_size (by repeat (first | (with_reducible first | exact HB.out | apply below_alloc | apply pw_below_drewN | apply below_drew1) | exact HB.out))) : w.heap.size ≤ gb216)); have n3_ := Aside0.mk ((by rw [hg]; exact (below_size (by repeat (first | (with_reducible first | exact HB.out | apply below_alloc | apply pw_below_drewN | apply below_drew1) | exact HB.out))) : w.heap.size ≤ gb216)); clear HB; have HB := n0_; have BK216 := n1_; have GW216 := n2_; have GE216 := n3_; clear n0_ n1_ n2_ n3_; clear hb hbox hg; have hcz19_0 : w18.cell? ⟨gb216, 0, none⟩ = some (.slice A0_0 l0_0.length c0_0) := (blk_cell BK216.out 0).trans rfl; have hcz19_1 : w18.cell? ⟨gb216, 1, none⟩ = some (.int .i64 a0_1) := (blk_cell BK216.out 1).trans rfl; have hfz19_0 := blk_frozen BK216.out 0; have hfz19_1 := blk_frozen BK216.out 1) | ((with_reducible refine gate_callee (f := 43) rfl ?_); refine goesL_ (some 29) rfl rfl Try.func43 (by kernel_rfl) rfl #[.agg #[.slice A0_0 l0_0.length c0_0, .int .i64 a0_1], .int .i64 1048576] rfl (by (try simp only [List.map_toArray, List.map_cons, List.map_nil]); first | done | rfl | (simp only [List.length_drop, List.length_take]; rfl)) ?_; (with_reducible refine (laws_szArena.calls k _ _ l0_0 a0_1 1048576 t217 _ ?side1 ?side2 A8.out).mono ?_); (case side1 => repeat (first | exact (Kd.C_below HR0_0.out HB.out) | (with_reducible refine Kd.C_alloc ?_ _) | (with_reducible refine Kd.C_drewN ?_ _) | (with_reducible refine Kd.C_drew ?_))); (case side2 => exact HC0_0.out); rintro e w20 ⟨rfl, hb⟩; refine ⟨_, rfl, ?_⟩; have n0_ := Aside0.mk (blk_below (g := gb216) (o := .cells #[.slice A0_0 l0_0.length c0_0, .int .i64 a0_1] 61 (0, 0)) (by (with_reducible repeat (first | refine blk_drewN ?_ _ | refine blk_drew ?_ | refine blk_alloc ?_ _)); exact BK216.out) hb); have n1_ := Aside0.mk (below_step (by repeat (first | (with_reducible first | exact HB.out | apply below_alloc | apply pw_below_drewN | apply below_drew1 | refine below_set ?_ GE216.out) | exact HB.out)) hb); clear BK216; clear HB; have BK216 := n0_; have HB := n1_; clear n0_ n1_; (try clear hb); (try clear hb2); (try clear hk); (try clear hi); have hcz21_0 : w20.cell? ⟨gb216, 0, none⟩ = some (.slice A0_0 l0_0.length c0_0) := (blk_cell BK216.out 0).trans rfl; have hcz21_1 : w20.cell? ⟨gb216, 1, none⟩ = some (.int .i64 a0_1) := (blk_cell BK216.out 1).trans rfl; have hfz21_0 := blk_frozen BK216.out 0; have hfz21_1 := blk_frozen BK216.out 1) | ((with_reducible refine gate_callee (f := 45) rfl ?_); refine goesL_ (some 34) rfl rfl Try.func45 (by kernel_rfl) rfl #[.agg #[.slice A0_0 l0_0.length c0_0, .int .i64 a0_1]] rfl (by (try simp only [List.map_toArray, List.map_cons, List.map_nil]); first | done | rfl | (simp only [List.length_drop, List.length_take]; rfl)) ?_; (with_reducible refine (laws_toArena.calls k _ _ l0_0 a0_1 t218 t221 _ ?side1 ?side2 A13.out).mono ?_); (case side1 => repeat (first | exact (Kd.C_below HR0_0.out HB.out) | (with_reducible refine Kd.C_alloc ?_ _) | (with_reducible refine Kd.C_drewN ?_ _) | (with_reducible refine Kd.C_drew ?_))); (case side2 => exact HC0_0.out); rintro e w22 ⟨v219, rfl, ho0, hb⟩; refine ⟨_, rfl, ?_⟩; have n0_ := Aside0.mk (Kd.R_lower ho0 (below_size (by repeat (first | (with_reducible first | exact HB.out | apply below_alloc | apply pw_below_drewN | apply below_drew1 | refine below_set ?_ GE216.out) | exact HB.out)))); have n1_ := Aside0.mk (blk_below (g := gb216) (o := .cells #[.slice A0_0 l0_0.length c0_0, .int .i64 a0_1] 61 (0, 0)) (by (with_reducible repeat (first | refine blk_drewN ?_ _ | refine blk_drew ?_ | refine blk_alloc ?_ _)); exact BK216.out) hb); have n2_ := Aside0.mk (below_step (by repeat (first | (with_reducible first | exact HB.out | apply below_alloc | apply pw_below_drewN | apply below_drew1 | refine below_set ?_ GE216.out) | exact HB.out)) hb); clear BK216; clear HB; have HO220 := n0_; have BK216 := n1_; have HB := n2_; clear n0_ n1_ n2_; (try clear hb); (try clear hb2); (try clear hk); (try clear hi); (try clear ho0); obtain ⟨Ao23, co23, eo23⟩ := Kd.R_slice HO220.out; subst eo23) | ((with_reducible refine gate_callee (f := 44) rfl ?_); refine goesL_ (some 37) rfl rfl Try.func44 (by kernel_rfl) rfl #[.agg #[.slice Ao23 t218.length co23, .int .i64 t221], .string a1, .string a2] rfl (by (try simp only [List.map_toArray, List.map_cons, List.map_nil]); first | done | rfl | (simp only [List.length_drop, List.length_take]; rfl)) ?_; (with_reducible refine (spec_Lay.calls k _ _ t218 t221 a1 a2 t222 t225 t226 t227 _ ?side1 ?side2 A14.out).mono ?_); (case side1 => repeat (first | exact (Kd.R_reads' HO220.out).2.2 | (with_reducible refine Kd.C_alloc ?_ _) | (with_reducible refine Kd.C_drewN ?_ _) | (with_reducible refine Kd.C_drew ?_))); (case side2 => exact (Kd.R_reads' HO220.out).2.1); rintro e w24 ⟨v223, rfl, ho0, hb⟩; refine ⟨_, rfl, ?_⟩; have n0_ := Aside0.mk (Kd.R_elder' (by (with_reducible repeat (first | apply Kd.R_alloc | apply Kd.R_drewN | apply Kd.R_drew)); exact HO220.out) (Kd.R_base ho0) hb); have n1_ := Aside0.mk (Kd.R_lower (Kd.R_new' ho0 (Kd.R_lt (by (with_reducible repeat (first | apply Kd.R_alloc | apply Kd.R_drewN | apply Kd.R_drew)); exact HO220.out))) (below_size (by repeat (first | (with_reducible first | exact HB.out | apply below_alloc | apply pw_below_drewN | apply below_drew1 | refine below_set ?_ GE216.out) | exact HB.out)))); have n2_ := Aside0.mk (blk_below (g := gb216) (o := .cells #[.slice A0_0 l0_0.length c0_0, .int .i64 a0_1] 61 (0, 0)) (by (with_reducible repeat (first | refine blk_drewN ?_ _ | refine blk_drew ?_ | refine blk_alloc ?_ _)); exact BK216.out) hb); have n3_ := Aside0.mk (below_step (by repeat (first | (with_reducible first | exact HB.out | apply below_alloc | apply pw_below_drewN | apply below_drew1 | refine below_set ?_ GE216.out) | exact HB.out)) hb); clear HO220; clear BK216; clear HB; have HO220 := n0_; have HO224 := n1_; have BK216 := n2_; have HB := n3_; clear n0_ n1_ n2_ n3_; (try clear hb); (try clear hb2); (try clear hk); (try clear hi); (try clear ho0)) | ((with_reducible refine gate_dst (N := 8) rfl ?_); refine box_event ?hg (N := 8) ?hd (cs := #[.slice none 0 0, .int .i64 0]) (t := 65) ?hr ?_; (case hd => rfl); (case hg => rfl); (case hr => first | (go_simp; done) | (go_simp; rfl)); intro gb228 hg w25 hbox hb; have n0_ := Aside0.mk (Kd.R_below (by (with_reducible repeat (first | apply Kd.R_alloc | apply Kd.R_drewN | apply Kd.R_drew)); exact HO220.out) hb); have n1_ := Aside0.mk (Kd.R_below (by (with_reducible repeat (first | apply Kd.R_alloc | apply Kd.R_drewN | apply Kd.R_drew)); exact HO224.out) hb); have n2_ := Aside0.mk (blk_below (g := gb216) (o := .cells #[.slice A0_0 l0_0.length c0_0, .int .i64 a0_1] 61 (0, 0)) (by (with_reducible repeat (first | refine blk_drewN ?_ _ | refine blk_drew ?_ | refine blk_alloc ?_ _)); exact BK216.out) hb); have n3_ := Aside0.mk (below_step (by repeat (first | (with_reducible first | exact HB.out | apply below_alloc | apply pw_below_drewN | apply below_drew1 | refine below_set ?_ GE216.out) | exact HB.out)) hb); have n4_ := Aside0.mk (hbox); have n5_ := Aside0.mk ((by rw [hg]; exact (below_size (by repeat (first | (with_reducible first | exact HB.out | apply below_alloc | apply pw_below_drewN | apply below_drew1 | refine below_set ?_ GE216.out) | exact HB.out))) : w.heap.size ≤ gb228)); have n6_ := Aside0.mk ((by rw [hg]; exact (below_size (by repeat (first | (with_reducible first | exact HB.out | apply below_alloc | apply pw_below_drewN | apply below_drew1 | refine below_set ?_ GE216.out) | exact HB.out))) : w.heap.size ≤ gb228)); have n7_ := Aside0.mk ((by rw [hg]; exact Nat.ne_of_lt (blk_lt (g := gb216) (o := .cells #[.slice A0_0 l0_0.length c0_0, .int .i64 a0_1] 61 (0, 0)) (by (with_reducible repeat (first | refine blk_drewN ?_ _ | refine blk_drew ?_ | refine blk_alloc ?_ _)); exact BK216.out)) : gb216 ≠ gb228)); have n8_ := Aside0.mk ((by rw [hg]; exact Nat.ne_of_gt (blk_lt (g := gb216) (o := .cells #[.slice A0_0 l0_0.length c0_0, .int .i64 a0_1] 61 (0, 0)) (by (with_reducible repeat (first | refine blk_drewN ?_ _ | refine blk_drew ?_ | refine blk_alloc ?_ _)); exact BK216.out)) : gb228 ≠ gb216)); clear HO220; clear HO224; clear BK216; clear HB; have HO220 := n0_; have HO224 := n1_; have BK216 := n2_; have HB := n3_; have BK228 := n4_; have GW228 := n5_; have GE228 := n6_; have NB216_228 := n7_; have NB228_216 := n8_; clear n0_ n1_ n2_ n3_ n4_ n5_ n6_ n7_ n8_; clear hb hbox hg; obtain ⟨Ao26, co26, eo26⟩ := Kd.R_slice HO224.out; subst eo26; have hnb27 := NB228_216.out; have hnc27 := NB216_228.out; obtain ⟨hcz28_0, hcz28_1, hfz28_0, hfz28_1⟩ := zb2 BK228.out; have hcz29_0 : w25.cell? ⟨gb216, 0, none⟩ = some (.slice A0_0 l0_0.length c0_0) := (blk_cell BK216.out 0).trans rfl; have hcz29_1 : w25.cell? ⟨gb216, 1, none⟩ = some (.int .i64 a0_1) := (blk_cell BK216.out 1).trans rfl; have hfz29_0 := blk_frozen BK216.out 0; have hfz29_1 := blk_frozen BK216.out 1) | ((with_reducible refine gate_callee (f := 45) rfl ?_); refine goesL_ (some 42) rfl rfl Try.func45 (by kernel_rfl) rfl #[.agg #[.slice A0_0 l0_0.length c0_0, .int .i64 a0_1]] rfl (by (try simp only [List.map_toArray, List.map_cons, List.map_nil]); first | done | rfl | (simp only [List.length_drop, List.length_take]; rfl)) ?_; (with_reducible refine (laws_toArena.calls k _ _ l0_0 a0_1 t229 t232 _ ?side1 ?side2 A15.out).mono ?_); (case side1 => exact Kd.C_below HR0_0.out (by repeat (first | (with_reducible first | exact HB.out | apply below_alloc | apply pw_below_drewN | apply below_drew1 | refine below_set ?_ GE216.out | refine below_set ?_ GE228.out) | exact HB.out))); (case side2 => exact HC0_0.out); rintro e w30 ⟨v230, rfl, ho0, hb⟩; refine ⟨_, rfl, ?_⟩; have n0_ := Aside0.mk (Kd.R_elder' (by (with_reducible repeat (first | apply Kd.R_alloc | apply Kd.R_drewN | apply Kd.R_drew)); exact (Kd.R_mono (Kd.R_far (p := ⟨gb228, 1, none⟩) (Kd.R_far (p := ⟨gb228, 0, none⟩) (Kd.R_types HO220.out BK228.out (by decide)) (fun _ hk => hk.2) (.slice Ao26 t222.length co26)) (fun _ hk => hk.2) (.int .i64 t225)) (fun _ h_ => h_.1))) (Kd.R_base ho0) hb); have n1_ := Aside0.mk (Kd.R_elder' (by (with_reducible repeat (first | apply Kd.R_alloc | apply Kd.R_drewN | apply Kd.R_drew)); exact (Kd.R_mono (Kd.R_far (p := ⟨gb228, 1, none⟩) (Kd.R_far (p := ⟨gb228, 0, none⟩) (Kd.R_types HO224.out BK228.out (by decide)) (fun _ hk => hk.2) (.slice Ao26 t222.length co26)) (fun _ hk => hk.2) (.int .i64 t225)) (fun _ h_ => h_.1))) (Kd.R_base ho0) hb); have n2_ := Aside0.mk (Kd.R_lower (Kd.R_new' (Kd.R_new' ho0 (Kd.R_lt (by (with_reducible repeat (first | apply Kd.R_alloc | apply Kd.R_drewN | apply Kd.R_drew)); exact (Kd.R_mono (Kd.R_far (p := ⟨gb228, 1, none⟩) (Kd.R_far (p := ⟨gb228, 0, none⟩) (Kd.R_types HO220.out BK228.out (by decide)) (fun _ hk => hk.2) (.slice Ao26 t222.length co26)) (fun _ hk => hk.2) (.int .i64 t225)) (fun _ h_ => h_.1))))) (Kd.R_lt (by (with_reducible repeat (first | apply Kd.R_alloc | apply Kd.R_drewN | apply Kd.R_drew)); exact (Kd.R_mono (Kd.R_far (p := ⟨gb228, 1, none⟩) (Kd.R_far (p := ⟨gb228, 0, none⟩) (Kd.R_types HO224.out BK228.out (by decide)) (fun _ hk => hk.2) (.slice Ao26 t222.length co26)) (fun _ hk => hk.2) (.int .i64 t225)) (fun _ h_ => h_.1))))) (below_size (by repeat (first | (with_reducible first | exact HB.out | apply below_alloc | apply pw_below_drewN | apply below_drew1 | refine below_set ?_ GE216.out | refine below_set ?_ GE228.out) | exact HB.out)))); have n3_ := Aside0.mk (blk_below (g := gb216) (o := .cells #[.slice A0_0 l0_0.length c0_0, .int .i64 a0_1] 61 (0, 0)) (by (with_reducible repeat (first | refine blk_drewN ?_ _ | refine blk_drew ?_ | refine blk_alloc ?_ _)); refine blk_far ?_ NB216_228.out _; (with_reducible repeat (first | refine blk_drewN ?_ _ | refine blk_drew ?_ | refine blk_alloc ?_ _)); refine blk_far ?_ NB216_228.out _; (with_reducible repeat (first | refine blk_drewN ?_ _ | refine blk_drew ?_ | refine blk_alloc ?_ _)); exact BK216.out) hb); have n4_ := Aside0.mk (blk_below (g := gb228) (o := .cells #[.slice Ao26 t222.length co26, .int .i64 t225] 65 (0, 0)) (by (with_reducible repeat (first | refine blk_drewN ?_ _ | refine blk_drew ?_ | refine blk_alloc ?_ _)); refine blk_put (cs := #[.slice Ao26 t222.length co26, .int .i64 0]) ?_ 1 _ rfl; (with_reducible repeat (first | refine blk_drewN ?_ _ | refine blk_drew ?_ | refine blk_alloc ?_ _)); refine blk_put (cs := #[.slice none 0 0, .int .i64 0]) ?_ 0 _ rfl; (with_reducible repeat (first | refine blk_drewN ?_ _ | refine blk_drew ?_ | refine blk_alloc ?_ _)); exact BK228.out) hb); have n5_ := Aside0.mk (below_step (by repeat (first | (with_reducible first | exact HB.out | apply below_alloc | apply pw_below_drewN | apply below_drew1 | refine below_set ?_ GE216.out | refine below_set ?_ GE228.out) | exact HB.out)) hb); clear HO220; clear HO224; clear BK216; clear BK228; clear HB; have HO220 := n0_; have HO224 := n1_; have HO231 := n2_; have BK216 := n3_; have BK228 := n4_; have HB := n5_; clear n0_ n1_ n2_ n3_ n4_ n5_; (try clear hb); (try clear hb2); (try clear hk); (try clear hi); (try clear ho0)) | ((with_reducible refine gate_dst (N := 11) rfl ?_); refine box_event ?hg (N := 11) ?hd (cs := #[.slice none 0 0, .int .i64 0]) (t := 65) ?hr ?_; (case hd => rfl); (case hg => rfl); (case hr => first | (go_simp; done) | (go_simp; rfl)); intro gb233 hg w31 hbox hb; have n0_ := Aside0.mk (Kd.R_below (by (with_reducible repeat (first | apply Kd.R_alloc | apply Kd.R_drewN | apply Kd.R_drew)); exact HO220.out) hb); have n1_ := Aside0.mk (Kd.R_below (by (with_reducible repeat (first | apply Kd.R_alloc | apply Kd.R_drewN | apply Kd.R_drew)); exact HO224.out) hb); have n2_ := Aside0.mk (Kd.R_below (by (with_reducible repeat (first | apply Kd.R_alloc | apply Kd.R_drewN | apply Kd.R_drew)); exact HO231.out) hb); have n3_ := Aside0.mk (blk_below (g := gb216) (o := .cells #[.slice A0_0 l0_0.length c0_0, .int .i64 a0_1] 61 (0, 0)) (by (with_reducible repeat (first | refine blk_drewN ?_ _ | refine blk_drew ?_ | refine blk_alloc ?_ _)); exact BK216.out) hb); have n4_ := Aside0.mk (blk_below (g := gb228) (o := .cells #[.slice Ao26 t222.length co26, .int .i64 t225] 65 (0, 0)) (by (with_reducible repeat (first | refine blk_drewN ?_ _ | refine blk_drew ?_ | refine blk_alloc ?_ _)); exact BK228.out) hb); have n5_ := Aside0.mk (below_step (by repeat (first | (with_reducible first | exact HB.out | apply below_alloc | apply pw_below_drewN | apply below_drew1 | refine below_set ?_ GE216.out | refine below_set ?_ GE228.out) | exact HB.out)) hb); have n6_ := Aside0.mk (hbox); have n7_ := Aside0.mk ((by rw [hg]; exact (below_size (by repeat (first | (with_reducible first | exact HB.out | apply below_alloc | apply pw_below_drewN | apply below_drew1 | refine below_set ?_ GE216.out | refine below_set ?_ GE228.out) | exact HB.out))) : w.heap.size ≤ gb233)); have n8_ := Aside0.mk ((by rw [hg]; exact (below_size (by repeat (first | (with_reducible first | exact HB.out | apply below_alloc | apply pw_below_drewN | apply below_drew1 | refine below_set ?_ GE216.out | refine below_set ?_ GE228.out) | exact HB.out))) : w.heap.size ≤ gb233)); have n9_ := Aside0.mk ((by rw [hg]; exact Nat.ne_of_lt (blk_lt (g := gb216) (o := .cells #[.slice A0_0 l0_0.length c0_0, .int .i64 a0_1] 61 (0, 0)) (by (with_reducible repeat (first | refine blk_drewN ?_ _ | refine blk_drew ?_ | refine blk_alloc ?_ _)); exact BK216.out)) : gb216 ≠ gb233)); have n10_ := Aside0.mk ((by rw [hg]; exact Nat.ne_of_gt (blk_lt (g := gb216) (o := .cells #[.slice A0_0 l0_0.length c0_0, .int .i64 a0_1] 61 (0, 0)) (by (with_reducible repeat (first | refine blk_drewN ?_ _ | refine blk_drew ?_ | refine blk_alloc ?_ _)); exact BK216.out)) : gb233 ≠ gb216)); have n11_ := Aside0.mk ((by rw [hg]; exact Nat.ne_of_lt (blk_lt (g := gb228) (o := .cells #[.slice Ao26 t222.length co26, .int .i64 t225] 65 (0, 0)) (by (with_reducible repeat (first | refine blk_drewN ?_ _ | refine blk_drew ?_ | refine blk_alloc ?_ _)); exact BK228.out)) : gb228 ≠ gb233)); have n12_ := Aside0.mk ((by rw [hg]; exact Nat.ne_of_gt (blk_lt (g := gb228) (o := .cells #[.slice Ao26 t222.length co26, .int .i64 t225] 65 (0, 0)) (by (with_reducible repeat (first | refine blk_drewN ?_ _ | refine blk_drew ?_ | refine blk_alloc ?_ _)); exact BK228.out)) : gb233 ≠ gb228)); clear HO220; clear HO224; clear HO231; clear BK216; clear BK228; clear HB; have HO220 := n0_; have HO224 := n1_; have HO231 := n2_; have BK216 := n3_; have BK228 := n4_; have HB := n5_; have BK233 := n6_; have GW233 := n7_; have GE233 := n8_; have NB216_233 := n9_; have NB233_216 := n10_; have NB228_233 := n11_; have NB233_228 := n12_; clear n0_ n1_ n2_ n3_ n4_ n5_ n6_ n7_ n8_ n9_ n10_ n11_ n12_; clear hb hbox hg; obtain ⟨Ao32, co32, eo32⟩ := Kd.R_slice HO231.out; subst eo32; have hnb33 := NB233_216.out; have hnc33 := NB216_233.out; have hnb34 := NB233_228.out; have hnc34 := NB228_233.out; have hcz35_0 : w31.cell? ⟨gb233, 0, none⟩ = some (.slice none 0 0) := (blk_cell BK233.out 0).trans rfl; have hcz35_1 : w31.cell? ⟨gb233, 1, none⟩ = some (.int .i64 0) := (blk_cell BK233.out 1).trans rfl; have hfz35_0 := blk_frozen BK233.out 0; have hfz35_1 := blk_frozen BK233.out 1) | ((with_reducible refine gate_callee (f := 46) rfl ?_); refine goesL_ (some 47) rfl rfl Try.func46 (by kernel_rfl) rfl #[.agg #[.slice Ao32 t229.length co32, .int .i64 t232], .string a1, .string a2] rfl (by (try simp only [List.map_toArray, List.map_cons, List.map_nil]); first | done | rfl | (simp only [List.length_drop, List.length_take]; rfl)) ?_; (with_reducible refine (impl_Lay.calls k _ _ t229 t232 a1 a2 t234 t237 t238 t239 _ ?side1 ?side2 A16.out).mono ?_); (case side1 => refine (Kd.R_reads' (e := 81) (base := w.heap.size) (ok := fun k_ => ((True ∧ some k_ ≠ (.slice Ao23 t218.length co23 : Value).ownBlock) ∧ some k_ ≠ (.slice Ao26 t222.length co26 : Value).ownBlock)) (n := t229.length) (c := co32) ?_).2.2; exact (by (with_reducible repeat (first | apply Kd.R_alloc | apply Kd.R_drewN | apply Kd.R_drew)); exact (Kd.R_mono (Kd.R_far (p := ⟨gb233, 1, none⟩) (Kd.R_far (p := ⟨gb233, 0, none⟩) (Kd.R_types HO231.out BK233.out (by decide)) (fun _ hk => hk.2) (.slice Ao32 t229.length co32)) (fun _ hk => hk.2) (.int .i64 t232)) (fun _ h_ => h_.1)))); (case side2 => exact (Kd.R_reads' HO231.out).2.1); rintro e w36 ⟨v235, rfl, ho0, hb⟩; refine ⟨_, rfl, ?_⟩; have n0_ := Aside0.mk (Kd.R_elder' (by (with_reducible repeat (first | apply Kd.R_alloc | apply Kd.R_drewN | apply Kd.R_drew)); exact (Kd.R_mono (Kd.R_far (p := ⟨gb233, 1, none⟩) (Kd.R_far (p := ⟨gb233, 0, none⟩) (Kd.R_types HO220.out BK233.out (by decide)) (fun _ hk => hk.2) (.slice Ao32 t229.length co32)) (fun _ hk => hk.2) (.int .i64 t232)) (fun _ h_ => h_.1))) (Kd.R_base ho0) hb); have n1_ := Aside0.mk (Kd.R_elder' (by (with_reducible repeat (first | apply Kd.R_alloc | apply Kd.R_drewN | apply Kd.R_drew)); exact (Kd.R_mono (Kd.R_far (p := ⟨gb233, 1, none⟩) (Kd.R_far (p := ⟨gb233, 0, none⟩) (Kd.R_types HO224.out BK233.out (by decide)) (fun _ hk => hk.2) (.slice Ao32 t229.length co32)) (fun _ hk => hk.2) (.int .i64 t232)) (fun _ h_ => h_.1))) (Kd.R_base ho0) hb); have n2_ := Aside0.mk (Kd.R_elder' (by (with_reducible repeat (first | apply Kd.R_alloc | apply Kd.R_drewN | apply Kd.R_drew)); exact (Kd.R_mono (Kd.R_far (p := ⟨gb233, 1, none⟩) (Kd.R_far (p := ⟨gb233, 0, none⟩) (Kd.R_types HO231.out BK233.out (by decide)) (fun _ hk => hk.2) (.slice Ao32 t229.length co32)) (fun _ hk => hk.2) (.int .i64 t232)) (fun _ h_ => h_.1))) (Kd.R_base ho0) hb); have n3_ := Aside0.mk (Kd.R_lower (Kd.R_new' (Kd.R_new' (Kd.R_new' ho0 (Kd.R_lt (by (with_reducible repeat (first | apply Kd.R_alloc | apply Kd.R_drewN | apply Kd.R_drew)); exact (Kd.R_mono (Kd.R_far (p := ⟨gb233, 1, none⟩) (Kd.R_far (p := ⟨gb233, 0, none⟩) (Kd.R_types HO220.out BK233.out (by decide)) (fun _ hk => hk.2) (.slice Ao32 t229.length co32)) (fun _ hk => hk.2) (.int .i64 t232)) (fun _ h_ => h_.1))))) (Kd.R_lt (by (with_reducible repeat (first | apply Kd.R_alloc | apply Kd.R_drewN | apply Kd.R_drew)); exact (Kd.R_mono (Kd.R_far (p := ⟨gb233, 1, none⟩) (Kd.R_far (p := ⟨gb233, 0, none⟩) (Kd.R_types HO224.out BK233.out (by decide)) (fun _ hk => hk.2) (.slice Ao32 t229.length co32)) (fun _ hk => hk.2) (.int .i64 t232)) (fun _ h_ => h_.1))))) (Kd.R_lt (by (with_reducible repeat (first | apply Kd.R_alloc | apply Kd.R_drewN | apply Kd.R_drew)); exact (Kd.R_mono (Kd.R_far (p := ⟨gb233, 1, none⟩) (Kd.R_far (p := ⟨gb233, 0, none⟩) (Kd.R_types HO231.out BK233.out (by decide)) (fun _ hk => hk.2) (.slice Ao32 t229.length co32)) (fun _ hk => hk.2) (.int .i64 t232)) (fun _ h_ => h_.1))))) (below_size (by repeat (first | (with_reducible first | exact HB.out | apply below_alloc | apply pw_below_drewN | apply below_drew1 | refine below_set ?_ GE216.out | refine below_set ?_ GE228.out | refine below_set ?_ GE233.out) | exact HB.out)))); have n4_ := Aside0.mk (blk_below (g := gb216) (o := .cells #[.slice A0_0 l0_0.length c0_0, .int .i64 a0_1] 61 (0, 0)) (by (with_reducible repeat (first | refine blk_drewN ?_ _ | refine blk_drew ?_ | refine blk_alloc ?_ _)); refine blk_far ?_ NB216_233.out _; (with_reducible repeat (first | refine blk_drewN ?_ _ | refine blk_drew ?_ | refine blk_alloc ?_ _)); refine blk_far ?_ NB216_233.out _; (with_reducible repeat (first | refine blk_drewN ?_ _ | refine blk_drew ?_ | refine blk_alloc ?_ _)); exact BK216.out) hb); have n5_ := Aside0.mk (blk_below (g := gb228) (o := .cells #[.slice Ao26 t222.length co26, .int .i64 t225] 65 (0, 0)) (by (with_reducible repeat (first | refine blk_drewN ?_ _ | refine blk_drew ?_ | refine blk_alloc ?_ _)); refine blk_far ?_ NB228_233.out _; (with_reducible repeat (first | refine blk_drewN ?_ _ | refine blk_drew ?_ | refine blk_alloc ?_ _)); refine blk_far ?_ NB228_233.out _; (with_reducible repeat (first | refine blk_drewN ?_ _ | refine blk_drew ?_ | refine blk_alloc ?_ _)); exact BK228.out) hb); have n6_ := Aside0.mk (blk_below (g := gb233) (o := .cells #[.slice Ao32 t229.length co32, .int .i64 t232] 65 (0, 0)) (by (with_reducible repeat (first | refine blk_drewN ?_ _ | refine blk_drew ?_ | refine blk_alloc ?_ _)); refine blk_put (cs := #[.slice Ao32 t229.length co32, .int .i64 0]) ?_ 1 _ rfl; (with_reducible repeat (first | refine blk_drewN ?_ _ | refine blk_drew ?_ | refine blk_alloc ?_ _)); refine blk_put (cs := #[.slice none 0 0, .int .i64 0]) ?_ 0 _ rfl; (with_reducible repeat (first | refine blk_drewN ?_ _ | refine blk_drew ?_ | refine blk_alloc ?_ _)); exact BK233.out) hb); have n7_ := Aside0.mk (below_step (by repeat (first | (with_reducible first | exact HB.out | apply below_alloc | apply pw_below_drewN | apply below_drew1 | refine below_set ?_ GE216.out | refine below_set ?_ GE228.out | refine below_set ?_ GE233.out) | exact HB.out)) hb); clear HO220; clear HO224; clear HO231; clear BK216; clear BK228; clear BK233; clear HB; have HO220 := n0_; have HO224 := n1_; have HO231 := n2_; have HO236 := n3_; have BK216 := n4_; have BK228 := n5_; have BK233 := n6_; have HB := n7_; clear n0_ n1_ n2_ n3_ n4_ n5_ n6_ n7_; (try clear hb); (try clear hb2); (try clear hk); (try clear hi); (try clear ho0)) | ((with_reducible refine gate_dst (N := 12) rfl ?_); refine box_event ?hg (N := 12) ?hd (cs := #[.slice none 0 0, .int .i64 0]) (t := 65) ?hr ?_; (case hd => rfl); (case hg => rfl); (case hr => first | (go_simp; done) | (go_simp; rfl)); intro gb240 hg w37 hbox hb; have n0_ := Aside0.mk (Kd.R_below (by (with_reducible repeat (first | apply Kd.R_alloc | apply Kd.R_drewN | apply Kd.R_drew)); exact HO220.out) hb); have n1_ := Aside0.mk (Kd.R_below (by (with_reducible repeat (first | apply Kd.R_alloc | apply Kd.R_drewN | apply Kd.R_drew)); exact HO224.out) hb); have n2_ := Aside0.mk (Kd.R_below (by (with_reducible repeat (first | apply Kd.R_alloc | apply Kd.R_drewN | apply Kd.R_drew)); exact HO231.out) hb); have n3_ := Aside0.mk (Kd.R_below (by (with_reducible repeat (first | apply Kd.R_alloc | apply Kd.R_drewN | apply Kd.R_drew)); exact HO236.out) hb); have n4_ := Aside0.mk (blk_below (g := gb216) (o := .cells #[.slice A0_0 l0_0.length c0_0, .int .i64 a0_1] 61 (0, 0)) (by (with_reducible repeat (first | refine blk_drewN ?_ _ | refine blk_drew ?_ | refine blk_alloc ?_ _)); exact BK216.out) hb); have n5_ := Aside0.mk (blk_below (g := gb228) (o := .cells #[.slice Ao26 t222.length co26, .int .i64 t225] 65 (0, 0)) (by (with_reducible repeat (first | refine blk_drewN ?_ _ | refine blk_drew ?_ | refine blk_alloc ?_ _)); exact BK228.out) hb); have n6_ := Aside0.mk (blk_below (g := gb233) (o := .cells #[.slice Ao32 t229.length co32, .int .i64 t232] 65 (0, 0)) (by (with_reducible repeat (first | refine blk_drewN ?_ _ | refine blk_drew ?_ | refine blk_alloc ?_ _)); exact BK233.out) hb); have n7_ := Aside0.mk (below_step (by repeat (first | (with_reducible first | exact HB.out | apply below_alloc | apply pw_below_drewN | apply below_drew1 | refine below_set ?_ GE216.out | refine below_set ?_ GE228.out | refine below_set ?_ GE233.out) | exact HB.out)) hb); have n8_ := Aside0.mk (hbox); have n9_ := Aside0.mk ((by rw [hg]; exact (below_size (by repeat (first | (with_reducible first | exact HB.out | apply below_alloc | apply pw_below_drewN | apply below_drew1 | refine below_set ?_ GE216.out | refine below_set ?_ GE228.out | refine below_set ?_ GE233.out) | exact HB.out))) : w.heap.size ≤ gb240)); have n10_ := Aside0.mk ((by rw [hg]; exact (below_size (by repeat (first | (with_reducible first | exact HB.out | apply below_alloc | apply pw_below_drewN | apply below_drew1 | refine below_set ?_ GE216.out | refine below_set ?_ GE228.out | refine below_set ?_ GE233.out) | exact HB.out))) : w.heap.size ≤ gb240)); have n11_ := Aside0.mk ((by rw [hg]; exact Nat.ne_of_lt (blk_lt (g := gb216) (o := .cells #[.slice A0_0 l0_0.length c0_0, .int .i64 a0_1] 61 (0, 0)) (by (with_reducible repeat (first | refine blk_drewN ?_ _ | refine blk_drew ?_ | refine blk_alloc ?_ _)); exact BK216.out)) : gb216 ≠ gb240)); have n12_ := Aside0.mk ((by rw [hg]; exact Nat.ne_of_gt (blk_lt (g := gb216) (o := .cells #[.slice A0_0 l0_0.length c0_0, .int .i64 a0_1] 61 (0, 0)) (by (with_reducible repeat (first | refine blk_drewN ?_ _ | refine blk_drew ?_ | refine blk_alloc ?_ _)); exact BK216.out)) : gb240 ≠ gb216)); have n13_ := Aside0.mk ((by rw [hg]; exact Nat.ne_of_lt (blk_lt (g := gb228) (o := .cells #[.slice Ao26 t222.length co26, .int .i64 t225] 65 (0, 0)) (by (with_reducible repeat (first | refine blk_drewN ?_ _ | refine blk_drew ?_ | refine blk_alloc ?_ _)); exact BK228.out)) : gb228 ≠ gb240)); have n14_ := Aside0.mk ((by rw [hg]; exact Nat.ne_of_gt (blk_lt (g := gb228) (o := .cells #[.slice Ao26 t222.length co26, .int .i64 t225] 65 (0, 0)) (by (with_reducible repeat (first | refine blk_drewN ?_ _ | refine blk_drew ?_ | refine blk_alloc ?_ _)); exact BK228.out)) : gb240 ≠ gb228)); have n15_ := Aside0.mk ((by rw [hg]; exact Nat.ne_of_lt (blk_lt (g := gb233) (o := .cells #[.slice Ao32 t229.length co32, .int .i64 t232] 65 (0, 0)) (by (with_reducible repeat (first | refine blk_drewN ?_ _ | refine blk_drew ?_ | refine blk_alloc ?_ _)); exact BK233.out)) : gb233 ≠ gb240)); have n16_ := Aside0.mk ((by rw [hg]; exact Nat.ne_of_gt (blk_lt (g := gb233) (o := .cells #[.slice Ao32 t229.length co32, .int .i64 t232] 65 (0, 0)) (by (with_reducible repeat (first | refine blk_drewN ?_ _ | refine blk_drew ?_ | refine blk_alloc ?_ _)); exact BK233.out)) : gb240 ≠ gb233)); clear HO220; clear HO224; clear HO231; clear HO236; clear BK216; clear BK228; clear BK233; clear HB; have HO220 := n0_; have HO224 := n1_; have HO231 := n2_; have HO236 := n3_; have BK216 := n4_; have BK228 := n5_; have BK233 := n6_; have HB := n7_; have BK240 := n8_; have GW240 := n9_; have GE240 := n10_; have NB216_240 := n11_; have NB240_216 := n12_; have NB228_240 := n13_; have NB240_228 := n14_; have NB233_240 := n15_; have NB240_233 := n16_; clear n0_ n1_ n2_ n3_ n4_ n5_ n6_ n7_ n8_ n9_ n10_ n11_ n12_ n13_ n14_ n15_ n16_; clear hb hbox hg; obtain ⟨Ao38, co38, eo38⟩ := Kd.R_slice HO236.out; subst eo38; have hnb39 := NB240_216.out; have hnc39 := NB216_240.out; have hnb40 := NB240_228.out; have hnc40 := NB228_240.out; have hnb41 := NB240_233.out; have hnc41 := NB233_240.out; obtain ⟨hcz42_0, hcz42_1, hfz42_0, hfz42_1⟩ := zb2 BK240.out))
        (try simp only [Act.put, List.setIfInBounds_toArray, List.set_cons_zero, List.set_cons_succ])
        go_cut [64] (fun v64 wc => ∃ (kq : Nat) (x64_16 : Bool), v64 = .bool x64_16 ∧ Aside0 (laws_FnExactLay.j0 kq a1 a2 t226 t227 t238 t239 x64_16 l0_0 a0_1 t222 t225 t229 t232 t234 t237 = some r) ∧ Aside0 (kq ≤ k) ∧ Aside0 (Kd.R k81 81 wc w.heap.size (fun k_ => some k_ ≠ ((.slice Ao32 t229.length co32) : Value).ownBlock ∧ some k_ ≠ ((.slice Ao38 t234.length co38) : Value).ownBlock) (.slice Ao26 t222.length co26) t222) ∧ Aside0 (Kd.R k81 81 wc w.heap.size (fun k_ => some k_ ≠ ((.slice Ao26 t222.length co26) : Value).ownBlock ∧ some k_ ≠ ((.slice Ao38 t234.length co38) : Value).ownBlock) (.slice Ao32 t229.length co32) t229) ∧ Aside0 (Kd.R k81 81 wc w.heap.size (fun k_ => some k_ ≠ ((.slice Ao26 t222.length co26) : Value).ownBlock ∧ some k_ ≠ ((.slice Ao32 t229.length co32) : Value).ownBlock) (.slice Ao38 t234.length co38) t234) ∧ Aside0 (wc.heap[gb216]? = some (.cells #[(.slice A0_0 l0_0.length c0_0), .int .i64 a0_1] 61 (0, 0))) ∧ Aside0 (wc.heap[gb228]? = some (.cells #[(.slice Ao26 t222.length co26), .int .i64 t225] 65 (0, 0))) ∧ Aside0 (wc.heap[gb233]? = some (.cells #[(.slice Ao32 t229.length co32), .int .i64 t232] 65 (0, 0))) ∧ Aside0 (wc.heap[gb240]? = some (.cells #[(.slice Ao38 t234.length co38), .int .i64 t237] 65 (0, 0))) ∧ Aside0 (Below w.heap.size w wc))
        case first =>
          have H := HC17.out
          clear HC17
          replace H := Option.bind_eq_some_iff.mp H
          obtain ⟨t241, A430, H⟩ := H
          replace H : (if t241 = true then (if t238 = t226 then (laws_FnExactLay.j0 k a1 a2 t226 t227 t238 t239 (t239 != t227) l0_0 a0_1 t222 t225 t229 t232 t234 t237) else (laws_FnExactLay.j0 k a1 a2 t226 t227 t238 t239 true l0_0 a0_1 t222 t225 t229 t232 t234 t237)) else (laws_FnExactLay.j0 k a1 a2 t226 t227 t238 t239 true l0_0 a0_1 t222 t225 t229 t232 t234 t237)) = some r := H
          have A43 := Aside0.mk A430
          clear A430
          obtain ⟨hcz49_0, hcz49_1, hfz49_0, hfz49_1⟩ := zb2 BK240.out
          obtain ⟨hcz52_0, hcz52_1, hfz52_0, hfz52_1⟩ := zb2 BK228.out
          go_wp2_with (first|((with_reducible refine gate_callee (f := 47) rfl ?_); refine goesL_ (some 53) rfl rfl Try.func47 (by kernel_rfl) rfl #[.agg #[.slice Ao38 t234.length co38, .int .i64 t237], .agg #[.slice Ao26 t222.length co26, .int .i64 t225]] rfl (by (try simp only [List.map_toArray, List.map_cons, List.map_nil]); first | done | rfl | (simp only [List.length_drop, List.length_take]; rfl)) ?_; (with_reducible refine (laws_eqArena.calls k _ _ t234 t237 _ _ t222 t225 t241 _ ?side1 ?side2 ?side3 ?side4 A43.out ?prem).mono ?_); (case prem => first|(rfl)|(exact HTr_.out)|(assumption)|(refine (Bool.eq_false_or_eq_true _).resolve_right (fun hz => ?_); rw [hz, if_neg (by decide)] at H; exact absurd ((Option.some.inj H).trans HTr_.out) (by simp))|(refine (Bool.eq_false_or_eq_true _).resolve_right (fun hz => ?_); have H := H'.out; rw [hz] at H; exact absurd ((laws_FnExactLay.j0_bad H).symm.trans HTr_.out) (by simp))|(refine (Bool.eq_false_or_eq_true _).resolve_right (fun hz => ?_); rw [hz, if_neg (by decide)] at H; exact absurd ((laws_FnExactLay.j0_bad H).symm.trans HTr_.out) (by simp))|(refine (Bool.eq_false_or_eq_true _).resolve_right (fun hz => ?_); have H := H'.out; rw [hz] at H; exact absurd ((laws_FnExactLay.j1_bad H).symm.trans HTr_.out) (by simp))|(refine (Bool.eq_false_or_eq_true _).resolve_right (fun hz => ?_); rw [hz, if_neg (by decide)] at H; exact absurd ((laws_FnExactLay.j1_bad H).symm.trans HTr_.out) (by simp))|(refine (Bool.eq_false_or_eq_true _).resolve_right (fun hz => ?_); have H := H'.out; rw [hz] at H; exact absurd ((laws_FnExactLay.j2_bad H).symm.trans HTr_.out) (by simp))|(refine (Bool.eq_false_or_eq_true _).resolve_right (fun hz => ?_); rw [hz, if_neg (by decide)] at H; exact absurd ((laws_FnExactLay.j2_bad H).symm.trans HTr_.out) (by simp))); (case side1 => refine (Kd.R_reads' (e := 81) (base := w.heap.size) (ok := fun k_ => (((True ∧ some k_ ≠ (.slice Ao23 t218.length co23 : Value).ownBlock) ∧ some k_ ≠ (.slice Ao26 t222.length co26 : Value).ownBlock) ∧ some k_ ≠ (.slice Ao32 t229.length co32 : Value).ownBlock)) (n := t234.length) (c := co38) ?_).2.2; exact (by (with_reducible repeat (first | apply Kd.R_alloc | apply Kd.R_drewN | apply Kd.R_drew)); exact (Kd.R_mono (Kd.R_far (p := ⟨gb240, 1, none⟩) (Kd.R_far (p := ⟨gb240, 0, none⟩) (Kd.R_types HO236.out BK240.out (by decide)) (fun _ hk => hk.2) (.slice Ao38 t234.length co38)) (fun _ hk => hk.2) (.int .i64 t237)) (fun _ h_ => h_.1)))); (case side2 => exact (Kd.R_reads' HO236.out).2.1); (case side3 => refine (Kd.R_reads' (e := 81) (base := w.heap.size) (ok := fun k_ => (((True ∧ some k_ ≠ (.slice Ao23 t218.length co23 : Value).ownBlock) ∧ some k_ ≠ (.slice Ao32 t229.length co32 : Value).ownBlock) ∧ some k_ ≠ (.slice Ao38 t234.length co38 : Value).ownBlock)) (n := t222.length) (c := co26) ?_).2.2; exact (by (with_reducible repeat (first | apply Kd.R_alloc | apply Kd.R_drewN | apply Kd.R_drew)); exact (Kd.R_mono (Kd.R_far (p := ⟨gb240, 1, none⟩) (Kd.R_far (p := ⟨gb240, 0, none⟩) (Kd.R_types HO224.out BK240.out (by decide)) (fun _ hk => hk.2) (.slice Ao38 t234.length co38)) (fun _ hk => hk.2) (.int .i64 t237)) (fun _ h_ => h_.1)))); (case side4 => exact (Kd.R_reads' HO224.out).2.1); rintro e w53 ⟨rfl, hb⟩; refine ⟨_, rfl, ?_⟩; have n0_ := Aside0.mk (Kd.R_below (by (with_reducible repeat (first | apply Kd.R_alloc | apply Kd.R_drewN | apply Kd.R_drew)); exact (Kd.R_mono (Kd.R_far (p := ⟨gb240, 1, none⟩) (Kd.R_far (p := ⟨gb240, 0, none⟩) (Kd.R_types HO220.out BK240.out (by decide)) (fun _ hk => hk.2) (.slice Ao38 t234.length co38)) (fun _ hk => hk.2) (.int .i64 t237)) (fun _ h_ => h_.1))) hb); have n1_ := Aside0.mk (Kd.R_below (by (with_reducible repeat (first | apply Kd.R_alloc | apply Kd.R_drewN | apply Kd.R_drew)); exact (Kd.R_mono (Kd.R_far (p := ⟨gb240, 1, none⟩) (Kd.R_far (p := ⟨gb240, 0, none⟩) (Kd.R_types HO224.out BK240.out (by decide)) (fun _ hk => hk.2) (.slice Ao38 t234.length co38)) (fun _ hk => hk.2) (.int .i64 t237)) (fun _ h_ => h_.1))) hb); have n2_ := Aside0.mk (Kd.R_below (by (with_reducible repeat (first | apply Kd.R_alloc | apply Kd.R_drewN | apply Kd.R_drew)); exact (Kd.R_mono (Kd.R_far (p := ⟨gb240, 1, none⟩) (Kd.R_far (p := ⟨gb240, 0, none⟩) (Kd.R_types HO231.out BK240.out (by decide)) (fun _ hk => hk.2) (.slice Ao38 t234.length co38)) (fun _ hk => hk.2) (.int .i64 t237)) (fun _ h_ => h_.1))) hb); have n3_ := Aside0.mk (Kd.R_below (by (with_reducible repeat (first | apply Kd.R_alloc | apply Kd.R_drewN | apply Kd.R_drew)); exact (Kd.R_mono (Kd.R_far (p := ⟨gb240, 1, none⟩) (Kd.R_far (p := ⟨gb240, 0, none⟩) (Kd.R_types HO236.out BK240.out (by decide)) (fun _ hk => hk.2) (.slice Ao38 t234.length co38)) (fun _ hk => hk.2) (.int .i64 t237)) (fun _ h_ => h_.1))) hb); have n4_ := Aside0.mk (blk_below (g := gb216) (o := .cells #[.slice A0_0 l0_0.length c0_0, .int .i64 a0_1] 61 (0, 0)) (by (with_reducible repeat (first | refine blk_drewN ?_ _ | refine blk_drew ?_ | refine blk_alloc ?_ _)); refine blk_far ?_ NB216_240.out _; (with_reducible repeat (first | refine blk_drewN ?_ _ | refine blk_drew ?_ | refine blk_alloc ?_ _)); refine blk_far ?_ NB216_240.out _; (with_reducible repeat (first | refine blk_drewN ?_ _ | refine blk_drew ?_ | refine blk_alloc ?_ _)); exact BK216.out) hb); have n5_ := Aside0.mk (blk_below (g := gb228) (o := .cells #[.slice Ao26 t222.length co26, .int .i64 t225] 65 (0, 0)) (by (with_reducible repeat (first | refine blk_drewN ?_ _ | refine blk_drew ?_ | refine blk_alloc ?_ _)); refine blk_far ?_ NB228_240.out _; (with_reducible repeat (first | refine blk_drewN ?_ _ | refine blk_drew ?_ | refine blk_alloc ?_ _)); refine blk_far ?_ NB228_240.out _; (with_reducible repeat (first | refine blk_drewN ?_ _ | refine blk_drew ?_ | refine blk_alloc ?_ _)); exact BK228.out) hb); have n6_ := Aside0.mk (blk_below (g := gb233) (o := .cells #[.slice Ao32 t229.length co32, .int .i64 t232] 65 (0, 0)) (by (with_reducible repeat (first | refine blk_drewN ?_ _ | refine blk_drew ?_ | refine blk_alloc ?_ _)); refine blk_far ?_ NB233_240.out _; (with_reducible repeat (first | refine blk_drewN ?_ _ | refine blk_drew ?_ | refine blk_alloc ?_ _)); refine blk_far ?_ NB233_240.out _; (with_reducible repeat (first | refine blk_drewN ?_ _ | refine blk_drew ?_ | refine blk_alloc ?_ _)); exact BK233.out) hb); have n7_ := Aside0.mk (blk_below (g := gb240) (o := .cells #[.slice Ao38 t234.length co38, .int .i64 t237] 65 (0, 0)) (by (with_reducible repeat (first | refine blk_drewN ?_ _ | refine blk_drew ?_ | refine blk_alloc ?_ _)); refine blk_put (cs := #[.slice Ao38 t234.length co38, .int .i64 0]) ?_ 1 _ rfl; (with_reducible repeat (first | refine blk_drewN ?_ _ | refine blk_drew ?_ | refine blk_alloc ?_ _)); refine blk_put (cs := #[.slice none 0 0, .int .i64 0]) ?_ 0 _ rfl; (with_reducible repeat (first | refine blk_drewN ?_ _ | refine blk_drew ?_ | refine blk_alloc ?_ _)); exact BK240.out) hb); have n8_ := Aside0.mk (below_step (by repeat (first | (with_reducible first | exact HB.out | apply below_alloc | apply pw_below_drewN | apply below_drew1 | refine below_set ?_ GE216.out | refine below_set ?_ GE228.out | refine below_set ?_ GE233.out | refine below_set ?_ GE240.out) | exact HB.out)) hb); clear HO220; clear HO224; clear HO231; clear HO236; clear BK216; clear BK228; clear BK233; clear BK240; clear HB; have HO220 := n0_; have HO224 := n1_; have HO231 := n2_; have HO236 := n3_; have BK216 := n4_; have BK228 := n5_; have BK233 := n6_; have BK240 := n7_; have HB := n8_; clear n0_ n1_ n2_ n3_ n4_ n5_ n6_ n7_ n8_; (try clear hb); (try clear hb2); (try clear hk); (try clear hi); (refine Classical.byCases (p := (t241 = true)) (fun c44 => ?zp16) (fun c44 => ?zn16); (case' zn16 => (replace c44 := Bool.eq_false_iff.mpr c44); (subst c44); (have H1 : (laws_FnExactLay.j0 k a1 a2 t226 t227 t238 t239 true l0_0 a0_1 t222 t225 t229 t232 t234 t237) = some r := by rw [if_neg (show ¬ (false = true) by decide)] at H; exact H); (clear H); (have H := H1); (clear H1); (exact absurd ((laws_FnExactLay.j0_bad H).symm.trans HTr_.out) (by simp))); (case' zp16 => (subst c44); (have H1 : (if t238 = t226 then (laws_FnExactLay.j0 k a1 a2 t226 t227 t238 t239 (t239 != t227) l0_0 a0_1 t222 t225 t229 t232 t234 t237) else (laws_FnExactLay.j0 k a1 a2 t226 t227 t238 t239 true l0_0 a0_1 t222 t225 t229 t232 t234 t237)) = some r := by rw [if_pos rfl] at H; exact H); (clear H); (have H := H1); (clear H1); (refine Classical.byCases (p := (t238 = t226)) (fun c45 => ?zp15) (fun c45 => ?zn15); (case' zn15 => (rw [if_neg c45] at H); (have c45b0 : (t238 == t226) = false := beq_eq_false_iff_ne.mpr c45); (have c45b1 : (t238 != t226) = true := bne_iff_ne.mpr c45); ((first | rw [c45b0] | (simp only [i64_w, i32_w]; rw [c45b0]) | skip)); (exact absurd ((laws_FnExactLay.j0_bad H).symm.trans HTr_.out) (by simp))); (case' zp15 => (rw [if_pos c45] at H); (have c45b0 : (t238 == t226) = true := beq_iff_eq.mpr c45); (have c45b1 : (t238 != t226) = false := bne_eq_false_iff_eq.mpr c45); (clear c45); ((first | rw [c45b0] | (simp only [i64_w, i32_w]; rw [c45b0]) | skip)); (have H' := Aside0.mk H); (clear H); (have hnb46 := NB240_216.out); (have hnc46 := NB216_240.out); (have hnb47 := NB240_228.out); (have hnc47 := NB228_240.out); (have hnb48 := NB240_233.out); (have hnc48 := NB233_240.out); (obtain ⟨hcz49_0, hcz49_1, hfz49_0, hfz49_1⟩ := zb2 BK240.out); (have hnb50 := NB228_216.out); (have hnc50 := NB216_228.out); (have hnb51 := NB228_233.out); (have hnc51 := NB233_228.out); (obtain ⟨hcz52_0, hcz52_1, hfz52_0, hfz52_1⟩ := zb2 BK228.out)))))))
          · go_meet
            case rel => exact ⟨_, ((t239 != t227)), (by first | rfl | (simp; done) | (simp [*]; done)), H', ⟨by first | omega | exact Nat.le_refl _⟩, ⟨by (with_reducible repeat (first | apply Kd.R_alloc | apply Kd.R_drewN | apply Kd.R_drew)); exact Kd.R_mono HO224.out (fun _ hk => ⟨hk.1.2, hk.2⟩)⟩, ⟨by (with_reducible repeat (first | apply Kd.R_alloc | apply Kd.R_drewN | apply Kd.R_drew)); exact Kd.R_mono HO231.out (fun _ hk => ⟨hk.1.2, hk.2⟩)⟩, ⟨by (with_reducible repeat (first | apply Kd.R_alloc | apply Kd.R_drewN | apply Kd.R_drew)); exact Kd.R_mono HO236.out (fun _ hk => ⟨hk.1.2, hk.2⟩)⟩, ⟨by (with_reducible repeat (first | refine blk_drewN ?_ _ | refine blk_drew ?_ | refine blk_alloc ?_ _)); exact BK216.out⟩, ⟨by (with_reducible repeat (first | refine blk_drewN ?_ _ | refine blk_drew ?_ | refine blk_alloc ?_ _)); exact BK228.out⟩, ⟨by (with_reducible repeat (first | refine blk_drewN ?_ _ | refine blk_drew ?_ | refine blk_alloc ?_ _)); exact BK233.out⟩, ⟨by (with_reducible repeat (first | refine blk_drewN ?_ _ | refine blk_drew ?_ | refine blk_alloc ?_ _)); exact BK240.out⟩, ⟨by repeat (first | (with_reducible first | exact HB.out | apply below_alloc | apply pw_below_drewN | apply below_drew1 | refine below_set ?_ GE216.out | refine below_set ?_ GE228.out | refine below_set ?_ GE233.out | refine below_set ?_ GE240.out) | exact HB.out)⟩⟩
        case rest =>
          clear HC17
          try clear c1
          try clear c2
          try clear p2
          try clear c3
          try clear c4
          try clear c4b0
          try clear c4b1
          try clear c5
          try clear c6
          try clear c6b0
          try clear c6b1
          try clear c9
          try clear c9b0
          try clear c10
          try clear c27
          try clear c33
          try clear c34
          try clear c39
          try clear c40
          try clear c41
          try clear c43
          try clear c44
          try clear c45
          try clear c45b0
          try clear c45b1
          try clear c46
          try clear c47
          try clear c48
          try clear c50
          try clear c51
          try clear c54
          try clear c55
          try clear c56
          try clear c58
          try clear c59
          try clear c62
          try clear c63
          try clear c64
          try clear c66
          try clear c67
          try clear hcz11_0
          try clear hcz11_1
          try clear hcz19_0
          try clear hcz19_1
          try clear hcz21_0
          try clear hcz21_1
          try clear hcz28_0
          try clear hcz28_1
          try clear hcz29_0
          try clear hcz29_1
          try clear hcz35_0
          try clear hcz35_1
          try clear hcz42_0
          try clear hcz42_1
          try clear hcz49_0
          try clear hcz49_1
          try clear hcz52_0
          try clear hcz52_1
          try clear hcz57_0
          try clear hcz57_1
          try clear hcz60_0
          try clear hcz60_1
          try clear hcz65_0
          try clear hcz65_1
          try clear hcz68_0
          try clear hcz68_1
          try clear hfz11_0
          try clear hfz11_1
          try clear hfz19_0
          try clear hfz19_1
          try clear hfz21_0
          try clear hfz21_1
          try clear hfz28_0
          try clear hfz28_1
          try clear hfz29_0
          try clear hfz29_1
          try clear hfz35_0
          try clear hfz35_1
          try clear hfz42_0
          try clear hfz42_1
          try clear hfz49_0
          try clear hfz49_1
          try clear hfz52_0
          try clear hfz52_1
          try clear hfz57_0
          try clear hfz57_1
          try clear hfz60_0
          try clear hfz60_1
          try clear hfz65_0
          try clear hfz65_1
          try clear hfz68_0
          try clear hfz68_1
          obtain ⟨kq, x64_16, rfl, HA, HJ16, HO_229000, HO_234000, HO_241000, BK216, BK228, BK233, BK240, HB⟩ := hcut
          cases kq with
          | zero => exact absurd HA.out (by simp [laws_FnExactLay.j0])
          | succ kj16 =>
            have H := HA.out
            clear HA
            simp only [laws_FnExactLay.j0] at H
            by_cases c70 : x64_16 = true
            · subst c70
              have H1 : (some false) = some r := by rw [if_pos rfl] at H; exact H
              clear H
              have H := H1
              clear H1
              exact absurd ((Option.some.inj H).trans HTr_.out) (by simp)
            · replace c70 := Bool.eq_false_iff.mpr c70
              subst c70
              have H1 : ((laws_toArena.f kj16 l0_0 a0_1).bind fun bt242 => ((laws_eqArena.f kj16 t229 t232 bt242.1 bt242.2).bind fun t246 => (if t246 = true then ((laws_markArena.f kj16 t229 t232 1).bind fun bt247 => (if bt247.1 < 0 then (laws_FnExactLay.j1 kj16 a1 a2 t226 t227 true l0_0 a0_1 t222 t225 t234 t237) else ((laws_eqArena.f kj16 t234 t237 t222 t225).bind fun t249 => (if t249 = true then (if t238 = t226 then (laws_FnExactLay.j1 kj16 a1 a2 t226 t227 (t239 != t227) l0_0 a0_1 t222 t225 t234 t237) else (laws_FnExactLay.j1 kj16 a1 a2 t226 t227 true l0_0 a0_1 t222 t225 t234 t237)) else (laws_FnExactLay.j1 kj16 a1 a2 t226 t227 true l0_0 a0_1 t222 t225 t234 t237))))) else (some false)))) = some r := by rw [if_neg (show ¬ (false = true) by decide)] at H; exact H
              clear H
              have H := H1
              clear H1
              replace H := Option.bind_eq_some_iff.mp H
              obtain ⟨⟨t242, t245⟩, A710, H⟩ := H
              replace H : ((laws_eqArena.f kj16 t229 t232 t242 t245).bind fun t246 => (if t246 = true then ((laws_markArena.f kj16 t229 t232 1).bind fun bt247 => (if bt247.1 < 0 then (laws_FnExactLay.j1 kj16 a1 a2 t226 t227 true l0_0 a0_1 t222 t225 t234 t237) else ((laws_eqArena.f kj16 t234 t237 t222 t225).bind fun t249 => (if t249 = true then (if t238 = t226 then (laws_FnExactLay.j1 kj16 a1 a2 t226 t227 (t239 != t227) l0_0 a0_1 t222 t225 t234 t237) else (laws_FnExactLay.j1 kj16 a1 a2 t226 t227 true l0_0 a0_1 t222 t225 t234 t237)) else (laws_FnExactLay.j1 kj16 a1 a2 t226 t227 true l0_0 a0_1 t222 t225 t234 t237))))) else (some false))) = some r := H
              have A71 := Aside0.mk A710
              clear A710
              replace H := Option.bind_eq_some_iff.mp H
              obtain ⟨t246, A720, H⟩ := H
              replace H : (if t246 = true then ((laws_markArena.f kj16 t229 t232 1).bind fun bt247 => (if bt247.1 < 0 then (laws_FnExactLay.j1 kj16 a1 a2 t226 t227 true l0_0 a0_1 t222 t225 t234 t237) else ((laws_eqArena.f kj16 t234 t237 t222 t225).bind fun t249 => (if t249 = true then (if t238 = t226 then (laws_FnExactLay.j1 kj16 a1 a2 t226 t227 (t239 != t227) l0_0 a0_1 t222 t225 t234 t237) else (laws_FnExactLay.j1 kj16 a1 a2 t226 t227 true l0_0 a0_1 t222 t225 t234 t237)) else (laws_FnExactLay.j1 kj16 a1 a2 t226 t227 true l0_0 a0_1 t222 t225 t234 t237))))) else (some false)) = some r := H
              have A72 := Aside0.mk A720
              clear A720
              by_cases c73 : t246 = true
              · subst c73
                have H1 : ((laws_markArena.f kj16 t229 t232 1).bind fun bt247 => (if bt247.1 < 0 then (laws_FnExactLay.j1 kj16 a1 a2 t226 t227 true l0_0 a0_1 t222 t225 t234 t237) else ((laws_eqArena.f kj16 t234 t237 t222 t225).bind fun t249 => (if t249 = true then (if t238 = t226 then (laws_FnExactLay.j1 kj16 a1 a2 t226 t227 (t239 != t227) l0_0 a0_1 t222 t225 t234 t237) else (laws_FnExactLay.j1 kj16 a1 a2 t226 t227 true l0_0 a0_1 t222 t225 t234 t237)) else (laws_FnExactLay.j1 kj16 a1 a2 t226 t227 true l0_0 a0_1 t222 t225 t234 t237))))) = some r := by rw [if_pos rfl] at H; exact H
                clear H
                have H := H1
                clear H1
                replace H := Option.bind_eq_some_iff.mp H
                obtain ⟨⟨t247, t248⟩, A740, H⟩ := H
                replace H : (if t247 < 0 then (laws_FnExactLay.j1 kj16 a1 a2 t226 t227 true l0_0 a0_1 t222 t225 t234 t237) else ((laws_eqArena.f kj16 t234 t237 t222 t225).bind fun t249 => (if t249 = true then (if t238 = t226 then (laws_FnExactLay.j1 kj16 a1 a2 t226 t227 (t239 != t227) l0_0 a0_1 t222 t225 t234 t237) else (laws_FnExactLay.j1 kj16 a1 a2 t226 t227 true l0_0 a0_1 t222 t225 t234 t237)) else (laws_FnExactLay.j1 kj16 a1 a2 t226 t227 true l0_0 a0_1 t222 t225 t234 t237)))) = some r := H
                have A74 := Aside0.mk A740
                clear A740
                have HC75 := Aside0.mk H
                clear H
                try go_wp2
                have n0_ := Aside0.mk (Kd.R_drew HO_229000.out)
                have n1_ := Aside0.mk (Kd.R_drew HO_234000.out)
                have n2_ := Aside0.mk (Kd.R_drew HO_241000.out)
                have n3_ := Aside0.mk (blk_drew BK216.out)
                have n4_ := Aside0.mk (blk_drew BK228.out)
                have n5_ := Aside0.mk (blk_drew BK233.out)
                have n6_ := Aside0.mk (blk_drew BK240.out)
                have n7_ := Aside0.mk (below_drew1 HB.out)
                clear HO_229000
                clear HO_234000
                clear HO_241000
                clear BK216
                clear BK228
                clear BK233
                clear BK240
                clear HB
                have HO_229000 := n0_
                have HO_234000 := n1_
                have HO_241000 := n2_
                have BK216 := n3_
                have BK228 := n4_
                have BK233 := n5_
                have BK240 := n6_
                have HB := n7_
                clear n0_ n1_ n2_ n3_ n4_ n5_ n6_ n7_
                refine start_ (n := 5) (S := fun w' => w'.cell? ⟨gb233, 0, none⟩ = some (.slice Ao32 t229.length co32) ∧ w'.cell? ⟨gb233, 1, none⟩ = some (.int .i64 t232) ∧ w'.cell? ⟨gb216, 0, none⟩ = some (.slice A0_0 l0_0.length c0_0) ∧ w'.cell? ⟨gb216, 1, none⟩ = some (.int .i64 a0_1)) (ds := []) #[false, false, false, false, false] (by kernel_rfl) rfl rfl ⟨(blk_cell BK233.out 0).trans rfl, (blk_cell BK233.out 1).trans rfl, (blk_cell BK216.out 0).trans rfl, (blk_cell BK216.out 1).trans rfl⟩ (fun hHeld => ?_)
                generalize wc.drew = w76 at HO_229000 HO_234000 HO_241000 BK216 BK228 BK233 BK240 HB hHeld ⊢
                refine take_ (i := 0) (N := some 65) (v := ?_) (a' := ?_) #[true, false, false, false, false] rfl rfl (by kernel_rfl) (fun _ _ _ h => h) (Or.inl ⟨by rfl, ?_⟩) hHeld ?_ ?_
                rotate_left
                · rintro w' ⟨s0, s1, s2, s3⟩
                  go_simp
                  with_reducible rfl
                rotate_left
                · simp only [Act.put, List.setIfInBounds_toArray, List.set_cons_zero, List.set_cons_succ, i64_w, i32_w]
                  rfl
                refine take_ (i := 1) (N := some 66) (v := ?_) (a' := ?_) #[true, true, false, false, false] rfl rfl (by kernel_rfl) (fun _ _ _ h => h) (Or.inl ⟨by rfl, ?_⟩) hHeld ?_ ?_
                rotate_left
                · rintro w' ⟨s0, s1, s2, s3⟩
                  go_simp
                  with_reducible rfl
                rotate_left
                · simp only [Act.put, List.setIfInBounds_toArray, List.set_cons_zero, List.set_cons_succ, i64_w, i32_w]
                  rfl
                refine one_ (i := 2) (N := some 67) #[true, true, true, false, false] rfl rfl (by kernel_rfl) (by decide) (fun K hK => ?_)
                refine goes_ Try.func45 (by kernel_rfl) rfl #[.agg #[.slice A0_0 l0_0.length c0_0, .int .i64 a0_1]] (by rfl) rfl rfl (by (try simp only [List.map_toArray, List.map_cons, List.map_nil]); first | done | rfl | (simp only [List.length_drop, List.length_take]; rfl)) ?_
                with_reducible refine (laws_toArena.calls kj16 _ _ l0_0 a0_1 t242 t245 _ ?side1 ?side2 A71.out).mono ?_
                (case side1 => repeat (first | exact (Kd.C_below HR0_0.out HB.out) | (with_reducible refine Kd.C_alloc ?_ _) | (with_reducible refine Kd.C_drewN ?_ _) | (with_reducible refine Kd.C_drew ?_)))
                (case side2 => exact HC0_0.out)
                rintro e w77 ⟨v243, rfl, ho0, hb⟩
                refine ⟨_, rfl, ?_⟩
                have n0_ := Aside0.mk (Kd.R_elder' (by (with_reducible repeat (first | apply Kd.R_alloc | apply Kd.R_drewN | apply Kd.R_drew)); exact HO_229000.out) (Kd.R_base ho0) hb)
                have n1_ := Aside0.mk (Kd.R_elder' (by (with_reducible repeat (first | apply Kd.R_alloc | apply Kd.R_drewN | apply Kd.R_drew)); exact HO_234000.out) (Kd.R_base ho0) hb)
                have n2_ := Aside0.mk (Kd.R_elder' (by (with_reducible repeat (first | apply Kd.R_alloc | apply Kd.R_drewN | apply Kd.R_drew)); exact HO_241000.out) (Kd.R_base ho0) hb)
                have n3_ := Aside0.mk (Kd.R_lower (Kd.R_new' (Kd.R_new' (Kd.R_new' ho0 (Kd.R_lt (by (with_reducible repeat (first | apply Kd.R_alloc | apply Kd.R_drewN | apply Kd.R_drew)); exact HO_229000.out))) (Kd.R_lt (by (with_reducible repeat (first | apply Kd.R_alloc | apply Kd.R_drewN | apply Kd.R_drew)); exact HO_234000.out))) (Kd.R_lt (by (with_reducible repeat (first | apply Kd.R_alloc | apply Kd.R_drewN | apply Kd.R_drew)); exact HO_241000.out))) (below_size (by repeat (first | (with_reducible first | exact HB.out | apply below_alloc | apply pw_below_drewN | apply below_drew1 | refine below_set ?_ GE216.out | refine below_set ?_ GE228.out | refine below_set ?_ GE233.out | refine below_set ?_ GE240.out) | exact HB.out))))
                have n4_ := Aside0.mk (blk_below (g := gb216) (o := .cells #[.slice A0_0 l0_0.length c0_0, .int .i64 a0_1] 61 (0, 0)) (by (with_reducible repeat (first | refine blk_drewN ?_ _ | refine blk_drew ?_ | refine blk_alloc ?_ _)); exact BK216.out) hb)
                have n5_ := Aside0.mk (blk_below (g := gb228) (o := .cells #[.slice Ao26 t222.length co26, .int .i64 t225] 65 (0, 0)) (by (with_reducible repeat (first | refine blk_drewN ?_ _ | refine blk_drew ?_ | refine blk_alloc ?_ _)); exact BK228.out) hb)
                have n6_ := Aside0.mk (blk_below (g := gb233) (o := .cells #[.slice Ao32 t229.length co32, .int .i64 t232] 65 (0, 0)) (by (with_reducible repeat (first | refine blk_drewN ?_ _ | refine blk_drew ?_ | refine blk_alloc ?_ _)); exact BK233.out) hb)
                have n7_ := Aside0.mk (blk_below (g := gb240) (o := .cells #[.slice Ao38 t234.length co38, .int .i64 t237] 65 (0, 0)) (by (with_reducible repeat (first | refine blk_drewN ?_ _ | refine blk_drew ?_ | refine blk_alloc ?_ _)); exact BK240.out) hb)
                have n8_ := Aside0.mk (below_step (by repeat (first | (with_reducible first | exact HB.out | apply below_alloc | apply pw_below_drewN | apply below_drew1 | refine below_set ?_ GE216.out | refine below_set ?_ GE228.out | refine below_set ?_ GE233.out | refine below_set ?_ GE240.out) | exact HB.out)) hb)
                clear HO_229000
                clear HO_234000
                clear HO_241000
                clear BK216
                clear BK228
                clear BK233
                clear BK240
                clear HB
                have HO_229000 := n0_
                have HO_234000 := n1_
                have HO_241000 := n2_
                have HO244 := n3_
                have BK216 := n4_
                have BK228 := n5_
                have BK233 := n6_
                have BK240 := n7_
                have HB := n8_
                clear n0_ n1_ n2_ n3_ n4_ n5_ n6_ n7_ n8_
                (try clear hb)
                (try clear hb2)
                (try clear hk)
                (try clear hi)
                (try clear ho0)
                obtain ⟨Ao78, co78, eo78⟩ := Kd.R_slice HO244.out
                (first | subst eo78 | (injection eo78 with f1_ f2_ f3_; have f4_ := f1_.symm; have f5_ := f3_.symm; clear f1_ f2_ f3_; subst f4_; subst f5_))
                refine hK.out _ _ ⟨(blk_cell BK233.out 0).trans rfl, (blk_cell BK233.out 1).trans rfl, (blk_cell BK216.out 0).trans rfl, (blk_cell BK216.out 1).trans rfl⟩ (fun hHeld => ?_)
                clear hK K
                refine norm_ (a' := ?_) ?_ ?_
                rotate_left
                · show Act.put _ (some 67) _ = _
                  simp only [Act.put, List.setIfInBounds_toArray, List.set_cons_zero, List.set_cons_succ, i64_w, i32_w]
                  rfl
                refine one_ (i := 3) (N := some 68) #[true, true, true, true, false] rfl rfl (by kernel_rfl) (by decide) (fun K hK => ?_)
                refine goes_ Try.func47 (by kernel_rfl) rfl #[.agg #[.slice Ao32 t229.length co32, .int .i64 t232], .agg #[.slice Ao78 t242.length co78, .int .i64 t245]] (by rfl) rfl rfl (by (try simp only [List.map_toArray, List.map_cons, List.map_nil]); first | done | rfl | (simp only [List.length_drop, List.length_take]; rfl)) ?_
                with_reducible refine (laws_eqArena.calls kj16 _ _ t229 t232 _ _ t242 t245 true _ ?side1 ?side2 ?side3 ?side4 A72.out ?prem).mono ?_
                case prem => first|(rfl)|(exact HTr_.out)|(assumption)|(refine (Bool.eq_false_or_eq_true _).resolve_right (fun hz => ?_); rw [hz, if_neg (by decide)] at H; exact absurd ((Option.some.inj H).trans HTr_.out) (by simp))|(refine (Bool.eq_false_or_eq_true _).resolve_right (fun hz => ?_); have H := H'.out; rw [hz] at H; exact absurd ((laws_FnExactLay.j0_bad H).symm.trans HTr_.out) (by simp))|(refine (Bool.eq_false_or_eq_true _).resolve_right (fun hz => ?_); rw [hz, if_neg (by decide)] at H; exact absurd ((laws_FnExactLay.j0_bad H).symm.trans HTr_.out) (by simp))|(refine (Bool.eq_false_or_eq_true _).resolve_right (fun hz => ?_); have H := H'.out; rw [hz] at H; exact absurd ((laws_FnExactLay.j1_bad H).symm.trans HTr_.out) (by simp))|(refine (Bool.eq_false_or_eq_true _).resolve_right (fun hz => ?_); rw [hz, if_neg (by decide)] at H; exact absurd ((laws_FnExactLay.j1_bad H).symm.trans HTr_.out) (by simp))|(refine (Bool.eq_false_or_eq_true _).resolve_right (fun hz => ?_); have H := H'.out; rw [hz] at H; exact absurd ((laws_FnExactLay.j2_bad H).symm.trans HTr_.out) (by simp))|(refine (Bool.eq_false_or_eq_true _).resolve_right (fun hz => ?_); rw [hz, if_neg (by decide)] at H; exact absurd ((laws_FnExactLay.j2_bad H).symm.trans HTr_.out) (by simp))
                (case side1 => repeat (first | exact (Kd.R_reads' HO_234000.out).2.2 | (with_reducible refine Kd.C_alloc ?_ _) | (with_reducible refine Kd.C_drewN ?_ _) | (with_reducible refine Kd.C_drew ?_)))
                (case side2 => exact (Kd.R_reads' HO_234000.out).2.1)
                (case side3 => repeat (first | exact (Kd.R_reads' HO244.out).2.2 | (with_reducible refine Kd.C_alloc ?_ _) | (with_reducible refine Kd.C_drewN ?_ _) | (with_reducible refine Kd.C_drew ?_)))
                (case side4 => exact (Kd.R_reads' HO244.out).2.1)
                rintro e w79 ⟨rfl, hb⟩
                refine ⟨_, rfl, ?_⟩
                have n0_ := Aside0.mk (Kd.R_below (by (with_reducible repeat (first | apply Kd.R_alloc | apply Kd.R_drewN | apply Kd.R_drew)); exact HO_229000.out) hb)
                have n1_ := Aside0.mk (Kd.R_below (by (with_reducible repeat (first | apply Kd.R_alloc | apply Kd.R_drewN | apply Kd.R_drew)); exact HO_234000.out) hb)
                have n2_ := Aside0.mk (Kd.R_below (by (with_reducible repeat (first | apply Kd.R_alloc | apply Kd.R_drewN | apply Kd.R_drew)); exact HO_241000.out) hb)
                have n3_ := Aside0.mk (Kd.R_below (by (with_reducible repeat (first | apply Kd.R_alloc | apply Kd.R_drewN | apply Kd.R_drew)); exact HO244.out) hb)
                have n4_ := Aside0.mk (blk_below (g := gb216) (o := .cells #[.slice A0_0 l0_0.length c0_0, .int .i64 a0_1] 61 (0, 0)) (by (with_reducible repeat (first | refine blk_drewN ?_ _ | refine blk_drew ?_ | refine blk_alloc ?_ _)); exact BK216.out) hb)
                have n5_ := Aside0.mk (blk_below (g := gb228) (o := .cells #[.slice Ao26 t222.length co26, .int .i64 t225] 65 (0, 0)) (by (with_reducible repeat (first | refine blk_drewN ?_ _ | refine blk_drew ?_ | refine blk_alloc ?_ _)); exact BK228.out) hb)
                have n6_ := Aside0.mk (blk_below (g := gb233) (o := .cells #[.slice Ao32 t229.length co32, .int .i64 t232] 65 (0, 0)) (by (with_reducible repeat (first | refine blk_drewN ?_ _ | refine blk_drew ?_ | refine blk_alloc ?_ _)); exact BK233.out) hb)
                have n7_ := Aside0.mk (blk_below (g := gb240) (o := .cells #[.slice Ao38 t234.length co38, .int .i64 t237] 65 (0, 0)) (by (with_reducible repeat (first | refine blk_drewN ?_ _ | refine blk_drew ?_ | refine blk_alloc ?_ _)); exact BK240.out) hb)
                have n8_ := Aside0.mk (below_step (by repeat (first | (with_reducible first | exact HB.out | apply below_alloc | apply pw_below_drewN | apply below_drew1 | refine below_set ?_ GE216.out | refine below_set ?_ GE228.out | refine below_set ?_ GE233.out | refine below_set ?_ GE240.out) | exact HB.out)) hb)
                clear HO_229000
                clear HO_234000
                clear HO_241000
                clear HO244
                clear BK216
                clear BK228
                clear BK233
                clear BK240
                clear HB
                have HO_229000 := n0_
                have HO_234000 := n1_
                have HO_241000 := n2_
                have HO244 := n3_
                have BK216 := n4_
                have BK228 := n5_
                have BK233 := n6_
                have BK240 := n7_
                have HB := n8_
                clear n0_ n1_ n2_ n3_ n4_ n5_ n6_ n7_ n8_
                (try clear hb)
                (try clear hb2)
                (try clear hk)
                (try clear hi)
                refine hK.out _ _ ⟨(blk_cell BK233.out 0).trans rfl, (blk_cell BK233.out 1).trans rfl, (blk_cell BK216.out 0).trans rfl, (blk_cell BK216.out 1).trans rfl⟩ (fun hHeld => ?_)
                clear hK K
                refine norm_ (a' := ?_) ?_ ?_
                rotate_left
                · show Act.put _ (some 68) _ = _
                  simp only [Act.put, List.setIfInBounds_toArray, List.set_cons_zero, List.set_cons_succ, i64_w, i32_w]
                  rfl
                refine pure_ (i := 4) (N := some 69) (v := ?_) (a' := ?_) #[true, true, true, true, true] rfl rfl (by kernel_rfl) (fun _ _ _ h => h) (Or.inl ⟨by rfl, ?_⟩) ?_ ?_
                rotate_left
                · intro w'
                  go_simp
                  with_reducible rfl
                rotate_left
                · simp only [Act.put, List.setIfInBounds_toArray, List.set_cons_zero, List.set_cons_succ, i64_w, i32_w]
                  rfl
                refine done_ (by kernel_rfl) ?_
                have hnb80 := NB233_216.out
                have hnc80 := NB216_233.out
                have hnb81 := NB233_228.out
                have hnc81 := NB228_233.out
                have hnb82 := NB233_240.out
                have hnc82 := NB240_233.out
                obtain ⟨hcz83_0, hcz83_1, hfz83_0, hfz83_1⟩ := zb2 BK233.out
                go_upto_region 18 with (first | ((with_reducible refine gate_callee (f := 48) rfl ?_); refine goesL_ (some 72) rfl rfl Try.func48 (by kernel_rfl) rfl #[.agg #[.slice Ao32 t229.length co32, .int .i64 t232], .int .i64 1] rfl (by (try simp only [List.map_toArray, List.map_cons, List.map_nil]); first | done | rfl | (simp only [List.length_drop, List.length_take]; rfl)) ?_; (with_reducible refine (laws_markArena.calls kj16 (fun k_ => some k_ = (.slice Ao32 t229.length co32 : Value).ownBlock) (.slice Ao32 t229.length co32) t229 t232 1 t247 t248 w _ ?side1 ?side2 A74.out).mono ?_); (case side1 => repeat (first | (with_reducible first | exact HB.out | apply below_alloc | apply pw_below_drewN | apply below_drew1 | refine below_set ?_ GE216.out | refine below_set ?_ GE228.out | refine below_set ?_ GE233.out | refine below_set ?_ GE240.out) | exact HB.out)); (case side2 => exact Kd.R_tight rfl HO_234000.out); rintro e w84 ⟨rfl, hy0, hb, hkp⟩; refine ⟨_, rfl, ?_⟩; have n0_ := Aside0.mk (Kd.R_mono (ok' := fun k_ => some k_ ≠ (.slice Ao32 t229.length co32 : Value).ownBlock ∧ some k_ ≠ (.slice Ao38 t234.length co38 : Value).ownBlock ∧ some k_ ≠ (.slice Ao78 t242.length co78 : Value).ownBlock) (Kd.R_keptB (HO_229000.out) hkp (fun k_ hk_ hs_ => by first|exact hk_.1.1 hs_|(have h_ := hk_; (try simp only [and_assoc] at h_); first|exact h_ hs_|exact h_.1 hs_|exact h_.2 hs_|exact h_.2.1 hs_|exact h_.2.2 hs_|exact h_.2.2.1 hs_|exact h_.2.2.2 hs_|exact h_.2.2.2.1 hs_|exact h_.2.2.2.2 hs_|exact h_.2.2.2.2.1 hs_))) (fun k_ hk_ => by first|exact ⟨hk_.1.1.1, hk_.1.1.2, hk_.1.2⟩|(have h_ := hk_; (try simp only [and_assoc] at h_); refine ⟨?_, ?_, ?_⟩ <;> first|exact h_|exact h_.1|exact h_.2|exact h_.2.1|exact h_.2.2|exact h_.2.2.1|exact h_.2.2.2|exact h_.2.2.2.1|exact h_.2.2.2.2|exact h_.2.2.2.2.1))); have n1_ := Aside0.mk (Kd.R_reok rfl hy0 (fun k_ e_ => HO_234000.out.1 k_ e_)); have n2_ := Aside0.mk (Kd.R_mono (ok' := fun k_ => some k_ ≠ (.slice Ao26 t222.length co26 : Value).ownBlock ∧ some k_ ≠ (.slice Ao32 t229.length co32 : Value).ownBlock ∧ some k_ ≠ (.slice Ao78 t242.length co78 : Value).ownBlock) (Kd.R_keptB (HO_241000.out) hkp (fun k_ hk_ hs_ => by first|exact hk_.1.2 hs_|(have h_ := hk_; (try simp only [and_assoc] at h_); first|exact h_ hs_|exact h_.1 hs_|exact h_.2 hs_|exact h_.2.1 hs_|exact h_.2.2 hs_|exact h_.2.2.1 hs_|exact h_.2.2.2 hs_|exact h_.2.2.2.1 hs_|exact h_.2.2.2.2 hs_|exact h_.2.2.2.2.1 hs_))) (fun k_ hk_ => by first|exact ⟨hk_.1.1.1, hk_.1.1.2, hk_.1.2⟩|(have h_ := hk_; (try simp only [and_assoc] at h_); refine ⟨?_, ?_, ?_⟩ <;> first|exact h_|exact h_.1|exact h_.2|exact h_.2.1|exact h_.2.2|exact h_.2.2.1|exact h_.2.2.2|exact h_.2.2.2.1|exact h_.2.2.2.2|exact h_.2.2.2.2.1))); have n3_ := Aside0.mk (blk_kept (by first|exact BK216.out|exact blk_drewN BK216.out _|((with_reducible repeat (first|refine blk_drewN ?_ _|refine blk_drew ?_|refine blk_alloc ?_ _)); exact BK216.out)) hkp (fun hs_ => (fun e_ => (Kd.R_ne HO_234000.out BK216.out (by decide)) e_) hs_)); have n4_ := Aside0.mk (blk_kept (by first|exact BK228.out|exact blk_drewN BK228.out _|((with_reducible repeat (first|refine blk_drewN ?_ _|refine blk_drew ?_|refine blk_alloc ?_ _)); exact BK228.out)) hkp (fun hs_ => (fun e_ => (Kd.R_ne HO_234000.out BK228.out (by decide)) e_) hs_)); have n5_ := Aside0.mk (blk_kept (by first|exact BK233.out|exact blk_drewN BK233.out _|((with_reducible repeat (first|refine blk_drewN ?_ _|refine blk_drew ?_|refine blk_alloc ?_ _)); exact BK233.out)) hkp (fun hs_ => (fun e_ => (Kd.R_ne HO_234000.out BK233.out (by decide)) e_) hs_)); have n6_ := Aside0.mk (blk_kept (by first|exact BK240.out|exact blk_drewN BK240.out _|((with_reducible repeat (first|refine blk_drewN ?_ _|refine blk_drew ?_|refine blk_alloc ?_ _)); exact BK240.out)) hkp (fun hs_ => (fun e_ => (Kd.R_ne HO_234000.out BK240.out (by decide)) e_) hs_)); have n7_ := Aside0.mk (Kd.R_mono (ok' := fun k_ => some k_ ≠ (.slice Ao26 t222.length co26 : Value).ownBlock ∧ some k_ ≠ (.slice Ao32 t229.length co32 : Value).ownBlock ∧ some k_ ≠ (.slice Ao38 t234.length co38 : Value).ownBlock) (Kd.R_keptB (HO244.out) hkp (fun k_ hk_ hs_ => by first|exact hk_.1.2 hs_|(have h_ := hk_; (try simp only [and_assoc] at h_); first|exact h_ hs_|exact h_.1 hs_|exact h_.2 hs_|exact h_.2.1 hs_|exact h_.2.2 hs_|exact h_.2.2.1 hs_|exact h_.2.2.2 hs_|exact h_.2.2.2.1 hs_|exact h_.2.2.2.2 hs_|exact h_.2.2.2.2.1 hs_))) (fun k_ hk_ => by first|exact ⟨hk_.1.1.1.2, hk_.1.1.2, hk_.1.2⟩|(have h_ := hk_; (try simp only [and_assoc] at h_); refine ⟨?_, ?_, ?_⟩ <;> first|exact h_|exact h_.1|exact h_.2|exact h_.2.1|exact h_.2.2|exact h_.2.2.1|exact h_.2.2.2|exact h_.2.2.2.1|exact h_.2.2.2.2|exact h_.2.2.2.2.1))); have n8_ := Aside0.mk (hb); clear HO_229000; clear HO_234000; clear HO_241000; clear BK216; clear BK228; clear BK233; clear BK240; clear HO244; clear HB; have HO_229000 := n0_; have HO_234000 := n1_; have HO_241000 := n2_; have BK216 := n3_; have BK228 := n4_; have BK233 := n5_; have BK240 := n6_; have HO244 := n7_; have HB := n8_; clear n0_ n1_ n2_ n3_ n4_ n5_ n6_ n7_ n8_; (try clear hb); (try clear hkp); (try clear hy0)))
                (try simp only [Act.put, List.setIfInBounds_toArray, List.set_cons_zero, List.set_cons_succ])
                go_cut [90] (fun v90 wc => ∃ (kq : Nat) (x90_74 : Bool), v90 = .bool x90_74 ∧ Aside0 (laws_FnExactLay.j1 kq a1 a2 t226 t227 x90_74 l0_0 a0_1 t222 t225 t234 t237 = some r) ∧ Aside0 (kq ≤ kj16) ∧ Aside0 (Kd.R k81 81 wc w.heap.size (fun k_ => some k_ ≠ ((.slice Ao32 t229.length co32) : Value).ownBlock ∧ some k_ ≠ ((.slice Ao38 t234.length co38) : Value).ownBlock) (.slice Ao26 t222.length co26) t222) ∧ Aside0 (Kd.R k81 81 wc w.heap.size (fun k_ => some k_ ≠ ((.slice Ao26 t222.length co26) : Value).ownBlock ∧ some k_ ≠ ((.slice Ao38 t234.length co38) : Value).ownBlock) (.slice Ao32 t229.length co32) t248) ∧ Aside0 (Kd.R k81 81 wc w.heap.size (fun k_ => some k_ ≠ ((.slice Ao26 t222.length co26) : Value).ownBlock ∧ some k_ ≠ ((.slice Ao32 t229.length co32) : Value).ownBlock) (.slice Ao38 t234.length co38) t234) ∧ Aside0 (wc.heap[gb216]? = some (.cells #[(.slice A0_0 l0_0.length c0_0), .int .i64 a0_1] 61 (0, 0))) ∧ Aside0 (wc.heap[gb228]? = some (.cells #[(.slice Ao26 t222.length co26), .int .i64 t225] 65 (0, 0))) ∧ Aside0 (wc.heap[gb233]? = some (.cells #[(.slice Ao32 t229.length co32), .int .i64 t232] 65 (0, 0))) ∧ Aside0 (wc.heap[gb240]? = some (.cells #[(.slice Ao38 t234.length co38), .int .i64 t237] 65 (0, 0))) ∧ Aside0 (Below w.heap.size w wc))
                case first =>
                  have H := HC75.out
                  clear HC75
                  by_cases c85 : t247 < 0
                  · rw [if_pos c85] at H
                    have c85b0 : decide (t247 < 0) = true := decide_eq_true c85
                    clear c85
                    (first | rw [c85b0] | (simp only [i64_w, i32_w]; rw [c85b0]) | skip)
                    exact absurd ((laws_FnExactLay.j1_bad H).symm.trans HTr_.out) (by simp)
                  · rw [if_neg c85] at H
                    have c85b0 : decide (t247 < 0) = false := decide_eq_false c85
                    clear c85
                    (first | rw [c85b0] | (simp only [i64_w, i32_w]; rw [c85b0]) | skip)
                    replace H := Option.bind_eq_some_iff.mp H
                    obtain ⟨t249, A860, H⟩ := H
                    replace H : (if t249 = true then (if t238 = t226 then (laws_FnExactLay.j1 kj16 a1 a2 t226 t227 (t239 != t227) l0_0 a0_1 t222 t225 t234 t237) else (laws_FnExactLay.j1 kj16 a1 a2 t226 t227 true l0_0 a0_1 t222 t225 t234 t237)) else (laws_FnExactLay.j1 kj16 a1 a2 t226 t227 true l0_0 a0_1 t222 t225 t234 t237)) = some r := H
                    have A86 := Aside0.mk A860
                    clear A860
                    obtain ⟨hcz92_0, hcz92_1, hfz92_0, hfz92_1⟩ := zb2 BK240.out
                    obtain ⟨hcz95_0, hcz95_1, hfz95_0, hfz95_1⟩ := zb2 BK228.out
                    go_wp2_with (first|(go_at_call 47; (with_reducible refine (laws_eqArena.calls kj16 _ _ t234 t237 _ _ t222 t225 t249 _ ?side1 ?side2 ?side3 ?side4 A86.out ?prem).mono ?_); (case prem => first|(rfl)|(exact HTr_.out)|(assumption)|(refine (Bool.eq_false_or_eq_true _).resolve_right (fun hz => ?_); rw [hz, if_neg (by decide)] at H; exact absurd ((Option.some.inj H).trans HTr_.out) (by simp))|(refine (Bool.eq_false_or_eq_true _).resolve_right (fun hz => ?_); have H := H'.out; rw [hz] at H; exact absurd ((laws_FnExactLay.j0_bad H).symm.trans HTr_.out) (by simp))|(refine (Bool.eq_false_or_eq_true _).resolve_right (fun hz => ?_); rw [hz, if_neg (by decide)] at H; exact absurd ((laws_FnExactLay.j0_bad H).symm.trans HTr_.out) (by simp))|(refine (Bool.eq_false_or_eq_true _).resolve_right (fun hz => ?_); have H := H'.out; rw [hz] at H; exact absurd ((laws_FnExactLay.j1_bad H).symm.trans HTr_.out) (by simp))|(refine (Bool.eq_false_or_eq_true _).resolve_right (fun hz => ?_); rw [hz, if_neg (by decide)] at H; exact absurd ((laws_FnExactLay.j1_bad H).symm.trans HTr_.out) (by simp))|(refine (Bool.eq_false_or_eq_true _).resolve_right (fun hz => ?_); have H := H'.out; rw [hz] at H; exact absurd ((laws_FnExactLay.j2_bad H).symm.trans HTr_.out) (by simp))|(refine (Bool.eq_false_or_eq_true _).resolve_right (fun hz => ?_); rw [hz, if_neg (by decide)] at H; exact absurd ((laws_FnExactLay.j2_bad H).symm.trans HTr_.out) (by simp))); (case side1 => repeat (first | exact (Kd.R_reads' HO_241000.out).2.2 | (with_reducible refine Kd.C_alloc ?_ _) | (with_reducible refine Kd.C_drewN ?_ _) | (with_reducible refine Kd.C_drew ?_))); (case side2 => exact (Kd.R_reads' HO_241000.out).2.1); (case side3 => repeat (first | exact (Kd.R_reads' HO_229000.out).2.2 | (with_reducible refine Kd.C_alloc ?_ _) | (with_reducible refine Kd.C_drewN ?_ _) | (with_reducible refine Kd.C_drew ?_))); (case side4 => exact (Kd.R_reads' HO_229000.out).2.1); rintro e w96 ⟨rfl, hb⟩; have n0_ := Aside0.mk (Kd.R_below (by (with_reducible repeat (first | apply Kd.R_alloc | apply Kd.R_drewN | apply Kd.R_drew)); exact HO_229000.out) hb); have n1_ := Aside0.mk (Kd.R_below (by (with_reducible repeat (first | apply Kd.R_alloc | apply Kd.R_drewN | apply Kd.R_drew)); exact HO_234000.out) hb); have n2_ := Aside0.mk (Kd.R_below (by (with_reducible repeat (first | apply Kd.R_alloc | apply Kd.R_drewN | apply Kd.R_drew)); exact HO_241000.out) hb); have n3_ := Aside0.mk (Kd.R_below (by (with_reducible repeat (first | apply Kd.R_alloc | apply Kd.R_drewN | apply Kd.R_drew)); exact HO244.out) hb); have n4_ := Aside0.mk (blk_below (g := gb216) (o := .cells #[.slice A0_0 l0_0.length c0_0, .int .i64 a0_1] 61 (0, 0)) (by (with_reducible repeat (first | refine blk_drewN ?_ _ | refine blk_drew ?_ | refine blk_alloc ?_ _)); exact BK216.out) hb); have n5_ := Aside0.mk (blk_below (g := gb228) (o := .cells #[.slice Ao26 t222.length co26, .int .i64 t225] 65 (0, 0)) (by (with_reducible repeat (first | refine blk_drewN ?_ _ | refine blk_drew ?_ | refine blk_alloc ?_ _)); exact BK228.out) hb); have n6_ := Aside0.mk (blk_below (g := gb233) (o := .cells #[.slice Ao32 t229.length co32, .int .i64 t232] 65 (0, 0)) (by (with_reducible repeat (first | refine blk_drewN ?_ _ | refine blk_drew ?_ | refine blk_alloc ?_ _)); exact BK233.out) hb); have n7_ := Aside0.mk (blk_below (g := gb240) (o := .cells #[.slice Ao38 t234.length co38, .int .i64 t237] 65 (0, 0)) (by (with_reducible repeat (first | refine blk_drewN ?_ _ | refine blk_drew ?_ | refine blk_alloc ?_ _)); exact BK240.out) hb); have n8_ := Aside0.mk (below_step (by repeat (first | (with_reducible first | exact HB.out | apply below_alloc | apply pw_below_drewN | apply below_drew1 | refine below_set ?_ GE216.out | refine below_set ?_ GE228.out | refine below_set ?_ GE233.out | refine below_set ?_ GE240.out) | exact HB.out)) hb); clear HO_229000; clear HO_234000; clear HO_241000; clear HO244; clear BK216; clear BK228; clear BK233; clear BK240; clear HB; have HO_229000 := n0_; have HO_234000 := n1_; have HO_241000 := n2_; have HO244 := n3_; have BK216 := n4_; have BK228 := n5_; have BK233 := n6_; have BK240 := n7_; have HB := n8_; clear n0_ n1_ n2_ n3_ n4_ n5_ n6_ n7_ n8_; (try clear hb); (try clear hb2); (try clear hk); (try clear hi); (refine Classical.byCases (p := (t249 = true)) (fun c87 => ?zp18) (fun c87 => ?zn18); (case' zn18 => (replace c87 := Bool.eq_false_iff.mpr c87); (subst c87); (have H1 : (laws_FnExactLay.j1 kj16 a1 a2 t226 t227 true l0_0 a0_1 t222 t225 t234 t237) = some r := by rw [if_neg (show ¬ (false = true) by decide)] at H; exact H); (clear H); (have H := H1); (clear H1); (exact absurd ((laws_FnExactLay.j1_bad H).symm.trans HTr_.out) (by simp))); (case' zp18 => (subst c87); (have H1 : (if t238 = t226 then (laws_FnExactLay.j1 kj16 a1 a2 t226 t227 (t239 != t227) l0_0 a0_1 t222 t225 t234 t237) else (laws_FnExactLay.j1 kj16 a1 a2 t226 t227 true l0_0 a0_1 t222 t225 t234 t237)) = some r := by rw [if_pos rfl] at H; exact H); (clear H); (have H := H1); (clear H1); (refine Classical.byCases (p := (t238 = t226)) (fun c88 => ?zp17) (fun c88 => ?zn17); (case' zn17 => (rw [if_neg c88] at H); (have c88b0 : (t238 == t226) = false := beq_eq_false_iff_ne.mpr c88); (have c88b1 : (t238 != t226) = true := bne_iff_ne.mpr c88); (exact absurd ((laws_FnExactLay.j1_bad H).symm.trans HTr_.out) (by simp))); (case' zp17 => (rw [if_pos c88] at H); (have c88b0 : (t238 == t226) = true := beq_iff_eq.mpr c88); (have c88b1 : (t238 != t226) = false := bne_eq_false_iff_eq.mpr c88); (clear c88); (have H' := Aside0.mk H); (clear H); (have hnb89 := NB240_216.out); (have hnc89 := NB216_240.out); (have hnb90 := NB240_228.out); (have hnc90 := NB228_240.out); (have hnb91 := NB240_233.out); (have hnc91 := NB233_240.out); (obtain ⟨hcz92_0, hcz92_1, hfz92_0, hfz92_1⟩ := zb2 BK240.out); (have hnb93 := NB228_216.out); (have hnc93 := NB216_228.out); (have hnb94 := NB228_233.out); (have hnc94 := NB233_228.out); (obtain ⟨hcz95_0, hcz95_1, hfz95_0, hfz95_1⟩ := zb2 BK228.out)))))))
                    · go_meet
                      case rel => exact ⟨_, ((t239 != t227)), (by first | rfl | (simp; done) | (simp [*]; done)), H', ⟨by have := HJ16.out; first | omega | exact Nat.le_refl _⟩, ⟨by (with_reducible repeat (first | apply Kd.R_alloc | apply Kd.R_drewN | apply Kd.R_drew)); exact Kd.R_mono HO_229000.out (fun _ hk => ⟨hk.1, hk.2.1⟩)⟩, ⟨by (with_reducible repeat (first | apply Kd.R_alloc | apply Kd.R_drewN | apply Kd.R_drew)); exact Kd.R_mono HO_234000.out (fun _ hk => ⟨hk.1.1, hk.1.2⟩)⟩, ⟨by (with_reducible repeat (first | apply Kd.R_alloc | apply Kd.R_drewN | apply Kd.R_drew)); exact Kd.R_mono HO_241000.out (fun _ hk => ⟨hk.1, hk.2.1⟩)⟩, ⟨by (with_reducible repeat (first | refine blk_drewN ?_ _ | refine blk_drew ?_ | refine blk_alloc ?_ _)); exact BK216.out⟩, ⟨by (with_reducible repeat (first | refine blk_drewN ?_ _ | refine blk_drew ?_ | refine blk_alloc ?_ _)); exact BK228.out⟩, ⟨by (with_reducible repeat (first | refine blk_drewN ?_ _ | refine blk_drew ?_ | refine blk_alloc ?_ _)); exact BK233.out⟩, ⟨by (with_reducible repeat (first | refine blk_drewN ?_ _ | refine blk_drew ?_ | refine blk_alloc ?_ _)); exact BK240.out⟩, ⟨by repeat (first | (with_reducible first | exact HB.out | apply below_alloc | apply pw_below_drewN | apply below_drew1 | refine below_set ?_ GE216.out | refine below_set ?_ GE228.out | refine below_set ?_ GE233.out | refine below_set ?_ GE240.out) | exact HB.out)⟩⟩
                case rest =>
                  clear HC75
                  try clear c1
                  try clear c2
                  try clear p2
                  try clear c3
                  try clear c4
                  try clear c4b0
                  try clear c4b1
                  try clear c5
                  try clear c6
                  try clear c6b0
                  try clear c6b1
                  try clear c7
                  try clear c8
                  try clear c9
                  try clear c9b0
                  try clear c10
                  try clear c11
                  try clear c27
                  try clear c33
                  try clear c34
                  try clear c39
                  try clear c40
                  try clear c41
                  try clear c43
                  try clear c44
                  try clear c45
                  try clear c45b0
                  try clear c45b1
                  try clear c46
                  try clear c47
                  try clear c48
                  try clear c50
                  try clear c51
                  try clear c54
                  try clear c55
                  try clear c56
                  try clear c58
                  try clear c59
                  try clear c62
                  try clear c63
                  try clear c64
                  try clear c66
                  try clear c67
                  try clear c70
                  try clear c73
                  try clear c80
                  try clear c81
                  try clear c82
                  try clear c85
                  try clear c85b0
                  try clear c87
                  try clear c88
                  try clear c88b0
                  try clear c88b1
                  try clear c89
                  try clear c90
                  try clear c91
                  try clear c93
                  try clear c94
                  try clear c97
                  try clear c98
                  try clear c99
                  try clear c101
                  try clear c102
                  try clear c105
                  try clear c106
                  try clear c107
                  try clear c109
                  try clear c110
                  try clear hcz100_0
                  try clear hcz100_1
                  try clear hcz103_0
                  try clear hcz103_1
                  try clear hcz108_0
                  try clear hcz108_1
                  try clear hcz111_0
                  try clear hcz111_1
                  try clear hcz11_0
                  try clear hcz11_1
                  try clear hcz19_0
                  try clear hcz19_1
                  try clear hcz21_0
                  try clear hcz21_1
                  try clear hcz28_0
                  try clear hcz28_1
                  try clear hcz29_0
                  try clear hcz29_1
                  try clear hcz35_0
                  try clear hcz35_1
                  try clear hcz42_0
                  try clear hcz42_1
                  try clear hcz49_0
                  try clear hcz49_1
                  try clear hcz52_0
                  try clear hcz52_1
                  try clear hcz57_0
                  try clear hcz57_1
                  try clear hcz60_0
                  try clear hcz60_1
                  try clear hcz65_0
                  try clear hcz65_1
                  try clear hcz68_0
                  try clear hcz68_1
                  try clear hcz83_0
                  try clear hcz83_1
                  try clear hcz92_0
                  try clear hcz92_1
                  try clear hcz95_0
                  try clear hcz95_1
                  try clear hfz100_0
                  try clear hfz100_1
                  try clear hfz103_0
                  try clear hfz103_1
                  try clear hfz108_0
                  try clear hfz108_1
                  try clear hfz111_0
                  try clear hfz111_1
                  try clear hfz11_0
                  try clear hfz11_1
                  try clear hfz19_0
                  try clear hfz19_1
                  try clear hfz21_0
                  try clear hfz21_1
                  try clear hfz28_0
                  try clear hfz28_1
                  try clear hfz29_0
                  try clear hfz29_1
                  try clear hfz35_0
                  try clear hfz35_1
                  try clear hfz42_0
                  try clear hfz42_1
                  try clear hfz49_0
                  try clear hfz49_1
                  try clear hfz52_0
                  try clear hfz52_1
                  try clear hfz57_0
                  try clear hfz57_1
                  try clear hfz60_0
                  try clear hfz60_1
                  try clear hfz65_0
                  try clear hfz65_1
                  try clear hfz68_0
                  try clear hfz68_1
                  try clear hfz83_0
                  try clear hfz83_1
                  try clear hfz92_0
                  try clear hfz92_1
                  try clear hfz95_0
                  try clear hfz95_1
                  try clear p2
                  obtain ⟨kq, x90_74, rfl, HA, HJ74, HO_229000, HO_234000, HO_241000, BK216, BK228, BK233, BK240, HB⟩ := hcut
                  have hl234000_74 := (Kd.R_reads' HO_234000.out).1
                  rw [hl234000_74] at HO_234000
                  (try simp only [hl234000_74])
                  (try simp only [hl234000_74] at BK216)
                  (try simp only [hl234000_74] at BK228)
                  (try simp only [hl234000_74] at BK233)
                  (try simp only [hl234000_74] at BK240)
                  (try simp only [hl234000_74] at HO_229000)
                  (try simp only [hl234000_74] at HO_241000)
                  cases kq with
                  | zero => exact absurd HA.out (by simp [laws_FnExactLay.j1])
                  | succ kj74 =>
                    have H := HA.out
                    clear HA
                    simp only [laws_FnExactLay.j1] at H
                    by_cases c113 : x90_74 = true
                    · subst c113
                      have H1 : (some false) = some r := by rw [if_pos rfl] at H; exact H
                      clear H
                      have H := H1
                      clear H1
                      exact absurd ((Option.some.inj H).trans HTr_.out) (by simp)
                    · replace c113 := Bool.eq_false_iff.mpr c113
                      subst c113
                      have H1 : ((laws_markArena.f kj74 t234 t237 1).bind fun bt250 => ((laws_heldArena.f kj74 bt250.2 t237 1).bind fun t252 => (if t252 < 0 then (some false) else (if t252 = bt250.1 then ((laws_toArena.f kj74 l0_0 a0_1).bind fun bt253 => ((impl_Lay.f kj74 bt253.1 bt253.2 a1 a2).bind fun bt257 => ((laws_eqArena.f kj74 bt257.1 bt257.2.1 t222 t225).bind fun t264 => (if t264 = true then (if bt257.2.2.1 = t226 then (laws_FnExactLay.j2 kj74 bt250.1 (bt257.2.2.2 != t227) bt250.2 t237) else (laws_FnExactLay.j2 kj74 bt250.1 true bt250.2 t237)) else (laws_FnExactLay.j2 kj74 bt250.1 true bt250.2 t237))))) else (some false))))) = some r := by rw [if_neg (show ¬ (false = true) by decide)] at H; exact H
                      clear H
                      have H := H1
                      clear H1
                      replace H := Option.bind_eq_some_iff.mp H
                      obtain ⟨⟨t250, t251⟩, A1140, H⟩ := H
                      replace H : ((laws_heldArena.f kj74 t251 t237 1).bind fun t252 => (if t252 < 0 then (some false) else (if t252 = t250 then ((laws_toArena.f kj74 l0_0 a0_1).bind fun bt253 => ((impl_Lay.f kj74 bt253.1 bt253.2 a1 a2).bind fun bt257 => ((laws_eqArena.f kj74 bt257.1 bt257.2.1 t222 t225).bind fun t264 => (if t264 = true then (if bt257.2.2.1 = t226 then (laws_FnExactLay.j2 kj74 t250 (bt257.2.2.2 != t227) t251 t237) else (laws_FnExactLay.j2 kj74 t250 true t251 t237)) else (laws_FnExactLay.j2 kj74 t250 true t251 t237))))) else (some false)))) = some r := H
                      have A114 := Aside0.mk A1140
                      clear A1140
                      replace H := Option.bind_eq_some_iff.mp H
                      obtain ⟨t252, A1150, H⟩ := H
                      replace H : (if t252 < 0 then (some false) else (if t252 = t250 then ((laws_toArena.f kj74 l0_0 a0_1).bind fun bt253 => ((impl_Lay.f kj74 bt253.1 bt253.2 a1 a2).bind fun bt257 => ((laws_eqArena.f kj74 bt257.1 bt257.2.1 t222 t225).bind fun t264 => (if t264 = true then (if bt257.2.2.1 = t226 then (laws_FnExactLay.j2 kj74 t250 (bt257.2.2.2 != t227) t251 t237) else (laws_FnExactLay.j2 kj74 t250 true t251 t237)) else (laws_FnExactLay.j2 kj74 t250 true t251 t237))))) else (some false))) = some r := H
                      have A115 := Aside0.mk A1150
                      clear A1150
                      by_cases c116 : t252 < 0
                      · rw [if_pos c116] at H
                        have c116b0 : decide (t252 < 0) = true := decide_eq_true c116
                        clear c116
                        exact absurd ((Option.some.inj H).trans HTr_.out) (by simp)
                      · rw [if_neg c116] at H
                        have c116b0 : decide (t252 < 0) = false := decide_eq_false c116
                        clear c116
                        by_cases c124 : t252 = t250
                        · rw [if_pos c124] at H
                          have c124b0 : (t252 == t250) = true := beq_iff_eq.mpr c124
                          have c124b1 : (t252 != t250) = false := bne_eq_false_iff_eq.mpr c124
                          clear c124
                          replace H := Option.bind_eq_some_iff.mp H
                          obtain ⟨⟨t253, t256⟩, A1250, H⟩ := H
                          replace H : ((impl_Lay.f kj74 t253 t256 a1 a2).bind fun bt257 => ((laws_eqArena.f kj74 bt257.1 bt257.2.1 t222 t225).bind fun t264 => (if t264 = true then (if bt257.2.2.1 = t226 then (laws_FnExactLay.j2 kj74 t250 (bt257.2.2.2 != t227) t251 t237) else (laws_FnExactLay.j2 kj74 t250 true t251 t237)) else (laws_FnExactLay.j2 kj74 t250 true t251 t237)))) = some r := H
                          have A125 := Aside0.mk A1250
                          clear A1250
                          replace H := Option.bind_eq_some_iff.mp H
                          obtain ⟨⟨t257, t260, t261, t262⟩, A1260, H⟩ := H
                          replace H : ((laws_eqArena.f kj74 t257 t260 t222 t225).bind fun t264 => (if t264 = true then (if t261 = t226 then (laws_FnExactLay.j2 kj74 t250 (t262 != t227) t251 t237) else (laws_FnExactLay.j2 kj74 t250 true t251 t237)) else (laws_FnExactLay.j2 kj74 t250 true t251 t237))) = some r := H
                          have A126 := Aside0.mk A1260
                          clear A1260
                          have HC127 := Aside0.mk H
                          clear H
                          have hnb128 := NB240_216.out
                          have hnc128 := NB216_240.out
                          have hnb129 := NB240_228.out
                          have hnc129 := NB228_240.out
                          have hnb130 := NB240_233.out
                          have hnc130 := NB233_240.out
                          obtain ⟨hcz131_0, hcz131_1, hfz131_0, hfz131_1⟩ := zb2 BK240.out
                          go_upto_region 29 with (first | ((with_reducible refine gate_callee (f := 48) rfl ?_); refine goesL_ (some 93) rfl rfl Try.func48 (by kernel_rfl) rfl #[.agg #[.slice Ao38 t234.length co38, .int .i64 t237], .int .i64 1] rfl (by (try simp only [List.map_toArray, List.map_cons, List.map_nil]); first | done | rfl | (simp only [List.length_drop, List.length_take]; rfl)) ?_; (with_reducible refine (laws_markArena.calls kj74 (fun k_ => some k_ = (.slice Ao38 t234.length co38 : Value).ownBlock) (.slice Ao38 t234.length co38) t234 t237 1 t250 t251 w _ ?side1 ?side2 A114.out).mono ?_); (case side1 => repeat (first | (with_reducible first | exact HB.out | apply below_alloc | apply pw_below_drewN | apply below_drew1 | refine below_set ?_ GE216.out | refine below_set ?_ GE228.out | refine below_set ?_ GE233.out | refine below_set ?_ GE240.out) | exact HB.out)); (case side2 => exact Kd.R_tight rfl HO_241000.out); rintro e w132 ⟨rfl, hy0, hb, hkp⟩; refine ⟨_, rfl, ?_⟩; have n0_ := Aside0.mk (Kd.R_mono (ok' := fun k_ => some k_ ≠ (.slice Ao32 t248.length co32 : Value).ownBlock ∧ some k_ ≠ (.slice Ao38 t234.length co38 : Value).ownBlock) (Kd.R_keptB (HO_229000.out) hkp (fun k_ hk_ hs_ => by first|exact hk_.2 hs_|(have h_ := hk_; (try simp only [and_assoc] at h_); first|exact h_ hs_|exact h_.1 hs_|exact h_.2 hs_|exact h_.2.1 hs_|exact h_.2.2 hs_|exact h_.2.2.1 hs_|exact h_.2.2.2 hs_|exact h_.2.2.2.1 hs_|exact h_.2.2.2.2 hs_|exact h_.2.2.2.2.1 hs_))) (fun k_ hk_ => by first|exact ⟨hk_.1.1, hk_.1.2⟩|(have h_ := hk_; (try simp only [and_assoc] at h_); refine ⟨?_, ?_⟩ <;> first|exact h_|exact h_.1|exact h_.2|exact h_.2.1|exact h_.2.2|exact h_.2.2.1|exact h_.2.2.2|exact h_.2.2.2.1|exact h_.2.2.2.2|exact h_.2.2.2.2.1))); have n1_ := Aside0.mk (Kd.R_mono (ok' := fun k_ => some k_ ≠ (.slice Ao26 t222.length co26 : Value).ownBlock ∧ some k_ ≠ (.slice Ao38 t234.length co38 : Value).ownBlock) (Kd.R_keptB (HO_234000.out) hkp (fun k_ hk_ hs_ => by first|exact hk_.2 hs_|(have h_ := hk_; (try simp only [and_assoc] at h_); first|exact h_ hs_|exact h_.1 hs_|exact h_.2 hs_|exact h_.2.1 hs_|exact h_.2.2 hs_|exact h_.2.2.1 hs_|exact h_.2.2.2 hs_|exact h_.2.2.2.1 hs_|exact h_.2.2.2.2 hs_|exact h_.2.2.2.2.1 hs_))) (fun k_ hk_ => by first|exact ⟨hk_.1.1, hk_.1.2⟩|(have h_ := hk_; (try simp only [and_assoc] at h_); refine ⟨?_, ?_⟩ <;> first|exact h_|exact h_.1|exact h_.2|exact h_.2.1|exact h_.2.2|exact h_.2.2.1|exact h_.2.2.2|exact h_.2.2.2.1|exact h_.2.2.2.2|exact h_.2.2.2.2.1))); have n2_ := Aside0.mk (Kd.R_reok rfl hy0 (fun k_ e_ => HO_241000.out.1 k_ e_)); have n3_ := Aside0.mk (blk_kept (by first|exact BK216.out|exact blk_drewN BK216.out _|((with_reducible repeat (first|refine blk_drewN ?_ _|refine blk_drew ?_|refine blk_alloc ?_ _)); exact BK216.out)) hkp (fun hs_ => (fun e_ => (Kd.R_ne HO_241000.out BK216.out (by decide)) e_) hs_)); have n4_ := Aside0.mk (blk_kept (by first|exact BK228.out|exact blk_drewN BK228.out _|((with_reducible repeat (first|refine blk_drewN ?_ _|refine blk_drew ?_|refine blk_alloc ?_ _)); exact BK228.out)) hkp (fun hs_ => (fun e_ => (Kd.R_ne HO_241000.out BK228.out (by decide)) e_) hs_)); have n5_ := Aside0.mk (blk_kept (by first|exact BK233.out|exact blk_drewN BK233.out _|((with_reducible repeat (first|refine blk_drewN ?_ _|refine blk_drew ?_|refine blk_alloc ?_ _)); exact BK233.out)) hkp (fun hs_ => (fun e_ => (Kd.R_ne HO_241000.out BK233.out (by decide)) e_) hs_)); have n6_ := Aside0.mk (blk_kept (by first|exact BK240.out|exact blk_drewN BK240.out _|((with_reducible repeat (first|refine blk_drewN ?_ _|refine blk_drew ?_|refine blk_alloc ?_ _)); exact BK240.out)) hkp (fun hs_ => (fun e_ => (Kd.R_ne HO_241000.out BK240.out (by decide)) e_) hs_)); have n7_ := Aside0.mk (hb); clear HO_229000; clear HO_234000; clear HO_241000; clear BK216; clear BK228; clear BK233; clear BK240; clear HB; have HO_229000 := n0_; have HO_234000 := n1_; have HO_241000 := n2_; have BK216 := n3_; have BK228 := n4_; have BK233 := n5_; have BK240 := n6_; have HB := n7_; clear n0_ n1_ n2_ n3_ n4_ n5_ n6_ n7_; (try clear hb); (try clear hkp); (try clear hy0); have hcz133_0 : w132.cell? ⟨gb240, 0, none⟩ = some (.slice Ao38 t234.length co38) := (blk_cell BK240.out 0).trans rfl; have hcz133_1 : w132.cell? ⟨gb240, 1, none⟩ = some (.int .i64 t237) := (blk_cell BK240.out 1).trans rfl; have hfz133_0 := blk_frozen BK240.out 0; have hfz133_1 := blk_frozen BK240.out 1) | ((with_reducible refine gate_callee (f := 49) rfl ?_); refine goesL_ (some 96) rfl rfl Try.func49 (by kernel_rfl) rfl #[.agg #[.slice Ao38 t251.length co38, .int .i64 t237], .int .i64 1] rfl (by (try simp only [List.map_toArray, List.map_cons, List.map_nil]); first | done | (rw [show t251.length = t234.length from (Kd.R_reads' HO_241000.out).1.symm] <;> rfl) | rfl | (simp only [List.length_drop, List.length_take]; rfl)) ?_; (with_reducible refine (laws_heldArena.calls kj74 _ _ t251 t237 1 t252 _ ?side1 ?side2 A115.out ?prem).mono ?_); (case prem => first|(exact HTr_.out)|(intro hz; rw [if_pos hz] at H; exact absurd ((Option.some.inj H).trans HTr_.out) (by simp))|(intro hz; rw [if_pos hz] at H; exact absurd (Option.some.inj H) (by have := HTr_.out; omega))|(exact of_decide_eq_false (by assumption))|(omega)); (case side1 => repeat (first | exact (Kd.R_reads' HO_241000.out).2.2 | (with_reducible refine Kd.C_alloc ?_ _) | (with_reducible refine Kd.C_drewN ?_ _) | (with_reducible refine Kd.C_drew ?_))); (case side2 => rw [show t251.length = t234.length from (Kd.R_reads' HO_241000.out).1.symm]; exact (Kd.R_reads' HO_241000.out).2.1); rintro e w134 ⟨rfl, hb⟩; refine ⟨_, rfl, ?_⟩; have n0_ := Aside0.mk (Kd.R_below (by (with_reducible repeat (first | apply Kd.R_alloc | apply Kd.R_drewN | apply Kd.R_drew)); exact HO_229000.out) hb); have n1_ := Aside0.mk (Kd.R_below (by (with_reducible repeat (first | apply Kd.R_alloc | apply Kd.R_drewN | apply Kd.R_drew)); exact HO_234000.out) hb); have n2_ := Aside0.mk (Kd.R_below (by (with_reducible repeat (first | apply Kd.R_alloc | apply Kd.R_drewN | apply Kd.R_drew)); exact HO_241000.out) hb); have n3_ := Aside0.mk (blk_below (g := gb216) (o := .cells #[.slice A0_0 l0_0.length c0_0, .int .i64 a0_1] 61 (0, 0)) (by (with_reducible repeat (first | refine blk_drewN ?_ _ | refine blk_drew ?_ | refine blk_alloc ?_ _)); exact BK216.out) hb); have n4_ := Aside0.mk (blk_below (g := gb228) (o := .cells #[.slice Ao26 t222.length co26, .int .i64 t225] 65 (0, 0)) (by (with_reducible repeat (first | refine blk_drewN ?_ _ | refine blk_drew ?_ | refine blk_alloc ?_ _)); exact BK228.out) hb); have n5_ := Aside0.mk (blk_below (g := gb233) (o := .cells #[.slice Ao32 t248.length co32, .int .i64 t232] 65 (0, 0)) (by (with_reducible repeat (first | refine blk_drewN ?_ _ | refine blk_drew ?_ | refine blk_alloc ?_ _)); exact BK233.out) hb); have n6_ := Aside0.mk (blk_below (g := gb240) (o := .cells #[.slice Ao38 t234.length co38, .int .i64 t237] 65 (0, 0)) (by (with_reducible repeat (first | refine blk_drewN ?_ _ | refine blk_drew ?_ | refine blk_alloc ?_ _)); exact BK240.out) hb); have n7_ := Aside0.mk (below_step (by repeat (first | (with_reducible first | exact HB.out | apply below_alloc | apply pw_below_drewN | apply below_drew1 | refine below_set ?_ GE216.out | refine below_set ?_ GE228.out | refine below_set ?_ GE233.out | refine below_set ?_ GE240.out) | exact HB.out)) hb); clear HO_229000; clear HO_234000; clear HO_241000; clear BK216; clear BK228; clear BK233; clear BK240; clear HB; have HO_229000 := n0_; have HO_234000 := n1_; have HO_241000 := n2_; have BK216 := n3_; have BK228 := n4_; have BK233 := n5_; have BK240 := n6_; have HB := n7_; clear n0_ n1_ n2_ n3_ n4_ n5_ n6_ n7_; (try clear hb); (try clear hb2); (try clear hk); (try clear hi); have hnb135 := NB216_228.out; have hnc135 := NB228_216.out; have hnb136 := NB216_233.out; have hnc136 := NB233_216.out; have hcz137_0 : w134.cell? ⟨gb216, 0, none⟩ = some (.slice A0_0 l0_0.length c0_0) := (blk_cell BK216.out 0).trans rfl; have hcz137_1 : w134.cell? ⟨gb216, 1, none⟩ = some (.int .i64 a0_1) := (blk_cell BK216.out 1).trans rfl; have hfz137_0 := blk_frozen BK216.out 0; have hfz137_1 := blk_frozen BK216.out 1) | ((with_reducible refine gate_callee (f := 45) rfl ?_); refine goesL_ (some 104) rfl rfl Try.func45 (by kernel_rfl) rfl #[.agg #[.slice A0_0 l0_0.length c0_0, .int .i64 a0_1]] rfl (by (try simp only [List.map_toArray, List.map_cons, List.map_nil]); first | done | rfl | (simp only [List.length_drop, List.length_take]; rfl)) ?_; (with_reducible refine (laws_toArena.calls kj74 _ _ l0_0 a0_1 t253 t256 _ ?side1 ?side2 A125.out).mono ?_); (case side1 => repeat (first | exact (Kd.C_below HR0_0.out HB.out) | (with_reducible refine Kd.C_alloc ?_ _) | (with_reducible refine Kd.C_drewN ?_ _) | (with_reducible refine Kd.C_drew ?_))); (case side2 => exact HC0_0.out); rintro e w138 ⟨v254, rfl, ho0, hb⟩; refine ⟨_, rfl, ?_⟩; have n0_ := Aside0.mk (Kd.R_elder' (by (with_reducible repeat (first | apply Kd.R_alloc | apply Kd.R_drewN | apply Kd.R_drew)); exact HO_229000.out) (Kd.R_base ho0) hb); have n1_ := Aside0.mk (Kd.R_elder' (by (with_reducible repeat (first | apply Kd.R_alloc | apply Kd.R_drewN | apply Kd.R_drew)); exact HO_234000.out) (Kd.R_base ho0) hb); have n2_ := Aside0.mk (Kd.R_elder' (by (with_reducible repeat (first | apply Kd.R_alloc | apply Kd.R_drewN | apply Kd.R_drew)); exact HO_241000.out) (Kd.R_base ho0) hb); have n3_ := Aside0.mk (Kd.R_lower (Kd.R_new' (Kd.R_new' (Kd.R_new' ho0 (Kd.R_lt (by (with_reducible repeat (first | apply Kd.R_alloc | apply Kd.R_drewN | apply Kd.R_drew)); exact HO_229000.out))) (Kd.R_lt (by (with_reducible repeat (first | apply Kd.R_alloc | apply Kd.R_drewN | apply Kd.R_drew)); exact HO_234000.out))) (Kd.R_lt (by (with_reducible repeat (first | apply Kd.R_alloc | apply Kd.R_drewN | apply Kd.R_drew)); exact HO_241000.out))) (below_size (by repeat (first | (with_reducible first | exact HB.out | apply below_alloc | apply pw_below_drewN | apply below_drew1 | refine below_set ?_ GE216.out | refine below_set ?_ GE228.out | refine below_set ?_ GE233.out | refine below_set ?_ GE240.out) | exact HB.out)))); have n4_ := Aside0.mk (blk_below (g := gb216) (o := .cells #[.slice A0_0 l0_0.length c0_0, .int .i64 a0_1] 61 (0, 0)) (by (with_reducible repeat (first | refine blk_drewN ?_ _ | refine blk_drew ?_ | refine blk_alloc ?_ _)); exact BK216.out) hb); have n5_ := Aside0.mk (blk_below (g := gb228) (o := .cells #[.slice Ao26 t222.length co26, .int .i64 t225] 65 (0, 0)) (by (with_reducible repeat (first | refine blk_drewN ?_ _ | refine blk_drew ?_ | refine blk_alloc ?_ _)); exact BK228.out) hb); have n6_ := Aside0.mk (blk_below (g := gb233) (o := .cells #[.slice Ao32 t248.length co32, .int .i64 t232] 65 (0, 0)) (by (with_reducible repeat (first | refine blk_drewN ?_ _ | refine blk_drew ?_ | refine blk_alloc ?_ _)); exact BK233.out) hb); have n7_ := Aside0.mk (blk_below (g := gb240) (o := .cells #[.slice Ao38 t234.length co38, .int .i64 t237] 65 (0, 0)) (by (with_reducible repeat (first | refine blk_drewN ?_ _ | refine blk_drew ?_ | refine blk_alloc ?_ _)); exact BK240.out) hb); have n8_ := Aside0.mk (below_step (by repeat (first | (with_reducible first | exact HB.out | apply below_alloc | apply pw_below_drewN | apply below_drew1 | refine below_set ?_ GE216.out | refine below_set ?_ GE228.out | refine below_set ?_ GE233.out | refine below_set ?_ GE240.out) | exact HB.out)) hb); clear HO_229000; clear HO_234000; clear HO_241000; clear BK216; clear BK228; clear BK233; clear BK240; clear HB; have HO_229000 := n0_; have HO_234000 := n1_; have HO_241000 := n2_; have HO255 := n3_; have BK216 := n4_; have BK228 := n5_; have BK233 := n6_; have BK240 := n7_; have HB := n8_; clear n0_ n1_ n2_ n3_ n4_ n5_ n6_ n7_ n8_; (try clear hb); (try clear hb2); (try clear hk); (try clear hi); (try clear ho0); obtain ⟨Ao139, co139, eo139⟩ := Kd.R_slice HO255.out; subst eo139) | ((with_reducible refine gate_callee (f := 46) rfl ?_); refine goesL_ (some 107) rfl rfl Try.func46 (by kernel_rfl) rfl #[.agg #[.slice Ao139 t253.length co139, .int .i64 t256], .string a1, .string a2] rfl (by (try simp only [List.map_toArray, List.map_cons, List.map_nil]); first | done | rfl | (simp only [List.length_drop, List.length_take]; rfl)) ?_; (with_reducible refine (impl_Lay.calls kj74 _ _ t253 t256 a1 a2 t257 t260 t261 t262 _ ?side1 ?side2 A126.out).mono ?_); (case side1 => repeat (first | exact (Kd.R_reads' HO255.out).2.2 | (with_reducible refine Kd.C_alloc ?_ _) | (with_reducible refine Kd.C_drewN ?_ _) | (with_reducible refine Kd.C_drew ?_))); (case side2 => exact (Kd.R_reads' HO255.out).2.1); rintro e w140 ⟨v258, rfl, ho0, hb⟩; refine ⟨_, rfl, ?_⟩; have n0_ := Aside0.mk (Kd.R_elder' (by (with_reducible repeat (first | apply Kd.R_alloc | apply Kd.R_drewN | apply Kd.R_drew)); exact HO_229000.out) (Kd.R_base ho0) hb); have n1_ := Aside0.mk (Kd.R_elder' (by (with_reducible repeat (first | apply Kd.R_alloc | apply Kd.R_drewN | apply Kd.R_drew)); exact HO_234000.out) (Kd.R_base ho0) hb); have n2_ := Aside0.mk (Kd.R_elder' (by (with_reducible repeat (first | apply Kd.R_alloc | apply Kd.R_drewN | apply Kd.R_drew)); exact HO_241000.out) (Kd.R_base ho0) hb); have n3_ := Aside0.mk (Kd.R_elder' (by (with_reducible repeat (first | apply Kd.R_alloc | apply Kd.R_drewN | apply Kd.R_drew)); exact HO255.out) (Kd.R_base ho0) hb); have n4_ := Aside0.mk (Kd.R_lower (Kd.R_new' (Kd.R_new' (Kd.R_new' (Kd.R_new' ho0 (Kd.R_lt (by (with_reducible repeat (first | apply Kd.R_alloc | apply Kd.R_drewN | apply Kd.R_drew)); exact HO_229000.out))) (Kd.R_lt (by (with_reducible repeat (first | apply Kd.R_alloc | apply Kd.R_drewN | apply Kd.R_drew)); exact HO_234000.out))) (Kd.R_lt (by (with_reducible repeat (first | apply Kd.R_alloc | apply Kd.R_drewN | apply Kd.R_drew)); exact HO_241000.out))) (Kd.R_lt (by (with_reducible repeat (first | apply Kd.R_alloc | apply Kd.R_drewN | apply Kd.R_drew)); exact HO255.out))) (below_size (by repeat (first | (with_reducible first | exact HB.out | apply below_alloc | apply pw_below_drewN | apply below_drew1 | refine below_set ?_ GE216.out | refine below_set ?_ GE228.out | refine below_set ?_ GE233.out | refine below_set ?_ GE240.out) | exact HB.out)))); have n5_ := Aside0.mk (blk_below (g := gb216) (o := .cells #[.slice A0_0 l0_0.length c0_0, .int .i64 a0_1] 61 (0, 0)) (by (with_reducible repeat (first | refine blk_drewN ?_ _ | refine blk_drew ?_ | refine blk_alloc ?_ _)); exact BK216.out) hb); have n6_ := Aside0.mk (blk_below (g := gb228) (o := .cells #[.slice Ao26 t222.length co26, .int .i64 t225] 65 (0, 0)) (by (with_reducible repeat (first | refine blk_drewN ?_ _ | refine blk_drew ?_ | refine blk_alloc ?_ _)); exact BK228.out) hb); have n7_ := Aside0.mk (blk_below (g := gb233) (o := .cells #[.slice Ao32 t248.length co32, .int .i64 t232] 65 (0, 0)) (by (with_reducible repeat (first | refine blk_drewN ?_ _ | refine blk_drew ?_ | refine blk_alloc ?_ _)); exact BK233.out) hb); have n8_ := Aside0.mk (blk_below (g := gb240) (o := .cells #[.slice Ao38 t234.length co38, .int .i64 t237] 65 (0, 0)) (by (with_reducible repeat (first | refine blk_drewN ?_ _ | refine blk_drew ?_ | refine blk_alloc ?_ _)); exact BK240.out) hb); have n9_ := Aside0.mk (below_step (by repeat (first | (with_reducible first | exact HB.out | apply below_alloc | apply pw_below_drewN | apply below_drew1 | refine below_set ?_ GE216.out | refine below_set ?_ GE228.out | refine below_set ?_ GE233.out | refine below_set ?_ GE240.out) | exact HB.out)) hb); clear HO_229000; clear HO_234000; clear HO_241000; clear HO255; clear BK216; clear BK228; clear BK233; clear BK240; clear HB; have HO_229000 := n0_; have HO_234000 := n1_; have HO_241000 := n2_; have HO255 := n3_; have HO259 := n4_; have BK216 := n5_; have BK228 := n6_; have BK233 := n7_; have BK240 := n8_; have HB := n9_; clear n0_ n1_ n2_ n3_ n4_ n5_ n6_ n7_ n8_ n9_; (try clear hb); (try clear hb2); (try clear hk); (try clear hi); (try clear ho0)) | ((with_reducible refine gate_dst (N := 18) rfl ?_); refine box_event ?hg (N := 18) ?hd (cs := #[.slice none 0 0, .int .i64 0]) (t := 65) ?hr ?_; (case hd => rfl); (case hg => rfl); (case hr => first | (go_simp; done) | (go_simp; rfl)); intro gb263 hg w141 hbox hb; have n0_ := Aside0.mk (Kd.R_below (by (with_reducible repeat (first | apply Kd.R_alloc | apply Kd.R_drewN | apply Kd.R_drew)); exact HO_229000.out) hb); have n1_ := Aside0.mk (Kd.R_below (by (with_reducible repeat (first | apply Kd.R_alloc | apply Kd.R_drewN | apply Kd.R_drew)); exact HO_234000.out) hb); have n2_ := Aside0.mk (Kd.R_below (by (with_reducible repeat (first | apply Kd.R_alloc | apply Kd.R_drewN | apply Kd.R_drew)); exact HO_241000.out) hb); have n3_ := Aside0.mk (Kd.R_below (by (with_reducible repeat (first | apply Kd.R_alloc | apply Kd.R_drewN | apply Kd.R_drew)); exact HO255.out) hb); have n4_ := Aside0.mk (Kd.R_below (by (with_reducible repeat (first | apply Kd.R_alloc | apply Kd.R_drewN | apply Kd.R_drew)); exact HO259.out) hb); have n5_ := Aside0.mk (blk_below (g := gb216) (o := .cells #[.slice A0_0 l0_0.length c0_0, .int .i64 a0_1] 61 (0, 0)) (by (with_reducible repeat (first | refine blk_drewN ?_ _ | refine blk_drew ?_ | refine blk_alloc ?_ _)); exact BK216.out) hb); have n6_ := Aside0.mk (blk_below (g := gb228) (o := .cells #[.slice Ao26 t222.length co26, .int .i64 t225] 65 (0, 0)) (by (with_reducible repeat (first | refine blk_drewN ?_ _ | refine blk_drew ?_ | refine blk_alloc ?_ _)); exact BK228.out) hb); have n7_ := Aside0.mk (blk_below (g := gb233) (o := .cells #[.slice Ao32 t248.length co32, .int .i64 t232] 65 (0, 0)) (by (with_reducible repeat (first | refine blk_drewN ?_ _ | refine blk_drew ?_ | refine blk_alloc ?_ _)); exact BK233.out) hb); have n8_ := Aside0.mk (blk_below (g := gb240) (o := .cells #[.slice Ao38 t234.length co38, .int .i64 t237] 65 (0, 0)) (by (with_reducible repeat (first | refine blk_drewN ?_ _ | refine blk_drew ?_ | refine blk_alloc ?_ _)); exact BK240.out) hb); have n9_ := Aside0.mk (below_step (by repeat (first | (with_reducible first | exact HB.out | apply below_alloc | apply pw_below_drewN | apply below_drew1 | refine below_set ?_ GE216.out | refine below_set ?_ GE228.out | refine below_set ?_ GE233.out | refine below_set ?_ GE240.out) | exact HB.out)) hb); have n10_ := Aside0.mk (hbox); have n11_ := Aside0.mk ((by rw [hg]; exact (below_size (by repeat (first | (with_reducible first | exact HB.out | apply below_alloc | apply pw_below_drewN | apply below_drew1 | refine below_set ?_ GE216.out | refine below_set ?_ GE228.out | refine below_set ?_ GE233.out | refine below_set ?_ GE240.out) | exact HB.out))) : w.heap.size ≤ gb263)); have n12_ := Aside0.mk ((by rw [hg]; exact (below_size (by repeat (first | (with_reducible first | exact HB.out | apply below_alloc | apply pw_below_drewN | apply below_drew1 | refine below_set ?_ GE216.out | refine below_set ?_ GE228.out | refine below_set ?_ GE233.out | refine below_set ?_ GE240.out) | exact HB.out))) : w.heap.size ≤ gb263)); have n13_ := Aside0.mk ((by rw [hg]; exact Nat.ne_of_lt (blk_lt (g := gb216) (o := .cells #[.slice A0_0 l0_0.length c0_0, .int .i64 a0_1] 61 (0, 0)) (by (with_reducible repeat (first | refine blk_drewN ?_ _ | refine blk_drew ?_ | refine blk_alloc ?_ _)); exact BK216.out)) : gb216 ≠ gb263)); have n14_ := Aside0.mk ((by rw [hg]; exact Nat.ne_of_gt (blk_lt (g := gb216) (o := .cells #[.slice A0_0 l0_0.length c0_0, .int .i64 a0_1] 61 (0, 0)) (by (with_reducible repeat (first | refine blk_drewN ?_ _ | refine blk_drew ?_ | refine blk_alloc ?_ _)); exact BK216.out)) : gb263 ≠ gb216)); have n15_ := Aside0.mk ((by rw [hg]; exact Nat.ne_of_lt (blk_lt (g := gb228) (o := .cells #[.slice Ao26 t222.length co26, .int .i64 t225] 65 (0, 0)) (by (with_reducible repeat (first | refine blk_drewN ?_ _ | refine blk_drew ?_ | refine blk_alloc ?_ _)); exact BK228.out)) : gb228 ≠ gb263)); have n16_ := Aside0.mk ((by rw [hg]; exact Nat.ne_of_gt (blk_lt (g := gb228) (o := .cells #[.slice Ao26 t222.length co26, .int .i64 t225] 65 (0, 0)) (by (with_reducible repeat (first | refine blk_drewN ?_ _ | refine blk_drew ?_ | refine blk_alloc ?_ _)); exact BK228.out)) : gb263 ≠ gb228)); have n17_ := Aside0.mk ((by rw [hg]; exact Nat.ne_of_lt (blk_lt (g := gb233) (o := .cells #[.slice Ao32 t248.length co32, .int .i64 t232] 65 (0, 0)) (by (with_reducible repeat (first | refine blk_drewN ?_ _ | refine blk_drew ?_ | refine blk_alloc ?_ _)); exact BK233.out)) : gb233 ≠ gb263)); have n18_ := Aside0.mk ((by rw [hg]; exact Nat.ne_of_gt (blk_lt (g := gb233) (o := .cells #[.slice Ao32 t248.length co32, .int .i64 t232] 65 (0, 0)) (by (with_reducible repeat (first | refine blk_drewN ?_ _ | refine blk_drew ?_ | refine blk_alloc ?_ _)); exact BK233.out)) : gb263 ≠ gb233)); have n19_ := Aside0.mk ((by rw [hg]; exact Nat.ne_of_lt (blk_lt (g := gb240) (o := .cells #[.slice Ao38 t234.length co38, .int .i64 t237] 65 (0, 0)) (by (with_reducible repeat (first | refine blk_drewN ?_ _ | refine blk_drew ?_ | refine blk_alloc ?_ _)); exact BK240.out)) : gb240 ≠ gb263)); have n20_ := Aside0.mk ((by rw [hg]; exact Nat.ne_of_gt (blk_lt (g := gb240) (o := .cells #[.slice Ao38 t234.length co38, .int .i64 t237] 65 (0, 0)) (by (with_reducible repeat (first | refine blk_drewN ?_ _ | refine blk_drew ?_ | refine blk_alloc ?_ _)); exact BK240.out)) : gb263 ≠ gb240)); clear HO_229000; clear HO_234000; clear HO_241000; clear HO255; clear HO259; clear BK216; clear BK228; clear BK233; clear BK240; clear HB; have HO_229000 := n0_; have HO_234000 := n1_; have HO_241000 := n2_; have HO255 := n3_; have HO259 := n4_; have BK216 := n5_; have BK228 := n6_; have BK233 := n7_; have BK240 := n8_; have HB := n9_; have BK263 := n10_; have GW263 := n11_; have GE263 := n12_; have NB216_263 := n13_; have NB263_216 := n14_; have NB228_263 := n15_; have NB263_228 := n16_; have NB233_263 := n17_; have NB263_233 := n18_; have NB240_263 := n19_; have NB263_240 := n20_; clear n0_ n1_ n2_ n3_ n4_ n5_ n6_ n7_ n8_ n9_ n10_ n11_ n12_ n13_ n14_ n15_ n16_ n17_ n18_ n19_ n20_; clear hb hbox hg; obtain ⟨Ao142, co142, eo142⟩ := Kd.R_slice HO259.out; subst eo142; have hnb143 := NB263_216.out; have hnc143 := NB216_263.out; have hnb144 := NB263_228.out; have hnc144 := NB228_263.out; have hnb145 := NB263_233.out; have hnc145 := NB233_263.out; have hnb146 := NB263_240.out; have hnc146 := NB240_263.out; obtain ⟨hcz147_0, hcz147_1, hfz147_0, hfz147_1⟩ := zb2 BK263.out))
                          (try simp only [Act.put, List.setIfInBounds_toArray, List.set_cons_zero, List.set_cons_succ])
                          go_cut [124] (fun v124 wc => ∃ (kq : Nat) (x124_126 : Bool), v124 = .bool x124_126 ∧ Aside0 (laws_FnExactLay.j2 kq t250 x124_126 t251 t237 = some r) ∧ Aside0 (kq ≤ kj74) ∧ Aside0 (Kd.R k81 81 wc w.heap.size (fun k_ => some k_ ≠ ((.slice Ao32 t248.length co32) : Value).ownBlock ∧ some k_ ≠ ((.slice Ao38 t234.length co38) : Value).ownBlock ∧ some k_ ≠ ((.slice Ao142 t257.length co142) : Value).ownBlock) (.slice Ao26 t222.length co26) t222) ∧ Aside0 (Kd.R k81 81 wc w.heap.size (fun k_ => some k_ ≠ ((.slice Ao26 t222.length co26) : Value).ownBlock ∧ some k_ ≠ ((.slice Ao38 t234.length co38) : Value).ownBlock ∧ some k_ ≠ ((.slice Ao142 t257.length co142) : Value).ownBlock) (.slice Ao32 t248.length co32) t248) ∧ Aside0 (Kd.R k81 81 wc w.heap.size (fun k_ => some k_ ≠ ((.slice Ao26 t222.length co26) : Value).ownBlock ∧ some k_ ≠ ((.slice Ao32 t248.length co32) : Value).ownBlock ∧ some k_ ≠ ((.slice Ao142 t257.length co142) : Value).ownBlock) (.slice Ao38 t234.length co38) t251) ∧ Aside0 (Kd.R k81 81 wc w.heap.size (fun k_ => some k_ ≠ ((.slice Ao26 t222.length co26) : Value).ownBlock ∧ some k_ ≠ ((.slice Ao32 t248.length co32) : Value).ownBlock ∧ some k_ ≠ ((.slice Ao38 t234.length co38) : Value).ownBlock) (.slice Ao142 t257.length co142) t257) ∧ Aside0 (wc.heap[gb216]? = some (.cells #[(.slice A0_0 l0_0.length c0_0), .int .i64 a0_1] 61 (0, 0))) ∧ Aside0 (wc.heap[gb228]? = some (.cells #[(.slice Ao26 t222.length co26), .int .i64 t225] 65 (0, 0))) ∧ Aside0 (wc.heap[gb233]? = some (.cells #[(.slice Ao32 t248.length co32), .int .i64 t232] 65 (0, 0))) ∧ Aside0 (wc.heap[gb240]? = some (.cells #[(.slice Ao38 t234.length co38), .int .i64 t237] 65 (0, 0))) ∧ Aside0 (wc.heap[gb263]? = some (.cells #[(.slice Ao142 t257.length co142), .int .i64 t260] 65 (0, 0))) ∧ Aside0 (Below w.heap.size w wc))
                          case first =>
                            have H := HC127.out
                            clear HC127
                            replace H := Option.bind_eq_some_iff.mp H
                            obtain ⟨t264, A1480, H⟩ := H
                            replace H : (if t264 = true then (if t261 = t226 then (laws_FnExactLay.j2 kj74 t250 (t262 != t227) t251 t237) else (laws_FnExactLay.j2 kj74 t250 true t251 t237)) else (laws_FnExactLay.j2 kj74 t250 true t251 t237)) = some r := H
                            have A148 := Aside0.mk A1480
                            clear A1480
                            obtain ⟨hcz155_0, hcz155_1, hfz155_0, hfz155_1⟩ := zb2 BK263.out
                            obtain ⟨hcz159_0, hcz159_1, hfz159_0, hfz159_1⟩ := zb2 BK228.out
                            go_wp2_with (first|((with_reducible refine gate_callee (f := 47) rfl ?_); refine goesL_ (some 113) rfl rfl Try.func47 (by kernel_rfl) rfl #[.agg #[.slice Ao142 t257.length co142, .int .i64 t260], .agg #[.slice Ao26 t222.length co26, .int .i64 t225]] rfl (by (try simp only [List.map_toArray, List.map_cons, List.map_nil]); first | done | rfl | (simp only [List.length_drop, List.length_take]; rfl)) ?_; (with_reducible refine (laws_eqArena.calls kj74 _ _ t257 t260 _ _ t222 t225 t264 _ ?side1 ?side2 ?side3 ?side4 A148.out ?prem).mono ?_); (case prem => first|(rfl)|(exact HTr_.out)|(assumption)|(refine (Bool.eq_false_or_eq_true _).resolve_right (fun hz => ?_); rw [hz, if_neg (by decide)] at H; exact absurd ((Option.some.inj H).trans HTr_.out) (by simp))|(refine (Bool.eq_false_or_eq_true _).resolve_right (fun hz => ?_); have H := H'.out; rw [hz] at H; exact absurd ((laws_FnExactLay.j0_bad H).symm.trans HTr_.out) (by simp))|(refine (Bool.eq_false_or_eq_true _).resolve_right (fun hz => ?_); rw [hz, if_neg (by decide)] at H; exact absurd ((laws_FnExactLay.j0_bad H).symm.trans HTr_.out) (by simp))|(refine (Bool.eq_false_or_eq_true _).resolve_right (fun hz => ?_); have H := H'.out; rw [hz] at H; exact absurd ((laws_FnExactLay.j1_bad H).symm.trans HTr_.out) (by simp))|(refine (Bool.eq_false_or_eq_true _).resolve_right (fun hz => ?_); rw [hz, if_neg (by decide)] at H; exact absurd ((laws_FnExactLay.j1_bad H).symm.trans HTr_.out) (by simp))|(refine (Bool.eq_false_or_eq_true _).resolve_right (fun hz => ?_); have H := H'.out; rw [hz] at H; exact absurd ((laws_FnExactLay.j2_bad H).symm.trans HTr_.out) (by simp))|(refine (Bool.eq_false_or_eq_true _).resolve_right (fun hz => ?_); rw [hz, if_neg (by decide)] at H; exact absurd ((laws_FnExactLay.j2_bad H).symm.trans HTr_.out) (by simp))); (case side1 => refine (Kd.R_reads' (e := 81) (base := w.heap.size) (ok := fun k_ => ((((True ∧ some k_ ≠ (.slice Ao26 t222.length co26 : Value).ownBlock) ∧ some k_ ≠ (.slice Ao32 t248.length co32 : Value).ownBlock) ∧ some k_ ≠ (.slice Ao38 t234.length co38 : Value).ownBlock) ∧ some k_ ≠ (.slice Ao139 t253.length co139 : Value).ownBlock)) (n := t257.length) (c := co142) ?_).2.2; exact (by (with_reducible repeat (first | apply Kd.R_alloc | apply Kd.R_drewN | apply Kd.R_drew)); exact (Kd.R_mono (Kd.R_far (p := ⟨gb263, 1, none⟩) (Kd.R_far (p := ⟨gb263, 0, none⟩) (Kd.R_types HO259.out BK263.out (by decide)) (fun _ hk => hk.2) (.slice Ao142 t257.length co142)) (fun _ hk => hk.2) (.int .i64 t260)) (fun _ h_ => h_.1)))); (case side2 => exact (Kd.R_reads' HO259.out).2.1); (case side3 => refine (Kd.R_reads' (e := 81) (base := w.heap.size) (ok := fun k_ => (((some k_ ≠ (.slice Ao32 t248.length co32 : Value).ownBlock ∧ some k_ ≠ (.slice Ao38 t234.length co38 : Value).ownBlock) ∧ some k_ ≠ (.slice Ao139 t253.length co139 : Value).ownBlock) ∧ some k_ ≠ (.slice Ao142 t257.length co142 : Value).ownBlock)) (n := t222.length) (c := co26) ?_).2.2; exact (by (with_reducible repeat (first | apply Kd.R_alloc | apply Kd.R_drewN | apply Kd.R_drew)); exact (Kd.R_mono (Kd.R_far (p := ⟨gb263, 1, none⟩) (Kd.R_far (p := ⟨gb263, 0, none⟩) (Kd.R_types HO_229000.out BK263.out (by decide)) (fun _ hk => hk.2) (.slice Ao142 t257.length co142)) (fun _ hk => hk.2) (.int .i64 t260)) (fun _ h_ => h_.1)))); (case side4 => exact (Kd.R_reads' HO_229000.out).2.1); rintro e w160 ⟨rfl, hb⟩; refine ⟨_, rfl, ?_⟩; have n0_ := Aside0.mk (Kd.R_below (by (with_reducible repeat (first | apply Kd.R_alloc | apply Kd.R_drewN | apply Kd.R_drew)); exact (Kd.R_mono (Kd.R_far (p := ⟨gb263, 1, none⟩) (Kd.R_far (p := ⟨gb263, 0, none⟩) (Kd.R_types HO_229000.out BK263.out (by decide)) (fun _ hk => hk.2) (.slice Ao142 t257.length co142)) (fun _ hk => hk.2) (.int .i64 t260)) (fun _ h_ => h_.1))) hb); have n1_ := Aside0.mk (Kd.R_below (by (with_reducible repeat (first | apply Kd.R_alloc | apply Kd.R_drewN | apply Kd.R_drew)); exact (Kd.R_mono (Kd.R_far (p := ⟨gb263, 1, none⟩) (Kd.R_far (p := ⟨gb263, 0, none⟩) (Kd.R_types HO_234000.out BK263.out (by decide)) (fun _ hk => hk.2) (.slice Ao142 t257.length co142)) (fun _ hk => hk.2) (.int .i64 t260)) (fun _ h_ => h_.1))) hb); have n2_ := Aside0.mk (Kd.R_below (by (with_reducible repeat (first | apply Kd.R_alloc | apply Kd.R_drewN | apply Kd.R_drew)); exact (Kd.R_mono (Kd.R_far (p := ⟨gb263, 1, none⟩) (Kd.R_far (p := ⟨gb263, 0, none⟩) (Kd.R_types HO_241000.out BK263.out (by decide)) (fun _ hk => hk.2) (.slice Ao142 t257.length co142)) (fun _ hk => hk.2) (.int .i64 t260)) (fun _ h_ => h_.1))) hb); have n3_ := Aside0.mk (Kd.R_below (by (with_reducible repeat (first | apply Kd.R_alloc | apply Kd.R_drewN | apply Kd.R_drew)); exact (Kd.R_mono (Kd.R_far (p := ⟨gb263, 1, none⟩) (Kd.R_far (p := ⟨gb263, 0, none⟩) (Kd.R_types HO255.out BK263.out (by decide)) (fun _ hk => hk.2) (.slice Ao142 t257.length co142)) (fun _ hk => hk.2) (.int .i64 t260)) (fun _ h_ => h_.1))) hb); have n4_ := Aside0.mk (Kd.R_below (by (with_reducible repeat (first | apply Kd.R_alloc | apply Kd.R_drewN | apply Kd.R_drew)); exact (Kd.R_mono (Kd.R_far (p := ⟨gb263, 1, none⟩) (Kd.R_far (p := ⟨gb263, 0, none⟩) (Kd.R_types HO259.out BK263.out (by decide)) (fun _ hk => hk.2) (.slice Ao142 t257.length co142)) (fun _ hk => hk.2) (.int .i64 t260)) (fun _ h_ => h_.1))) hb); have n5_ := Aside0.mk (blk_below (g := gb216) (o := .cells #[.slice A0_0 l0_0.length c0_0, .int .i64 a0_1] 61 (0, 0)) (by (with_reducible repeat (first | refine blk_drewN ?_ _ | refine blk_drew ?_ | refine blk_alloc ?_ _)); refine blk_far ?_ NB216_263.out _; (with_reducible repeat (first | refine blk_drewN ?_ _ | refine blk_drew ?_ | refine blk_alloc ?_ _)); refine blk_far ?_ NB216_263.out _; (with_reducible repeat (first | refine blk_drewN ?_ _ | refine blk_drew ?_ | refine blk_alloc ?_ _)); exact BK216.out) hb); have n6_ := Aside0.mk (blk_below (g := gb228) (o := .cells #[.slice Ao26 t222.length co26, .int .i64 t225] 65 (0, 0)) (by (with_reducible repeat (first | refine blk_drewN ?_ _ | refine blk_drew ?_ | refine blk_alloc ?_ _)); refine blk_far ?_ NB228_263.out _; (with_reducible repeat (first | refine blk_drewN ?_ _ | refine blk_drew ?_ | refine blk_alloc ?_ _)); refine blk_far ?_ NB228_263.out _; (with_reducible repeat (first | refine blk_drewN ?_ _ | refine blk_drew ?_ | refine blk_alloc ?_ _)); exact BK228.out) hb); have n7_ := Aside0.mk (blk_below (g := gb233) (o := .cells #[.slice Ao32 t248.length co32, .int .i64 t232] 65 (0, 0)) (by (with_reducible repeat (first | refine blk_drewN ?_ _ | refine blk_drew ?_ | refine blk_alloc ?_ _)); refine blk_far ?_ NB233_263.out _; (with_reducible repeat (first | refine blk_drewN ?_ _ | refine blk_drew ?_ | refine blk_alloc ?_ _)); refine blk_far ?_ NB233_263.out _; (with_reducible repeat (first | refine blk_drewN ?_ _ | refine blk_drew ?_ | refine blk_alloc ?_ _)); exact BK233.out) hb); have n8_ := Aside0.mk (blk_below (g := gb240) (o := .cells #[.slice Ao38 t234.length co38, .int .i64 t237] 65 (0, 0)) (by (with_reducible repeat (first | refine blk_drewN ?_ _ | refine blk_drew ?_ | refine blk_alloc ?_ _)); refine blk_far ?_ NB240_263.out _; (with_reducible repeat (first | refine blk_drewN ?_ _ | refine blk_drew ?_ | refine blk_alloc ?_ _)); refine blk_far ?_ NB240_263.out _; (with_reducible repeat (first | refine blk_drewN ?_ _ | refine blk_drew ?_ | refine blk_alloc ?_ _)); exact BK240.out) hb); have n9_ := Aside0.mk (blk_below (g := gb263) (o := .cells #[.slice Ao142 t257.length co142, .int .i64 t260] 65 (0, 0)) (by (with_reducible repeat (first | refine blk_drewN ?_ _ | refine blk_drew ?_ | refine blk_alloc ?_ _)); refine blk_put (cs := #[.slice Ao142 t257.length co142, .int .i64 0]) ?_ 1 _ rfl; (with_reducible repeat (first | refine blk_drewN ?_ _ | refine blk_drew ?_ | refine blk_alloc ?_ _)); refine blk_put (cs := #[.slice none 0 0, .int .i64 0]) ?_ 0 _ rfl; (with_reducible repeat (first | refine blk_drewN ?_ _ | refine blk_drew ?_ | refine blk_alloc ?_ _)); exact BK263.out) hb); have n10_ := Aside0.mk (below_step (by repeat (first | (with_reducible first | exact HB.out | apply below_alloc | apply pw_below_drewN | apply below_drew1 | refine below_set ?_ GE216.out | refine below_set ?_ GE228.out | refine below_set ?_ GE233.out | refine below_set ?_ GE240.out | refine below_set ?_ GE263.out) | exact HB.out)) hb); clear HO_229000; clear HO_234000; clear HO_241000; clear HO255; clear HO259; clear BK216; clear BK228; clear BK233; clear BK240; clear BK263; clear HB; have HO_229000 := n0_; have HO_234000 := n1_; have HO_241000 := n2_; have HO255 := n3_; have HO259 := n4_; have BK216 := n5_; have BK228 := n6_; have BK233 := n7_; have BK240 := n8_; have BK263 := n9_; have HB := n10_; clear n0_ n1_ n2_ n3_ n4_ n5_ n6_ n7_ n8_ n9_ n10_; (try clear hb); (try clear hb2); (try clear hk); (try clear hi); (refine Classical.byCases (p := (t264 = true)) (fun c149 => ?zp20) (fun c149 => ?zn20); (case' zn20 => (replace c149 := Bool.eq_false_iff.mpr c149); (subst c149); (have H1 : (laws_FnExactLay.j2 kj74 t250 true t251 t237) = some r := by rw [if_neg (show ¬ (false = true) by decide)] at H; exact H); (clear H); (have H := H1); (clear H1); (exact absurd ((laws_FnExactLay.j2_bad H).symm.trans HTr_.out) (by simp))); (case' zp20 => (subst c149); (have H1 : (if t261 = t226 then (laws_FnExactLay.j2 kj74 t250 (t262 != t227) t251 t237) else (laws_FnExactLay.j2 kj74 t250 true t251 t237)) = some r := by rw [if_pos rfl] at H; exact H); (clear H); (have H := H1); (clear H1); (refine Classical.byCases (p := (t261 = t226)) (fun c150 => ?zp19) (fun c150 => ?zn19); (case' zn19 => (rw [if_neg c150] at H); (have c150b0 : (t261 == t226) = false := beq_eq_false_iff_ne.mpr c150); (have c150b1 : (t261 != t226) = true := bne_iff_ne.mpr c150); ((first | rw [c150b0] | (simp only [i64_w, i32_w]; rw [c150b0]) | skip)); (exact absurd ((laws_FnExactLay.j2_bad H).symm.trans HTr_.out) (by simp))); (case' zp19 => (rw [if_pos c150] at H); (have c150b0 : (t261 == t226) = true := beq_iff_eq.mpr c150); (have c150b1 : (t261 != t226) = false := bne_eq_false_iff_eq.mpr c150); (clear c150); ((first | rw [c150b0] | (simp only [i64_w, i32_w]; rw [c150b0]) | skip)); (have H' := Aside0.mk H); (clear H); (have hnb151 := NB263_216.out); (have hnc151 := NB216_263.out); (have hnb152 := NB263_228.out); (have hnc152 := NB228_263.out); (have hnb153 := NB263_233.out); (have hnc153 := NB233_263.out); (have hnb154 := NB263_240.out); (have hnc154 := NB240_263.out); (obtain ⟨hcz155_0, hcz155_1, hfz155_0, hfz155_1⟩ := zb2 BK263.out); (have hnb156 := NB228_216.out); (have hnc156 := NB216_228.out); (have hnb157 := NB228_233.out); (have hnc157 := NB233_228.out); (have hnb158 := NB228_240.out); (have hnc158 := NB240_228.out); (obtain ⟨hcz159_0, hcz159_1, hfz159_0, hfz159_1⟩ := zb2 BK228.out)))))))
                            · go_meet
                              case rel => exact ⟨_, ((t262 != t227)), (by first | rfl | (simp; done) | (simp [*]; done)), H', ⟨by have := HJ16.out; have := HJ74.out; first | omega | exact Nat.le_refl _⟩, ⟨by (try simp only [hl234000_74]); (with_reducible repeat (first | apply Kd.R_alloc | apply Kd.R_drewN | apply Kd.R_drew)); exact Kd.R_mono HO_229000.out (fun _ hk => ⟨hk.1.1.1, ⟨hk.1.1.2, hk.2⟩⟩)⟩, ⟨by (try simp only [hl234000_74]); (with_reducible repeat (first | apply Kd.R_alloc | apply Kd.R_drewN | apply Kd.R_drew)); exact Kd.R_mono HO_234000.out (fun _ hk => ⟨hk.1.1.1, ⟨hk.1.1.2, hk.2⟩⟩)⟩, ⟨by (try simp only [hl234000_74]); (with_reducible repeat (first | apply Kd.R_alloc | apply Kd.R_drewN | apply Kd.R_drew)); exact Kd.R_mono HO_241000.out (fun _ hk => ⟨hk.1.1.1, ⟨hk.1.1.2, hk.2⟩⟩)⟩, ⟨by (try simp only [hl234000_74]); (with_reducible repeat (first | apply Kd.R_alloc | apply Kd.R_drewN | apply Kd.R_drew)); exact Kd.R_mono HO259.out (fun _ hk => ⟨hk.1.1.1.2, ⟨hk.1.1.2, hk.1.2⟩⟩)⟩, ⟨by (try simp only [hl234000_74]); (with_reducible repeat (first | refine blk_drewN ?_ _ | refine blk_drew ?_ | refine blk_alloc ?_ _)); exact BK216.out⟩, ⟨by (try simp only [hl234000_74]); (with_reducible repeat (first | refine blk_drewN ?_ _ | refine blk_drew ?_ | refine blk_alloc ?_ _)); exact BK228.out⟩, ⟨by (try simp only [hl234000_74]); (with_reducible repeat (first | refine blk_drewN ?_ _ | refine blk_drew ?_ | refine blk_alloc ?_ _)); exact BK233.out⟩, ⟨by (try simp only [hl234000_74]); (with_reducible repeat (first | refine blk_drewN ?_ _ | refine blk_drew ?_ | refine blk_alloc ?_ _)); exact BK240.out⟩, ⟨by (try simp only [hl234000_74]); (with_reducible repeat (first | refine blk_drewN ?_ _ | refine blk_drew ?_ | refine blk_alloc ?_ _)); exact BK263.out⟩, ⟨by repeat (first | (with_reducible first | exact HB.out | apply below_alloc | apply pw_below_drewN | apply below_drew1 | refine below_set ?_ GE216.out | refine below_set ?_ GE228.out | refine below_set ?_ GE233.out | refine below_set ?_ GE240.out | refine below_set ?_ GE263.out) | exact HB.out)⟩⟩
                          case rest =>
                            clear HC127
                            try clear c1
                            try clear c2
                            try clear p2
                            try clear c3
                            try clear c4
                            try clear c4b0
                            try clear c4b1
                            try clear c5
                            try clear c6
                            try clear c6b0
                            try clear c6b1
                            try clear c7
                            try clear c8
                            try clear c9
                            try clear c9b0
                            try clear c10
                            try clear c11
                            try clear c12
                            try clear c13
                            try clear c14
                            try clear c15
                            try clear c16
                            try clear c17
                            try clear c27
                            try clear c33
                            try clear c34
                            try clear c39
                            try clear c40
                            try clear c41
                            try clear c43
                            try clear c44
                            try clear c45
                            try clear c45b0
                            try clear c45b1
                            try clear c46
                            try clear c47
                            try clear c48
                            try clear c49
                            try clear c50
                            try clear c51
                            try clear c54
                            try clear c55
                            try clear c56
                            try clear c58
                            try clear c59
                            try clear c62
                            try clear c63
                            try clear c64
                            try clear c66
                            try clear c67
                            try clear c70
                            try clear c73
                            try clear c80
                            try clear c81
                            try clear c82
                            try clear c85
                            try clear c85b0
                            try clear c87
                            try clear c88
                            try clear c88b0
                            try clear c88b1
                            try clear c89
                            try clear c90
                            try clear c91
                            try clear c93
                            try clear c94
                            try clear c97
                            try clear c98
                            try clear c99
                            try clear c101
                            try clear c102
                            try clear c105
                            try clear c106
                            try clear c107
                            try clear c109
                            try clear c110
                            try clear c113
                            try clear c116
                            try clear c116b0
                            try clear c117
                            try clear c118
                            try clear c119
                            try clear c124
                            try clear c124b0
                            try clear c124b1
                            try clear c128
                            try clear c129
                            try clear c130
                            try clear c135
                            try clear c136
                            try clear c143
                            try clear c144
                            try clear c145
                            try clear c146
                            try clear c149
                            try clear c150
                            try clear c150b0
                            try clear c150b1
                            try clear c151
                            try clear c152
                            try clear c153
                            try clear c154
                            try clear c156
                            try clear c157
                            try clear c158
                            try clear c161
                            try clear c162
                            try clear c163
                            try clear c164
                            try clear c166
                            try clear c167
                            try clear c168
                            try clear c171
                            try clear c172
                            try clear c173
                            try clear c174
                            try clear c176
                            try clear c177
                            try clear c178
                            try clear hcz100_0
                            try clear hcz100_1
                            try clear hcz103_0
                            try clear hcz103_1
                            try clear hcz108_0
                            try clear hcz108_1
                            try clear hcz111_0
                            try clear hcz111_1
                            try clear hcz11_0
                            try clear hcz11_1
                            try clear hcz120_0
                            try clear hcz120_1
                            try clear hcz122_0
                            try clear hcz122_1
                            try clear hcz131_0
                            try clear hcz131_1
                            try clear hcz133_0
                            try clear hcz133_1
                            try clear hcz137_0
                            try clear hcz137_1
                            try clear hcz147_0
                            try clear hcz147_1
                            try clear hcz155_0
                            try clear hcz155_1
                            try clear hcz159_0
                            try clear hcz159_1
                            try clear hcz165_0
                            try clear hcz165_1
                            try clear hcz169_0
                            try clear hcz169_1
                            try clear hcz175_0
                            try clear hcz175_1
                            try clear hcz179_0
                            try clear hcz179_1
                            try clear hcz19_0
                            try clear hcz19_1
                            try clear hcz21_0
                            try clear hcz21_1
                            try clear hcz28_0
                            try clear hcz28_1
                            try clear hcz29_0
                            try clear hcz29_1
                            try clear hcz35_0
                            try clear hcz35_1
                            try clear hcz42_0
                            try clear hcz42_1
                            try clear hcz49_0
                            try clear hcz49_1
                            try clear hcz52_0
                            try clear hcz52_1
                            try clear hcz57_0
                            try clear hcz57_1
                            try clear hcz60_0
                            try clear hcz60_1
                            try clear hcz65_0
                            try clear hcz65_1
                            try clear hcz68_0
                            try clear hcz68_1
                            try clear hcz83_0
                            try clear hcz83_1
                            try clear hcz92_0
                            try clear hcz92_1
                            try clear hcz95_0
                            try clear hcz95_1
                            try clear hfz100_0
                            try clear hfz100_1
                            try clear hfz103_0
                            try clear hfz103_1
                            try clear hfz108_0
                            try clear hfz108_1
                            try clear hfz111_0
                            try clear hfz111_1
                            try clear hfz11_0
                            try clear hfz11_1
                            try clear hfz120_0
                            try clear hfz120_1
                            try clear hfz122_0
                            try clear hfz122_1
                            try clear hfz131_0
                            try clear hfz131_1
                            try clear hfz133_0
                            try clear hfz133_1
                            try clear hfz137_0
                            try clear hfz137_1
                            try clear hfz147_0
                            try clear hfz147_1
                            try clear hfz155_0
                            try clear hfz155_1
                            try clear hfz159_0
                            try clear hfz159_1
                            try clear hfz165_0
                            try clear hfz165_1
                            try clear hfz169_0
                            try clear hfz169_1
                            try clear hfz175_0
                            try clear hfz175_1
                            try clear hfz179_0
                            try clear hfz179_1
                            try clear hfz19_0
                            try clear hfz19_1
                            try clear hfz21_0
                            try clear hfz21_1
                            try clear hfz28_0
                            try clear hfz28_1
                            try clear hfz29_0
                            try clear hfz29_1
                            try clear hfz35_0
                            try clear hfz35_1
                            try clear hfz42_0
                            try clear hfz42_1
                            try clear hfz49_0
                            try clear hfz49_1
                            try clear hfz52_0
                            try clear hfz52_1
                            try clear hfz57_0
                            try clear hfz57_1
                            try clear hfz60_0
                            try clear hfz60_1
                            try clear hfz65_0
                            try clear hfz65_1
                            try clear hfz68_0
                            try clear hfz68_1
                            try clear hfz83_0
                            try clear hfz83_1
                            try clear hfz92_0
                            try clear hfz92_1
                            try clear hfz95_0
                            try clear hfz95_1
                            try clear p2
                            obtain ⟨kq, x124_126, rfl, HA, HJ126, HO_229000, HO_234000, HO_241000, HO_264000, BK216, BK228, BK233, BK240, BK263, HB⟩ := hcut
                            have hl241000_126 := (Kd.R_reads' HO_241000.out).1
                            rw [hl241000_126] at HO_241000
                            (try simp only [hl241000_126])
                            (try simp only [hl241000_126] at BK216)
                            (try simp only [hl241000_126] at BK228)
                            (try simp only [hl241000_126] at BK233)
                            (try simp only [hl241000_126] at BK240)
                            (try simp only [hl241000_126] at BK263)
                            (try simp only [hl241000_126] at HO_229000)
                            (try simp only [hl241000_126] at HO_234000)
                            (try simp only [hl241000_126] at HO_264000)
                            cases kq with
                            | zero => exact absurd HA.out (by simp [laws_FnExactLay.j2])
                            | succ kj126 =>
                              have H := HA.out
                              clear HA
                              simp only [laws_FnExactLay.j2] at H
                              by_cases c181 : x124_126 = true
                              · subst c181
                                have H1 : (some false) = some r := by rw [if_pos rfl] at H; exact H
                                clear H
                                have H := H1
                                clear H1
                                exact absurd ((Option.some.inj H).trans HTr_.out) (by simp)
                              · replace c181 := Bool.eq_false_iff.mpr c181
                                subst c181
                                have H1 : ((laws_heldArena.f kj126 t251 t237 1).bind fun t265 => (if t265 < 0 then (some false) else (if t265 = t250 then (some true) else (some false)))) = some r := by rw [if_neg (show ¬ (false = true) by decide)] at H; exact H
                                clear H
                                have H := H1
                                clear H1
                                replace H := Option.bind_eq_some_iff.mp H
                                obtain ⟨t265, A1820, H⟩ := H
                                replace H : (if t265 < 0 then (some false) else (if t265 = t250 then (some true) else (some false))) = some r := H
                                have A182 := Aside0.mk A1820
                                clear A1820
                                obtain ⟨hcz195_0, hcz195_1, hfz195_0, hfz195_1⟩ := zb2 BK240.out
                                go_wp2_with (first|((with_reducible refine gate_callee (f := 49) rfl ?_); refine goesL_ (some 127) rfl rfl Try.func49 (by kernel_rfl) rfl #[.agg #[.slice Ao38 t251.length co38, .int .i64 t237], .int .i64 1] rfl (by (try simp only [List.map_toArray, List.map_cons, List.map_nil]); first | done | rfl | (simp only [List.length_drop, List.length_take]; rfl)) ?_; (with_reducible refine (laws_heldArena.calls kj126 _ _ t251 t237 1 t265 _ ?side1 ?side2 A182.out ?prem).mono ?_); (case prem => first|(exact HTr_.out)|(intro hz; rw [if_pos hz] at H; exact absurd ((Option.some.inj H).trans HTr_.out) (by simp))|(intro hz; rw [if_pos hz] at H; exact absurd (Option.some.inj H) (by have := HTr_.out; omega))|(exact of_decide_eq_false (by assumption))|(omega)); (case side1 => repeat (first | exact (Kd.R_reads' HO_241000.out).2.2 | (with_reducible refine Kd.C_alloc ?_ _) | (with_reducible refine Kd.C_drewN ?_ _) | (with_reducible refine Kd.C_drew ?_))); (case side2 => exact (Kd.R_reads' HO_241000.out).2.1); rintro e w196 ⟨rfl, hb⟩; refine ⟨_, rfl, ?_⟩; have n0_ := Aside0.mk (Kd.R_below (by (with_reducible repeat (first | apply Kd.R_alloc | apply Kd.R_drewN | apply Kd.R_drew)); exact HO_229000.out) hb); have n1_ := Aside0.mk (Kd.R_below (by (with_reducible repeat (first | apply Kd.R_alloc | apply Kd.R_drewN | apply Kd.R_drew)); exact HO_234000.out) hb); have n2_ := Aside0.mk (Kd.R_below (by (with_reducible repeat (first | apply Kd.R_alloc | apply Kd.R_drewN | apply Kd.R_drew)); exact HO_241000.out) hb); have n3_ := Aside0.mk (Kd.R_below (by (with_reducible repeat (first | apply Kd.R_alloc | apply Kd.R_drewN | apply Kd.R_drew)); exact HO_264000.out) hb); have n4_ := Aside0.mk (blk_below (g := gb216) (o := .cells #[.slice A0_0 l0_0.length c0_0, .int .i64 a0_1] 61 (0, 0)) (by (with_reducible repeat (first | refine blk_drewN ?_ _ | refine blk_drew ?_ | refine blk_alloc ?_ _)); exact BK216.out) hb); have n5_ := Aside0.mk (blk_below (g := gb228) (o := .cells #[.slice Ao26 t222.length co26, .int .i64 t225] 65 (0, 0)) (by (with_reducible repeat (first | refine blk_drewN ?_ _ | refine blk_drew ?_ | refine blk_alloc ?_ _)); exact BK228.out) hb); have n6_ := Aside0.mk (blk_below (g := gb233) (o := .cells #[.slice Ao32 t248.length co32, .int .i64 t232] 65 (0, 0)) (by (with_reducible repeat (first | refine blk_drewN ?_ _ | refine blk_drew ?_ | refine blk_alloc ?_ _)); exact BK233.out) hb); have n7_ := Aside0.mk (blk_below (g := gb240) (o := .cells #[.slice Ao38 t251.length co38, .int .i64 t237] 65 (0, 0)) (by (with_reducible repeat (first | refine blk_drewN ?_ _ | refine blk_drew ?_ | refine blk_alloc ?_ _)); exact BK240.out) hb); have n8_ := Aside0.mk (blk_below (g := gb263) (o := .cells #[.slice Ao142 t257.length co142, .int .i64 t260] 65 (0, 0)) (by (with_reducible repeat (first | refine blk_drewN ?_ _ | refine blk_drew ?_ | refine blk_alloc ?_ _)); exact BK263.out) hb); have n9_ := Aside0.mk (below_step (by repeat (first | (with_reducible first | exact HB.out | apply below_alloc | apply pw_below_drewN | apply below_drew1 | refine below_set ?_ GE216.out | refine below_set ?_ GE228.out | refine below_set ?_ GE233.out | refine below_set ?_ GE240.out | refine below_set ?_ GE263.out) | exact HB.out)) hb); clear HO_229000; clear HO_234000; clear HO_241000; clear HO_264000; clear BK216; clear BK228; clear BK233; clear BK240; clear BK263; clear HB; have HO_229000 := n0_; have HO_234000 := n1_; have HO_241000 := n2_; have HO_264000 := n3_; have BK216 := n4_; have BK228 := n5_; have BK233 := n6_; have BK240 := n7_; have BK263 := n8_; have HB := n9_; clear n0_ n1_ n2_ n3_ n4_ n5_ n6_ n7_ n8_ n9_; (try clear hb); (try clear hb2); (try clear hk); (try clear hi); (refine Classical.byCases (p := (t265 < 0)) (fun c183 => ?zp22) (fun c183 => ?zn22); (case' zn22 => (rw [if_neg c183] at H); (have c183b0 : decide (t265 < 0) = false := decide_eq_false c183); (clear c183); (refine Classical.byCases (p := (t265 = t250)) (fun c190 => ?zp21) (fun c190 => ?zn21); (case' zn21 => (rw [if_neg c190] at H); (have c190b0 : (t265 == t250) = false := beq_eq_false_iff_ne.mpr c190); (have c190b1 : (t265 != t250) = true := bne_iff_ne.mpr c190); (exact absurd ((Option.some.inj H).trans HTr_.out) (by simp))); (case' zp21 => (rw [if_pos c190] at H); (have c190b0 : (t265 == t250) = true := beq_iff_eq.mpr c190); (have c190b1 : (t265 != t250) = false := bne_eq_false_iff_eq.mpr c190); (clear c190); (obtain rfl := Option.some.inj H); (have hnb191 := NB240_216.out); (have hnc191 := NB216_240.out); (have hnb192 := NB240_228.out); (have hnc192 := NB228_240.out); (have hnb193 := NB240_233.out); (have hnc193 := NB233_240.out); (have hnb194 := NB240_263.out); (have hnc194 := NB263_240.out); (obtain ⟨hcz195_0, hcz195_1, hfz195_0, hfz195_1⟩ := zb2 BK240.out)))); (case' zp22 => (rw [if_pos c183] at H); (have c183b0 : decide (t265 < 0) = true := decide_eq_true c183); (clear c183); (exact absurd ((Option.some.inj H).trans HTr_.out) (by simp))))))
                                · go_ret
                                  exact ⟨by first | rfl | (simp [errW_none, errW_some] <;> rfl) | (simp [*, errW_none, errW_some] <;> rfl), by repeat (first | (with_reducible first | exact HB.out | apply below_alloc | apply pw_below_drewN | apply below_drew1 | refine below_set ?_ GE216.out | refine below_set ?_ GE228.out | refine below_set ?_ GE233.out | refine below_set ?_ GE240.out | refine below_set ?_ GE263.out) | exact HB.out)⟩
                        · rw [if_neg c124] at H
                          have c124b0 : (t252 == t250) = false := beq_eq_false_iff_ne.mpr c124
                          have c124b1 : (t252 != t250) = true := bne_iff_ne.mpr c124
                          exact absurd ((Option.some.inj H).trans HTr_.out) (by simp)
              · replace c73 := Bool.eq_false_iff.mpr c73
                subst c73
                have H1 : (some false) = some r := by rw [if_neg (show ¬ (false = true) by decide)] at H; exact H
                clear H
                have H := H1
                clear H1
                exact absurd ((Option.some.inj H).trans HTr_.out) (by simp)
end Go.Proofs.Ytjiekmbonmbhlaa.GFnExactLay
