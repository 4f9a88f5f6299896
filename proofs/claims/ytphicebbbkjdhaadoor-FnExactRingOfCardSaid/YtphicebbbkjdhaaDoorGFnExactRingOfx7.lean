/- Walks of the functions that the law reaches: by programs of this session, over a tool's print. -/
import Derived.Test.YtphicebbbkjdhaaDoorGFnExactRingOfx0
import Derived.Test.YtphicebbbkjdhaaDoorGFnExactRingOfx2
import Derived.Test.YtphicebbbkjdhaaDoorGFnExactRingOfx4
import Derived.Test.YtphicebbbkjdhaaDoorGFnExactRingOfx5
import Derived.Test.YtphicebbbkjdhaaDoorGFnExactRingOfx6
namespace Go.Proofs.YtphicebbbkjdhaaDoor.GFnExactRingOf
open Go.RowKit Go.Proofs.YtphicebbbkjdhaaDoorW.PrintWords Go.Proofs.YtphicebbbkjdhaaDoorW.PrintLast Go.Proofs.YtphicebbbkjdhaaDoorW.PrintMore
attribute [local go_sem] max2_int min2_int max_two min_two max_three min_three max_four min_four   -- for this text's walks alone
set_option linter.unusedVariables false
set_option linter.unusedSimpArgs false

/-! ### laws_FnExactRingOf: function 5 -/
mutual
def laws_FnExactRingOf.j0 : Nat → List Int → Bool → List Int → Bool → Bool → List (S63) → List (S63) → Option (Bool)
  | 0, _, _, _, _, _, _, _ => none
  | k + 1, x0, x4, x5, x7, x37, x183000, x191000 => if x37 = true then (some false) else ((laws_toIntS.f k x0).bind fun t192 => ((laws_eqIntS.f k x5 t192).bind fun t195 => (if t195 = true then ((laws_markIntS.f k x5 1).bind fun bt196 => (if bt196.1 < 0 then (laws_FnExactRingOf.j1 k x0 x4 true x183000 x191000) else ((laws_eqRing.f k x191000 x183000).bind fun t198 => (if t198 = true then (laws_FnExactRingOf.j1 k x0 x4 (x7 != x4) x183000 x191000) else (laws_FnExactRingOf.j1 k x0 x4 true x183000 x191000))))) else (some false))))
def laws_FnExactRingOf.j1 : Nat → List Int → Bool → Bool → List (S63) → List (S63) → Option (Bool)
  | 0, _, _, _, _, _ => none
  | k + 1, x0, x4, x58, x183000, x191000 => if x58 = true then (some false) else ((laws_markRing.f k x191000 1).bind fun bt199 => ((laws_heldRing.f k bt199.2 1).bind fun t201 => (if t201 < 0 then (some false) else (if t201 = bt199.1 then ((laws_toIntS.f k x0).bind fun t202 => ((impl_RingOf.f t202).bind fun bt205 => ((laws_eqRing.f k bt205.1 x183000).bind fun t210 => (if t210 = true then (laws_FnExactRingOf.j2 k bt199.1 (bt205.2 != x4) bt199.2) else (laws_FnExactRingOf.j2 k bt199.1 true bt199.2))))) else (some false)))))
def laws_FnExactRingOf.j2 : Nat → Int → Bool → List (S63) → Option (Bool)
  | 0, _, _, _ => none
  | k + 1, x9, x84, x191000 => if x84 = true then (some false) else ((laws_heldRing.f k x191000 1).bind fun t211 => (if t211 < 0 then (some false) else (if t211 = x9 then (some true) else (some false))))
end
def laws_FnExactRingOf.f (k : Nat) (l0 : List Int) : Option (Bool) := if (l0.length : Int) > 1048576 then (some true) else ((laws_toIntS.f k l0).bind fun t175 => ((spec_RingOf.f k t175).bind fun bt178 => ((laws_toIntS.f k l0).bind fun t183 => ((impl_RingOf.f t183).bind fun bt186 => ((laws_eqRing.f k bt186.1 bt178.1).bind fun t191 => (if t191 = true then (laws_FnExactRingOf.j0 k l0 bt178.2 t183 bt186.2 (bt186.2 != bt178.2) bt178.1 bt186.1) else (laws_FnExactRingOf.j0 k l0 bt178.2 t183 bt186.2 true bt178.1 bt186.1)))))))
theorem laws_FnExactRingOf.mono_l : ∀ k, (∀ y0 y1 y2 y3 y4 y5 y6, LeO (laws_FnExactRingOf.j0 k y0 y1 y2 y3 y4 y5 y6) (laws_FnExactRingOf.j0 (k + 1) y0 y1 y2 y3 y4 y5 y6)) ∧ (∀ y0 y1 y2 y3 y4, LeO (laws_FnExactRingOf.j1 k y0 y1 y2 y3 y4) (laws_FnExactRingOf.j1 (k + 1) y0 y1 y2 y3 y4)) ∧ (∀ y0 y1 y2, LeO (laws_FnExactRingOf.j2 k y0 y1 y2) (laws_FnExactRingOf.j2 (k + 1) y0 y1 y2))
  | 0 => ⟨fun _ _ _ _ _ _ _ r h => by simp [laws_FnExactRingOf.j0] at h, fun _ _ _ _ _ r h => by simp [laws_FnExactRingOf.j1] at h, fun _ _ _ r h => by simp [laws_FnExactRingOf.j2] at h⟩
  | k + 1 => by
    obtain ⟨ih0, ih1, ih2⟩ := laws_FnExactRingOf.mono_l k
    refine ⟨?_, ?_, ?_⟩
    · intro y0 y1 y2 y3 y4 y5 y6
      unfold laws_FnExactRingOf.j0
      repeat' first
      | (with_reducible exact ih0 _ _ _ _ _ _ _)
      | (with_reducible exact ih1 _ _ _ _ _)
      | (with_reducible exact ih2 _ _ _)
      | (with_reducible exact laws_eqIntS.mono _ _ _)
      | (with_reducible exact laws_eqRing.mono _ _ _)
      | (with_reducible exact laws_heldRing.mono _ _ _)
      | (with_reducible exact laws_markIntS.mono _ _ _)
      | (with_reducible exact laws_markRing.mono _ _ _)
      | (with_reducible exact laws_toIntS.mono _ _)
      | (with_reducible exact spec_RingOf.mono _ _)
      | (with_reducible exact LeO.refl _)
      | (with_reducible exact LeO.none _)
      | (with_reducible refine LeO.ite ?_ ?_)
      | (with_reducible refine LeO.bind ?_ (fun _ => ?_))
      | exact ih0 _ _ _ _ _ _ _
      | exact ih1 _ _ _ _ _
      | exact ih2 _ _ _
      | exact laws_eqIntS.mono _ _ _
      | exact laws_eqRing.mono _ _ _
      | exact laws_heldRing.mono _ _ _
      | exact laws_markIntS.mono _ _ _
      | exact laws_markRing.mono _ _ _
      | exact laws_toIntS.mono _ _
      | exact spec_RingOf.mono _ _
      | exact LeO.none _
      | refine LeO.ite ?_ ?_
      | refine LeO.bind ?_ (fun _ => ?_)
    · intro y0 y1 y2 y3 y4
      unfold laws_FnExactRingOf.j1
      repeat' first
      | (with_reducible exact ih0 _ _ _ _ _ _ _)
      | (with_reducible exact ih1 _ _ _ _ _)
      | (with_reducible exact ih2 _ _ _)
      | (with_reducible exact laws_eqIntS.mono _ _ _)
      | (with_reducible exact laws_eqRing.mono _ _ _)
      | (with_reducible exact laws_heldRing.mono _ _ _)
      | (with_reducible exact laws_markIntS.mono _ _ _)
      | (with_reducible exact laws_markRing.mono _ _ _)
      | (with_reducible exact laws_toIntS.mono _ _)
      | (with_reducible exact spec_RingOf.mono _ _)
      | (with_reducible exact LeO.refl _)
      | (with_reducible exact LeO.none _)
      | (with_reducible refine LeO.ite ?_ ?_)
      | (with_reducible refine LeO.bind ?_ (fun _ => ?_))
      | exact ih0 _ _ _ _ _ _ _
      | exact ih1 _ _ _ _ _
      | exact ih2 _ _ _
      | exact laws_eqIntS.mono _ _ _
      | exact laws_eqRing.mono _ _ _
      | exact laws_heldRing.mono _ _ _
      | exact laws_markIntS.mono _ _ _
      | exact laws_markRing.mono _ _ _
      | exact laws_toIntS.mono _ _
      | exact spec_RingOf.mono _ _
      | exact LeO.none _
      | refine LeO.ite ?_ ?_
      | refine LeO.bind ?_ (fun _ => ?_)
    · intro y0 y1 y2
      unfold laws_FnExactRingOf.j2
      repeat' first
      | (with_reducible exact ih0 _ _ _ _ _ _ _)
      | (with_reducible exact ih1 _ _ _ _ _)
      | (with_reducible exact ih2 _ _ _)
      | (with_reducible exact laws_eqIntS.mono _ _ _)
      | (with_reducible exact laws_eqRing.mono _ _ _)
      | (with_reducible exact laws_heldRing.mono _ _ _)
      | (with_reducible exact laws_markIntS.mono _ _ _)
      | (with_reducible exact laws_markRing.mono _ _ _)
      | (with_reducible exact laws_toIntS.mono _ _)
      | (with_reducible exact spec_RingOf.mono _ _)
      | (with_reducible exact LeO.refl _)
      | (with_reducible exact LeO.none _)
      | (with_reducible refine LeO.ite ?_ ?_)
      | (with_reducible refine LeO.bind ?_ (fun _ => ?_))
      | exact ih0 _ _ _ _ _ _ _
      | exact ih1 _ _ _ _ _
      | exact ih2 _ _ _
      | exact laws_eqIntS.mono _ _ _
      | exact laws_eqRing.mono _ _ _
      | exact laws_heldRing.mono _ _ _
      | exact laws_markIntS.mono _ _ _
      | exact laws_markRing.mono _ _ _
      | exact laws_toIntS.mono _ _
      | exact spec_RingOf.mono _ _
      | exact LeO.none _
      | refine LeO.ite ?_ ?_
      | refine LeO.bind ?_ (fun _ => ?_)
theorem laws_FnExactRingOf.mono : ∀ a0 k, LeO (laws_FnExactRingOf.f k a0) (laws_FnExactRingOf.f (k + 1) a0) := by
  intro a0 k
  obtain ⟨ih0, ih1, ih2⟩ := laws_FnExactRingOf.mono_l k
  unfold laws_FnExactRingOf.f
  repeat' first
      | (with_reducible exact ih0 _ _ _ _ _ _ _)
      | (with_reducible exact ih1 _ _ _ _ _)
      | (with_reducible exact ih2 _ _ _)
      | (with_reducible exact laws_eqIntS.mono _ _ _)
      | (with_reducible exact laws_eqRing.mono _ _ _)
      | (with_reducible exact laws_heldRing.mono _ _ _)
      | (with_reducible exact laws_markIntS.mono _ _ _)
      | (with_reducible exact laws_markRing.mono _ _ _)
      | (with_reducible exact laws_toIntS.mono _ _)
      | (with_reducible exact spec_RingOf.mono _ _)
      | (with_reducible exact LeO.refl _)
      | (with_reducible exact LeO.none _)
      | (with_reducible refine LeO.ite ?_ ?_)
      | (with_reducible refine LeO.bind ?_ (fun _ => ?_))
      | exact ih0 _ _ _ _ _ _ _
      | exact ih1 _ _ _ _ _
      | exact ih2 _ _ _
      | exact laws_eqIntS.mono _ _ _
      | exact laws_eqRing.mono _ _ _
      | exact laws_heldRing.mono _ _ _
      | exact laws_markIntS.mono _ _ _
      | exact laws_markRing.mono _ _ _
      | exact laws_toIntS.mono _ _
      | exact spec_RingOf.mono _ _
      | exact LeO.none _
      | refine LeO.ite ?_ ?_
      | refine LeO.bind ?_ (fun _ => ?_)
theorem laws_FnExactRingOf.j0_bad {r : Bool} : ∀ {k} {y0} {y1} {y2} {y3} {y5} {y6}, laws_FnExactRingOf.j0 k y0 y1 y2 y3 true y5 y6 = some r → r = false
  | 0, _, _, _, _, _, _, h => by simp [laws_FnExactRingOf.j0] at h
  | k + 1, _, _, _, _, _, _, h => by simp only [laws_FnExactRingOf.j0, if_true] at h; exact (Option.some.inj h).symm
theorem laws_FnExactRingOf.j1_bad {r : Bool} : ∀ {k} {y0} {y1} {y3} {y4}, laws_FnExactRingOf.j1 k y0 y1 true y3 y4 = some r → r = false
  | 0, _, _, _, _, h => by simp [laws_FnExactRingOf.j1] at h
  | k + 1, _, _, _, _, h => by simp only [laws_FnExactRingOf.j1, if_true] at h; exact (Option.some.inj h).symm
theorem laws_FnExactRingOf.j2_bad {r : Bool} : ∀ {k} {y0} {y2}, laws_FnExactRingOf.j2 k y0 true y2 = some r → r = false
  | 0, _, _, h => by simp [laws_FnExactRingOf.j2] at h
  | k + 1, _, _, h => by simp only [laws_FnExactRingOf.j2, if_true] at h; exact (Option.some.inj h).symm
set_option maxHeartbeats 8000000 in
set_option maxRecDepth 100000 in
theorem laws_FnExactRingOf.calls (k : Nat) (A0 : Option Addr) (c0 : Nat) (l0 : List Int) (r : Bool) (w : World) (hr0 : Kd.C (Kd.int .i64) w A0 l0.length l0) (hc0 : l0.length ≤ c0) (h : laws_FnExactRingOf.f k l0 = some r) (HT0_ : r = true) :
    Calls Tryd.prog 5 #[.slice A0 l0.length c0] w fun e w' => e = .returned (.bool r) ∧ Below w.heap.size w w' := by
  have HTr_ := Aside0.mk HT0_
  clear HT0_
  have hu28 := Tryd.underlying28
  have HR0 := Aside0.mk hr0
  have HC0 := Aside0.mk hc0
  clear hr0 hc0
  have HB := Aside0.mk (Below.refl w.heap.size w)
  have H : (if (l0.length : Int) > 1048576 then (some true) else ((laws_toIntS.f k l0).bind fun t175 => ((spec_RingOf.f k t175).bind fun bt178 => ((laws_toIntS.f k l0).bind fun t183 => ((impl_RingOf.f t183).bind fun bt186 => ((laws_eqRing.f k bt186.1 bt178.1).bind fun t191 => (if t191 = true then (laws_FnExactRingOf.j0 k l0 bt178.2 t183 bt186.2 (bt186.2 != bt178.2) bt178.1 bt186.1) else (laws_FnExactRingOf.j0 k l0 bt178.2 t183 bt186.2 true bt178.1 bt186.1)))))))) = some r := h
  clear h
  by_cases c2 : (l0.length : Int) > 1048576
  · rw [if_pos c2] at H
    have c2b0 : decide (1048576 < (l0.length : Int)) = true := decide_eq_true c2
    have c2b1 : decide (1048576 < l0.length) = true := decide_eq_true (by omega)
    clear c2
    obtain rfl := Option.some.inj H
    go_enter Tryd.func5, Tryd.ntmps5
    go_wp2
    go_ret
    exact ⟨by first | rfl | (simp [errW_none, errW_some] <;> rfl) | (simp [*, errW_none, errW_some] <;> rfl), by repeat (first | (with_reducible first | exact HB.out | apply below_alloc | apply pw_below_drewN | apply below_drew1) | exact HB.out)⟩
  · rw [if_neg c2] at H
    have c2b0 : decide (1048576 < (l0.length : Int)) = false := decide_eq_false c2
    have c2b1 : decide (1048576 < l0.length) = false := decide_eq_false (by omega)
    clear c2
    replace H := Option.bind_eq_some_iff.mp H
    obtain ⟨t175, A30, H⟩ := H
    replace H : ((spec_RingOf.f k t175).bind fun bt178 => ((laws_toIntS.f k l0).bind fun t183 => ((impl_RingOf.f t183).bind fun bt186 => ((laws_eqRing.f k bt186.1 bt178.1).bind fun t191 => (if t191 = true then (laws_FnExactRingOf.j0 k l0 bt178.2 t183 bt186.2 (bt186.2 != bt178.2) bt178.1 bt186.1) else (laws_FnExactRingOf.j0 k l0 bt178.2 t183 bt186.2 true bt178.1 bt186.1)))))) = some r := H
    have A3 := Aside0.mk A30
    clear A30
    replace H := Option.bind_eq_some_iff.mp H
    obtain ⟨⟨t178, t181⟩, A40, H⟩ := H
    replace H : ((laws_toIntS.f k l0).bind fun t183 => ((impl_RingOf.f t183).bind fun bt186 => ((laws_eqRing.f k bt186.1 t178).bind fun t191 => (if t191 = true then (laws_FnExactRingOf.j0 k l0 t181 t183 bt186.2 (bt186.2 != t181) t178 bt186.1) else (laws_FnExactRingOf.j0 k l0 t181 t183 bt186.2 true t178 bt186.1))))) = some r := H
    have A4 := Aside0.mk A40
    clear A40
    replace H := Option.bind_eq_some_iff.mp H
    obtain ⟨t183, A50, H⟩ := H
    replace H : ((impl_RingOf.f t183).bind fun bt186 => ((laws_eqRing.f k bt186.1 t178).bind fun t191 => (if t191 = true then (laws_FnExactRingOf.j0 k l0 t181 t183 bt186.2 (bt186.2 != t181) t178 bt186.1) else (laws_FnExactRingOf.j0 k l0 t181 t183 bt186.2 true t178 bt186.1)))) = some r := H
    have A5 := Aside0.mk A50
    clear A50
    replace H := Option.bind_eq_some_iff.mp H
    obtain ⟨⟨t186, t189⟩, A60, H⟩ := H
    replace H : ((laws_eqRing.f k t186 t178).bind fun t191 => (if t191 = true then (laws_FnExactRingOf.j0 k l0 t181 t183 t189 (t189 != t181) t178 t186) else (laws_FnExactRingOf.j0 k l0 t181 t183 t189 true t178 t186))) = some r := H
    have A6 := Aside0.mk A60
    clear A60
    have HC7 := Aside0.mk H
    clear H
    go_enter Tryd.func5, Tryd.ntmps5
    go_upto_region 6 with (first | ((with_reducible refine gate_callee (f := 20) rfl ?_); refine goesL_ (some 18) rfl rfl Tryd.func20 (by kernel_rfl) rfl #[.slice A0 l0.length c0] rfl (by (try simp only [List.map_toArray, List.map_cons, List.map_nil]); first | done | rfl | (simp only [List.length_drop, List.length_take]; rfl)) ?_; (with_reducible refine (laws_toIntS.calls k _ _ l0 t175 _ ?side1 ?side2 A3.out).mono ?_); (case side1 => repeat (first | exact HR0.out | (with_reducible refine Kd.C_alloc ?_ _) | (with_reducible refine Kd.C_drewN ?_ _) | (with_reducible refine Kd.C_drew ?_))); (case side2 => exact HC0.out); rintro e w8 ⟨v176, rfl, ho0, hb⟩; refine ⟨_, rfl, ?_⟩; have n0_ := Aside0.mk (Kd.R_lower ho0 (below_size (by repeat (first | (with_reducible first | exact HB.out | apply below_alloc | apply pw_below_drewN | apply below_drew1) | exact HB.out)))); have n1_ := Aside0.mk (below_step (by repeat (first | (with_reducible first | exact HB.out | apply below_alloc | apply pw_below_drewN | apply below_drew1) | exact HB.out)) hb); clear HB; have HO177 := n0_; have HB := n1_; clear n0_ n1_; (try clear hb); (try clear hb2); (try clear hk); (try clear hi); (try clear ho0); obtain ⟨Ao9, co9, eo9⟩ := Kd.R_slice HO177.out; subst eo9) | ((with_reducible refine gate_callee (f := 19) rfl ?_); refine goesL_ (some 19) rfl rfl Tryd.func19 (by kernel_rfl) rfl #[.slice Ao9 t175.length co9] rfl (by (try simp only [List.map_toArray, List.map_cons, List.map_nil]); first | done | rfl | (simp only [List.length_drop, List.length_take]; rfl)) ?_; (with_reducible refine (spec_RingOf.calls k _ _ t175 t178 t181 _ ?side1 ?side2 A4.out).mono ?_); (case side1 => repeat (first | exact (Kd.R_reads' HO177.out).2.2 | (with_reducible refine Kd.C_alloc ?_ _) | (with_reducible refine Kd.C_drewN ?_ _) | (with_reducible refine Kd.C_drew ?_))); (case side2 => exact (Kd.R_reads' HO177.out).2.1); rintro e w10 ⟨v179, rfl, ho0, hb⟩; refine ⟨_, rfl, ?_⟩; have n0_ := Aside0.mk (Kd.R_below (by (with_reducible repeat (first | apply Kd.R_alloc | apply Kd.R_drewN | apply Kd.R_drew)); exact HO177.out) hb); have n1_ := Aside0.mk (Kd.R_lower ho0 (below_size (by repeat (first | (with_reducible first | exact HB.out | apply below_alloc | apply pw_below_drewN | apply below_drew1) | exact HB.out)))); have n2_ := Aside0.mk (below_step (by repeat (first | (with_reducible first | exact HB.out | apply below_alloc | apply pw_below_drewN | apply below_drew1) | exact HB.out)) hb); clear HO177; clear HB; have HO177 := n0_; have HO180 := n1_; have HB := n2_; clear n0_ n1_ n2_; (try clear hb); (try clear hb2); (try clear hk); (try clear hi); (try clear ho0)) | ((with_reducible refine gate_dst (N := 3) rfl ?_); refine box_event ?hg (N := 3) ?hd (cs := #[.slice none 0 0]) (t := 28) ?hr ?_; (case hd => rfl); (case hg => rfl); (case hr => first | (go_simp; done) | (go_simp; rfl)); intro gb182 hg w11 hbox hb; have n0_ := Aside0.mk (Kd.R_below (by (with_reducible repeat (first | apply Kd.R_alloc | apply Kd.R_drewN | apply Kd.R_drew)); exact HO177.out) hb); have n1_ := Aside0.mk (Kd.R_below (by (with_reducible repeat (first | apply Kd.R_alloc | apply Kd.R_drewN | apply Kd.R_drew)); exact HO180.out) hb); have n2_ := Aside0.mk (below_step (by repeat (first | (with_reducible first | exact HB.out | apply below_alloc | apply pw_below_drewN | apply below_drew1) | exact HB.out)) hb); have n3_ := Aside0.mk (hbox); have n4_ := Aside0.mk ((by rw [hg]; exact (below_size (by repeat (first | (with_reducible first | exact HB.out | apply below_alloc | apply pw_below_drewN | apply below_drew1) | exact HB.out))) : w.heap.size ≤ gb182)); have n5_ := Aside0.mk ((by rw [hg]; exact (below_size (by repeat (first | (with_reducible first | exact HB.out | apply below_alloc | apply pw_below_drewN | apply below_drew1) | exact HB.out))) : w.heap.size ≤ gb182)); clear HO177; clear HO180; clear HB; have HO177 := n0_; have HO180 := n1_; have HB := n2_; have BK182 := n3_; have GW182 := n4_; have GE182 := n5_; clear n0_ n1_ n2_ n3_ n4_ n5_; clear hb hbox hg; obtain ⟨Ao12, co12, eo12⟩ := Kd.R_slice HO180.out; subst eo12; have hcz13_0 : w11.cell? ⟨gb182, 0, none⟩ = some (.slice none 0 0) := (blk_cell BK182.out 0).trans rfl; have hfz13_0 := blk_frozen BK182.out 0) | ((with_reducible refine gate_callee (f := 20) rfl ?_); refine goesL_ (some 23) rfl rfl Tryd.func20 (by kernel_rfl) rfl #[.slice A0 l0.length c0] rfl (by (try simp only [List.map_toArray, List.map_cons, List.map_nil]); first | done | rfl | (simp only [List.length_drop, List.length_take]; rfl)) ?_; (with_reducible refine (laws_toIntS.calls k _ _ l0 t183 _ ?side1 ?side2 A5.out).mono ?_); (case side1 => exact Kd.C_below HR0.out (by repeat (first | (with_reducible first | exact HB.out | apply below_alloc | apply pw_below_drewN | apply below_drew1 | refine below_set ?_ GE182.out) | exact HB.out))); (case side2 => exact HC0.out); rintro e w14 ⟨v184, rfl, ho0, hb⟩; refine ⟨_, rfl, ?_⟩; have n0_ := Aside0.mk (Kd.R_elder' (by (with_reducible repeat (first | apply Kd.R_alloc | apply Kd.R_drewN | apply Kd.R_drew)); exact (Kd.R_mono (Kd.R_far (p := ⟨gb182, 0, none⟩) (Kd.R_types HO177.out BK182.out (by decide)) (fun _ hk => hk.2) (.slice Ao12 t178.length co12)) (fun _ h_ => h_.1))) (Kd.R_base ho0) hb); have n1_ := Aside0.mk (Kd.R_below (by (with_reducible repeat (first | apply Kd.R_alloc | apply Kd.R_drewN | apply Kd.R_drew)); exact (Kd.R_mono (Kd.R_far (p := ⟨gb182, 0, none⟩) (Kd.R_types HO180.out BK182.out (by decide)) (fun _ hk => hk.2) (.slice Ao12 t178.length co12)) (fun _ h_ => h_.1))) hb); have n2_ := Aside0.mk (Kd.R_lower (Kd.R_new' ho0 (Kd.R_lt (by (with_reducible repeat (first | apply Kd.R_alloc | apply Kd.R_drewN | apply Kd.R_drew)); exact (Kd.R_mono (Kd.R_far (p := ⟨gb182, 0, none⟩) (Kd.R_types HO177.out BK182.out (by decide)) (fun _ hk => hk.2) (.slice Ao12 t178.length co12)) (fun _ h_ => h_.1))))) (below_size (by repeat (first | (with_reducible first | exact HB.out | apply below_alloc | apply pw_below_drewN | apply below_drew1 | refine below_set ?_ GE182.out) | exact HB.out)))); have n3_ := Aside0.mk (blk_below (g := gb182) (o := .cells #[.slice Ao12 t178.length co12] 28 (0, 0)) (by (with_reducible repeat (first | refine blk_drewN ?_ _ | refine blk_drew ?_ | refine blk_alloc ?_ _)); refine blk_put (cs := #[.slice none 0 0]) ?_ 0 _ rfl; (with_reducible repeat (first | refine blk_drewN ?_ _ | refine blk_drew ?_ | refine blk_alloc ?_ _)); exact BK182.out) hb); have n4_ := Aside0.mk (below_step (by repeat (first | (with_reducible first | exact HB.out | apply below_alloc | apply pw_below_drewN | apply below_drew1 | refine below_set ?_ GE182.out) | exact HB.out)) hb); clear HO177; clear HO180; clear BK182; clear HB; have HO177 := n0_; have HO180 := n1_; have HO185 := n2_; have BK182 := n3_; have HB := n4_; clear n0_ n1_ n2_ n3_ n4_; (try clear hb); (try clear hb2); (try clear hk); (try clear hi); (try clear ho0); obtain ⟨Ao15, co15, eo15⟩ := Kd.R_slice HO185.out; subst eo15) | ((with_reducible refine gate_callee (f := 11) rfl ?_); refine goesL_ (some 26) rfl rfl Tryd.func11 (by kernel_rfl) rfl #[.slice Ao15 t183.length co15] rfl (by (try simp only [List.map_toArray, List.map_cons, List.map_nil]); first | done | rfl | (simp only [List.length_drop, List.length_take]; rfl)) ?_; (with_reducible refine (impl_RingOf.calls _ _ t183 t186 t189 _ ?side1 ?side2 A6.out).mono ?_); (case side1 => repeat (first | exact (Kd.R_reads' HO185.out).2.2 | (with_reducible refine Kd.C_alloc ?_ _) | (with_reducible refine Kd.C_drewN ?_ _) | (with_reducible refine Kd.C_drew ?_))); (case side2 => exact (Kd.R_reads' HO185.out).2.1); rintro e w16 ⟨v187, rfl, ho0, hb⟩; refine ⟨_, rfl, ?_⟩; have n0_ := Aside0.mk (Kd.R_below (by (with_reducible repeat (first | apply Kd.R_alloc | apply Kd.R_drewN | apply Kd.R_drew)); exact HO177.out) hb); have n1_ := Aside0.mk (Kd.R_elder' (by (with_reducible repeat (first | apply Kd.R_alloc | apply Kd.R_drewN | apply Kd.R_drew)); exact HO180.out) (Kd.R_base ho0) hb); have n2_ := Aside0.mk (Kd.R_below (by (with_reducible repeat (first | apply Kd.R_alloc | apply Kd.R_drewN | apply Kd.R_drew)); exact HO185.out) hb); have n3_ := Aside0.mk (Kd.R_lower (Kd.R_new' ho0 (Kd.R_lt (by (with_reducible repeat (first | apply Kd.R_alloc | apply Kd.R_drewN | apply Kd.R_drew)); exact HO180.out))) (below_size (by repeat (first | (with_reducible first | exact HB.out | apply below_alloc | apply pw_below_drewN | apply below_drew1 | refine below_set ?_ GE182.out) | exact HB.out)))); have n4_ := Aside0.mk (blk_below (g := gb182) (o := .cells #[.slice Ao12 t178.length co12] 28 (0, 0)) (by (with_reducible repeat (first | refine blk_drewN ?_ _ | refine blk_drew ?_ | refine blk_alloc ?_ _)); exact BK182.out) hb); have n5_ := Aside0.mk (below_step (by repeat (first | (with_reducible first | exact HB.out | apply below_alloc | apply pw_below_drewN | apply below_drew1 | refine below_set ?_ GE182.out) | exact HB.out)) hb); clear HO177; clear HO180; clear HO185; clear BK182; clear HB; have HO177 := n0_; have HO180 := n1_; have HO185 := n2_; have HO188 := n3_; have BK182 := n4_; have HB := n5_; clear n0_ n1_ n2_ n3_ n4_ n5_; (try clear hb); (try clear hb2); (try clear hk); (try clear hi); (try clear ho0)) | ((with_reducible refine gate_dst (N := 6) rfl ?_); refine box_event ?hg (N := 6) ?hd (cs := #[.slice none 0 0]) (t := 28) ?hr ?_; (case hd => rfl); (case hg => rfl); (case hr => first | (go_simp; done) | (go_simp; rfl)); intro gb190 hg w17 hbox hb; have n0_ := Aside0.mk (Kd.R_below (by (with_reducible repeat (first | apply Kd.R_alloc | apply Kd.R_drewN | apply Kd.R_drew)); exact HO177.out) hb); have n1_ := Aside0.mk (Kd.R_below (by (with_reducible repeat (first | apply Kd.R_alloc | apply Kd.R_drewN | apply Kd.R_drew)); exact HO180.out) hb); have n2_ := Aside0.mk (Kd.R_below (by (with_reducible repeat (first | apply Kd.R_alloc | apply Kd.R_drewN | apply Kd.R_drew)); exact HO185.out) hb); have n3_ := Aside0.mk (Kd.R_below (by (with_reducible repeat (first | apply Kd.R_alloc | apply Kd.R_drewN | apply Kd.R_drew)); exact HO188.out) hb); have n4_ := Aside0.mk (blk_below (g := gb182) (o := .cells #[.slice Ao12 t178.length co12] 28 (0, 0)) (by (with_reducible repeat (first | refine blk_drewN ?_ _ | refine blk_drew ?_ | refine blk_alloc ?_ _)); exact BK182.out) hb); have n5_ := Aside0.mk (below_step (by repeat (first | (with_reducible first | exact HB.out | apply below_alloc | apply pw_below_drewN | apply below_drew1 | refine below_set ?_ GE182.out) | exact HB.out)) hb); have n6_ := Aside0.mk (hbox); have n7_ := Aside0.mk ((by rw [hg]; exact (below_size (by repeat (first | (with_reducible first | exact HB.out | apply below_alloc | apply pw_below_drewN | apply below_drew1 | refine below_set ?_ GE182.out) | exact HB.out))) : w.heap.size ≤ gb190)); have n8_ := Aside0.mk ((by rw [hg]; exact (below_size (by repeat (first | (with_reducible first | exact HB.out | apply below_alloc | apply pw_below_drewN | apply below_drew1 | refine below_set ?_ GE182.out) | exact HB.out))) : w.heap.size ≤ gb190)); have n9_ := Aside0.mk ((by rw [hg]; exact Nat.ne_of_lt (blk_lt (g := gb182) (o := .cells #[.slice Ao12 t178.length co12] 28 (0, 0)) (by (with_reducible repeat (first | refine blk_drewN ?_ _ | refine blk_drew ?_ | refine blk_alloc ?_ _)); exact BK182.out)) : gb182 ≠ gb190)); have n10_ := Aside0.mk ((by rw [hg]; exact Nat.ne_of_gt (blk_lt (g := gb182) (o := .cells #[.slice Ao12 t178.length co12] 28 (0, 0)) (by (with_reducible repeat (first | refine blk_drewN ?_ _ | refine blk_drew ?_ | refine blk_alloc ?_ _)); exact BK182.out)) : gb190 ≠ gb182)); clear HO177; clear HO180; clear HO185; clear HO188; clear BK182; clear HB; have HO177 := n0_; have HO180 := n1_; have HO185 := n2_; have HO188 := n3_; have BK182 := n4_; have HB := n5_; have BK190 := n6_; have GW190 := n7_; have GE190 := n8_; have NB182_190 := n9_; have NB190_182 := n10_; clear n0_ n1_ n2_ n3_ n4_ n5_ n6_ n7_ n8_ n9_ n10_; clear hb hbox hg; obtain ⟨Ao18, co18, eo18⟩ := Kd.R_slice HO188.out; subst eo18; have hnb19 := NB190_182.out; have hnc19 := NB182_190.out; have hcz20_0 : w17.cell? ⟨gb190, 0, none⟩ = some (.slice none 0 0) := (blk_cell BK190.out 0).trans rfl; have hfz20_0 := blk_frozen BK190.out 0))
    (try simp only [Act.put, List.setIfInBounds_toArray, List.set_cons_zero, List.set_cons_succ])
    go_cut [37] (fun v37 wc => ∃ (kq : Nat) (x37_6 : Bool), v37 = .bool x37_6 ∧ Aside0 (laws_FnExactRingOf.j0 kq l0 t181 t183 t189 x37_6 t178 t186 = some r) ∧ Aside0 (kq ≤ k) ∧ Aside0 (Kd.R (Kd.int .i64) 3 wc w.heap.size (fun _ => True) (.slice Ao15 t183.length co15) t183) ∧ Aside0 (Kd.R k63 63 wc w.heap.size (fun k_ => some k_ ≠ ((.slice Ao18 t186.length co18) : Value).ownBlock) (.slice Ao12 t178.length co12) t178) ∧ Aside0 (Kd.R k63 63 wc w.heap.size (fun k_ => some k_ ≠ ((.slice Ao12 t178.length co12) : Value).ownBlock) (.slice Ao18 t186.length co18) t186) ∧ Aside0 (wc.heap[gb182]? = some (.cells #[(.slice Ao12 t178.length co12)] 28 (0, 0))) ∧ Aside0 (wc.heap[gb190]? = some (.cells #[(.slice Ao18 t186.length co18)] 28 (0, 0))) ∧ Aside0 (Below w.heap.size w wc))
    case first =>
      have H := HC7.out
      clear HC7
      replace H := Option.bind_eq_some_iff.mp H
      obtain ⟨t191, A210, H⟩ := H
      replace H : (if t191 = true then (laws_FnExactRingOf.j0 k l0 t181 t183 t189 (t189 != t181) t178 t186) else (laws_FnExactRingOf.j0 k l0 t181 t183 t189 true t178 t186)) = some r := H
      have A21 := Aside0.mk A210
      clear A210
      by_cases c22 : t191 = true
      · subst c22
        have H1 : (laws_FnExactRingOf.j0 k l0 t181 t183 t189 (t189 != t181) t178 t186) = some r := by rw [if_pos rfl] at H; exact H
        clear H
        have H := H1
        clear H1
        have H' := Aside0.mk H
        clear H
        have hnb23 := NB190_182.out
        have hnc23 := NB182_190.out
        have hcz24_0 : w17.cell? ⟨gb190, 0, none⟩ = some (.slice none 0 0) := (blk_cell BK190.out 0).trans rfl
        have hfz24_0 := blk_frozen BK190.out 0
        have hcz25_0 : w17.cell? ⟨gb182, 0, none⟩ = some (.slice Ao12 t178.length co12) := (blk_cell BK182.out 0).trans rfl
        have hfz25_0 := blk_frozen BK182.out 0
        go_wp2_with (first | ((with_reducible refine gate_callee (f := 21) rfl ?_); refine goesL_ (some 31) rfl rfl Tryd.func21 (by kernel_rfl) rfl #[.agg #[.slice Ao18 t186.length co18], .agg #[.slice Ao12 t178.length co12]] rfl (by (try simp only [List.map_toArray, List.map_cons, List.map_nil]); first | done | rfl | (simp only [List.length_drop, List.length_take]; rfl)) ?_; (with_reducible refine (laws_eqRing.calls k _ _ t186 _ _ t178 true _ ?side1 ?side2 ?side3 ?side4 A21.out ?prem).mono ?_); (case prem => first|(rfl)|(exact HTr_.out)|(assumption)|(refine (Bool.eq_false_or_eq_true _).resolve_right (fun hz => ?_); rw [hz, if_neg (by decide)] at H; exact absurd ((Option.some.inj H).trans HTr_.out) (by simp))|(refine (Bool.eq_false_or_eq_true _).resolve_right (fun hz => ?_); have H := H'.out; rw [hz] at H; exact absurd ((laws_FnExactRingOf.j0_bad H).symm.trans HTr_.out) (by simp))|(refine (Bool.eq_false_or_eq_true _).resolve_right (fun hz => ?_); rw [hz, if_neg (by decide)] at H; exact absurd ((laws_FnExactRingOf.j0_bad H).symm.trans HTr_.out) (by simp))|(refine (Bool.eq_false_or_eq_true _).resolve_right (fun hz => ?_); have H := H'.out; rw [hz] at H; exact absurd ((laws_FnExactRingOf.j1_bad H).symm.trans HTr_.out) (by simp))|(refine (Bool.eq_false_or_eq_true _).resolve_right (fun hz => ?_); rw [hz, if_neg (by decide)] at H; exact absurd ((laws_FnExactRingOf.j1_bad H).symm.trans HTr_.out) (by simp))|(refine (Bool.eq_false_or_eq_true _).resolve_right (fun hz => ?_); have H := H'.out; rw [hz] at H; exact absurd ((laws_FnExactRingOf.j2_bad H).symm.trans HTr_.out) (by simp))|(refine (Bool.eq_false_or_eq_true _).resolve_right (fun hz => ?_); rw [hz, if_neg (by decide)] at H; exact absurd ((laws_FnExactRingOf.j2_bad H).symm.trans HTr_.out) (by simp))); (case side1 => refine (Kd.R_reads' (e := 63) (base := w.heap.size) (ok := fun k_ => (True ∧ some k_ ≠ (.slice Ao12 t178.length co12 : Value).ownBlock)) (n := t186.length) (c := co18) ?_).2.2; exact (by (with_reducible repeat (first | apply Kd.R_alloc | apply Kd.R_drewN | apply Kd.R_drew)); exact (Kd.R_mono (Kd.R_far (p := ⟨gb190, 0, none⟩) (Kd.R_types HO188.out BK190.out (by decide)) (fun _ hk => hk.2) (.slice Ao18 t186.length co18)) (fun _ h_ => h_.1)))); (case side2 => exact (Kd.R_reads' HO188.out).2.1); (case side3 => refine (Kd.R_reads' (e := 63) (base := w.heap.size) (ok := fun k_ => (True ∧ some k_ ≠ (.slice Ao18 t186.length co18 : Value).ownBlock)) (n := t178.length) (c := co12) ?_).2.2; exact (by (with_reducible repeat (first | apply Kd.R_alloc | apply Kd.R_drewN | apply Kd.R_drew)); exact (Kd.R_mono (Kd.R_far (p := ⟨gb190, 0, none⟩) (Kd.R_types HO180.out BK190.out (by decide)) (fun _ hk => hk.2) (.slice Ao18 t186.length co18)) (fun _ h_ => h_.1)))); (case side4 => exact (Kd.R_reads' HO180.out).2.1); rintro e w26 ⟨rfl, hb⟩; refine ⟨_, rfl, ?_⟩; have n0_ := Aside0.mk (Kd.R_below (by (with_reducible repeat (first | apply Kd.R_alloc | apply Kd.R_drewN | apply Kd.R_drew)); exact (Kd.R_mono (Kd.R_far (p := ⟨gb190, 0, none⟩) (Kd.R_types HO177.out BK190.out (by decide)) (fun _ hk => hk.2) (.slice Ao18 t186.length co18)) (fun _ h_ => h_.1))) hb); have n1_ := Aside0.mk (Kd.R_below (by (with_reducible repeat (first | apply Kd.R_alloc | apply Kd.R_drewN | apply Kd.R_drew)); exact (Kd.R_mono (Kd.R_far (p := ⟨gb190, 0, none⟩) (Kd.R_types HO180.out BK190.out (by decide)) (fun _ hk => hk.2) (.slice Ao18 t186.length co18)) (fun _ h_ => h_.1))) hb); have n2_ := Aside0.mk (Kd.R_below (by (with_reducible repeat (first | apply Kd.R_alloc | apply Kd.R_drewN | apply Kd.R_drew)); exact (Kd.R_mono (Kd.R_far (p := ⟨gb190, 0, none⟩) (Kd.R_types HO185.out BK190.out (by decide)) (fun _ hk => hk.2) (.slice Ao18 t186.length co18)) (fun _ h_ => h_.1))) hb); have n3_ := Aside0.mk (Kd.R_below (by (with_reducible repeat (first | apply Kd.R_alloc | apply Kd.R_drewN | apply Kd.R_drew)); exact (Kd.R_mono (Kd.R_far (p := ⟨gb190, 0, none⟩) (Kd.R_types HO188.out BK190.out (by decide)) (fun _ hk => hk.2) (.slice Ao18 t186.length co18)) (fun _ h_ => h_.1))) hb); have n4_ := Aside0.mk (blk_below (g := gb182) (o := .cells #[.slice Ao12 t178.length co12] 28 (0, 0)) (by (with_reducible repeat (first | refine blk_drewN ?_ _ | refine blk_drew ?_ | refine blk_alloc ?_ _)); refine blk_far ?_ NB182_190.out _; (with_reducible repeat (first | refine blk_drewN ?_ _ | refine blk_drew ?_ | refine blk_alloc ?_ _)); exact BK182.out) hb); have n5_ := Aside0.mk (blk_below (g := gb190) (o := .cells #[.slice Ao18 t186.length co18] 28 (0, 0)) (by (with_reducible repeat (first | refine blk_drewN ?_ _ | refine blk_drew ?_ | refine blk_alloc ?_ _)); refine blk_put (cs := #[.slice none 0 0]) ?_ 0 _ rfl; (with_reducible repeat (first | refine blk_drewN ?_ _ | refine blk_drew ?_ | refine blk_alloc ?_ _)); exact BK190.out) hb); have n6_ := Aside0.mk (below_step (by repeat (first | (with_reducible first | exact HB.out | apply below_alloc | apply pw_below_drewN | apply below_drew1 | refine below_set ?_ GE182.out | refine below_set ?_ GE190.out) | exact HB.out)) hb); clear HO177; clear HO180; clear HO185; clear HO188; clear BK182; clear BK190; clear HB; have HO177 := n0_; have HO180 := n1_; have HO185 := n2_; have HO188 := n3_; have BK182 := n4_; have BK190 := n5_; have HB := n6_; clear n0_ n1_ n2_ n3_ n4_ n5_ n6_; (try clear hb); (try clear hb2); (try clear hk); (try clear hi)))
        go_meet
        case rel => exact ⟨_, ((t189 != t181)), (by first | rfl | (simp; done) | (simp [*]; done)), H', ⟨by first | omega | exact Nat.le_refl _⟩, ⟨by (with_reducible repeat (first | apply Kd.R_alloc | apply Kd.R_drewN | apply Kd.R_drew)); exact Kd.R_mono HO185.out (fun _ hk => trivial)⟩, ⟨by (with_reducible repeat (first | apply Kd.R_alloc | apply Kd.R_drewN | apply Kd.R_drew)); exact Kd.R_mono HO180.out (fun _ hk => hk.2)⟩, ⟨by (with_reducible repeat (first | apply Kd.R_alloc | apply Kd.R_drewN | apply Kd.R_drew)); exact Kd.R_mono HO188.out (fun _ hk => hk.2)⟩, ⟨by (with_reducible repeat (first | refine blk_drewN ?_ _ | refine blk_drew ?_ | refine blk_alloc ?_ _)); exact BK182.out⟩, ⟨by (with_reducible repeat (first | refine blk_drewN ?_ _ | refine blk_drew ?_ | refine blk_alloc ?_ _)); exact BK190.out⟩, ⟨by repeat (first | (with_reducible first | exact HB.out | apply below_alloc | apply pw_below_drewN | apply below_drew1 | refine below_set ?_ GE182.out | refine below_set ?_ GE190.out) | exact HB.out)⟩⟩
      · replace c22 := Bool.eq_false_iff.mpr c22
        subst c22
        have H1 : (laws_FnExactRingOf.j0 k l0 t181 t183 t189 true t178 t186) = some r := by rw [if_neg (show ¬ (false = true) by decide)] at H; exact H
        clear H
        have H := H1
        clear H1
        exact absurd ((laws_FnExactRingOf.j0_bad H).symm.trans HTr_.out) (by simp)
    case rest =>
      clear HC7
      try clear c1
      try clear c2
      try clear c2b0
      try clear c2b1
      try clear p2
      try clear c5
      try clear c11
      try clear c19
      try clear c20
      try clear c21
      try clear c22
      try clear c23
      try clear c27
      try clear hcz13_0
      try clear hcz20_0
      try clear hcz24_0
      try clear hcz25_0
      try clear hcz28_0
      try clear hcz29_0
      try clear hfz13_0
      try clear hfz20_0
      try clear hfz24_0
      try clear hfz25_0
      try clear hfz28_0
      try clear hfz29_0
      obtain ⟨kq, x37_6, rfl, HA, HJ6, HO_5, HO_183000, HO_191000, BK182, BK190, HB⟩ := hcut
      cases kq with
      | zero => exact absurd HA.out (by simp [laws_FnExactRingOf.j0])
      | succ kj6 =>
        have H := HA.out
        clear HA
        simp only [laws_FnExactRingOf.j0] at H
        by_cases c31 : x37_6 = true
        · subst c31
          have H1 : (some false) = some r := by rw [if_pos rfl] at H; exact H
          clear H
          have H := H1
          clear H1
          exact absurd ((Option.some.inj H).trans HTr_.out) (by simp)
        · replace c31 := Bool.eq_false_iff.mpr c31
          subst c31
          have H1 : ((laws_toIntS.f kj6 l0).bind fun t192 => ((laws_eqIntS.f kj6 t183 t192).bind fun t195 => (if t195 = true then ((laws_markIntS.f kj6 t183 1).bind fun bt196 => (if bt196.1 < 0 then (laws_FnExactRingOf.j1 kj6 l0 t181 true t178 t186) else ((laws_eqRing.f kj6 t186 t178).bind fun t198 => (if t198 = true then (laws_FnExactRingOf.j1 kj6 l0 t181 (t189 != t181) t178 t186) else (laws_FnExactRingOf.j1 kj6 l0 t181 true t178 t186))))) else (some false)))) = some r := by rw [if_neg (show ¬ (false = true) by decide)] at H; exact H
          clear H
          have H := H1
          clear H1
          replace H := Option.bind_eq_some_iff.mp H
          obtain ⟨t192, A320, H⟩ := H
          replace H : ((laws_eqIntS.f kj6 t183 t192).bind fun t195 => (if t195 = true then ((laws_markIntS.f kj6 t183 1).bind fun bt196 => (if bt196.1 < 0 then (laws_FnExactRingOf.j1 kj6 l0 t181 true t178 t186) else ((laws_eqRing.f kj6 t186 t178).bind fun t198 => (if t198 = true then (laws_FnExactRingOf.j1 kj6 l0 t181 (t189 != t181) t178 t186) else (laws_FnExactRingOf.j1 kj6 l0 t181 true t178 t186))))) else (some false))) = some r := H
          have A32 := Aside0.mk A320
          clear A320
          replace H := Option.bind_eq_some_iff.mp H
          obtain ⟨t195, A330, H⟩ := H
          replace H : (if t195 = true then ((laws_markIntS.f kj6 t183 1).bind fun bt196 => (if bt196.1 < 0 then (laws_FnExactRingOf.j1 kj6 l0 t181 true t178 t186) else ((laws_eqRing.f kj6 t186 t178).bind fun t198 => (if t198 = true then (laws_FnExactRingOf.j1 kj6 l0 t181 (t189 != t181) t178 t186) else (laws_FnExactRingOf.j1 kj6 l0 t181 true t178 t186))))) else (some false)) = some r := H
          have A33 := Aside0.mk A330
          clear A330
          by_cases c34 : t195 = true
          · subst c34
            have H1 : ((laws_markIntS.f kj6 t183 1).bind fun bt196 => (if bt196.1 < 0 then (laws_FnExactRingOf.j1 kj6 l0 t181 true t178 t186) else ((laws_eqRing.f kj6 t186 t178).bind fun t198 => (if t198 = true then (laws_FnExactRingOf.j1 kj6 l0 t181 (t189 != t181) t178 t186) else (laws_FnExactRingOf.j1 kj6 l0 t181 true t178 t186))))) = some r := by rw [if_pos rfl] at H; exact H
            clear H
            have H := H1
            clear H1
            replace H := Option.bind_eq_some_iff.mp H
            obtain ⟨⟨t196, t197⟩, A350, H⟩ := H
            replace H : (if t196 < 0 then (laws_FnExactRingOf.j1 kj6 l0 t181 true t178 t186) else ((laws_eqRing.f kj6 t186 t178).bind fun t198 => (if t198 = true then (laws_FnExactRingOf.j1 kj6 l0 t181 (t189 != t181) t178 t186) else (laws_FnExactRingOf.j1 kj6 l0 t181 true t178 t186)))) = some r := H
            have A35 := Aside0.mk A350
            clear A350
            have HC36 := Aside0.mk H
            clear H
            go_upto_region 12 with (first | ((with_reducible refine gate_callee (f := 20) rfl ?_); refine goesL_ (some 40) rfl rfl Tryd.func20 (by kernel_rfl) rfl #[.slice A0 l0.length c0] rfl (by (try simp only [List.map_toArray, List.map_cons, List.map_nil]); first | done | rfl | (simp only [List.length_drop, List.length_take]; rfl)) ?_; (with_reducible refine (laws_toIntS.calls kj6 _ _ l0 t192 _ ?side1 ?side2 A32.out).mono ?_); (case side1 => repeat (first | exact (Kd.C_below HR0.out HB.out) | (with_reducible refine Kd.C_alloc ?_ _) | (with_reducible refine Kd.C_drewN ?_ _) | (with_reducible refine Kd.C_drew ?_))); (case side2 => exact HC0.out); rintro e w37 ⟨v193, rfl, ho0, hb⟩; refine ⟨_, rfl, ?_⟩; have n0_ := Aside0.mk (Kd.R_elder' (by (with_reducible repeat (first | apply Kd.R_alloc | apply Kd.R_drewN | apply Kd.R_drew)); exact HO_5.out) (Kd.R_base ho0) hb); have n1_ := Aside0.mk (Kd.R_below (by (with_reducible repeat (first | apply Kd.R_alloc | apply Kd.R_drewN | apply Kd.R_drew)); exact HO_183000.out) hb); have n2_ := Aside0.mk (Kd.R_below (by (with_reducible repeat (first | apply Kd.R_alloc | apply Kd.R_drewN | apply Kd.R_drew)); exact HO_191000.out) hb); have n3_ := Aside0.mk (Kd.R_lower (Kd.R_new' ho0 (Kd.R_lt (by (with_reducible repeat (first | apply Kd.R_alloc | apply Kd.R_drewN | apply Kd.R_drew)); exact HO_5.out))) (below_size (by repeat (first | (with_reducible first | exact HB.out | apply below_alloc | apply pw_below_drewN | apply below_drew1 | refine below_set ?_ GE182.out | refine below_set ?_ GE190.out) | exact HB.out)))); have n4_ := Aside0.mk (blk_below (g := gb182) (o := .cells #[.slice Ao12 t178.length co12] 28 (0, 0)) (by (with_reducible repeat (first | refine blk_drewN ?_ _ | refine blk_drew ?_ | refine blk_alloc ?_ _)); exact BK182.out) hb); have n5_ := Aside0.mk (blk_below (g := gb190) (o := .cells #[.slice Ao18 t186.length co18] 28 (0, 0)) (by (with_reducible repeat (first | refine blk_drewN ?_ _ | refine blk_drew ?_ | refine blk_alloc ?_ _)); exact BK190.out) hb); have n6_ := Aside0.mk (below_step (by repeat (first | (with_reducible first | exact HB.out | apply below_alloc | apply pw_below_drewN | apply below_drew1 | refine below_set ?_ GE182.out | refine below_set ?_ GE190.out) | exact HB.out)) hb); clear HO_5; clear HO_183000; clear HO_191000; clear BK182; clear BK190; clear HB; have HO_5 := n0_; have HO_183000 := n1_; have HO_191000 := n2_; have HO194 := n3_; have BK182 := n4_; have BK190 := n5_; have HB := n6_; clear n0_ n1_ n2_ n3_ n4_ n5_ n6_; (try clear hb); (try clear hb2); (try clear hk); (try clear hi); (try clear ho0); obtain ⟨Ao38, co38, eo38⟩ := Kd.R_slice HO194.out; subst eo38) | ((with_reducible refine gate_callee (f := 22) rfl ?_); refine goesL_ (some 41) rfl rfl Tryd.func22 (by kernel_rfl) rfl #[.slice Ao15 t183.length co15, .slice Ao38 t192.length co38] rfl (by (try simp only [List.map_toArray, List.map_cons, List.map_nil]); first | done | rfl | (simp only [List.length_drop, List.length_take]; rfl)) ?_; (with_reducible refine (laws_eqIntS.calls kj6 _ _ t183 _ _ t192 true _ ?side1 ?side2 ?side3 ?side4 A33.out ?prem).mono ?_); (case prem => first|(rfl)|(exact HTr_.out)|(assumption)|(refine (Bool.eq_false_or_eq_true _).resolve_right (fun hz => ?_); rw [hz, if_neg (by decide)] at H; exact absurd ((Option.some.inj H).trans HTr_.out) (by simp))|(refine (Bool.eq_false_or_eq_true _).resolve_right (fun hz => ?_); have H := H'.out; rw [hz] at H; exact absurd ((laws_FnExactRingOf.j0_bad H).symm.trans HTr_.out) (by simp))|(refine (Bool.eq_false_or_eq_true _).resolve_right (fun hz => ?_); rw [hz, if_neg (by decide)] at H; exact absurd ((laws_FnExactRingOf.j0_bad H).symm.trans HTr_.out) (by simp))|(refine (Bool.eq_false_or_eq_true _).resolve_right (fun hz => ?_); have H := H'.out; rw [hz] at H; exact absurd ((laws_FnExactRingOf.j1_bad H).symm.trans HTr_.out) (by simp))|(refine (Bool.eq_false_or_eq_true _).resolve_right (fun hz => ?_); rw [hz, if_neg (by decide)] at H; exact absurd ((laws_FnExactRingOf.j1_bad H).symm.trans HTr_.out) (by simp))|(refine (Bool.eq_false_or_eq_true _).resolve_right (fun hz => ?_); have H := H'.out; rw [hz] at H; exact absurd ((laws_FnExactRingOf.j2_bad H).symm.trans HTr_.out) (by simp))|(refine (Bool.eq_false_or_eq_true _).resolve_right (fun hz => ?_); rw [hz, if_neg (by decide)] at H; exact absurd ((laws_FnExactRingOf.j2_bad H).symm.trans HTr_.out) (by simp))); (case side1 => repeat (first | exact (Kd.R_reads' HO_5.out).2.2 | (with_reducible refine Kd.C_alloc ?_ _) | (with_reducible refine Kd.C_drewN ?_ _) | (with_reducible refine Kd.C_drew ?_))); (case side2 => exact (Kd.R_reads' HO_5.out).2.1); (case side3 => repeat (first | exact (Kd.R_reads' HO194.out).2.2 | (with_reducible refine Kd.C_alloc ?_ _) | (with_reducible refine Kd.C_drewN ?_ _) | (with_reducible refine Kd.C_drew ?_))); (case side4 => exact (Kd.R_reads' HO194.out).2.1); rintro e w' ⟨rfl, ⟨nd, rfl⟩⟩; refine ⟨_, rfl, ?_⟩) | ((with_reducible refine gate_callee (f := 23) rfl ?_); refine goesL_ (some 45) rfl rfl Tryd.func23 (by kernel_rfl) rfl #[.slice Ao15 t183.length co15, .int .i64 1] rfl (by (try simp only [List.map_toArray, List.map_cons, List.map_nil]); first | done | rfl | (simp only [List.length_drop, List.length_take]; rfl)) ?_; (with_reducible refine (laws_markIntS.calls kj6 (fun k_ => some k_ = (.slice Ao15 t183.length co15 : Value).ownBlock) (.slice Ao15 t183.length co15) t183 1 t196 t197 w _ ?side1 ?side2 A35.out).mono ?_); (case side1 => repeat (first | (with_reducible first | exact HB.out | apply below_alloc | apply pw_below_drewN | apply below_drew1 | refine below_set ?_ GE182.out | refine below_set ?_ GE190.out) | exact HB.out)); (case side2 => exact Kd.R_tight rfl HO_5.out); rintro e w39 ⟨rfl, hy0, hb, hkp⟩; refine ⟨_, rfl, ?_⟩; have n0_ := Aside0.mk (Kd.R_reok rfl hy0 (fun k_ e_ => HO_5.out.1 k_ e_)); have n1_ := Aside0.mk (Kd.R_mono (ok' := fun k_ => some k_ ≠ (.slice Ao18 t186.length co18 : Value).ownBlock) (Kd.R_keptB ((Kd.R_apart' HO_183000.out (Kd.R_typed HO_5.out) (by decide))) hkp (fun k_ hk_ hs_ => by first|exact hk_.2 hs_|(have h_ := hk_; (try simp only [and_assoc] at h_); first|exact h_ hs_|exact h_.1 hs_|exact h_.2 hs_|exact h_.2.1 hs_|exact h_.2.2 hs_|exact h_.2.2.1 hs_|exact h_.2.2.2 hs_|exact h_.2.2.2.1 hs_|exact h_.2.2.2.2 hs_|exact h_.2.2.2.2.1 hs_))) (fun k_ hk_ => by first|exact hk_.1.1|(have h_ := hk_; (try simp only [and_assoc] at h_); first|exact h_|exact h_.1|exact h_.2|exact h_.2.1|exact h_.2.2|exact h_.2.2.1|exact h_.2.2.2|exact h_.2.2.2.1|exact h_.2.2.2.2|exact h_.2.2.2.2.1))); have n2_ := Aside0.mk (Kd.R_mono (ok' := fun k_ => some k_ ≠ (.slice Ao12 t178.length co12 : Value).ownBlock) (Kd.R_keptB ((Kd.R_apart' HO_191000.out (Kd.R_typed HO_5.out) (by decide))) hkp (fun k_ hk_ hs_ => by first|exact hk_.2 hs_|(have h_ := hk_; (try simp only [and_assoc] at h_); first|exact h_ hs_|exact h_.1 hs_|exact h_.2 hs_|exact h_.2.1 hs_|exact h_.2.2 hs_|exact h_.2.2.1 hs_|exact h_.2.2.2 hs_|exact h_.2.2.2.1 hs_|exact h_.2.2.2.2 hs_|exact h_.2.2.2.2.1 hs_))) (fun k_ hk_ => by first|exact hk_.1.1|(have h_ := hk_; (try simp only [and_assoc] at h_); first|exact h_|exact h_.1|exact h_.2|exact h_.2.1|exact h_.2.2|exact h_.2.2.1|exact h_.2.2.2|exact h_.2.2.2.1|exact h_.2.2.2.2|exact h_.2.2.2.2.1))); have n3_ := Aside0.mk (blk_kept (by first|exact BK182.out|exact blk_drewN BK182.out _|((with_reducible repeat (first|refine blk_drewN ?_ _|refine blk_drew ?_|refine blk_alloc ?_ _)); exact BK182.out)) hkp (fun hs_ => (fun e_ => (Kd.R_ne HO_5.out BK182.out (by decide)) e_) hs_)); have n4_ := Aside0.mk (blk_kept (by first|exact BK190.out|exact blk_drewN BK190.out _|((with_reducible repeat (first|refine blk_drewN ?_ _|refine blk_drew ?_|refine blk_alloc ?_ _)); exact BK190.out)) hkp (fun hs_ => (fun e_ => (Kd.R_ne HO_5.out BK190.out (by decide)) e_) hs_)); have n5_ := Aside0.mk (Kd.R_mono (ok' := fun k_ => some k_ ≠ (.slice Ao15 t183.length co15 : Value).ownBlock) (Kd.R_keptB (HO194.out) hkp (fun k_ hk_ hs_ => by first|exact hk_.2 hs_|(have h_ := hk_; (try simp only [and_assoc] at h_); first|exact h_ hs_|exact h_.1 hs_|exact h_.2 hs_|exact h_.2.1 hs_|exact h_.2.2 hs_|exact h_.2.2.1 hs_|exact h_.2.2.2 hs_|exact h_.2.2.2.1 hs_|exact h_.2.2.2.2 hs_|exact h_.2.2.2.2.1 hs_))) (fun k_ hk_ => by first|exact hk_.1.2|(have h_ := hk_; (try simp only [and_assoc] at h_); first|exact h_|exact h_.1|exact h_.2|exact h_.2.1|exact h_.2.2|exact h_.2.2.1|exact h_.2.2.2|exact h_.2.2.2.1|exact h_.2.2.2.2|exact h_.2.2.2.2.1))); have n6_ := Aside0.mk (hb); clear HO_5; clear HO_183000; clear HO_191000; clear BK182; clear BK190; clear HO194; clear HB; have HO_5 := n0_; have HO_183000 := n1_; have HO_191000 := n2_; have BK182 := n3_; have BK190 := n4_; have HO194 := n5_; have HB := n6_; clear n0_ n1_ n2_ n3_ n4_ n5_ n6_; (try clear hb); (try clear hkp); (try clear hy0)))
            (try simp only [Act.put, List.setIfInBounds_toArray, List.set_cons_zero, List.set_cons_succ])
            go_cut [58] (fun v58 wc => ∃ (kq : Nat) (x58_35 : Bool), v58 = .bool x58_35 ∧ Aside0 (laws_FnExactRingOf.j1 kq l0 t181 x58_35 t178 t186 = some r) ∧ Aside0 (kq ≤ kj6) ∧ Aside0 (Kd.R k63 63 wc w.heap.size (fun k_ => some k_ ≠ ((.slice Ao18 t186.length co18) : Value).ownBlock) (.slice Ao12 t178.length co12) t178) ∧ Aside0 (Kd.R k63 63 wc w.heap.size (fun k_ => some k_ ≠ ((.slice Ao12 t178.length co12) : Value).ownBlock) (.slice Ao18 t186.length co18) t186) ∧ Aside0 (wc.heap[gb182]? = some (.cells #[(.slice Ao12 t178.length co12)] 28 (0, 0))) ∧ Aside0 (wc.heap[gb190]? = some (.cells #[(.slice Ao18 t186.length co18)] 28 (0, 0))) ∧ Aside0 (Below w.heap.size w wc))
            case first =>
              have H := HC36.out
              clear HC36
              by_cases c40 : t196 < 0
              · rw [if_pos c40] at H
                have c40b0 : decide (t196 < 0) = true := decide_eq_true c40
                clear c40
                (first | rw [c40b0] | (simp only [i64_w, i32_w]; rw [c40b0]) | skip)
                exact absurd ((laws_FnExactRingOf.j1_bad H).symm.trans HTr_.out) (by simp)
              · rw [if_neg c40] at H
                have c40b0 : decide (t196 < 0) = false := decide_eq_false c40
                clear c40
                (first | rw [c40b0] | (simp only [i64_w, i32_w]; rw [c40b0]) | skip)
                replace H := Option.bind_eq_some_iff.mp H
                obtain ⟨t198, A410, H⟩ := H
                replace H : (if t198 = true then (laws_FnExactRingOf.j1 kj6 l0 t181 (t189 != t181) t178 t186) else (laws_FnExactRingOf.j1 kj6 l0 t181 true t178 t186)) = some r := H
                have A41 := Aside0.mk A410
                clear A410
                by_cases c42 : t198 = true
                · subst c42
                  have H1 : (laws_FnExactRingOf.j1 kj6 l0 t181 (t189 != t181) t178 t186) = some r := by rw [if_pos rfl] at H; exact H
                  clear H
                  have H := H1
                  clear H1
                  have H' := Aside0.mk H
                  clear H
                  have hnb43 := NB190_182.out
                  have hnc43 := NB182_190.out
                  have hcz44_0 : w39.cell? ⟨gb190, 0, none⟩ = some (.slice Ao18 t186.length co18) := (blk_cell BK190.out 0).trans rfl
                  have hfz44_0 := blk_frozen BK190.out 0
                  have hcz45_0 : w39.cell? ⟨gb182, 0, none⟩ = some (.slice Ao12 t178.length co12) := (blk_cell BK182.out 0).trans rfl
                  have hfz45_0 := blk_frozen BK182.out 0
                  go_wp2_with (first | (go_at_call 21; (with_reducible refine (laws_eqRing.calls kj6 _ _ t186 _ _ t178 true _ ?side1 ?side2 ?side3 ?side4 A41.out ?prem).mono ?_); (case prem => first|(rfl)|(exact HTr_.out)|(assumption)|(refine (Bool.eq_false_or_eq_true _).resolve_right (fun hz => ?_); rw [hz, if_neg (by decide)] at H; exact absurd ((Option.some.inj H).trans HTr_.out) (by simp))|(refine (Bool.eq_false_or_eq_true _).resolve_right (fun hz => ?_); have H := H'.out; rw [hz] at H; exact absurd ((laws_FnExactRingOf.j0_bad H).symm.trans HTr_.out) (by simp))|(refine (Bool.eq_false_or_eq_true _).resolve_right (fun hz => ?_); rw [hz, if_neg (by decide)] at H; exact absurd ((laws_FnExactRingOf.j0_bad H).symm.trans HTr_.out) (by simp))|(refine (Bool.eq_false_or_eq_true _).resolve_right (fun hz => ?_); have H := H'.out; rw [hz] at H; exact absurd ((laws_FnExactRingOf.j1_bad H).symm.trans HTr_.out) (by simp))|(refine (Bool.eq_false_or_eq_true _).resolve_right (fun hz => ?_); rw [hz, if_neg (by decide)] at H; exact absurd ((laws_FnExactRingOf.j1_bad H).symm.trans HTr_.out) (by simp))|(refine (Bool.eq_false_or_eq_true _).resolve_right (fun hz => ?_); have H := H'.out; rw [hz] at H; exact absurd ((laws_FnExactRingOf.j2_bad H).symm.trans HTr_.out) (by simp))|(refine (Bool.eq_false_or_eq_true _).resolve_right (fun hz => ?_); rw [hz, if_neg (by decide)] at H; exact absurd ((laws_FnExactRingOf.j2_bad H).symm.trans HTr_.out) (by simp))); (case side1 => repeat (first | exact (Kd.R_reads' HO_191000.out).2.2 | (with_reducible refine Kd.C_alloc ?_ _) | (with_reducible refine Kd.C_drewN ?_ _) | (with_reducible refine Kd.C_drew ?_))); (case side2 => exact (Kd.R_reads' HO_191000.out).2.1); (case side3 => repeat (first | exact (Kd.R_reads' HO_183000.out).2.2 | (with_reducible refine Kd.C_alloc ?_ _) | (with_reducible refine Kd.C_drewN ?_ _) | (with_reducible refine Kd.C_drew ?_))); (case side4 => exact (Kd.R_reads' HO_183000.out).2.1); rintro e w46 ⟨rfl, hb⟩; have n0_ := Aside0.mk (Kd.R_below (by (with_reducible repeat (first | apply Kd.R_alloc | apply Kd.R_drewN | apply Kd.R_drew)); exact HO_5.out) hb); have n1_ := Aside0.mk (Kd.R_below (by (with_reducible repeat (first | apply Kd.R_alloc | apply Kd.R_drewN | apply Kd.R_drew)); exact HO_183000.out) hb); have n2_ := Aside0.mk (Kd.R_below (by (with_reducible repeat (first | apply Kd.R_alloc | apply Kd.R_drewN | apply Kd.R_drew)); exact HO_191000.out) hb); have n3_ := Aside0.mk (Kd.R_below (by (with_reducible repeat (first | apply Kd.R_alloc | apply Kd.R_drewN | apply Kd.R_drew)); exact HO194.out) hb); have n4_ := Aside0.mk (blk_below (g := gb182) (o := .cells #[.slice Ao12 t178.length co12] 28 (0, 0)) (by (with_reducible repeat (first | refine blk_drewN ?_ _ | refine blk_drew ?_ | refine blk_alloc ?_ _)); exact BK182.out) hb); have n5_ := Aside0.mk (blk_below (g := gb190) (o := .cells #[.slice Ao18 t186.length co18] 28 (0, 0)) (by (with_reducible repeat (first | refine blk_drewN ?_ _ | refine blk_drew ?_ | refine blk_alloc ?_ _)); exact BK190.out) hb); have n6_ := Aside0.mk (below_step (by repeat (first | (with_reducible first | exact HB.out | apply below_alloc | apply pw_below_drewN | apply below_drew1 | refine below_set ?_ GE182.out | refine below_set ?_ GE190.out) | exact HB.out)) hb); clear HO_5; clear HO_183000; clear HO_191000; clear HO194; clear BK182; clear BK190; clear HB; have HO_5 := n0_; have HO_183000 := n1_; have HO_191000 := n2_; have HO194 := n3_; have BK182 := n4_; have BK190 := n5_; have HB := n6_; clear n0_ n1_ n2_ n3_ n4_ n5_ n6_; (try clear hb); (try clear hb2); (try clear hk); (try clear hi)))
                  go_meet
                  case rel => exact ⟨_, ((t189 != t181)), (by first | rfl | (simp; done) | (simp [*]; done)), H', ⟨by have := HJ6.out; first | omega | exact Nat.le_refl _⟩, ⟨by (with_reducible repeat (first | apply Kd.R_alloc | apply Kd.R_drewN | apply Kd.R_drew)); exact HO_183000.out⟩, ⟨by (with_reducible repeat (first | apply Kd.R_alloc | apply Kd.R_drewN | apply Kd.R_drew)); exact HO_191000.out⟩, ⟨by (with_reducible repeat (first | refine blk_drewN ?_ _ | refine blk_drew ?_ | refine blk_alloc ?_ _)); exact BK182.out⟩, ⟨by (with_reducible repeat (first | refine blk_drewN ?_ _ | refine blk_drew ?_ | refine blk_alloc ?_ _)); exact BK190.out⟩, ⟨by repeat (first | (with_reducible first | exact HB.out | apply below_alloc | apply pw_below_drewN | apply below_drew1 | refine below_set ?_ GE182.out | refine below_set ?_ GE190.out) | exact HB.out)⟩⟩
                · replace c42 := Bool.eq_false_iff.mpr c42
                  subst c42
                  have H1 : (laws_FnExactRingOf.j1 kj6 l0 t181 true t178 t186) = some r := by rw [if_neg (show ¬ (false = true) by decide)] at H; exact H
                  clear H
                  have H := H1
                  clear H1
                  exact absurd ((laws_FnExactRingOf.j1_bad H).symm.trans HTr_.out) (by simp)
            case rest =>
              clear HC36
              try clear c1
              try clear c2
              try clear c2b0
              try clear c2b1
              try clear p2
              try clear c3
              try clear c4
              try clear c5
              try clear c11
              try clear c19
              try clear c20
              try clear c21
              try clear c22
              try clear c23
              try clear c27
              try clear c31
              try clear c34
              try clear c40
              try clear c40b0
              try clear c42
              try clear c43
              try clear c47
              try clear hcz13_0
              try clear hcz20_0
              try clear hcz24_0
              try clear hcz25_0
              try clear hcz28_0
              try clear hcz29_0
              try clear hcz44_0
              try clear hcz45_0
              try clear hcz48_0
              try clear hcz49_0
              try clear hfz13_0
              try clear hfz20_0
              try clear hfz24_0
              try clear hfz25_0
              try clear hfz28_0
              try clear hfz29_0
              try clear hfz44_0
              try clear hfz45_0
              try clear hfz48_0
              try clear hfz49_0
              try clear p2
              obtain ⟨kq, x58_35, rfl, HA, HJ35, HO_183000, HO_191000, BK182, BK190, HB⟩ := hcut
              cases kq with
              | zero => exact absurd HA.out (by simp [laws_FnExactRingOf.j1])
              | succ kj35 =>
                have H := HA.out
                clear HA
                simp only [laws_FnExactRingOf.j1] at H
                by_cases c51 : x58_35 = true
                · subst c51
                  have H1 : (some false) = some r := by rw [if_pos rfl] at H; exact H
                  clear H
                  have H := H1
                  clear H1
                  exact absurd ((Option.some.inj H).trans HTr_.out) (by simp)
                · replace c51 := Bool.eq_false_iff.mpr c51
                  subst c51
                  have H1 : ((laws_markRing.f kj35 t186 1).bind fun bt199 => ((laws_heldRing.f kj35 bt199.2 1).bind fun t201 => (if t201 < 0 then (some false) else (if t201 = bt199.1 then ((laws_toIntS.f kj35 l0).bind fun t202 => ((impl_RingOf.f t202).bind fun bt205 => ((laws_eqRing.f kj35 bt205.1 t178).bind fun t210 => (if t210 = true then (laws_FnExactRingOf.j2 kj35 bt199.1 (bt205.2 != t181) bt199.2) else (laws_FnExactRingOf.j2 kj35 bt199.1 true bt199.2))))) else (some false))))) = some r := by rw [if_neg (show ¬ (false = true) by decide)] at H; exact H
                  clear H
                  have H := H1
                  clear H1
                  replace H := Option.bind_eq_some_iff.mp H
                  obtain ⟨⟨t199, t200⟩, A520, H⟩ := H
                  replace H : ((laws_heldRing.f kj35 t200 1).bind fun t201 => (if t201 < 0 then (some false) else (if t201 = t199 then ((laws_toIntS.f kj35 l0).bind fun t202 => ((impl_RingOf.f t202).bind fun bt205 => ((laws_eqRing.f kj35 bt205.1 t178).bind fun t210 => (if t210 = true then (laws_FnExactRingOf.j2 kj35 t199 (bt205.2 != t181) t200) else (laws_FnExactRingOf.j2 kj35 t199 true t200))))) else (some false)))) = some r := H
                  have A52 := Aside0.mk A520
                  clear A520
                  replace H := Option.bind_eq_some_iff.mp H
                  obtain ⟨t201, A530, H⟩ := H
                  replace H : (if t201 < 0 then (some false) else (if t201 = t199 then ((laws_toIntS.f kj35 l0).bind fun t202 => ((impl_RingOf.f t202).bind fun bt205 => ((laws_eqRing.f kj35 bt205.1 t178).bind fun t210 => (if t210 = true then (laws_FnExactRingOf.j2 kj35 t199 (bt205.2 != t181) t200) else (laws_FnExactRingOf.j2 kj35 t199 true t200))))) else (some false))) = some r := H
                  have A53 := Aside0.mk A530
                  clear A530
                  by_cases c54 : t201 < 0
                  · rw [if_pos c54] at H
                    have c54b0 : decide (t201 < 0) = true := decide_eq_true c54
                    clear c54
                    exact absurd ((Option.some.inj H).trans HTr_.out) (by simp)
                  · rw [if_neg c54] at H
                    have c54b0 : decide (t201 < 0) = false := decide_eq_false c54
                    clear c54
                    by_cases c60 : t201 = t199
                    · rw [if_pos c60] at H
                      have c60b0 : (t201 == t199) = true := beq_iff_eq.mpr c60
                      have c60b1 : (t201 != t199) = false := bne_eq_false_iff_eq.mpr c60
                      clear c60
                      replace H := Option.bind_eq_some_iff.mp H
                      obtain ⟨t202, A610, H⟩ := H
                      replace H : ((impl_RingOf.f t202).bind fun bt205 => ((laws_eqRing.f kj35 bt205.1 t178).bind fun t210 => (if t210 = true then (laws_FnExactRingOf.j2 kj35 t199 (bt205.2 != t181) t200) else (laws_FnExactRingOf.j2 kj35 t199 true t200)))) = some r := H
                      have A61 := Aside0.mk A610
                      clear A610
                      replace H := Option.bind_eq_some_iff.mp H
                      obtain ⟨⟨t205, t208⟩, A620, H⟩ := H
                      replace H : ((laws_eqRing.f kj35 t205 t178).bind fun t210 => (if t210 = true then (laws_FnExactRingOf.j2 kj35 t199 (t208 != t181) t200) else (laws_FnExactRingOf.j2 kj35 t199 true t200))) = some r := H
                      have A62 := Aside0.mk A620
                      clear A620
                      have HC63 := Aside0.mk H
                      clear H
                      have hnb64 := NB190_182.out
                      have hnc64 := NB182_190.out
                      have hcz65_0 : wc.cell? ⟨gb190, 0, none⟩ = some (.slice Ao18 t186.length co18) := (blk_cell BK190.out 0).trans rfl
                      have hfz65_0 := blk_frozen BK190.out 0
                      go_upto_region 23 with (first | ((with_reducible refine gate_callee (f := 24) rfl ?_); refine goesL_ (some 61) rfl rfl Tryd.func24 (by kernel_rfl) rfl #[.agg #[.slice Ao18 t186.length co18], .int .i64 1] rfl (by (try simp only [List.map_toArray, List.map_cons, List.map_nil]); first | done | rfl | (simp only [List.length_drop, List.length_take]; rfl)) ?_; (with_reducible refine (laws_markRing.calls kj35 (fun k_ => some k_ = (.slice Ao18 t186.length co18 : Value).ownBlock) (.slice Ao18 t186.length co18) t186 1 t199 t200 w _ ?side1 ?side2 A52.out).mono ?_); (case side1 => repeat (first | (with_reducible first | exact HB.out | apply below_alloc | apply pw_below_drewN | apply below_drew1 | refine below_set ?_ GE182.out | refine below_set ?_ GE190.out) | exact HB.out)); (case side2 => exact Kd.R_tight rfl HO_191000.out); rintro e w66 ⟨rfl, hy0, hb, hkp⟩; refine ⟨_, rfl, ?_⟩; have n0_ := Aside0.mk (Kd.R_mono (ok' := fun k_ => some k_ ≠ (.slice Ao18 t186.length co18 : Value).ownBlock) (Kd.R_keptB (HO_183000.out) hkp (fun k_ hk_ hs_ => (hk_) hs_)) (fun k_ hk_ => hk_.1)); have n1_ := Aside0.mk (Kd.R_reok rfl hy0 (fun k_ e_ => HO_191000.out.1 k_ e_)); have n2_ := Aside0.mk (blk_kept (by first|exact BK182.out|exact blk_drewN BK182.out _|((with_reducible repeat (first|refine blk_drewN ?_ _|refine blk_drew ?_|refine blk_alloc ?_ _)); exact BK182.out)) hkp (fun hs_ => (fun e_ => (Kd.R_ne HO_191000.out BK182.out (by decide)) e_) hs_)); have n3_ := Aside0.mk (blk_kept (by first|exact BK190.out|exact blk_drewN BK190.out _|((with_reducible repeat (first|refine blk_drewN ?_ _|refine blk_drew ?_|refine blk_alloc ?_ _)); exact BK190.out)) hkp (fun hs_ => (fun e_ => (Kd.R_ne HO_191000.out BK190.out (by decide)) e_) hs_)); have n4_ := Aside0.mk (hb); clear HO_183000; clear HO_191000; clear BK182; clear BK190; clear HB; have HO_183000 := n0_; have HO_191000 := n1_; have BK182 := n2_; have BK190 := n3_; have HB := n4_; clear n0_ n1_ n2_ n3_ n4_; (try clear hb); (try clear hkp); (try clear hy0); have hcz67_0 : w66.cell? ⟨gb190, 0, none⟩ = some (.slice Ao18 t186.length co18) := (blk_cell BK190.out 0).trans rfl; have hfz67_0 := blk_frozen BK190.out 0) | ((with_reducible refine gate_callee (f := 25) rfl ?_); refine goesL_ (some 64) rfl rfl Tryd.func25 (by kernel_rfl) rfl #[.agg #[.slice Ao18 t200.length co18], .int .i64 1] rfl (by (try simp only [List.map_toArray, List.map_cons, List.map_nil]); first | done | (rw [show t200.length = t186.length from (Kd.R_reads' HO_191000.out).1.symm] <;> rfl) | rfl | (simp only [List.length_drop, List.length_take]; rfl)) ?_; (with_reducible refine (laws_heldRing.calls kj35 _ _ t200 1 t201 _ ?side1 ?side2 A53.out ?prem).mono ?_); (case prem => first|(exact HTr_.out)|(intro hz; rw [if_pos hz] at H; exact absurd ((Option.some.inj H).trans HTr_.out) (by simp))|(intro hz; rw [if_pos hz] at H; exact absurd (Option.some.inj H) (by have := HTr_.out; omega))|(exact of_decide_eq_false (by assumption))|(omega)); (case side1 => repeat (first | exact (Kd.R_reads' HO_191000.out).2.2 | (with_reducible refine Kd.C_alloc ?_ _) | (with_reducible refine Kd.C_drewN ?_ _) | (with_reducible refine Kd.C_drew ?_))); (case side2 => rw [show t200.length = t186.length from (Kd.R_reads' HO_191000.out).1.symm]; exact (Kd.R_reads' HO_191000.out).2.1); rintro e w68 ⟨rfl, hb⟩; refine ⟨_, rfl, ?_⟩; have n0_ := Aside0.mk (Kd.R_below (by (with_reducible repeat (first | apply Kd.R_alloc | apply Kd.R_drewN | apply Kd.R_drew)); exact HO_183000.out) hb); have n1_ := Aside0.mk (Kd.R_below (by (with_reducible repeat (first | apply Kd.R_alloc | apply Kd.R_drewN | apply Kd.R_drew)); exact HO_191000.out) hb); have n2_ := Aside0.mk (blk_below (g := gb182) (o := .cells #[.slice Ao12 t178.length co12] 28 (0, 0)) (by (with_reducible repeat (first | refine blk_drewN ?_ _ | refine blk_drew ?_ | refine blk_alloc ?_ _)); exact BK182.out) hb); have n3_ := Aside0.mk (blk_below (g := gb190) (o := .cells #[.slice Ao18 t186.length co18] 28 (0, 0)) (by (with_reducible repeat (first | refine blk_drewN ?_ _ | refine blk_drew ?_ | refine blk_alloc ?_ _)); exact BK190.out) hb); have n4_ := Aside0.mk (below_step (by repeat (first | (with_reducible first | exact HB.out | apply below_alloc | apply pw_below_drewN | apply below_drew1 | refine below_set ?_ GE182.out | refine below_set ?_ GE190.out) | exact HB.out)) hb); clear HO_183000; clear HO_191000; clear BK182; clear BK190; clear HB; have HO_183000 := n0_; have HO_191000 := n1_; have BK182 := n2_; have BK190 := n3_; have HB := n4_; clear n0_ n1_ n2_ n3_ n4_; (try clear hb); (try clear hb2); (try clear hk); (try clear hi)) | ((with_reducible refine gate_callee (f := 20) rfl ?_); refine goesL_ (some 72) rfl rfl Tryd.func20 (by kernel_rfl) rfl #[.slice A0 l0.length c0] rfl (by (try simp only [List.map_toArray, List.map_cons, List.map_nil]); first | done | rfl | (simp only [List.length_drop, List.length_take]; rfl)) ?_; (with_reducible refine (laws_toIntS.calls kj35 _ _ l0 t202 _ ?side1 ?side2 A61.out).mono ?_); (case side1 => repeat (first | exact (Kd.C_below HR0.out HB.out) | (with_reducible refine Kd.C_alloc ?_ _) | (with_reducible refine Kd.C_drewN ?_ _) | (with_reducible refine Kd.C_drew ?_))); (case side2 => exact HC0.out); rintro e w69 ⟨v203, rfl, ho0, hb⟩; refine ⟨_, rfl, ?_⟩; have n0_ := Aside0.mk (Kd.R_below (by (with_reducible repeat (first | apply Kd.R_alloc | apply Kd.R_drewN | apply Kd.R_drew)); exact HO_183000.out) hb); have n1_ := Aside0.mk (Kd.R_below (by (with_reducible repeat (first | apply Kd.R_alloc | apply Kd.R_drewN | apply Kd.R_drew)); exact HO_191000.out) hb); have n2_ := Aside0.mk (Kd.R_lower ho0 (below_size (by repeat (first | (with_reducible first | exact HB.out | apply below_alloc | apply pw_below_drewN | apply below_drew1 | refine below_set ?_ GE182.out | refine below_set ?_ GE190.out) | exact HB.out)))); have n3_ := Aside0.mk (blk_below (g := gb182) (o := .cells #[.slice Ao12 t178.length co12] 28 (0, 0)) (by (with_reducible repeat (first | refine blk_drewN ?_ _ | refine blk_drew ?_ | refine blk_alloc ?_ _)); exact BK182.out) hb); have n4_ := Aside0.mk (blk_below (g := gb190) (o := .cells #[.slice Ao18 t186.length co18] 28 (0, 0)) (by (with_reducible repeat (first | refine blk_drewN ?_ _ | refine blk_drew ?_ | refine blk_alloc ?_ _)); exact BK190.out) hb); have n5_ := Aside0.mk (below_step (by repeat (first | (with_reducible first | exact HB.out | apply below_alloc | apply pw_below_drewN | apply below_drew1 | refine below_set ?_ GE182.out | refine below_set ?_ GE190.out) | exact HB.out)) hb); clear HO_183000; clear HO_191000; clear BK182; clear BK190; clear HB; have HO_183000 := n0_; have HO_191000 := n1_; have HO204 := n2_; have BK182 := n3_; have BK190 := n4_; have HB := n5_; clear n0_ n1_ n2_ n3_ n4_ n5_; (try clear hb); (try clear hb2); (try clear hk); (try clear hi); (try clear ho0); obtain ⟨Ao70, co70, eo70⟩ := Kd.R_slice HO204.out; subst eo70) | ((with_reducible refine gate_callee (f := 11) rfl ?_); refine goesL_ (some 73) rfl rfl Tryd.func11 (by kernel_rfl) rfl #[.slice Ao70 t202.length co70] rfl (by (try simp only [List.map_toArray, List.map_cons, List.map_nil]); first | done | rfl | (simp only [List.length_drop, List.length_take]; rfl)) ?_; (with_reducible refine (impl_RingOf.calls _ _ t202 t205 t208 _ ?side1 ?side2 A62.out).mono ?_); (case side1 => repeat (first | exact (Kd.R_reads' HO204.out).2.2 | (with_reducible refine Kd.C_alloc ?_ _) | (with_reducible refine Kd.C_drewN ?_ _) | (with_reducible refine Kd.C_drew ?_))); (case side2 => exact (Kd.R_reads' HO204.out).2.1); rintro e w71 ⟨v206, rfl, ho0, hb⟩; refine ⟨_, rfl, ?_⟩; have n0_ := Aside0.mk (Kd.R_elder' (by (with_reducible repeat (first | apply Kd.R_alloc | apply Kd.R_drewN | apply Kd.R_drew)); exact HO_183000.out) (Kd.R_base ho0) hb); have n1_ := Aside0.mk (Kd.R_elder' (by (with_reducible repeat (first | apply Kd.R_alloc | apply Kd.R_drewN | apply Kd.R_drew)); exact HO_191000.out) (Kd.R_base ho0) hb); have n2_ := Aside0.mk (Kd.R_below (by (with_reducible repeat (first | apply Kd.R_alloc | apply Kd.R_drewN | apply Kd.R_drew)); exact HO204.out) hb); have n3_ := Aside0.mk (Kd.R_lower (Kd.R_new' (Kd.R_new' ho0 (Kd.R_lt (by (with_reducible repeat (first | apply Kd.R_alloc | apply Kd.R_drewN | apply Kd.R_drew)); exact HO_183000.out))) (Kd.R_lt (by (with_reducible repeat (first | apply Kd.R_alloc | apply Kd.R_drewN | apply Kd.R_drew)); exact HO_191000.out))) (below_size (by repeat (first | (with_reducible first | exact HB.out | apply below_alloc | apply pw_below_drewN | apply below_drew1 | refine below_set ?_ GE182.out | refine below_set ?_ GE190.out) | exact HB.out)))); have n4_ := Aside0.mk (blk_below (g := gb182) (o := .cells #[.slice Ao12 t178.length co12] 28 (0, 0)) (by (with_reducible repeat (first | refine blk_drewN ?_ _ | refine blk_drew ?_ | refine blk_alloc ?_ _)); exact BK182.out) hb); have n5_ := Aside0.mk (blk_below (g := gb190) (o := .cells #[.slice Ao18 t186.length co18] 28 (0, 0)) (by (with_reducible repeat (first | refine blk_drewN ?_ _ | refine blk_drew ?_ | refine blk_alloc ?_ _)); exact BK190.out) hb); have n6_ := Aside0.mk (below_step (by repeat (first | (with_reducible first | exact HB.out | apply below_alloc | apply pw_below_drewN | apply below_drew1 | refine below_set ?_ GE182.out | refine below_set ?_ GE190.out) | exact HB.out)) hb); clear HO_183000; clear HO_191000; clear HO204; clear BK182; clear BK190; clear HB; have HO_183000 := n0_; have HO_191000 := n1_; have HO204 := n2_; have HO207 := n3_; have BK182 := n4_; have BK190 := n5_; have HB := n6_; clear n0_ n1_ n2_ n3_ n4_ n5_ n6_; (try clear hb); (try clear hb2); (try clear hk); (try clear hi); (try clear ho0)) | ((with_reducible refine gate_dst (N := 11) rfl ?_); refine box_event ?hg (N := 11) ?hd (cs := #[.slice none 0 0]) (t := 28) ?hr ?_; (case hd => rfl); (case hg => rfl); (case hr => first | (go_simp; done) | (go_simp; rfl)); intro gb209 hg w72 hbox hb; have n0_ := Aside0.mk (Kd.R_below (by (with_reducible repeat (first | apply Kd.R_alloc | apply Kd.R_drewN | apply Kd.R_drew)); exact HO_183000.out) hb); have n1_ := Aside0.mk (Kd.R_below (by (with_reducible repeat (first | apply Kd.R_alloc | apply Kd.R_drewN | apply Kd.R_drew)); exact HO_191000.out) hb); have n2_ := Aside0.mk (Kd.R_below (by (with_reducible repeat (first | apply Kd.R_alloc | apply Kd.R_drewN | apply Kd.R_drew)); exact HO204.out) hb); have n3_ := Aside0.mk (Kd.R_below (by (with_reducible repeat (first | apply Kd.R_alloc | apply Kd.R_drewN | apply Kd.R_drew)); exact HO207.out) hb); have n4_ := Aside0.mk (blk_below (g := gb182) (o := .cells #[.slice Ao12 t178.length co12] 28 (0, 0)) (by (with_reducible repeat (first | refine blk_drewN ?_ _ | refine blk_drew ?_ | refine blk_alloc ?_ _)); exact BK182.out) hb); have n5_ := Aside0.mk (blk_below (g := gb190) (o := .cells #[.slice Ao18 t186.length co18] 28 (0, 0)) (by (with_reducible repeat (first | refine blk_drewN ?_ _ | refine blk_drew ?_ | refine blk_alloc ?_ _)); exact BK190.out) hb); have n6_ := Aside0.mk (below_step (by repeat (first | (with_reducible first | exact HB.out | apply below_alloc | apply pw_below_drewN | apply below_drew1 | refine below_set ?_ GE182.out | refine below_set ?_ GE190.out) | exact HB.out)) hb); have n7_ := Aside0.mk (hbox); have n8_ := Aside0.mk ((by rw [hg]; exact (below_size (by repeat (first | (with_reducible first | exact HB.out | apply below_alloc | apply pw_below_drewN | apply below_drew1 | refine below_set ?_ GE182.out | refine below_set ?_ GE190.out) | exact HB.out))) : w.heap.size ≤ gb209)); have n9_ := Aside0.mk ((by rw [hg]; exact (below_size (by repeat (first | (with_reducible first | exact HB.out | apply below_alloc | apply pw_below_drewN | apply below_drew1 | refine below_set ?_ GE182.out | refine below_set ?_ GE190.out) | exact HB.out))) : w.heap.size ≤ gb209)); have n10_ := Aside0.mk ((by rw [hg]; exact Nat.ne_of_lt (blk_lt (g := gb182) (o := .cells #[.slice Ao12 t178.length co12] 28 (0, 0)) (by (with_reducible repeat (first | refine blk_drewN ?_ _ | refine blk_drew ?_ | refine blk_alloc ?_ _)); exact BK182.out)) : gb182 ≠ gb209)); have n11_ := Aside0.mk ((by rw [hg]; exact Nat.ne_of_gt (blk_lt (g := gb182) (o := .cells #[.slice Ao12 t178.length co12] 28 (0, 0)) (by (with_reducible repeat (first | refine blk_drewN ?_ _ | refine blk_drew ?_ | refine blk_alloc ?_ _)); exact BK182.out)) : gb209 ≠ gb182)); have n12_ := Aside0.mk ((by rw [hg]; exact Nat.ne_of_lt (blk_lt (g := gb190) (o := .cells #[.slice Ao18 t186.length co18] 28 (0, 0)) (by (with_reducible repeat (first | refine blk_drewN ?_ _ | refine blk_drew ?_ | refine blk_alloc ?_ _)); exact BK190.out)) : gb190 ≠ gb209)); have n13_ := Aside0.mk ((by rw [hg]; exact Nat.ne_of_gt (blk_lt (g := gb190) (o := .cells #[.slice Ao18 t186.length co18] 28 (0, 0)) (by (with_reducible repeat (first | refine blk_drewN ?_ _ | refine blk_drew ?_ | refine blk_alloc ?_ _)); exact BK190.out)) : gb209 ≠ gb190)); clear HO_183000; clear HO_191000; clear HO204; clear HO207; clear BK182; clear BK190; clear HB; have HO_183000 := n0_; have HO_191000 := n1_; have HO204 := n2_; have HO207 := n3_; have BK182 := n4_; have BK190 := n5_; have HB := n6_; have BK209 := n7_; have GW209 := n8_; have GE209 := n9_; have NB182_209 := n10_; have NB209_182 := n11_; have NB190_209 := n12_; have NB209_190 := n13_; clear n0_ n1_ n2_ n3_ n4_ n5_ n6_ n7_ n8_ n9_ n10_ n11_ n12_ n13_; clear hb hbox hg; obtain ⟨Ao73, co73, eo73⟩ := Kd.R_slice HO207.out; subst eo73; have hnb74 := NB209_182.out; have hnc74 := NB182_209.out; have hnb75 := NB209_190.out; have hnc75 := NB190_209.out; have hcz76_0 : w72.cell? ⟨gb209, 0, none⟩ = some (.slice none 0 0) := (blk_cell BK209.out 0).trans rfl; have hfz76_0 := blk_frozen BK209.out 0))
                      (try simp only [Act.put, List.setIfInBounds_toArray, List.set_cons_zero, List.set_cons_succ])
                      go_cut [84] (fun v84 wc => ∃ (kq : Nat) (x84_62 : Bool), v84 = .bool x84_62 ∧ Aside0 (laws_FnExactRingOf.j2 kq t199 x84_62 t200 = some r) ∧ Aside0 (kq ≤ kj35) ∧ Aside0 (Kd.R k63 63 wc w.heap.size (fun k_ => some k_ ≠ ((.slice Ao18 t186.length co18) : Value).ownBlock ∧ some k_ ≠ ((.slice Ao73 t205.length co73) : Value).ownBlock) (.slice Ao12 t178.length co12) t178) ∧ Aside0 (Kd.R k63 63 wc w.heap.size (fun k_ => some k_ ≠ ((.slice Ao12 t178.length co12) : Value).ownBlock ∧ some k_ ≠ ((.slice Ao73 t205.length co73) : Value).ownBlock) (.slice Ao18 t186.length co18) t200) ∧ Aside0 (Kd.R k63 63 wc w.heap.size (fun k_ => some k_ ≠ ((.slice Ao12 t178.length co12) : Value).ownBlock ∧ some k_ ≠ ((.slice Ao18 t186.length co18) : Value).ownBlock) (.slice Ao73 t205.length co73) t205) ∧ Aside0 (wc.heap[gb182]? = some (.cells #[(.slice Ao12 t178.length co12)] 28 (0, 0))) ∧ Aside0 (wc.heap[gb190]? = some (.cells #[(.slice Ao18 t186.length co18)] 28 (0, 0))) ∧ Aside0 (wc.heap[gb209]? = some (.cells #[(.slice Ao73 t205.length co73)] 28 (0, 0))) ∧ Aside0 (Below w.heap.size w wc))
                      case first =>
                        have H := HC63.out
                        clear HC63
                        replace H := Option.bind_eq_some_iff.mp H
                        obtain ⟨t210, A770, H⟩ := H
                        replace H : (if t210 = true then (laws_FnExactRingOf.j2 kj35 t199 (t208 != t181) t200) else (laws_FnExactRingOf.j2 kj35 t199 true t200)) = some r := H
                        have A77 := Aside0.mk A770
                        clear A770
                        by_cases c78 : t210 = true
                        · subst c78
                          have H1 : (laws_FnExactRingOf.j2 kj35 t199 (t208 != t181) t200) = some r := by rw [if_pos rfl] at H; exact H
                          clear H
                          have H := H1
                          clear H1
                          have H' := Aside0.mk H
                          clear H
                          have hnb79 := NB209_182.out
                          have hnc79 := NB182_209.out
                          have hnb80 := NB209_190.out
                          have hnc80 := NB190_209.out
                          have hcz81_0 : w72.cell? ⟨gb209, 0, none⟩ = some (.slice none 0 0) := (blk_cell BK209.out 0).trans rfl
                          have hfz81_0 := blk_frozen BK209.out 0
                          have hnb82 := NB182_190.out
                          have hnc82 := NB190_182.out
                          have hcz83_0 : w72.cell? ⟨gb182, 0, none⟩ = some (.slice Ao12 t178.length co12) := (blk_cell BK182.out 0).trans rfl
                          have hfz83_0 := blk_frozen BK182.out 0
                          go_wp2_with (first | ((with_reducible refine gate_callee (f := 21) rfl ?_); refine goesL_ (some 78) rfl rfl Tryd.func21 (by kernel_rfl) rfl #[.agg #[.slice Ao73 t205.length co73], .agg #[.slice Ao12 t178.length co12]] rfl (by (try simp only [List.map_toArray, List.map_cons, List.map_nil]); first | done | rfl | (simp only [List.length_drop, List.length_take]; rfl)) ?_; (with_reducible refine (laws_eqRing.calls kj35 _ _ t205 _ _ t178 true _ ?side1 ?side2 ?side3 ?side4 A77.out ?prem).mono ?_); (case prem => first|(rfl)|(exact HTr_.out)|(assumption)|(refine (Bool.eq_false_or_eq_true _).resolve_right (fun hz => ?_); rw [hz, if_neg (by decide)] at H; exact absurd ((Option.some.inj H).trans HTr_.out) (by simp))|(refine (Bool.eq_false_or_eq_true _).resolve_right (fun hz => ?_); have H := H'.out; rw [hz] at H; exact absurd ((laws_FnExactRingOf.j0_bad H).symm.trans HTr_.out) (by simp))|(refine (Bool.eq_false_or_eq_true _).resolve_right (fun hz => ?_); rw [hz, if_neg (by decide)] at H; exact absurd ((laws_FnExactRingOf.j0_bad H).symm.trans HTr_.out) (by simp))|(refine (Bool.eq_false_or_eq_true _).resolve_right (fun hz => ?_); have H := H'.out; rw [hz] at H; exact absurd ((laws_FnExactRingOf.j1_bad H).symm.trans HTr_.out) (by simp))|(refine (Bool.eq_false_or_eq_true _).resolve_right (fun hz => ?_); rw [hz, if_neg (by decide)] at H; exact absurd ((laws_FnExactRingOf.j1_bad H).symm.trans HTr_.out) (by simp))|(refine (Bool.eq_false_or_eq_true _).resolve_right (fun hz => ?_); have H := H'.out; rw [hz] at H; exact absurd ((laws_FnExactRingOf.j2_bad H).symm.trans HTr_.out) (by simp))|(refine (Bool.eq_false_or_eq_true _).resolve_right (fun hz => ?_); rw [hz, if_neg (by decide)] at H; exact absurd ((laws_FnExactRingOf.j2_bad H).symm.trans HTr_.out) (by simp))); (case side1 => refine (Kd.R_reads' (e := 63) (base := w.heap.size) (ok := fun k_ => ((True ∧ some k_ ≠ (.slice Ao12 t178.length co12 : Value).ownBlock) ∧ some k_ ≠ (.slice Ao18 t186.length co18 : Value).ownBlock)) (n := t205.length) (c := co73) ?_).2.2; exact (by (with_reducible repeat (first | apply Kd.R_alloc | apply Kd.R_drewN | apply Kd.R_drew)); exact (Kd.R_mono (Kd.R_far (p := ⟨gb209, 0, none⟩) (Kd.R_types HO207.out BK209.out (by decide)) (fun _ hk => hk.2) (.slice Ao73 t205.length co73)) (fun _ h_ => h_.1)))); (case side2 => exact (Kd.R_reads' HO207.out).2.1); (case side3 => refine (Kd.R_reads' (e := 63) (base := w.heap.size) (ok := fun k_ => (some k_ ≠ (.slice Ao18 t186.length co18 : Value).ownBlock ∧ some k_ ≠ (.slice Ao73 t205.length co73 : Value).ownBlock)) (n := t178.length) (c := co12) ?_).2.2; exact (by (with_reducible repeat (first | apply Kd.R_alloc | apply Kd.R_drewN | apply Kd.R_drew)); exact (Kd.R_mono (Kd.R_far (p := ⟨gb209, 0, none⟩) (Kd.R_types HO_183000.out BK209.out (by decide)) (fun _ hk => hk.2) (.slice Ao73 t205.length co73)) (fun _ h_ => h_.1)))); (case side4 => exact (Kd.R_reads' HO_183000.out).2.1); rintro e w84 ⟨rfl, hb⟩; refine ⟨_, rfl, ?_⟩; have n0_ := Aside0.mk (Kd.R_below (by (with_reducible repeat (first | apply Kd.R_alloc | apply Kd.R_drewN | apply Kd.R_drew)); exact (Kd.R_mono (Kd.R_far (p := ⟨gb209, 0, none⟩) (Kd.R_types HO_183000.out BK209.out (by decide)) (fun _ hk => hk.2) (.slice Ao73 t205.length co73)) (fun _ h_ => h_.1))) hb); have n1_ := Aside0.mk (Kd.R_below (by (with_reducible repeat (first | apply Kd.R_alloc | apply Kd.R_drewN | apply Kd.R_drew)); exact (Kd.R_mono (Kd.R_far (p := ⟨gb209, 0, none⟩) (Kd.R_types HO_191000.out BK209.out (by decide)) (fun _ hk => hk.2) (.slice Ao73 t205.length co73)) (fun _ h_ => h_.1))) hb); have n2_ := Aside0.mk (Kd.R_below (by (with_reducible repeat (first | apply Kd.R_alloc | apply Kd.R_drewN | apply Kd.R_drew)); exact (Kd.R_mono (Kd.R_far (p := ⟨gb209, 0, none⟩) (Kd.R_types HO204.out BK209.out (by decide)) (fun _ hk => hk.2) (.slice Ao73 t205.length co73)) (fun _ h_ => h_.1))) hb); have n3_ := Aside0.mk (Kd.R_below (by (with_reducible repeat (first | apply Kd.R_alloc | apply Kd.R_drewN | apply Kd.R_drew)); exact (Kd.R_mono (Kd.R_far (p := ⟨gb209, 0, none⟩) (Kd.R_types HO207.out BK209.out (by decide)) (fun _ hk => hk.2) (.slice Ao73 t205.length co73)) (fun _ h_ => h_.1))) hb); have n4_ := Aside0.mk (blk_below (g := gb182) (o := .cells #[.slice Ao12 t178.length co12] 28 (0, 0)) (by (with_reducible repeat (first | refine blk_drewN ?_ _ | refine blk_drew ?_ | refine blk_alloc ?_ _)); refine blk_far ?_ NB182_209.out _; (with_reducible repeat (first | refine blk_drewN ?_ _ | refine blk_drew ?_ | refine blk_alloc ?_ _)); exact BK182.out) hb); have n5_ := Aside0.mk (blk_below (g := gb190) (o := .cells #[.slice Ao18 t186.length co18] 28 (0, 0)) (by (with_reducible repeat (first | refine blk_drewN ?_ _ | refine blk_drew ?_ | refine blk_alloc ?_ _)); refine blk_far ?_ NB190_209.out _; (with_reducible repeat (first | refine blk_drewN ?_ _ | refine blk_drew ?_ | refine blk_alloc ?_ _)); exact BK190.out) hb); have n6_ := Aside0.mk (blk_below (g := gb209) (o := .cells #[.slice Ao73 t205.length co73] 28 (0, 0)) (by (with_reducible repeat (first | refine blk_drewN ?_ _ | refine blk_drew ?_ | refine blk_alloc ?_ _)); refine blk_put (cs := #[.slice none 0 0]) ?_ 0 _ rfl; (with_reducible repeat (first | refine blk_drewN ?_ _ | refine blk_drew ?_ | refine blk_alloc ?_ _)); exact BK209.out) hb); have n7_ := Aside0.mk (below_step (by repeat (first | (with_reducible first | exact HB.out | apply below_alloc | apply pw_below_drewN | apply below_drew1 | refine below_set ?_ GE182.out | refine below_set ?_ GE190.out | refine below_set ?_ GE209.out) | exact HB.out)) hb); clear HO_183000; clear HO_191000; clear HO204; clear HO207; clear BK182; clear BK190; clear BK209; clear HB; have HO_183000 := n0_; have HO_191000 := n1_; have HO204 := n2_; have HO207 := n3_; have BK182 := n4_; have BK190 := n5_; have BK209 := n6_; have HB := n7_; clear n0_ n1_ n2_ n3_ n4_ n5_ n6_ n7_; (try clear hb); (try clear hb2); (try clear hk); (try clear hi)))
                          go_meet
                          case rel => exact ⟨_, ((t208 != t181)), (by first | rfl | (simp; done) | (simp [*]; done)), H', ⟨by have := HJ6.out; have := HJ35.out; first | omega | exact Nat.le_refl _⟩, ⟨by (with_reducible repeat (first | apply Kd.R_alloc | apply Kd.R_drewN | apply Kd.R_drew)); exact HO_183000.out⟩, ⟨by (with_reducible repeat (first | apply Kd.R_alloc | apply Kd.R_drewN | apply Kd.R_drew)); exact HO_191000.out⟩, ⟨by (with_reducible repeat (first | apply Kd.R_alloc | apply Kd.R_drewN | apply Kd.R_drew)); exact Kd.R_mono HO207.out (fun _ hk => ⟨hk.1.2, hk.2⟩)⟩, ⟨by (with_reducible repeat (first | refine blk_drewN ?_ _ | refine blk_drew ?_ | refine blk_alloc ?_ _)); exact BK182.out⟩, ⟨by (with_reducible repeat (first | refine blk_drewN ?_ _ | refine blk_drew ?_ | refine blk_alloc ?_ _)); exact BK190.out⟩, ⟨by (with_reducible repeat (first | refine blk_drewN ?_ _ | refine blk_drew ?_ | refine blk_alloc ?_ _)); exact BK209.out⟩, ⟨by repeat (first | (with_reducible first | exact HB.out | apply below_alloc | apply pw_below_drewN | apply below_drew1 | refine below_set ?_ GE182.out | refine below_set ?_ GE190.out | refine below_set ?_ GE209.out) | exact HB.out)⟩⟩
                        · replace c78 := Bool.eq_false_iff.mpr c78
                          subst c78
                          have H1 : (laws_FnExactRingOf.j2 kj35 t199 true t200) = some r := by rw [if_neg (show ¬ (false = true) by decide)] at H; exact H
                          clear H
                          have H := H1
                          clear H1
                          exact absurd ((laws_FnExactRingOf.j2_bad H).symm.trans HTr_.out) (by simp)
                      case rest =>
                        clear HC63
                        try clear c1
                        try clear c2
                        try clear c2b0
                        try clear c2b1
                        try clear p2
                        try clear c3
                        try clear c4
                        try clear c5
                        try clear c6
                        try clear c7
                        try clear c8
                        try clear c11
                        try clear c19
                        try clear c20
                        try clear c21
                        try clear c22
                        try clear c23
                        try clear c24
                        try clear c25
                        try clear c27
                        try clear c31
                        try clear c34
                        try clear c40
                        try clear c40b0
                        try clear c42
                        try clear c43
                        try clear c47
                        try clear c51
                        try clear c54
                        try clear c54b0
                        try clear c55
                        try clear c60
                        try clear c60b0
                        try clear c60b1
                        try clear c64
                        try clear c74
                        try clear c75
                        try clear c78
                        try clear c79
                        try clear c80
                        try clear c82
                        try clear c85
                        try clear c86
                        try clear c88
                        try clear hcz13_0
                        try clear hcz20_0
                        try clear hcz24_0
                        try clear hcz25_0
                        try clear hcz28_0
                        try clear hcz29_0
                        try clear hcz44_0
                        try clear hcz45_0
                        try clear hcz48_0
                        try clear hcz49_0
                        try clear hcz56_0
                        try clear hcz58_0
                        try clear hcz65_0
                        try clear hcz67_0
                        try clear hcz76_0
                        try clear hcz81_0
                        try clear hcz83_0
                        try clear hcz87_0
                        try clear hcz89_0
                        try clear hfz13_0
                        try clear hfz20_0
                        try clear hfz24_0
                        try clear hfz25_0
                        try clear hfz28_0
                        try clear hfz29_0
                        try clear hfz44_0
                        try clear hfz45_0
                        try clear hfz48_0
                        try clear hfz49_0
                        try clear hfz56_0
                        try clear hfz58_0
                        try clear hfz65_0
                        try clear hfz67_0
                        try clear hfz76_0
                        try clear hfz81_0
                        try clear hfz83_0
                        try clear hfz87_0
                        try clear hfz89_0
                        try clear p2
                        obtain ⟨kq, x84_62, rfl, HA, HJ62, HO_183000, HO_191000, HO_210000, BK182, BK190, BK209, HB⟩ := hcut
                        have hl191000_62 := (Kd.R_reads' HO_191000.out).1
                        rw [hl191000_62] at HO_191000
                        (try simp only [hl191000_62])
                        (try simp only [hl191000_62] at BK182)
                        (try simp only [hl191000_62] at BK190)
                        (try simp only [hl191000_62] at BK209)
                        (try simp only [hl191000_62] at HO_183000)
                        (try simp only [hl191000_62] at HO_210000)
                        cases kq with
                        | zero => exact absurd HA.out (by simp [laws_FnExactRingOf.j2])
                        | succ kj62 =>
                          have H := HA.out
                          clear HA
                          simp only [laws_FnExactRingOf.j2] at H
                          by_cases c91 : x84_62 = true
                          · subst c91
                            have H1 : (some false) = some r := by rw [if_pos rfl] at H; exact H
                            clear H
                            have H := H1
                            clear H1
                            exact absurd ((Option.some.inj H).trans HTr_.out) (by simp)
                          · replace c91 := Bool.eq_false_iff.mpr c91
                            subst c91
                            have H1 : ((laws_heldRing.f kj62 t200 1).bind fun t211 => (if t211 < 0 then (some false) else (if t211 = t199 then (some true) else (some false)))) = some r := by rw [if_neg (show ¬ (false = true) by decide)] at H; exact H
                            clear H
                            have H := H1
                            clear H1
                            replace H := Option.bind_eq_some_iff.mp H
                            obtain ⟨t211, A920, H⟩ := H
                            replace H : (if t211 < 0 then (some false) else (if t211 = t199 then (some true) else (some false))) = some r := H
                            have A92 := Aside0.mk A920
                            clear A920
                            by_cases c93 : t211 < 0
                            · rw [if_pos c93] at H
                              have c93b0 : decide (t211 < 0) = true := decide_eq_true c93
                              clear c93
                              exact absurd ((Option.some.inj H).trans HTr_.out) (by simp)
                            · rw [if_neg c93] at H
                              have c93b0 : decide (t211 < 0) = false := decide_eq_false c93
                              clear c93
                              by_cases c98 : t211 = t199
                              · rw [if_pos c98] at H
                                have c98b0 : (t211 == t199) = true := beq_iff_eq.mpr c98
                                have c98b1 : (t211 != t199) = false := bne_eq_false_iff_eq.mpr c98
                                clear c98
                                obtain rfl := Option.some.inj H
                                have hnb99 := NB190_182.out
                                have hnc99 := NB182_190.out
                                have hnb100 := NB190_209.out
                                have hnc100 := NB209_190.out
                                have hcz101_0 : wc.cell? ⟨gb190, 0, none⟩ = some (.slice Ao18 t200.length co18) := (blk_cell BK190.out 0).trans rfl
                                have hfz101_0 := blk_frozen BK190.out 0
                                go_wp2_with (first | ((with_reducible refine gate_callee (f := 25) rfl ?_); refine goesL_ (some 87) rfl rfl Tryd.func25 (by kernel_rfl) rfl #[.agg #[.slice Ao18 t200.length co18], .int .i64 1] rfl (by (try simp only [List.map_toArray, List.map_cons, List.map_nil]); first | done | rfl | (simp only [List.length_drop, List.length_take]; rfl)) ?_; (with_reducible refine (laws_heldRing.calls kj62 _ _ t200 1 t211 _ ?side1 ?side2 A92.out ?prem).mono ?_); (case prem => first|(exact HTr_.out)|(intro hz; rw [if_pos hz] at H; exact absurd ((Option.some.inj H).trans HTr_.out) (by simp))|(intro hz; rw [if_pos hz] at H; exact absurd (Option.some.inj H) (by have := HTr_.out; omega))|(exact of_decide_eq_false (by assumption))|(omega)); (case side1 => repeat (first | exact (Kd.R_reads' HO_191000.out).2.2 | (with_reducible refine Kd.C_alloc ?_ _) | (with_reducible refine Kd.C_drewN ?_ _) | (with_reducible refine Kd.C_drew ?_))); (case side2 => exact (Kd.R_reads' HO_191000.out).2.1); rintro e w102 ⟨rfl, hb⟩; refine ⟨_, rfl, ?_⟩; have n0_ := Aside0.mk (Kd.R_below (by (with_reducible repeat (first | apply Kd.R_alloc | apply Kd.R_drewN | apply Kd.R_drew)); exact HO_183000.out) hb); have n1_ := Aside0.mk (Kd.R_below (by (with_reducible repeat (first | apply Kd.R_alloc | apply Kd.R_drewN | apply Kd.R_drew)); exact HO_191000.out) hb); have n2_ := Aside0.mk (Kd.R_below (by (with_reducible repeat (first | apply Kd.R_alloc | apply Kd.R_drewN | apply Kd.R_drew)); exact HO_210000.out) hb); have n3_ := Aside0.mk (blk_below (g := gb182) (o := .cells #[.slice Ao12 t178.length co12] 28 (0, 0)) (by (with_reducible repeat (first | refine blk_drewN ?_ _ | refine blk_drew ?_ | refine blk_alloc ?_ _)); exact BK182.out) hb); have n4_ := Aside0.mk (blk_below (g := gb190) (o := .cells #[.slice Ao18 t200.length co18] 28 (0, 0)) (by (with_reducible repeat (first | refine blk_drewN ?_ _ | refine blk_drew ?_ | refine blk_alloc ?_ _)); exact BK190.out) hb); have n5_ := Aside0.mk (blk_below (g := gb209) (o := .cells #[.slice Ao73 t205.length co73] 28 (0, 0)) (by (with_reducible repeat (first | refine blk_drewN ?_ _ | refine blk_drew ?_ | refine blk_alloc ?_ _)); exact BK209.out) hb); have n6_ := Aside0.mk (below_step (by repeat (first | (with_reducible first | exact HB.out | apply below_alloc | apply pw_below_drewN | apply below_drew1 | refine below_set ?_ GE182.out | refine below_set ?_ GE190.out | refine below_set ?_ GE209.out) | exact HB.out)) hb); clear HO_183000; clear HO_191000; clear HO_210000; clear BK182; clear BK190; clear BK209; clear HB; have HO_183000 := n0_; have HO_191000 := n1_; have HO_210000 := n2_; have BK182 := n3_; have BK190 := n4_; have BK209 := n5_; have HB := n6_; clear n0_ n1_ n2_ n3_ n4_ n5_ n6_; (try clear hb); (try clear hb2); (try clear hk); (try clear hi)))
                                go_ret
                                exact ⟨by first | rfl | (simp [errW_none, errW_some] <;> rfl) | (simp [*, errW_none, errW_some] <;> rfl), by repeat (first | (with_reducible first | exact HB.out | apply below_alloc | apply pw_below_drewN | apply below_drew1 | refine below_set ?_ GE182.out | refine below_set ?_ GE190.out | refine below_set ?_ GE209.out) | exact HB.out)⟩
                              · rw [if_neg c98] at H
                                have c98b0 : (t211 == t199) = false := beq_eq_false_iff_ne.mpr c98
                                have c98b1 : (t211 != t199) = true := bne_iff_ne.mpr c98
                                exact absurd ((Option.some.inj H).trans HTr_.out) (by simp)
                    · rw [if_neg c60] at H
                      have c60b0 : (t201 == t199) = false := beq_eq_false_iff_ne.mpr c60
                      have c60b1 : (t201 != t199) = true := bne_iff_ne.mpr c60
                      exact absurd ((Option.some.inj H).trans HTr_.out) (by simp)
          · replace c34 := Bool.eq_false_iff.mpr c34
            subst c34
            have H1 : (some false) = some r := by rw [if_neg (show ¬ (false = true) by decide)] at H; exact H
            clear H
            have H := H1
            clear H1
            exact absurd ((Option.some.inj H).trans HTr_.out) (by simp)
/-- THE ONE PURE STATEMENT of laws_FnExactRingOf: yours. -/
def laws_FnExactRingOf.Pure : Prop := ∀ (l0 : List Int), l0.length ≤ maxLen → l0.length * 8 ≤ 140737488351232 → (∀ x ∈ l0, (Lit.int .i64 x).wf = true) → ∃ k, laws_FnExactRingOf.f k l0 = some true
theorem laws_FnExactRingOf.walk (P : laws_FnExactRingOf.Pure) (a0 : Option Addr) (len0 cap0 : Nat) (z0 : List Int) (w : World) (w0 : (a0 = none ∧ len0 = 0 ∧ cap0 = 0 ∧ z0 = []) ∨ ∃ x, a0 = some x ∧ len0 ≤ cap0 ∧ cap0 ≤ maxLen ∧ z0.length = cap0 ∧ (∀ i, i < z0.length → w.cell? (x.add i) = some (.int .i64 (z0.getD i 0))) ∧ ∀ n ∈ z0, (Lit.int .i64 n).wf = true) (y0 : len0 * 8 ≤ 140737488351232) :
    Calls Tryd.prog 5 #[.slice a0 len0 cap0] w fun e w' => e = .returned (.bool true) ∧ Below w.heap.size w w' := by
  obtain ⟨l0, rfl, hr0, hm0, hw0, hc0⟩ := ReadsInt.ofRowC w0
  obtain ⟨k, h⟩ := P l0 hm0 y0 hw0
  refine (laws_FnExactRingOf.calls k _ _ l0 true w (Kd.C_of_reads (d := (0 : Int)) (h1 := fun _ => rfl) hr0) hc0 h rfl).mono ?_
  rintro e w' ⟨rfl, hd⟩
  exact ⟨rfl, hd⟩

end Go.Proofs.YtphicebbbkjdhaaDoor.GFnExactRingOf
