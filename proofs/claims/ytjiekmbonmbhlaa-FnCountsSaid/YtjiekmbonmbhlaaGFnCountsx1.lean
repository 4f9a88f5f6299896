/- Walks of the functions that the law reaches: by programs of this session, over a tool's print. -/
import Derived.Test.YtjiekmbonmbhlaaGFnCountsx0
namespace Go.Proofs.Ytjiekmbonmbhlaa.GFnCounts
open Go.RowKit Go.Proofs.YtjiekmbonmbhlaaW.PrintWords Go.Proofs.YtjiekmbonmbhlaaW.PrintLast Go.Proofs.YtjiekmbonmbhlaaW.PrintMore
attribute [local go_sem] max2_int min2_int max_two min_two max_three min_three max_four min_four   -- for this text's walks alone
set_option linter.unusedVariables false
set_option linter.unusedSimpArgs false

/-! ### laws_big: function 24 -/
def laws_big.f (l0 : List Int) : Option (Bool) := some (decide ((l0.length : Int) > 1048576))
set_option maxHeartbeats 8000000 in
set_option maxRecDepth 100000 in
theorem laws_big.calls (A0 : Option Addr) (c0 : Nat) (l0 : List Int) (r : Bool) (w : World) (hr0 : Kd.C (Kd.int .u8) w A0 l0.length l0) (hc0 : l0.length ≤ c0) (h : laws_big.f l0 = some r) :
    Calls Try.prog 24 #[.slice A0 l0.length c0] w fun e w' => e = .returned (.bool r) ∧ Drawn0 w w' := by
  have HR0 := Aside0.mk hr0
  have HC0 := Aside0.mk hc0
  clear hr0 hc0
  have H : (some (decide ((l0.length : Int) > 1048576))) = some r := h
  clear h
  obtain rfl := Option.some.inj H
  go_enter Try.func24, Try.ntmps24
  go_wp2
  go_ret
  exact ⟨by first | rfl | (simp; done) | (simp [*]; done), by repeat (first | exact Drawn0.refl _ | apply Drawn0.step)⟩

/-! ### impl_inRange: function 76 -/
def impl_inRange.f (a0 : Int) (a1 : Int) (a2 : Int) : Option (Bool) := if a0 ≥ a1 then (some (decide (a0 ≤ a2))) else (some false)
set_option maxHeartbeats 8000000 in
set_option maxRecDepth 100000 in
theorem impl_inRange.calls (a0 : Int) (a1 : Int) (a2 : Int) (r : Bool) (w : World) (h : impl_inRange.f a0 a1 a2 = some r) :
    Calls Try.prog 76 #[.int .i64 a0, .int .i64 a1, .int .i64 a2] w fun e w' => e = .returned (.bool r) ∧ Drawn0 w w' := by
  have H : (if a0 ≥ a1 then (some (decide (a0 ≤ a2))) else (some false)) = some r := h
  clear h
  by_cases c4 : a0 ≥ a1
  · rw [if_pos c4] at H
    have c4b0 : decide (a1 ≤ a0) = true := decide_eq_true c4
    clear c4
    obtain rfl := Option.some.inj H
    go_enter Try.func76, Try.ntmps76
    go_wp2
    go_ret
    exact ⟨by first | rfl | (simp; done) | (simp [*]; done), by repeat (first | exact Drawn0.refl _ | apply Drawn0.step)⟩
  · rw [if_neg c4] at H
    have c4b0 : decide (a1 ≤ a0) = false := decide_eq_false c4
    clear c4
    obtain rfl := Option.some.inj H
    go_enter Try.func76, Try.ntmps76
    go_wp2
    go_ret
    exact ⟨by first | rfl | (simp; done) | (simp [*]; done), by repeat (first | exact Drawn0.refl _ | apply Drawn0.step)⟩

/-! ### impl_SketchOk: function 38 -/
def impl_SketchOk.l0 : Nat → List Int → Int → Int → List Int → Int → Option (Bool)
  | 0, _, _, _, _, _ => none
  | k + 1, x6, x7, x8, x102000, x102001 => if x8 < x7 then (if 0 ≤ x8 then (if x8 < (x6.length : Int) then ((impl_inRange.f (rd x6 x8) 0 15).bind fun t103 => (if t103 = true then (impl_SketchOk.l0 k x6 x7 (wrap64 (x8 + 1)) x102000 x102001) else (some false))) else (none)) else (none)) else (if (x102000.length : Int) = 48 then ((impl_inRange.f x102001 0 99).bind fun t104 => (some t104)) else (some false))
def impl_SketchOk.f (k : Nat) (l0_0 : List Int) (a0_1 : Int) : Option (Bool) := impl_SketchOk.l0 k l0_0 (l0_0.length : Int) 0 l0_0 a0_1
theorem impl_SketchOk.mono_l : ∀ k, (∀ y0 y1 y2 y3 y4, LeO (impl_SketchOk.l0 k y0 y1 y2 y3 y4) (impl_SketchOk.l0 (k + 1) y0 y1 y2 y3 y4))
  | 0 => fun _ _ _ _ _ r h => by simp [impl_SketchOk.l0] at h
  | k + 1 => by
    have ih0 := impl_SketchOk.mono_l k
    · intro y0 y1 y2 y3 y4
      unfold impl_SketchOk.l0
      repeat' first
      | (with_reducible exact ih0 _ _ _ _ _)
      | (with_reducible exact LeO.refl _)
      | (with_reducible exact LeO.none _)
      | (with_reducible refine LeO.ite ?_ ?_)
      | (with_reducible refine LeO.bind ?_ (fun _ => ?_))
      | exact ih0 _ _ _ _ _
      | exact LeO.none _
      | refine LeO.ite ?_ ?_
      | refine LeO.bind ?_ (fun _ => ?_)
theorem impl_SketchOk.mono : ∀ a0 a1 k, LeO (impl_SketchOk.f k a0 a1) (impl_SketchOk.f (k + 1) a0 a1) := by
  intro a0 a1 k
  have ih0 := impl_SketchOk.mono_l k
  unfold impl_SketchOk.f
  repeat' first
      | (with_reducible exact ih0 _ _ _ _ _)
      | (with_reducible exact LeO.refl _)
      | (with_reducible exact LeO.none _)
      | (with_reducible refine LeO.ite ?_ ?_)
      | (with_reducible refine LeO.bind ?_ (fun _ => ?_))
      | exact ih0 _ _ _ _ _
      | exact LeO.none _
      | refine LeO.ite ?_ ?_
      | refine LeO.bind ?_ (fun _ => ?_)
set_option maxHeartbeats 8000000 in
set_option maxRecDepth 100000 in
theorem impl_SketchOk.calls (k : Nat) (A0_0 : Option Addr) (c0_0 : Nat) (l0_0 : List Int) (a0_1 : Int) (r : Bool) (w : World) (hr0_0 : Kd.C (Kd.int .i64) w A0_0 l0_0.length l0_0) (hc0_0 : l0_0.length ≤ c0_0) (h : impl_SketchOk.f k l0_0 a0_1 = some r) :
    Calls Try.prog 38 #[.agg #[.slice A0_0 l0_0.length c0_0, .int .i64 a0_1]] w fun e w' => e = .returned (.bool r) ∧ Below w.heap.size w w' := by
  have hu46 := Try.underlying46
  have HR0_0 := Aside0.mk hr0_0
  have HC0_0 := Aside0.mk hc0_0
  clear hr0_0 hc0_0
  have HB := Aside0.mk (Below.refl w.heap.size w)
  have H : (impl_SketchOk.l0 k l0_0 (l0_0.length : Int) 0 l0_0 a0_1) = some r := h
  clear h
  have H' := Aside0.mk H
  clear H
  go_enter Try.func38, Try.ntmps38
  go_wp2_with (first | ((with_reducible refine gate_dst (N := 1) rfl ?_); refine box_event ?hg (N := 1) ?hd (cs := #[.slice A0_0 l0_0.length c0_0, .int .i64 a0_1]) (t := 46) ?hr ?_; (case hd => rfl); (case hg => rfl); (case hr => first | (go_simp; done) | (go_simp; rfl)); intro gb101 hg w2 hbox hb; have n0_ := Aside0.mk (below_step (by repeat (first | (with_reducible first | exact HB.out | apply below_alloc | apply pw_below_drewN | apply below_drew1) | exact HB.out)) hb); have n1_ := Aside0.mk (hbox); have n2_ := Aside0.mk ((by rw [hg]; exact (below_size (by repeat (first | (with_reducible first | exact HB.out | apply below_alloc | apply pw_below_drewN | apply below_drew1) | exact HB.out))) : w.heap.size ≤ gb101)); have n3_ := Aside0.mk ((by rw [hg]; exact (below_size (by repeat (first | (with_reducible first | exact HB.out | apply below_alloc | apply pw_below_drewN | apply below_drew1) | exact HB.out))) : w.heap.size ≤ gb101)); clear HB; have HB := n0_; have BK101 := n1_; have GW101 := n2_; have GE101 := n3_; clear n0_ n1_ n2_ n3_; clear hb hbox hg; have hcz3_0 : w2.cell? ⟨gb101, 0, none⟩ = some (.slice A0_0 l0_0.length c0_0) := (blk_cell BK101.out 0).trans rfl; have hcz3_1 : w2.cell? ⟨gb101, 1, none⟩ = some (.int .i64 a0_1) := (blk_cell BK101.out 1).trans rfl; have hfz3_0 := blk_frozen BK101.out 0; have hfz3_1 := blk_frozen BK101.out 1))
  go_loopg [8] k (fun kq v8 w' => ∃ (x8_1 : Int), v8 = .int .i64 x8_1 ∧ Aside0 (impl_SketchOk.l0 kq l0_0 (l0_0.length : Int) x8_1 l0_0 a0_1 = some r) ∧ Aside0 (kq ≤ k) ∧ Aside0 (w'.heap[gb101]? = some (.cells #[(.slice A0_0 l0_0.length c0_0), .int .i64 a0_1] 46 (0, 0))) ∧ Aside0 (Below w.heap.size w w'))
  case atStart => exact ⟨(0), (by first | rfl | (simp; done) | (simp [*]; done)), H', ⟨Nat.le_refl _⟩, ⟨by (with_reducible repeat (first | refine blk_drewN ?_ _ | refine blk_drew ?_ | refine blk_alloc ?_ _)); exact BK101.out⟩, ⟨by repeat (first | (with_reducible first | exact HB.out | apply below_alloc | apply pw_below_drewN | apply below_drew1 | refine below_set ?_ GE101.out) | exact HB.out)⟩⟩
  case round =>
    clear H'
    try clear p2
    try clear c3
    try clear hcz3_0
    try clear hcz3_1
    try clear hfz3_0
    try clear hfz3_1
    obtain ⟨x8_1, rfl, HA, HK1, BK101, HB⟩ := hrel
    cases gk with
    | zero => exact absurd HA.out (by simp [impl_SketchOk.l0])
    | succ k1 =>
      have H := HA.out
      clear HA
      simp only [impl_SketchOk.l0] at H
      by_cases c4 : x8_1 < (l0_0.length : Int)
      · rw [if_pos c4] at H
        have c4b0 : decide (x8_1 < (l0_0.length : Int)) = true := decide_eq_true c4
        clear c4
        by_cases c5 : 0 ≤ x8_1
        · rw [if_pos c5] at H
          have c5b0 : decide (0 ≤ x8_1) = true := decide_eq_true c5
          clear c5
          by_cases c6 : x8_1 < (l0_0.length : Int)
          · rw [if_pos c6] at H
            have c6b0 : decide (x8_1 < (l0_0.length : Int)) = true := decide_eq_true c6
            clear c6
            replace H := Option.bind_eq_some_iff.mp H
            obtain ⟨t103, A70, H⟩ := H
            replace H : (if t103 = true then (impl_SketchOk.l0 k1 l0_0 (l0_0.length : Int) (wrap64 (x8_1 + 1)) l0_0 a0_1) else (some false)) = some r := H
            have A7 := Aside0.mk A70
            clear A70
            by_cases c8 : t103 = true
            · subst c8
              have H1 : (impl_SketchOk.l0 k1 l0_0 (l0_0.length : Int) (wrap64 (x8_1 + 1)) l0_0 a0_1) = some r := by rw [if_pos rfl] at H; exact H
              clear H
              have H := H1
              clear H1
              have H' := Aside0.mk H
              clear H
              have p102 : 0 ≤ (x8_1 : Int) := of_decide_eq_true (by first | (with_reducible assumption) | assumption)
              have q102 : x8_1 < (l0_0.length : Int) := of_decide_eq_true (by first | (with_reducible assumption) | assumption)
              obtain ⟨ad102, e102, hx102_0⟩ := Kd.at_int HR0_0.out x8_1 p102 q102
              cases e102
              replace hx102_0 := (HB.out.cell (World.block_lt_of_cell? w _ hx102_0)).trans hx102_0
              replace p102 := eq_true p102
              replace q102 := eq_true q102
              go_wp2_with (first | ((with_reducible refine gate_callee (f := 76) rfl ?_); refine goesL_ (some 13) rfl rfl Try.func76 (by kernel_rfl) rfl #[.int .i64 (rd l0_0 x8_1), .int .i64 0, .int .i64 15] rfl (by (try simp only [List.map_toArray, List.map_cons, List.map_nil]); first | done | rfl | (simp only [List.length_drop, List.length_take]; rfl)) ?_; (with_reducible refine (impl_inRange.calls (rd l0_0 x8_1) 0 15 true _ A7.out).mono ?_); rintro e w' ⟨rfl, ⟨nd, rfl⟩⟩; refine ⟨_, rfl, ?_⟩))
              go_roundg k1
              case measure => have := HK1.out; omega
              case rel => exact ⟨(wrap64 (x8_1 + 1)), (by first | rfl | (simp; done) | (simp [*]; done)), H', ⟨by have := HK1.out; omega⟩, ⟨by (with_reducible repeat (first | refine blk_drewN ?_ _ | refine blk_drew ?_ | refine blk_alloc ?_ _)); exact BK101.out⟩, ⟨by repeat (first | (with_reducible first | exact HB.out | apply below_alloc | apply pw_below_drewN | apply below_drew1 | refine below_set ?_ GE101.out) | exact HB.out)⟩⟩
            · replace c8 := Bool.eq_false_iff.mpr c8
              subst c8
              have H1 : (some false) = some r := by rw [if_neg (show ¬ (false = true) by decide)] at H; exact H
              clear H
              have H := H1
              clear H1
              obtain rfl := Option.some.inj H
              have p102 : 0 ≤ (x8_1 : Int) := of_decide_eq_true (by first | (with_reducible assumption) | assumption)
              have q102 : x8_1 < (l0_0.length : Int) := of_decide_eq_true (by first | (with_reducible assumption) | assumption)
              obtain ⟨ad102, e102, hx102_0⟩ := Kd.at_int HR0_0.out x8_1 p102 q102
              cases e102
              replace hx102_0 := (HB.out.cell (World.block_lt_of_cell? w _ hx102_0)).trans hx102_0
              replace p102 := eq_true p102
              replace q102 := eq_true q102
              go_wp2_with (first | ((with_reducible refine gate_callee (f := 76) rfl ?_); refine goesL_ (some 13) rfl rfl Try.func76 (by kernel_rfl) rfl #[.int .i64 (rd l0_0 x8_1), .int .i64 0, .int .i64 15] rfl (by (try simp only [List.map_toArray, List.map_cons, List.map_nil]); first | done | rfl | (simp only [List.length_drop, List.length_take]; rfl)) ?_; (with_reducible refine (impl_inRange.calls (rd l0_0 x8_1) 0 15 false _ A7.out).mono ?_); rintro e w' ⟨rfl, ⟨nd, rfl⟩⟩; refine ⟨_, rfl, ?_⟩))
              go_ret
              exact ⟨by first | rfl | (simp [errW_none, errW_some] <;> rfl) | (simp [*, errW_none, errW_some] <;> rfl), by repeat (first | (with_reducible first | exact HB.out | apply below_alloc | apply pw_below_drewN | apply below_drew1 | refine below_set ?_ GE101.out) | exact HB.out)⟩
          · rw [if_neg c6] at H
            exact absurd H (by simp)
        · rw [if_neg c5] at H
          exact absurd H (by simp)
      · rw [if_neg c4] at H
        have c4b0 : decide (x8_1 < (l0_0.length : Int)) = false := decide_eq_false c4
        clear c4
        by_cases c9 : (l0_0.length : Int) = 48
        · rw [if_pos c9] at H
          have c9b0 : ((l0_0.length : Int) == 48) = true := beq_iff_eq.mpr c9
          have c9b1 : ((l0_0.length : Int) != 48) = false := bne_eq_false_iff_eq.mpr c9
          clear c9
          replace H := Option.bind_eq_some_iff.mp H
          obtain ⟨t104, A100, H⟩ := H
          replace H : (some t104) = some r := H
          have A10 := Aside0.mk A100
          clear A100
          obtain rfl := Option.some.inj H
          have hcz11_0 : wr.cell? ⟨gb101, 0, none⟩ = some (.slice A0_0 l0_0.length c0_0) := (blk_cell BK101.out 0).trans rfl
          have hcz11_1 : wr.cell? ⟨gb101, 1, none⟩ = some (.int .i64 a0_1) := (blk_cell BK101.out 1).trans rfl
          have hfz11_0 := blk_frozen BK101.out 0
          have hfz11_1 := blk_frozen BK101.out 1
          go_wp2_with (first | (go_at_call 76; (with_reducible refine (impl_inRange.calls a0_1 0 99 t104 _ A10.out).mono ?_); rintro e w' ⟨rfl, ⟨nd, rfl⟩⟩))
          go_ret
          exact ⟨by first | rfl | (simp [errW_none, errW_some] <;> rfl) | (simp [*, errW_none, errW_some] <;> rfl), by repeat (first | (with_reducible first | exact HB.out | apply below_alloc | apply pw_below_drewN | apply below_drew1 | refine below_set ?_ GE101.out) | exact HB.out)⟩
        · rw [if_neg c9] at H
          have c9b0 : ((l0_0.length : Int) == 48) = false := beq_eq_false_iff_ne.mpr c9
          have c9b1 : ((l0_0.length : Int) != 48) = true := bne_iff_ne.mpr c9
          obtain rfl := Option.some.inj H
          have hcz12_0 : wr.cell? ⟨gb101, 0, none⟩ = some (.slice A0_0 l0_0.length c0_0) := (blk_cell BK101.out 0).trans rfl
          have hcz12_1 : wr.cell? ⟨gb101, 1, none⟩ = some (.int .i64 a0_1) := (blk_cell BK101.out 1).trans rfl
          have hfz12_0 := blk_frozen BK101.out 0
          have hfz12_1 := blk_frozen BK101.out 1
          go_wp2
          go_ret
          exact ⟨by first | rfl | (simp [errW_none, errW_some] <;> rfl) | (simp [*, errW_none, errW_some] <;> rfl), by repeat (first | (with_reducible first | exact HB.out | apply below_alloc | apply pw_below_drewN | apply below_drew1 | refine below_set ?_ GE101.out) | exact HB.out)⟩


/-! ### slices_Clone_int_int: function 114 -/
def slices_Clone_int_int.f (l0 : List Int) : Option (List Int) := if l0.length < 17592186044416 then some l0 else none
set_option maxHeartbeats 800000 in
set_option maxRecDepth 100000 in
theorem slices_Clone_int_int.calls (A0 : Option Addr) (c0 : Nat) (l0 : List Int) (r : List Int) (w : World) (hr0 : Kd.C (Kd.int .i64) w A0 l0.length l0) (hc0 : l0.length ≤ c0) (h : slices_Clone_int_int.f l0 = some r) :
    Calls Try.prog 114 #[.slice A0 l0.length c0] w fun e w' => ∃ v0_ : Value, e = .returned (v0_) ∧ Kd.R (Kd.int .i64) 3 w' w.heap.size (fun _ => True) v0_ r ∧ Below w.heap.size w w' := by
  unfold slices_Clone_int_int.f at h
  split at h
  case isFalse => cases h
  case isTrue hl =>
  obtain rfl := Option.some.inj h
  have LM := Aside0.mk hl
  clear h hl
  have HR0 := Aside0.mk hr0
  have HC0 := Aside0.mk hc0
  clear hr0 hc0
  have HB := Aside0.mk (Below.refl w.heap.size w)
  cases A0 with
  | none =>
    have hn : l0 = [] := by
      rcases Nat.eq_zero_or_pos l0.length with h | h
      · exact List.eq_nil_of_length_eq_zero h
      · obtain ⟨ad, h1, _⟩ := HR0.out.2.2 h
        cases h1
    subst hn
    have heq := fun (W : World) => Lib.run_eql_slice_nil (P := Try.prog) W 42 3 none 0 c0 0 0 Try.underlying42
    go_enter Try.func114, Try.ntmps114
    go_wp2
    go_ret
    exact ⟨_, rfl, Kd.R_nil _ _ _ _ _, Below.refl _ _⟩
  | some ad =>
    have heq := fun (W : World) => Lib.run_eql_slice_nil (P := Try.prog) W 42 3 (some ad) l0.length c0 0 0 Try.underlying42
    go_enter Try.func114, Try.ntmps114
    go_wp2_with (first | ((with_reducible refine gate_dst (N := 5) rfl ?_); refine Kd.R_lit (Kd.int .i64) _ 3 ?hg (N := 5) ?hd (xs := ([] : List Int)) (inner := []) (ok := fun _ => True) (okp := fun _ => True) ?hr ?hp (fun _ hk => hk) trivial (Below.refl _ _) (Nat.le_refl _) (by simp) ?_; (case hd => rfl); (case hg => rfl); (case hr => first | (go_simp; done) | (go_simp; rfl)); (case hp => exact (Reps.none _ _)); intro v5 w3 ho4 hb hg_ hnew_; clear hg_ hnew_; have n0_ := Aside0.mk (Kd.R_lower ho4 (below_size HB.out)); have n1_ := Aside0.mk (below_step HB.out hb); have n2_ := Aside0.mk (Kd.C_below HR0.out (w1 := w3) n1_.out); clear HB; have HO := n0_; have HB := n1_; have HC := n2_; clear n0_ n1_ n2_; clear hb ho4) | ((with_reducible refine gate_builtin (b := .append) (xs := #[.tmp 5, .tmp 6]) rfl ?_); at_builtin; refine Kd.R_append_rows (Kd.int .i64) (w0 := w) w.heap.size rfl (.tmp 5) (.tmp 6) 42 3 (.int .i64 0) 8 rfl Try.underlying42 info3 rfl (by decide) (by omega) v5 [] l0 (some ad) l0.length c0 (fun _ => True) (fun _ => False) rfl rfl ?aO ?aR (fun _ _ h => h) (fun _ h => h.elim) ?aF ?aB ?aS ?aL ?_; (case aO => exact HO.out); (case aR => exact HC.out); (case aF => exact fun _ _ => trivial); (case aB => exact HB.out); (case aS => exact below_size HB.out); (case aL => have := LM.out; simp only [List.length_nil]; omega); intro v1 w9 ho hb hg hat; rw [List.nil_append] at ho; have n0_ := Aside0.mk hb; have n1_ := Aside0.mk ho; clear HB HO; have HB := n0_; have HO := n1_; clear n0_ n1_; clear ho hb hg hat))
    go_ret
    exact ⟨_, rfl, HO.out, HB.out⟩

/-! ### impl_copySketch: function 82 -/
def impl_copySketch.f (l0_0 : List Int) (a0_1 : Int) : Option (List Int × Int) := (slices_Clone_int_int.f l0_0).bind fun t107 => (some (t107, a0_1))
set_option maxHeartbeats 8000000 in
set_option maxRecDepth 100000 in
theorem impl_copySketch.calls (A0_0 : Option Addr) (c0_0 : Nat) (l0_0 : List Int) (a0_1 : Int) (r1 : List Int) (r2 : Int) (w : World) (hr0_0 : Kd.C (Kd.int .i64) w A0_0 l0_0.length l0_0) (hc0_0 : l0_0.length ≤ c0_0) (h : impl_copySketch.f l0_0 a0_1 = some (r1, r2)) :
    Calls Try.prog 82 #[.agg #[.slice A0_0 l0_0.length c0_0, .int .i64 a0_1]] w fun e w' => ∃ v0_ : Value, e = .returned (.agg #[v0_, .int .i64 r2]) ∧ Kd.R (Kd.int .i64) 3 w' w.heap.size (fun _ => True) v0_ r1 ∧ Below w.heap.size w w' := by
  have hu46 := Try.underlying46
  have HR0_0 := Aside0.mk hr0_0
  have HC0_0 := Aside0.mk hc0_0
  clear hr0_0 hc0_0
  have HB := Aside0.mk (Below.refl w.heap.size w)
  have H : ((slices_Clone_int_int.f l0_0).bind fun t107 => (some (t107, a0_1))) = some (r1, r2) := h
  clear h
  replace H := Option.bind_eq_some_iff.mp H
  obtain ⟨t107, A20, H⟩ := H
  replace H : (some (t107, a0_1)) = some (r1, r2) := H
  have A2 := Aside0.mk A20
  clear A20
  simp only [Option.some.injEq, Prod.mk.injEq] at H
  obtain ⟨rfl, rfl⟩ := H
  go_enter Try.func82, Try.ntmps82
  go_wp2_with (first | ((with_reducible refine gate_dst (N := 1) rfl ?_); refine box_event ?hg (N := 1) ?hd (cs := #[.slice A0_0 l0_0.length c0_0, .int .i64 a0_1]) (t := 46) ?hr ?_; (case hd => rfl); (case hg => rfl); (case hr => first | (go_simp; done) | (go_simp; rfl)); intro gb105 hg w3 hbox hb; have n0_ := Aside0.mk (below_step (by repeat (first | (with_reducible first | exact HB.out | apply below_alloc | apply pw_below_drewN | apply below_drew1) | exact HB.out)) hb); have n1_ := Aside0.mk (hbox); have n2_ := Aside0.mk ((by rw [hg]; exact (below_size (by repeat (first | (with_reducible first | exact HB.out | apply below_alloc | apply pw_below_drewN | apply below_drew1) | exact HB.out))) : w.heap.size ≤ gb105)); have n3_ := Aside0.mk ((by rw [hg]; exact (below_size (by repeat (first | (with_reducible first | exact HB.out | apply below_alloc | apply pw_below_drewN | apply below_drew1) | exact HB.out))) : w.heap.size ≤ gb105)); clear HB; have HB := n0_; have BK105 := n1_; have GW105 := n2_; have GE105 := n3_; clear n0_ n1_ n2_ n3_; clear hb hbox hg) | ((with_reducible refine gate_dst (N := 2) rfl ?_); refine box_event ?hg (N := 2) ?hd (cs := #[.slice none 0 0, .int .i64 0]) (t := 46) ?hr ?_; (case hd => rfl); (case hg => rfl); (case hr => first | (go_simp; done) | (go_simp; rfl)); intro gb106 hg w4 hbox hb; have n0_ := Aside0.mk (blk_below (g := gb105) (o := .cells #[.slice A0_0 l0_0.length c0_0, .int .i64 a0_1] 46 (0, 0)) (by (with_reducible repeat (first | refine blk_drewN ?_ _ | refine blk_drew ?_ | refine blk_alloc ?_ _)); exact BK105.out) hb); have n1_ := Aside0.mk (below_step (by repeat (first | (with_reducible first | exact HB.out | apply below_alloc | apply pw_below_drewN | apply below_drew1 | refine below_set ?_ GE105.out) | exact HB.out)) hb); have n2_ := Aside0.mk (hbox); have n3_ := Aside0.mk ((by rw [hg]; exact (below_size (by repeat (first | (with_reducible first | exact HB.out | apply below_alloc | apply pw_below_drewN | apply below_drew1 | refine below_set ?_ GE105.out) | exact HB.out))) : w.heap.size ≤ gb106)); have n4_ := Aside0.mk ((by rw [hg]; exact (below_size (by repeat (first | (with_reducible first | exact HB.out | apply below_alloc | apply pw_below_drewN | apply below_drew1 | refine below_set ?_ GE105.out) | exact HB.out))) : w.heap.size ≤ gb106)); have n5_ := Aside0.mk ((by rw [hg]; exact Nat.ne_of_lt (blk_lt (g := gb105) (o := .cells #[.slice A0_0 l0_0.length c0_0, .int .i64 a0_1] 46 (0, 0)) (by (with_reducible repeat (first | refine blk_drewN ?_ _ | refine blk_drew ?_ | refine blk_alloc ?_ _)); exact BK105.out)) : gb105 ≠ gb106)); have n6_ := Aside0.mk ((by rw [hg]; exact Nat.ne_of_gt (blk_lt (g := gb105) (o := .cells #[.slice A0_0 l0_0.length c0_0, .int .i64 a0_1] 46 (0, 0)) (by (with_reducible repeat (first | refine blk_drewN ?_ _ | refine blk_drew ?_ | refine blk_alloc ?_ _)); exact BK105.out)) : gb106 ≠ gb105)); clear BK105; clear HB; have BK105 := n0_; have HB := n1_; have BK106 := n2_; have GW106 := n3_; have GE106 := n4_; have NB105_106 := n5_; have NB106_105 := n6_; clear n0_ n1_ n2_ n3_ n4_ n5_ n6_; clear hb hbox hg; have hnb5 := NB105_106.out; have hnc5 := NB106_105.out; have hcz6_0 : w4.cell? ⟨gb105, 0, none⟩ = some (.slice A0_0 l0_0.length c0_0) := (blk_cell BK105.out 0).trans rfl; have hcz6_1 : w4.cell? ⟨gb105, 1, none⟩ = some (.int .i64 a0_1) := (blk_cell BK105.out 1).trans rfl; have hfz6_0 := blk_frozen BK105.out 0; have hfz6_1 := blk_frozen BK105.out 1) | ((with_reducible refine gate_callee (f := 114) rfl ?_); refine goesL_ (some 5) rfl rfl Try.func114 (by kernel_rfl) rfl #[.slice A0_0 l0_0.length c0_0] rfl (by (try simp only [List.map_toArray, List.map_cons, List.map_nil]); first | done | rfl | (simp only [List.length_drop, List.length_take]; rfl)) ?_; (with_reducible refine (slices_Clone_int_int.calls _ _ l0_0 t107 _ ?side1 ?side2 A2.out).mono ?_); (case side1 => repeat (first | exact (Kd.C_below HR0_0.out HB.out) | (with_reducible refine Kd.C_alloc ?_ _) | (with_reducible refine Kd.C_drewN ?_ _) | (with_reducible refine Kd.C_drew ?_))); (case side2 => exact HC0_0.out); rintro e w7 ⟨v108, rfl, ho0, hb⟩; refine ⟨_, rfl, ?_⟩; have n0_ := Aside0.mk (Kd.R_lower ho0 (below_size (by repeat (first | (with_reducible first | exact HB.out | apply below_alloc | apply pw_below_drewN | apply below_drew1 | refine below_set ?_ GE105.out | refine below_set ?_ GE106.out) | exact HB.out)))); have n1_ := Aside0.mk (blk_below (g := gb105) (o := .cells #[.slice A0_0 l0_0.length c0_0, .int .i64 a0_1] 46 (0, 0)) (by (with_reducible repeat (first | refine blk_drewN ?_ _ | refine blk_drew ?_ | refine blk_alloc ?_ _)); exact BK105.out) hb); have n2_ := Aside0.mk (blk_below (g := gb106) (o := .cells #[.slice none 0 0, .int .i64 0] 46 (0, 0)) (by (with_reducible repeat (first | refine blk_drewN ?_ _ | refine blk_drew ?_ | refine blk_alloc ?_ _)); exact BK106.out) hb); have n3_ := Aside0.mk (below_step (by repeat (first | (with_reducible first | exact HB.out | apply below_alloc | apply pw_below_drewN | apply below_drew1 | refine below_set ?_ GE105.out | refine below_set ?_ GE106.out) | exact HB.out)) hb); clear BK105; clear BK106; clear HB; have HO109 := n0_; have BK105 := n1_; have BK106 := n2_; have HB := n3_; clear n0_ n1_ n2_ n3_; (try clear hb); (try clear hb2); (try clear hk); (try clear hi); (try clear ho0); obtain ⟨Ao8, co8, eo8⟩ := Kd.R_slice HO109.out; subst eo8; have hcz9_0 : w7.cell? ⟨gb105, 0, none⟩ = some (.slice A0_0 l0_0.length c0_0) := (blk_cell BK105.out 0).trans rfl; have hcz9_1 : w7.cell? ⟨gb105, 1, none⟩ = some (.int .i64 a0_1) := (blk_cell BK105.out 1).trans rfl; have hfz9_0 := blk_frozen BK105.out 0; have hfz9_1 := blk_frozen BK105.out 1; have hcz10_0 : w7.cell? ⟨gb106, 0, none⟩ = some (.slice none 0 0) := (blk_cell BK106.out 0).trans rfl; have hcz10_1 : w7.cell? ⟨gb106, 1, none⟩ = some (.int .i64 0) := (blk_cell BK106.out 1).trans rfl; have hfz10_0 := blk_frozen BK106.out 0; have hfz10_1 := blk_frozen BK106.out 1))
  refine bodyPost_ret (results_cell_row rfl _ _ gb106 46 #[.slice Ao8 t107.length co8, .int .i64 a0_1] (0, 0) _ rfl (by (with_reducible repeat (first | refine blk_drewN ?_ _ | refine blk_drew ?_ | refine blk_alloc ?_ _)); refine blk_put (cs := #[.slice Ao8 t107.length co8, .int .i64 0]) ?_ 1 _ rfl; (with_reducible repeat (first | refine blk_drewN ?_ _ | refine blk_drew ?_ | refine blk_alloc ?_ _)); refine blk_put (cs := #[.slice none 0 0, .int .i64 0]) ?_ 0 _ rfl; (with_reducible repeat (first | refine blk_drewN ?_ _ | refine blk_drew ?_ | refine blk_alloc ?_ _)); refine blk_far ?_ NB106_105.out _; (with_reducible repeat (first | refine blk_drewN ?_ _ | refine blk_drew ?_ | refine blk_alloc ?_ _)); exact BK106.out) Try.underlying46 rfl (by kernel_rfl)) rfl ?_
  exact ⟨_, by first | rfl | (simp [errW_none, errW_some] <;> rfl) | (simp [*, errW_none, errW_some] <;> rfl), by (with_reducible repeat (first | apply Kd.R_alloc | apply Kd.R_drewN | apply Kd.R_drew)); exact Kd.R_mono (Kd.R_far (p := ⟨gb106, 1, none⟩) (Kd.R_far (p := ⟨gb106, 0, none⟩) (Kd.R_far (p := ⟨gb105, 0, none⟩) (Kd.R_types (Kd.R_types HO109.out BK105.out (by decide)) BK106.out (by decide)) (fun _ hk => hk.1.2) (.slice Ao8 t107.length co8)) (fun _ hk => hk.2) (.slice Ao8 t107.length co8)) (fun _ hk => hk.2) (.int .i64 a0_1)) (fun _ hk => trivial), by repeat (first | (with_reducible first | exact HB.out | apply below_alloc | apply pw_below_drewN | apply below_drew1 | refine below_set ?_ GE105.out | refine below_set ?_ GE106.out) | exact HB.out)⟩

/-! ### impl_HashOf: function 116 -/
def impl_HashOf.l0 : Nat → ByteArray → Int → Int → Option (Int)
  | 0, _, _, _ => none
  | k + 1, x0, x5, x6 => if x6 < (x0.size : Int) then (if 0 ≤ x6 then (impl_HashOf.l0 k x0 (((Go.bits .xor .u32 x5 ((bt x0 x6) % 4294967296)) * 16777619) % 4294967296) (wrap64 (x6 + 1))) else (none)) else (some (wrap64 (Go.bits .xor .u32 x5 (x5 / 65536))))
def impl_HashOf.f (k : Nat) (a0 : ByteArray) (a1 : Int) : Option (Int) := impl_HashOf.l0 k a0 (2166136261 + (mx 0 (mn a1 1000000000))) 0
theorem impl_HashOf.mono_l : ∀ k, (∀ y0 y1 y2, LeO (impl_HashOf.l0 k y0 y1 y2) (impl_HashOf.l0 (k + 1) y0 y1 y2))
  | 0 => fun _ _ _ r h => by simp [impl_HashOf.l0] at h
  | k + 1 => by
    have ih0 := impl_HashOf.mono_l k
    · intro y0 y1 y2
      unfold impl_HashOf.l0
      repeat' first
      | (with_reducible exact ih0 _ _ _)
      | (with_reducible exact LeO.refl _)
      | (with_reducible exact LeO.none _)
      | (with_reducible refine LeO.ite ?_ ?_)
      | (with_reducible refine LeO.bind ?_ (fun _ => ?_))
      | exact ih0 _ _ _
      | exact LeO.none _
      | refine LeO.ite ?_ ?_
      | refine LeO.bind ?_ (fun _ => ?_)
theorem impl_HashOf.mono : ∀ a0 a1 k, LeO (impl_HashOf.f k a0 a1) (impl_HashOf.f (k + 1) a0 a1) := by
  intro a0 a1 k
  have ih0 := impl_HashOf.mono_l k
  unfold impl_HashOf.f
  repeat' first
      | (with_reducible exact ih0 _ _ _)
      | (with_reducible exact LeO.refl _)
      | (with_reducible exact LeO.none _)
      | (with_reducible refine LeO.ite ?_ ?_)
      | (with_reducible refine LeO.bind ?_ (fun _ => ?_))
      | exact ih0 _ _ _
      | exact LeO.none _
      | refine LeO.ite ?_ ?_
      | refine LeO.bind ?_ (fun _ => ?_)
set_option maxHeartbeats 8000000 in
set_option maxRecDepth 100000 in
theorem impl_HashOf.calls (k : Nat) (a0 : ByteArray) (a1 : Int) (r : Int) (w : World) (h : impl_HashOf.f k a0 a1 = some r) :
    Calls Try.prog 116 #[.string a0, .int .i64 a1] w fun e w' => e = .returned (.int .i64 r) ∧ Below w.heap.size w w' := by
  have HB := Aside0.mk (Below.refl w.heap.size w)
  have H : (impl_HashOf.l0 k a0 (2166136261 + (mx 0 (mn a1 1000000000))) 0) = some r := h
  clear h
  obtain ⟨ji3, hji3⟩ : ∃ j_ : Int, (mn a1 1000000000) = j_ := ⟨_, rfl⟩
  replace H : (impl_HashOf.l0 k a0 (2166136261 + (mx 0 (ji3))) 0) = some r := by first | (rw [hji3] at H; exact H) | (simp only [hji3] at H ⊢; exact H)
  (try (have hji3h : ji3 ≤ 1000000000 := by (rw [← hji3]; unfold mn; (repeat' split) <;> omega)))
  (try (have hji3g : ji3 ≤ 64 := by omega))
  have hji3_ : (if 1000000000 < a1 then 1000000000 else a1) = ji3 := hji3
  obtain ⟨ji4, hji4⟩ : ∃ j_ : Int, (mx 0 (ji3)) = j_ := ⟨_, rfl⟩
  replace H : (impl_HashOf.l0 k a0 (2166136261 + (ji4)) 0) = some r := by first | (rw [hji4] at H; exact H) | (simp only [hji4] at H ⊢; exact H)
  have hji4_ : (if 0 < (ji3) then (ji3) else 0) = ji4 := hji4
  have H' := Aside0.mk H
  clear H
  go_enter Try.func116, Try.ntmps116
  go_wp2
  go_loopg [5, 6] k (fun kq v5 v6 w' => ∃ (x5_1 : Int) (x6_1 : Int), v5 = .int .u32 x5_1 ∧ v6 = .int .i64 x6_1 ∧ Aside0 (impl_HashOf.l0 kq a0 x5_1 x6_1 = some r) ∧ Aside0 (kq ≤ k) ∧ Aside0 (Below w.heap.size w w'))
  case atStart => exact ⟨(2166136261 + (ji4)), (0), (by first | rfl | (simp; done) | (simp only [← hji4] <;> (first | rfl | simp)) | (simp [*]; done)), (by first | rfl | (simp; done) | (simp [*]; done)), H', ⟨Nat.le_refl _⟩, ⟨by repeat (first | (with_reducible first | exact HB.out | apply below_alloc | apply pw_below_drewN | apply below_drew1) | exact HB.out)⟩⟩
  case round =>
    clear H'
    try clear c1
    try clear p2
    obtain ⟨x5_1, x6_1, rfl, rfl, HA, HK1, HB⟩ := hrel
    cases gk with
    | zero => exact absurd HA.out (by simp [impl_HashOf.l0])
    | succ k1 =>
      have H := HA.out
      clear HA
      simp only [impl_HashOf.l0] at H
      by_cases c5 : x6_1 < (a0.size : Int)
      · rw [if_pos c5] at H
        have c5b0 : decide (x6_1 < (a0.size : Int)) = true := decide_eq_true c5
        clear c5
        by_cases c6 : 0 ≤ x6_1
        · rw [if_pos c6] at H
          have c6b0 : decide (0 ≤ x6_1) = true := decide_eq_true c6
          clear c6
          have H' := Aside0.mk H
          clear H
          have p7 : 0 ≤ (x6_1 : Int) := of_decide_eq_true (by first | (with_reducible assumption) | assumption)
          have q7 : x6_1 < (a0.size : Int) := of_decide_eq_true (by first | (with_reducible assumption) | assumption)
          have hx7 := bt_at a0 x6_1
          replace p7 := eq_true p7
          replace q7 := eq_true q7
          go_wp2
          go_roundg k1
          case measure => have := HK1.out; omega
          case rel => exact ⟨(((Go.bits .xor .u32 x5_1 ((bt a0 x6_1) % 4294967296)) * 16777619) % 4294967296), (wrap64 (x6_1 + 1)), (by first | rfl | (simp; done) | (simp [*]; done)), (by first | rfl | (simp; done) | (simp [*]; done)), H', ⟨by have := HK1.out; omega⟩, ⟨by repeat (first | (with_reducible first | exact HB.out | apply below_alloc | apply pw_below_drewN | apply below_drew1) | exact HB.out)⟩⟩
        · rw [if_neg c6] at H
          exact absurd H (by simp)
      · rw [if_neg c5] at H
        have c5b0 : decide (x6_1 < (a0.size : Int)) = false := decide_eq_false c5
        clear c5
        obtain rfl := Option.some.inj H
        go_wp2
        go_ret
        exact ⟨by first | rfl | (simp [errW_none, errW_some] <;> rfl) | (simp only [← hji3, ← hji4]; first | rfl | (simp [errW_none, errW_some] <;> rfl)) | (simp [*, errW_none, errW_some] <;> rfl), by repeat (first | (with_reducible first | exact HB.out | apply below_alloc | apply pw_below_drewN | apply below_drew1) | exact HB.out)⟩

/-! ### impl_countAt: function 87 -/
def impl_countAt.f (k : Nat) (a0 : ByteArray) (a1 : Int) : Option (Int) := (impl_HashOf.f k a0 a1).bind fun t110 => (some (wrap64 ((wrap64 (a1 * 16)) + (Int.tmod t110 16))))
theorem impl_countAt.mono : ∀ a0 a1 k, LeO (impl_countAt.f k a0 a1) (impl_countAt.f (k + 1) a0 a1) := by
  intro a0 a1 k
  unfold impl_countAt.f
  repeat' first
      | (with_reducible exact impl_HashOf.mono _ _ _)
      | (with_reducible exact LeO.refl _)
      | (with_reducible exact LeO.none _)
      | (with_reducible refine LeO.ite ?_ ?_)
      | (with_reducible refine LeO.bind ?_ (fun _ => ?_))
      | exact impl_HashOf.mono _ _ _
      | exact LeO.none _
      | refine LeO.ite ?_ ?_
      | refine LeO.bind ?_ (fun _ => ?_)
set_option maxHeartbeats 8000000 in
set_option maxRecDepth 100000 in
theorem impl_countAt.calls (k : Nat) (a0 : ByteArray) (a1 : Int) (r : Int) (w : World) (h : impl_countAt.f k a0 a1 = some r) :
    Calls Try.prog 87 #[.string a0, .int .i64 a1] w fun e w' => e = .returned (.int .i64 r) ∧ Below w.heap.size w w' := by
  have HB := Aside0.mk (Below.refl w.heap.size w)
  have H : ((impl_HashOf.f k a0 a1).bind fun t110 => (some (wrap64 ((wrap64 (a1 * 16)) + (Int.tmod t110 16))))) = some r := h
  clear h
  replace H := Option.bind_eq_some_iff.mp H
  obtain ⟨t110, A30, H⟩ := H
  replace H : (some (wrap64 ((wrap64 (a1 * 16)) + (Int.tmod t110 16)))) = some r := H
  have A3 := Aside0.mk A30
  clear A30
  obtain rfl := Option.some.inj H
  go_enter Try.func87, Try.ntmps87
  go_wp2_with (first | ((with_reducible refine gate_callee (f := 116) rfl ?_); refine goesL_ (some 9) rfl rfl Try.func116 (by kernel_rfl) rfl #[.string a0, .int .i64 a1] rfl (by (try simp only [List.map_toArray, List.map_cons, List.map_nil]); first | done | rfl | (simp only [List.length_drop, List.length_take]; rfl)) ?_; (with_reducible refine (impl_HashOf.calls k a0 a1 t110 _ A3.out).mono ?_); rintro e w4 ⟨rfl, hb⟩; refine ⟨_, rfl, ?_⟩; have n0_ := Aside0.mk (below_step (by repeat (first | (with_reducible first | exact HB.out | apply below_alloc | apply pw_below_drewN | apply below_drew1) | exact HB.out)) hb); clear HB; have HB := n0_; clear n0_; (try clear hb); (try clear hb2); (try clear hk); (try clear hi)))
  go_ret
  exact ⟨by first | rfl | (simp [errW_none, errW_some] <;> rfl) | (simp [*, errW_none, errW_some] <;> rfl), by repeat (first | (with_reducible first | exact HB.out | apply below_alloc | apply pw_below_drewN | apply below_drew1) | exact HB.out)⟩

-- NOT PRINTED: function 115 (impl_Sketch_halve)

-- NOT PRINTED: function 83 (impl_Sketch_count)


/-! ### impl_CountKey: function 32 -/
def hf (x : Int) : Int := wrap64 (Int.tdiv x 2)
def hl (l : List Int) (i : Nat) : List Int := (l.take i).map hf ++ l.drop i
theorem hl_len (l : List Int) (i : Nat) : (hl l i).length = l.length := by unfold hl; simp; omega
theorem hl_next (l : List Int) (i : Nat) (h : i < l.length) : (hl l i).set i (hf (rd (hl l i) (i : Int))) = hl l (i + 1) := by
  have e : (hl l i)[i]? = some l[i] := by
    unfold hl
    rw [List.getElem?_append_right (by simp; omega)]
    simp [h, Nat.min_eq_left (Nat.le_of_lt h)]
  have e2 : rd (hl l i) (i : Int) = l[i] := by unfold rd; rw [Int.toNat_natCast, List.getD_eq_getElem?_getD, e]; rfl
  rw [e2]
  apply List.ext_getElem?
  intro j
  rw [List.getElem?_set]
  unfold hl
  by_cases c : i = j
  · subst c
    rw [if_pos rfl, if_pos (by simp; omega), List.getElem?_append_left (by simp; omega)]
    simp [h]
  · rw [if_neg c]
    by_cases c2 : j < i
    · rw [List.getElem?_append_left (by simp; omega), List.getElem?_append_left (by simp; omega)]
      simp [c2, Nat.lt_succ_of_lt c2]
    · rw [List.getElem?_append_right (by simp; omega), List.getElem?_append_right (by simp; omega)]
      simp [Nat.min_eq_left (Nat.le_of_lt h), Nat.min_eq_left (show i + 1 ≤ l.length by omega)]
      congr 1; omega
set_option maxHeartbeats 800000 in
set_option maxRecDepth 100000 in
theorem halve_calls (g o t : Nat) (cs : Array Value) (u : Value) (l : List Int) (P_ : Nat → Prop) (w0 w : World) (hl0 : l.length ≤ 1048576) (hB : Below w0.heap.size w0 w) (hb : w.heap[g]? = some (.cells cs t (0, 0))) (hu : cs[o]? = some u) (hg : w0.heap.size ≤ g)
    (ho : Kd.R (Kd.int .i64) 3 w w0.heap.size P_ u l) (hne : some g ≠ u.ownBlock) :
    Calls Try.prog 115 #[.pointer (some ⟨g, o, none⟩)] w fun e w' => e = .returned (.tuple #[]) ∧ Kd.R (Kd.int .i64) 3 w' w0.heap.size P_ u (l.map hf) ∧ Below w0.heap.size w0 w' ∧ Kept w w' (fun k => some k = u.ownBlock) := by
  have HB := Aside0.mk hB
  have HO := Aside0.mk ho
  have HNE := Aside0.mk hne
  have HU := Aside0.mk hu
  have HL := Aside0.mk hl0
  have HBK := Aside0.mk hb
  have HG := Aside0.mk hg
  obtain ⟨A, c, e⟩ := Kd.R_slice ho
  subst e
  have hcell : w.cell? ⟨g, o, none⟩ = some (.slice A l.length c) := (blk_cell hb o).trans hu
  clear hB ho hne hu hl0 hb hg
  go_enter Try.func115, Try.ntmps115
  go_wp2
  clear hcell
  go_loopw [8] (fun v8 wr => ∃ i : Nat, v8 = .int .i64 i ∧ Aside0 (i ≤ l.length) ∧ Aside0 (Kd.R (Kd.int .i64) 3 wr w0.heap.size P_ (.slice A l.length c) (hl l i)) ∧ Aside0 (Below w0.heap.size w0 wr) ∧ Aside0 (Kept w wr (fun k => some k = (Value.slice A l.length c).ownBlock)) ) (fun v8 _ => l.length - (intOf v8).toNat)
  case atStart => exact ⟨0, rfl, ⟨by omega⟩, ⟨by simpa [hl] using HO.out⟩, HB, ⟨Kept.refl _ _⟩⟩
  case round =>
    obtain ⟨i, rfl, HI, HO, HB, HK⟩ := hrel
    by_cases c1 : i < l.length
    · have c1b : decide ((i : Int) < (l.length : Int)) = true := decide_eq_true (by omega)
      have c1c : decide (i < l.length) = true := decide_eq_true c1
      have hbk := HBK.out
      have hbr : wr.heap[g]? = some (.cells cs t (0, 0)) := (HK.out.2 g (blk_lt hbk) HNE.out).trans hbk
      have hcell : wr.cell? ⟨g, o, none⟩ = some (.slice A l.length c) := (blk_cell hbr o).trans HU.out
      clear hbk hbr
      have hll := hl_len l i
      have p5 : (0 : Int) ≤ (i : Int) := by omega
      have q5 : (i : Int) < (((hl l i).length : Nat) : Int) := by rw [hll]; omega
      have hlen : l.length = (hl l i).length := hll.symm
      have HO1 := HO.out
      obtain ⟨go5, co5, eo5, gb5, gl5, cl5, HG5⟩ := Kd.R_form HO1 (by rw [hll]; omega)
      obtain ⟨rfl, en_, rfl⟩ := Value.slice.inj eo5
      have GB5 := Aside0.mk gb5
      obtain ⟨hx5, hf5⟩ := Kd.R_celln 0 HO1 (i : Int) p5 (show (i : Int) < ((l.length : Nat) : Int) by omega)
      rw [Int.toNat_natCast] at hx5 hf5
      replace hx5 : wr.cell? ⟨go5, i, none⟩ = some (.int .i64 (rd (hl l i) (i : Int))) := hx5
      have p6 : i < 1048576 := by have := HL.out; omega
      have HP7 := Aside0.mk (Kd.R_putg HO1 (i : Int) (hf (rd (hl l i) (i : Int))))
      clear HO1 gb5 gl5 cl5 HG5 eo5 en_ hlen
      rw [Int.toNat_natCast] at HP7
      rw [hl_next l i c1] at HP7
      generalize hv : rd (hl l i) (i : Int) = v at HP7 hx5
      clear hv
      go_wp2
      go_roundw
      case rel => exact ⟨i + 1, by go_num, ⟨by omega⟩, ⟨HP7.out.1⟩, ⟨below_set HB.out GB5.out⟩, ⟨Kept.of_grown HP7.out.2 HK.out (fun k_ e_ => .inl e_.symm)⟩⟩
      case measure => simp [intOf]; omega
    · have c1b : decide ((i : Int) < (l.length : Int)) = false := decide_eq_false (by omega)
      have c1c : decide (i < l.length) = false := decide_eq_false c1
      go_wp2
      go_end0
      exact ⟨rfl, by have := HO.out; rw [show i = l.length by have := HI.out; omega] at this; simpa [hl] using this, HB.out, HK.out⟩
/-- The counts behind i rows. -/
def cl (l : List Int) (a : Nat → Int) : Nat → List Int
  | 0 => l
  | i + 1 => (cl l a i).set (a i).toNat (mn (rd (cl l a i) (a i) + 1) 15)
theorem cl_len (l : List Int) (a : Nat → Int) (i : Nat) : (cl l a i).length = l.length := by
  induction i with
  | zero => rfl
  | succ i ih => simp [cl, ih]
theorem cl_bd (l : List Int) (a : Nat → Int) (h : ∀ x ∈ l, 0 ≤ x ∧ x ≤ 15) (i : Nat) : ∀ x ∈ cl l a i, 0 ≤ x ∧ x ≤ 15 := by
  induction i with
  | zero => exact h
  | succ i ih =>
    intro x hx
    rcases List.mem_or_eq_of_mem_set hx with h' | h'
    · exact ih x h'
    · have hr : 0 ≤ rd (cl l a i) (a i) ∧ rd (cl l a i) (a i) ≤ 15 := by
        unfold rd
        rw [List.getD_eq_getElem?_getD]
        cases e : (cl l a i)[(a i).toNat]? with
        | none => simp
        | some v => exact ih v (List.mem_of_getElem? e)
      rw [h']; unfold mn; split <;> omega
theorem rd_bd {l : List Int} (h : ∀ x ∈ l, 0 ≤ x ∧ x ≤ 15) (i : Int) : 0 ≤ rd l i ∧ rd l i ≤ 15 := by
  unfold rd
  rw [List.getD_eq_getElem?_getD]
  cases e : l[i.toNat]? with
  | none => simp
  | some v => exact h v (List.mem_of_getElem? e)
set_option maxHeartbeats 1600000 in
set_option maxRecDepth 100000 in
theorem count_calls (k g o t : Nat) (cs : Array Value) (u : Value) (l : List Int) (n : Int) (key : ByteArray) (a : Nat → Int) (P_ : Nat → Prop) (w0 w : World) (hl0 : l.length = 48) (hx : ∀ x ∈ l, 0 ≤ x ∧ x ≤ 15) (hn : 0 ≤ n ∧ n ≤ 99)
    (ha : ∀ i : Nat, i < 3 → impl_countAt.f k key (i : Int) = some (a i) ∧ 0 ≤ a i ∧ a i < 48)
    (hB : Below w0.heap.size w0 w) (hb : w.heap[g]? = some (.cells cs t (0, 0))) (hu : cs[o]? = some u) (hn1 : cs[o + 1]? = some (.int .i64 n)) (hg : w0.heap.size ≤ g)
    (ho : Kd.R (Kd.int .i64) 3 w w0.heap.size P_ u l) (hP : ∀ k, P_ k → k ≠ g) :
    Calls Try.prog 83 #[.pointer (some ⟨g, o, none⟩), .string key] w fun e w' => e = .returned (.tuple #[]) ∧ Kd.R (Kd.int .i64) 3 w' w0.heap.size P_ u (if n = 99 then (cl l a 3).map hf else cl l a 3) ∧
      w'.heap[g]? = some (.cells (cs.setIfInBounds (o + 1) (.int .i64 (if n = 99 then 0 else n + 1))) t (0, 0)) ∧ Below w0.heap.size w0 w' ∧ Kept w w' (fun k => some k = u.ownBlock ∨ k = g) := by
  have HB := Aside0.mk hB
  have HO := Aside0.mk ho
  have HNE := Aside0.mk (show some g ≠ u.ownBlock from fun e => hP g (ho.1 g e.symm) rfl)
  have HP := Aside0.mk hP
  have HU := Aside0.mk hu
  have HN1 := Aside0.mk hn1
  have HN := Aside0.mk hn
  have HL := Aside0.mk hl0
  have HX := Aside0.mk hx
  have HA := Aside0.mk ha
  have HBK := Aside0.mk hb
  have HG := Aside0.mk hg
  obtain ⟨A, c, e⟩ := Kd.R_slice ho
  subst e
  clear hB ho hP hu hl0 hb hg hx hn hn1 ha
  go_enter Try.func83, Try.ntmps83
  go_wp2
  go_loopw [6] (fun v6 wr => ∃ i : Nat, v6 = .int .i64 i ∧ Aside0 (i ≤ 3) ∧ Aside0 (Kd.R (Kd.int .i64) 3 wr w0.heap.size P_ (.slice A l.length c) (cl l a i)) ∧ Aside0 (Below w0.heap.size w0 wr) ∧ Aside0 (Kept w wr (fun k => some k = (Value.slice A l.length c).ownBlock))) (fun v6 _ => 3 - (intOf v6).toNat)
  case atStart => exact ⟨0, rfl, ⟨by omega⟩, ⟨HO.out⟩, HB, ⟨Kept.refl _ _⟩⟩
  case round =>
    obtain ⟨i, rfl, HI, HO, HB, HK⟩ := hrel
    by_cases c1 : i < 3
    · have c1b : decide ((i : Int) < 3) = true := decide_eq_true (by omega)
      have c1c : decide (i < 3) = true := decide_eq_true c1
      obtain ⟨hca, ha0, ha1⟩ := HA.out i c1
      have CA := Aside0.mk hca
      clear hca
      go_wp2_with (first | ((with_reducible refine gate_callee (f := 87) rfl ?_); refine goesL_ (some 11) rfl rfl Try.func87 (by kernel_rfl) rfl #[.string key, .int .i64 (i : Int)] rfl (by (try simp only [List.map_toArray, List.map_cons, List.map_nil]); first | done | rfl) ?_; (with_reducible refine (impl_countAt.calls k key (i : Int) (a i) _ CA.out).mono ?_); rintro e w2 ⟨rfl, hb⟩; refine ⟨_, rfl, ?_⟩; have n0_ := Aside0.mk (Kd.R_below HO.out hb); have n1_ := Aside0.mk (below_step HB.out hb); have n2_ := Aside0.mk (Kept.below HK.out hb); clear HO HB HK hb; have HO := n0_; have HB := n1_; have HK := n2_; clear n0_ n1_ n2_))
      have hll := cl_len l a i
      have h48 := HL.out
      have hbk := HBK.out
      have hbr : w2.heap[g]? = some (.cells cs t (0, 0)) := blk_kept hbk HK.out HNE.out
      have hcell : w2.cell? ⟨g, o, none⟩ = some (.slice A l.length c) := (blk_cell hbr o).trans HU.out
      clear hbk hbr
      have HO1 := HO.out
      have q5 : a i < (((cl l a i).length : Nat) : Int) := by rw [hll]; omega
      obtain ⟨go5, co5, eo5, gb5, gl5, cl5, HG5⟩ := Kd.R_form HO1 (by rw [hll]; omega)
      obtain ⟨rfl, en_, rfl⟩ := Value.slice.inj eo5
      have GB5 := Aside0.mk gb5
      obtain ⟨hx5, hf5⟩ := Kd.R_celln 0 HO1 (a i) ha0 (show a i < ((l.length : Nat) : Int) by omega)
      replace hx5 : w2.cell? ⟨go5, (a i).toNat, none⟩ = some (.int .i64 (rd (cl l a i) (a i))) := hx5
      have HP7 := Aside0.mk (Kd.R_putg HO1 (a i) (mn (rd (cl l a i) (a i) + 1) 15))
      have hv1 := rd_bd (cl_bd l a HX.out i) (a i)
      clear HO1 gb5 gl5 cl5 HG5 eo5 en_ q5 hll
      generalize hv : rd (cl l a i) (a i) = v at HP7 hx5 hv1
      have HV := Aside0.mk hv
      clear hv
      obtain ⟨hv0, hv15⟩ := hv1
      have ha1' : a i < ((l.length : Nat) : Int) := by omega
      have ha2' : (a i).toNat < l.length := by omega
      clear h48
      go_region
      go_wp2
      go_roundw
      case rel =>
        have hset : cl l a (i + 1) = (cl l a i).set (a i).toNat (mn (v + 1) 15) := by show (cl l a i).set (a i).toNat (mn (rd (cl l a i) (a i) + 1) 15) = _; rw [HV.out]
        have h1 := HP7.out.1
        rw [← hset] at h1
        exact ⟨i + 1, by go_num, ⟨by omega⟩, ⟨Kd.R_drew h1⟩, ⟨below_drew1 (below_set HB.out GB5.out)⟩, ⟨Kept.drew (Kept.of_grown HP7.out.2 HK.out (fun k_ e_ => .inl e_.symm))⟩⟩
      case measure => simp [intOf]; omega
    · have c1b : decide ((i : Int) < 3) = false := decide_eq_false (by omega)
      have c1c : decide (i < 3) = false := decide_eq_false c1
      obtain rfl : i = 3 := by have := HI.out; omega
      have hbk := HBK.out
      have hbr : wr.heap[g]? = some (.cells cs t (0, 0)) := blk_kept hbk HK.out HNE.out
      have hcell0 : wr.cell? ⟨g, o, none⟩ = some (.slice A l.length c) := (blk_cell hbr o).trans HU.out
      have hcell : wr.cell? ⟨g, o + 1, none⟩ = some (.int .i64 n) := (blk_cell hbr (o + 1)).trans HN1.out
      have hfrz := blk_frozen hbr (o + 1)
      have HBR := Aside0.mk hbr
      obtain ⟨hn0, hn99⟩ := HN.out
      clear hbk hbr
      by_cases c9 : n = 99
      · subst c9
        have hset := Aside0.mk (blk_set HBR.out (o + 1) (.int .i64 100))
        go_wp2_with fail
        have hR1 : Kd.R (Kd.int .i64) 3 (wr.setCell ⟨g, o + 1, none⟩ (.int .i64 100)) w0.heap.size P_ (.slice A l.length c) (cl l a 3) := Kd.R_far HO.out (p := ⟨g, o + 1, none⟩) HP.out _
        have hlt : o + 1 < cs.size := (Array.getElem?_eq_some_iff.1 HN1.out).1
        refine (halve_calls g o t (cs.setIfInBounds (o + 1) (.int .i64 100)) (.slice A l.length c) (cl l a 3) P_ w0 _ (by rw [cl_len]; have := HL.out; omega) (below_set HB.out HG.out) hset.out (by rw [Array.getElem?_setIfInBounds_ne (by omega)]; exact HU.out) HG.out hR1 HNE.out).mono ?_
        rintro e w5 ⟨rfl, hR5, hB5, hK5⟩
        have HR5 := Aside0.mk hR5
        have HB5 := Aside0.mk hB5
        have HK5 := Aside0.mk (Kept.then_ (Kept.mono HK.out (S' := fun k => some k = (Value.slice A l.length c).ownBlock ∨ k = g) (fun k h => .inl h)) (Kept.then_ (Kept.setCell (Kept.refl wr (fun k => some k = (Value.slice A l.length c).ownBlock ∨ k = g)) (p := ⟨g, o + 1, none⟩) (.inl (.inr rfl)) (.int .i64 100)) hK5 (fun k h => .inl (.inl h))) (fun k h => .inl h))
        have hbr5 := blk_kept hset.out hK5 HNE.out
        have HBR5 := Aside0.mk hbr5
        have hcell5 : w5.cell? ⟨g, o + 1, none⟩ = some (.int .i64 100) := (blk_cell hbr5 (o + 1)).trans (by simp [hlt])
        have hfrz5 := blk_frozen hbr5 (o + 1)
        clear hR5 hB5 hK5 hbr5 hR1 hcell hcell0 hfrz hlt
        go_wp2
        go_end0
        refine ⟨rfl, ?_, ?_, below_set HB5.out HG.out, Kept.setCell HK5.out (.inl (.inr rfl)) _⟩
        · exact Kd.R_far HR5.out (p := ⟨g, o + 1, none⟩) HP.out _
        · have := blk_set HBR5.out (o + 1) (.int .i64 0)
          rw [Array.setIfInBounds_setIfInBounds] at this
          exact this
      · have c9b : ((n + 1 : Int) == 100) = false := beq_eq_false_iff_ne.2 (by omega)
        have hset := Aside0.mk (blk_set HBR.out (o + 1) (.int .i64 (n + 1)))
        go_wp2
        go_end0
        refine ⟨rfl, ?_, ?_, below_set HB.out HG.out, Kept.setCell (Kept.mono HK.out (fun k h => .inl h)) (.inl (.inr rfl)) _⟩
        · exact Kd.R_far HO.out (p := ⟨g, o + 1, none⟩) HP.out _
        · exact hset.out
def at3 (a0 a1 a2 : Int) (i : Nat) : Int := if i = 0 then a0 else if i = 1 then a1 else a2
def skOk (l : List Int) (n : Int) : Bool := decide (l.length = 48) && l.all (fun x => decide (0 ≤ x ∧ x ≤ 15)) && decide (0 ≤ n ∧ n ≤ 99)
def counted (l : List Int) (n a0 a1 a2 : Int) : Option (List Int × Int) :=
  if skOk l n = true ∧ (0 ≤ a0 ∧ a0 < 48) ∧ (0 ≤ a1 ∧ a1 < 48) ∧ (0 ≤ a2 ∧ a2 < 48) then some (if n = 99 then (cl l (at3 a0 a1 a2) 3).map hf else cl l (at3 a0 a1 a2) 3, if n = 99 then 0 else n + 1) else none
def impl_CountKey.f (k : Nat) (l0_0 : List Int) (a0_1 : Int) (a1 : ByteArray) : Option (List Int × Int) := (impl_copySketch.f l0_0 a0_1).bind fun t => ((impl_SketchOk.f k l0_0 a0_1).bind fun ok => (if ok = true then ((impl_countAt.f k a1 0).bind fun c0 => ((impl_countAt.f k a1 1).bind fun c1 => ((impl_countAt.f k a1 2).bind fun c2 => (counted t.1 t.2 c0 c1 c2)))) else (some t)))
theorem impl_CountKey.mono : ∀ a0 a1 a2 k, LeO (impl_CountKey.f k a0 a1 a2) (impl_CountKey.f (k + 1) a0 a1 a2) := by
  intro a0 a1 a2 k
  unfold impl_CountKey.f
  repeat' first
      | (with_reducible exact impl_SketchOk.mono _ _ _)
      | (with_reducible exact impl_countAt.mono _ _ _)
      | (with_reducible exact LeO.refl _)
      | (with_reducible refine LeO.ite ?_ ?_)
      | (with_reducible refine LeO.bind ?_ (fun _ => ?_))
theorem skOk_tells {l : List Int} {n : Int} (h : skOk l n = true) : l.length = 48 ∧ (∀ x ∈ l, 0 ≤ x ∧ x ≤ 15) ∧ 0 ≤ n ∧ n ≤ 99 := by
  unfold skOk at h
  simp only [Bool.and_eq_true, decide_eq_true_eq, List.all_eq_true] at h
  exact ⟨h.1.1, h.1.2, h.2⟩
set_option maxHeartbeats 1600000 in
set_option maxRecDepth 100000 in
theorem impl_CountKey.calls (k : Nat) (A0_0 : Option Addr) (c0_0 : Nat) (l0_0 : List Int) (a0_1 : Int) (a1 : ByteArray) (r1 : List Int) (r2 : Int) (w : World) (hr0_0 : Kd.C (Kd.int .i64) w A0_0 l0_0.length l0_0) (hc0_0 : l0_0.length ≤ c0_0) (h : impl_CountKey.f k l0_0 a0_1 a1 = some (r1, r2)) :
    Calls Try.prog 32 #[.agg #[.slice A0_0 l0_0.length c0_0, .int .i64 a0_1], .string a1] w fun e w' => ∃ v0_ : Value, e = .returned (.agg #[v0_, .int .i64 r2]) ∧ Kd.R (Kd.int .i64) 3 w' w.heap.size (fun _ => True) v0_ r1 ∧ Below w.heap.size w w' := by
  have hu46 := Try.underlying46
  have HR := Aside0.mk hr0_0
  have HC := Aside0.mk hc0_0
  clear hr0_0 hc0_0
  have HB := Aside0.mk (Below.refl w.heap.size w)
  obtain ⟨⟨tl, tn⟩, e1, h⟩ := Option.bind_eq_some_iff.mp h
  obtain ⟨ok, e2, h⟩ := Option.bind_eq_some_iff.mp h
  have A1 := Aside0.mk e1
  have A2 := Aside0.mk e2
  clear e1 e2
  cases ok with
  | false =>
    rw [if_neg (by simp)] at h
    obtain ⟨rfl, rfl⟩ := Prod.mk.inj (Option.some.inj h)
    clear h
    go_enter Try.func32, Try.ntmps32
    go_wp2_with (first | ((with_reducible refine gate_dst (N := 2) rfl ?_); refine box_event ?hg (N := 2) ?hd (cs := #[.slice A0_0 l0_0.length c0_0, .int .i64 a0_1]) (t := 46) ?hr ?_; (case hd => rfl); (case hg => rfl); (case hr => first | (go_simp; done) | (go_simp; rfl)); intro g2 hg w3 hbox hb; have B2 := Aside0.mk hbox; have G2 := Aside0.mk (show w.heap.size ≤ g2 by rw [hg]; exact below_size HB.out); have n1_ := Aside0.mk (below_step HB.out hb); clear HB hbox hb hg; have HB := n1_; clear n1_) | ((with_reducible refine gate_dst (N := 4) rfl ?_); refine box_event ?hg (N := 4) ?hd (cs := #[.slice none 0 0, .int .i64 0]) (t := 46) ?hr ?_; (case hd => rfl); (case hg => rfl); (case hr => first | (go_simp; done) | (go_simp; rfl)); intro g4 hg w4 hbox hb; have B4 := Aside0.mk hbox; have G4 := Aside0.mk (show w.heap.size ≤ g4 by rw [hg]; exact below_size HB.out); have N24 := Aside0.mk (show g2 ≠ g4 by rw [hg]; exact Nat.ne_of_lt (blk_lt B2.out)); have n0_ := Aside0.mk (blk_below B2.out hb); have n1_ := Aside0.mk (below_step HB.out hb); clear HB B2 hbox hb hg; have B2 := n0_; have HB := n1_; clear n0_ n1_; have hcz0 : w4.cell? ⟨g2, 0, none⟩ = some (.slice A0_0 l0_0.length c0_0) := (blk_cell B2.out 0).trans rfl; have hcz1 : w4.cell? ⟨g2, 1, none⟩ = some (.int .i64 a0_1) := (blk_cell B2.out 1).trans rfl) | ((with_reducible refine gate_callee (f := 82) rfl ?_); refine goesL_ (some 7) rfl rfl Try.func82 (by kernel_rfl) rfl #[.agg #[.slice A0_0 l0_0.length c0_0, .int .i64 a0_1]] rfl (by (try simp only [List.map_toArray, List.map_cons, List.map_nil]); first | done | rfl) ?_; (with_reducible refine (impl_copySketch.calls _ _ l0_0 a0_1 tl tn _ ?side1 ?side2 A1.out).mono ?_); (case side1 => exact Kd.C_below HR.out HB.out); (case side2 => exact HC.out); rintro e w7 ⟨v7, rfl, ho0, hb⟩; refine ⟨_, rfl, ?_⟩; have HO := Aside0.mk (Kd.R_lower ho0 (below_size HB.out)); have n0_ := Aside0.mk (blk_below B2.out hb); have n2_ := Aside0.mk (blk_below B4.out hb); have n1_ := Aside0.mk (below_step HB.out hb); clear HB B2 B4 hb ho0 hcz0 hcz1; have B2 := n0_; have B4 := n2_; have HB := n1_; clear n0_ n1_ n2_; obtain ⟨Ao, co, eo⟩ := Kd.R_slice HO.out; subst eo) | ((with_reducible refine gate_dst (N := 5) rfl ?_); refine box_event ?hg (N := 5) ?hd (cs := #[.slice none 0 0, .int .i64 0]) (t := 46) ?hr ?_; (case hd => rfl); (case hg => rfl); (case hr => first | (go_simp; done) | (go_simp; rfl)); intro g5 hg w8 hbox hb; have B5 := Aside0.mk hbox; have G5 := Aside0.mk (show w.heap.size ≤ g5 by rw [hg]; exact below_size HB.out); have N25 := Aside0.mk (show g2 ≠ g5 by rw [hg]; exact Nat.ne_of_lt (blk_lt B2.out)); have N45 := Aside0.mk (show g4 ≠ g5 by rw [hg]; exact Nat.ne_of_lt (blk_lt B4.out)); have n0_ := Aside0.mk (blk_below B2.out hb); have n2_ := Aside0.mk (blk_below B4.out hb); have n1_ := Aside0.mk (below_step HB.out hb); have n3_ := Aside0.mk (Kd.R_below HO.out hb); clear HB B2 B4 HO hbox hb hg; have B2 := n0_; have B4 := n2_; have HB := n1_; have HO := n3_; clear n0_ n1_ n2_ n3_; have hcz0 : w8.cell? ⟨g5, 0, none⟩ = some (.slice none 0 0) := (blk_cell B5.out 0).trans rfl; have hcz1 : w8.cell? ⟨g5, 1, none⟩ = some (.int .i64 0) := (blk_cell B5.out 1).trans rfl; have hfz0 := blk_frozen B5.out 0; have hfz1 := blk_frozen B5.out 1; have hnb := N25.out; have hcy0 : w8.cell? ⟨g2, 0, none⟩ = some (.slice A0_0 l0_0.length c0_0) := (blk_cell B2.out 0).trans rfl; have hcy1 : w8.cell? ⟨g2, 1, none⟩ = some (.int .i64 a0_1) := (blk_cell B2.out 1).trans rfl) | ((with_reducible refine gate_callee (f := 38) rfl ?_); refine goesL_ (some 9) rfl rfl Try.func38 (by kernel_rfl) rfl #[.agg #[.slice A0_0 l0_0.length c0_0, .int .i64 a0_1]] rfl (by (try simp only [List.map_toArray, List.map_cons, List.map_nil]); first | done | rfl) ?_; (with_reducible refine (impl_SketchOk.calls k _ _ l0_0 a0_1 false _ ?side1 ?side2 A2.out).mono ?_); (case side1 => exact Kd.C_below HR.out (below_set (below_set HB.out G5.out) G5.out)); (case side2 => exact HC.out); rintro e w9 ⟨rfl, hb⟩; refine ⟨_, rfl, ?_⟩; have n0_ := Aside0.mk (blk_below (blk_far (blk_far B4.out (p := ⟨g5, 0, none⟩) N45.out _) (p := ⟨g5, 1, none⟩) N45.out _) hb); have n2_ := Aside0.mk (blk_below (blk_put (cs' := #[.slice Ao tl.length co, .int .i64 tn]) (blk_put (cs' := #[.slice Ao tl.length co, .int .i64 0]) B5.out 0 (.slice Ao tl.length co) rfl) 1 (.int .i64 tn) rfl) hb); have n1_ := Aside0.mk (below_step (below_set (below_set HB.out G5.out) G5.out) hb); have n3_ := Aside0.mk (Kd.R_below (Kd.R_far (p := ⟨g5, 1, none⟩) (Kd.R_far (p := ⟨g5, 0, none⟩) (Kd.R_types (Kd.R_types HO.out B5.out (by decide)) B4.out (by decide)) (fun _ hk => hk.1.2) (.slice Ao tl.length co)) (fun _ hk => hk.1.2) (.int .i64 tn)) hb); clear HB B2 B4 B5 HO hb hcz0 hcz1 hcy0 hcy1 hfz0 hfz1 hnb; have B4 := n0_; have B5 := n2_; have HB := n1_; have HO := n3_; clear n0_ n1_ n2_ n3_; have hcz0 : w9.cell? ⟨g5, 0, none⟩ = some (.slice Ao tl.length co) := (blk_cell B5.out 0).trans rfl; have hcz1 : w9.cell? ⟨g5, 1, none⟩ = some (.int .i64 tn) := (blk_cell B5.out 1).trans rfl; have hfw0 := blk_frozen B4.out 0; have hfw1 := blk_frozen B4.out 1; have hcw0 : w9.cell? ⟨g4, 0, none⟩ = some (.slice none 0 0) := (blk_cell B4.out 0).trans rfl; have hcw1 : w9.cell? ⟨g4, 1, none⟩ = some (.int .i64 0) := (blk_cell B4.out 1).trans rfl))
    refine bodyPost_ret (results_cell_row rfl _ _ g4 46 #[.slice Ao tl.length co, .int .i64 tn] (0, 0) _ rfl (by refine blk_put (cs := #[.slice Ao tl.length co, .int .i64 0]) ?_ 1 _ rfl; refine blk_put (cs := #[.slice none 0 0, .int .i64 0]) ?_ 0 _ rfl; exact B4.out) Try.underlying46 rfl (by kernel_rfl)) rfl ?_
    exact ⟨_, rfl, Kd.R_mono (Kd.R_far (p := ⟨g4, 1, none⟩) (Kd.R_far (p := ⟨g4, 0, none⟩) HO.out (fun _ hk => hk.2) (.slice Ao tl.length co)) (fun _ hk => hk.2) (.int .i64 tn)) (fun _ _ => trivial), below_set (below_set HB.out G4.out) G4.out⟩
  | true =>
    rw [if_pos rfl] at h
    obtain ⟨c0, e1, h⟩ := Option.bind_eq_some_iff.mp h
    obtain ⟨c1, e2, h⟩ := Option.bind_eq_some_iff.mp h
    obtain ⟨c2, e3, h⟩ := Option.bind_eq_some_iff.mp h
    unfold counted at h
    by_cases hok : skOk tl tn = true ∧ (0 ≤ c0 ∧ c0 < 48) ∧ (0 ≤ c1 ∧ c1 < 48) ∧ (0 ≤ c2 ∧ c2 < 48)
    case neg => rw [if_neg hok] at h; cases h
    rw [if_pos hok] at h
    obtain ⟨e4, e5⟩ := Prod.mk.inj (Option.some.inj h)
    have E4 := Aside0.mk e4
    have E5 := Aside0.mk e5
    have E6 := Aside0.mk (show r1.length = tl.length by rw [← e4]; split <;> simp [cl_len])
    clear e4 e5
    obtain ⟨hsk, h0, h1, h2⟩ := hok
    have SK := Aside0.mk (skOk_tells hsk)
    have CS := Aside0.mk (show ∀ i : Nat, i < 3 → impl_countAt.f k a1 (i : Int) = some (at3 c0 c1 c2 i) ∧ 0 ≤ at3 c0 c1 c2 i ∧ at3 c0 c1 c2 i < 48 from fun i hi => by
      rcases i with _ | _ | _ | i
      · exact ⟨e1, h0⟩
      · exact ⟨e2, h1⟩
      · exact ⟨e3, h2⟩
      · omega)
    clear h e1 e2 e3 hsk h0 h1 h2
    go_enter Try.func32, Try.ntmps32
    go_wp2_with (first | ((with_reducible refine gate_dst (N := 2) rfl ?_); refine box_event ?hg (N := 2) ?hd (cs := #[.slice A0_0 l0_0.length c0_0, .int .i64 a0_1]) (t := 46) ?hr ?_; (case hd => rfl); (case hg => rfl); (case hr => first | (go_simp; done) | (go_simp; rfl)); intro g2 hg w3 hbox hb; have B2 := Aside0.mk hbox; have G2 := Aside0.mk (show w.heap.size ≤ g2 by rw [hg]; exact below_size HB.out); have n1_ := Aside0.mk (below_step HB.out hb); clear HB hbox hb hg; have HB := n1_; clear n1_) | ((with_reducible refine gate_dst (N := 4) rfl ?_); refine box_event ?hg (N := 4) ?hd (cs := #[.slice none 0 0, .int .i64 0]) (t := 46) ?hr ?_; (case hd => rfl); (case hg => rfl); (case hr => first | (go_simp; done) | (go_simp; rfl)); intro g4 hg w4 hbox hb; have B4 := Aside0.mk hbox; have G4 := Aside0.mk (show w.heap.size ≤ g4 by rw [hg]; exact below_size HB.out); have N24 := Aside0.mk (show g2 ≠ g4 by rw [hg]; exact Nat.ne_of_lt (blk_lt B2.out)); have n0_ := Aside0.mk (blk_below B2.out hb); have n1_ := Aside0.mk (below_step HB.out hb); clear HB B2 hbox hb hg; have B2 := n0_; have HB := n1_; clear n0_ n1_; have hcz0 : w4.cell? ⟨g2, 0, none⟩ = some (.slice A0_0 l0_0.length c0_0) := (blk_cell B2.out 0).trans rfl; have hcz1 : w4.cell? ⟨g2, 1, none⟩ = some (.int .i64 a0_1) := (blk_cell B2.out 1).trans rfl) | ((with_reducible refine gate_callee (f := 82) rfl ?_); refine goesL_ (some 7) rfl rfl Try.func82 (by kernel_rfl) rfl #[.agg #[.slice A0_0 l0_0.length c0_0, .int .i64 a0_1]] rfl (by (try simp only [List.map_toArray, List.map_cons, List.map_nil]); first | done | rfl) ?_; (with_reducible refine (impl_copySketch.calls _ _ l0_0 a0_1 tl tn _ ?side1 ?side2 A1.out).mono ?_); (case side1 => exact Kd.C_below HR.out HB.out); (case side2 => exact HC.out); rintro e w7 ⟨v7, rfl, ho0, hb⟩; refine ⟨_, rfl, ?_⟩; have HO := Aside0.mk (Kd.R_lower ho0 (below_size HB.out)); have n0_ := Aside0.mk (blk_below B2.out hb); have n2_ := Aside0.mk (blk_below B4.out hb); have n1_ := Aside0.mk (below_step HB.out hb); clear HB B2 B4 hb ho0 hcz0 hcz1; have B2 := n0_; have B4 := n2_; have HB := n1_; clear n0_ n1_ n2_; obtain ⟨Ao, co, eo⟩ := Kd.R_slice HO.out; subst eo) | ((with_reducible refine gate_dst (N := 5) rfl ?_); refine box_event ?hg (N := 5) ?hd (cs := #[.slice none 0 0, .int .i64 0]) (t := 46) ?hr ?_; (case hd => rfl); (case hg => rfl); (case hr => first | (go_simp; done) | (go_simp; rfl)); intro g5 hg w8 hbox hb; have B5 := Aside0.mk hbox; have G5 := Aside0.mk (show w.heap.size ≤ g5 by rw [hg]; exact below_size HB.out); have N25 := Aside0.mk (show g2 ≠ g5 by rw [hg]; exact Nat.ne_of_lt (blk_lt B2.out)); have N45 := Aside0.mk (show g4 ≠ g5 by rw [hg]; exact Nat.ne_of_lt (blk_lt B4.out)); have n0_ := Aside0.mk (blk_below B2.out hb); have n2_ := Aside0.mk (blk_below B4.out hb); have n1_ := Aside0.mk (below_step HB.out hb); have n3_ := Aside0.mk (Kd.R_below HO.out hb); clear HB B2 B4 HO hbox hb hg; have B2 := n0_; have B4 := n2_; have HB := n1_; have HO := n3_; clear n0_ n1_ n2_ n3_; have hcz0 : w8.cell? ⟨g5, 0, none⟩ = some (.slice none 0 0) := (blk_cell B5.out 0).trans rfl; have hcz1 : w8.cell? ⟨g5, 1, none⟩ = some (.int .i64 0) := (blk_cell B5.out 1).trans rfl; have hfz0 := blk_frozen B5.out 0; have hfz1 := blk_frozen B5.out 1; have hnb := N25.out; have hcy0 : w8.cell? ⟨g2, 0, none⟩ = some (.slice A0_0 l0_0.length c0_0) := (blk_cell B2.out 0).trans rfl; have hcy1 : w8.cell? ⟨g2, 1, none⟩ = some (.int .i64 a0_1) := (blk_cell B2.out 1).trans rfl) | ((with_reducible refine gate_callee (f := 38) rfl ?_); refine goesL_ (some 9) rfl rfl Try.func38 (by kernel_rfl) rfl #[.agg #[.slice A0_0 l0_0.length c0_0, .int .i64 a0_1]] rfl (by (try simp only [List.map_toArray, List.map_cons, List.map_nil]); first | done | rfl) ?_; (with_reducible refine (impl_SketchOk.calls k _ _ l0_0 a0_1 true _ ?side1 ?side2 A2.out).mono ?_); (case side1 => exact Kd.C_below HR.out (below_set (below_set HB.out G5.out) G5.out)); (case side2 => exact HC.out); rintro e w9 ⟨rfl, hb⟩; refine ⟨_, rfl, ?_⟩; have n0_ := Aside0.mk (blk_below (blk_far (blk_far B4.out (p := ⟨g5, 0, none⟩) N45.out _) (p := ⟨g5, 1, none⟩) N45.out _) hb); have n2_ := Aside0.mk (blk_below (blk_put (cs' := #[.slice Ao tl.length co, .int .i64 tn]) (blk_put (cs' := #[.slice Ao tl.length co, .int .i64 0]) B5.out 0 (.slice Ao tl.length co) rfl) 1 (.int .i64 tn) rfl) hb); have n1_ := Aside0.mk (below_step (below_set (below_set HB.out G5.out) G5.out) hb); have n3_ := Aside0.mk (Kd.R_below (Kd.R_far (p := ⟨g5, 1, none⟩) (Kd.R_far (p := ⟨g5, 0, none⟩) (Kd.R_types (Kd.R_types HO.out B5.out (by decide)) B4.out (by decide)) (fun _ hk => hk.1.2) (.slice Ao tl.length co)) (fun _ hk => hk.1.2) (.int .i64 tn)) hb); clear HB B2 B4 B5 HO hb hcz0 hcz1 hcy0 hcy1 hfz0 hfz1 hnb; have B4 := n0_; have B5 := n2_; have HB := n1_; have HO := n3_; clear n0_ n1_ n2_ n3_; have hcz0 : w9.cell? ⟨g5, 0, none⟩ = some (.slice Ao tl.length co) := (blk_cell B5.out 0).trans rfl; have hcz1 : w9.cell? ⟨g5, 1, none⟩ = some (.int .i64 tn) := (blk_cell B5.out 1).trans rfl; have hfw0 := blk_frozen B4.out 0; have hfw1 := blk_frozen B4.out 1; have hcw0 : w9.cell? ⟨g4, 0, none⟩ = some (.slice none 0 0) := (blk_cell B4.out 0).trans rfl; have hcw1 : w9.cell? ⟨g4, 1, none⟩ = some (.int .i64 0) := (blk_cell B4.out 1).trans rfl) | ((with_reducible refine gate_callee (f := 83) rfl ?_); refine goesL_ (some 11) rfl rfl Try.func83 (by kernel_rfl) rfl #[.pointer (some ⟨g5, 0, none⟩), .string a1] rfl (by (try simp only [List.map_toArray, List.map_cons, List.map_nil]); first | done | rfl) ?_; (with_reducible refine (count_calls k g5 0 46 #[.slice Ao tl.length co, .int .i64 tn] (.slice Ao tl.length co) tl tn a1 (at3 c0 c1 c2) _ w _ SK.out.1 SK.out.2.1 SK.out.2.2 CS.out HB.out B5.out rfl rfl G5.out HO.out (fun _ hk => hk.1.2)).mono ?_); rintro e w10 ⟨rfl, ho0, hb5, hb, hkp⟩; rw [E4.out] at ho0; rw [E5.out] at hb5; have N4 := Aside0.mk (show ¬ (some g4 = (Value.slice Ao tl.length co).ownBlock ∨ g4 = g5) from by rintro (e | e) <;> first | exact Kd.R_ne HO.out B4.out (by decide) e | exact N45.out e); have n0_ := Aside0.mk (blk_kept B4.out hkp N4.out); have n1_ := Aside0.mk hb; have n2_ := Aside0.mk hb5; have n3_ := Aside0.mk ho0; clear HB B4 B5 HO hb hb5 hkp ho0 hcz0 hcz1 hfw0 hfw1 hcw0 hcw1; have B4 := n0_; have B5 := n2_; have HB := n1_; have HO := n3_; clear n0_ n1_ n2_ n3_; have hcz0 : w10.cell? ⟨g5, 0, none⟩ = some (.slice Ao tl.length co) := (blk_cell B5.out 0).trans rfl; have hcz1 : w10.cell? ⟨g5, 1, none⟩ = some (.int .i64 r2) := (blk_cell B5.out 1).trans rfl; have hfw0 := blk_frozen B4.out 0; have hfw1 := blk_frozen B4.out 1; have hcw0 : w10.cell? ⟨g4, 0, none⟩ = some (.slice none 0 0) := (blk_cell B4.out 0).trans rfl; have hcw1 : w10.cell? ⟨g4, 1, none⟩ = some (.int .i64 0) := (blk_cell B4.out 1).trans rfl))
    refine bodyPost_ret (results_cell_row rfl _ _ g4 46 #[.slice Ao tl.length co, .int .i64 r2] (0, 0) _ rfl (by refine blk_put (cs := #[.slice Ao tl.length co, .int .i64 0]) ?_ 1 _ rfl; refine blk_put (cs := #[.slice none 0 0, .int .i64 0]) ?_ 0 _ rfl; exact B4.out) Try.underlying46 rfl (by kernel_rfl)) rfl ?_
    exact ⟨_, rfl, Kd.R_mono (Kd.R_far (p := ⟨g4, 1, none⟩) (Kd.R_far (p := ⟨g4, 0, none⟩) HO.out (fun _ hk => hk.2) (.slice Ao tl.length co)) (fun _ hk => hk.2) (.int .i64 r2)) (fun _ _ => trivial), below_set (below_set HB.out G4.out) G4.out⟩

/-! ### laws_names: function 39 -/
def laws_names.f  : Option (List ByteArray) := some (([(⟨#[97]⟩ : ByteArray), (⟨#[98]⟩ : ByteArray), (⟨#[99]⟩ : ByteArray), (⟨#[100]⟩ : ByteArray), (⟨#[101]⟩ : ByteArray), (⟨#[102]⟩ : ByteArray), (⟨#[103]⟩ : ByteArray), (⟨#[104]⟩ : ByteArray), (⟨#[107, 49]⟩ : ByteArray), (⟨#[107, 50]⟩ : ByteArray), (⟨#[107, 51]⟩ : ByteArray), (⟨#[107, 101, 121]⟩ : ByteArray)] : List ByteArray))
set_option maxHeartbeats 8000000 in
set_option maxRecDepth 100000 in
theorem laws_names.calls  (r : List ByteArray) (w : World) (h : laws_names.f  = some r) :
    Calls Try.prog 39 #[] w fun e w' => ∃ v0_ : Value, e = .returned (v0_) ∧ Kd.R Kd.string 9 w' w.heap.size (fun _ => True) v0_ r ∧ Below w.heap.size w w' := by
  have HB := Aside0.mk (Below.refl w.heap.size w)
  have H : (some (([(⟨#[97]⟩ : ByteArray), (⟨#[98]⟩ : ByteArray), (⟨#[99]⟩ : ByteArray), (⟨#[100]⟩ : ByteArray), (⟨#[101]⟩ : ByteArray), (⟨#[102]⟩ : ByteArray), (⟨#[103]⟩ : ByteArray), (⟨#[104]⟩ : ByteArray), (⟨#[107, 49]⟩ : ByteArray), (⟨#[107, 50]⟩ : ByteArray), (⟨#[107, 51]⟩ : ByteArray), (⟨#[107, 101, 121]⟩ : ByteArray)] : List ByteArray))) = some r := h
  clear h
  obtain ⟨y114, hy114⟩ : ∃ y_ : List ByteArray, y_ = (([(⟨#[97]⟩ : ByteArray), (⟨#[98]⟩ : ByteArray), (⟨#[99]⟩ : ByteArray), (⟨#[100]⟩ : ByteArray), (⟨#[101]⟩ : ByteArray), (⟨#[102]⟩ : ByteArray), (⟨#[103]⟩ : ByteArray), (⟨#[104]⟩ : ByteArray), (⟨#[107, 49]⟩ : ByteArray), (⟨#[107, 50]⟩ : ByteArray), (⟨#[107, 51]⟩ : ByteArray), (⟨#[107, 101, 121]⟩ : ByteArray)] : List ByteArray)) := ⟨_, rfl⟩
  replace H : (some y114) = some r := by first | (rw [hy114]; with_reducible exact H) | (have H2_ := (Option.bind_some _ _).symm.trans H; rw [hy114]; with_reducible exact H2_) | (have H2_ := (Option.bind_some _ _).symm.trans H; with_reducible exact H2_) | with_reducible exact H | (rw [hy114]; exact H) | exact H
  have Ny114 := Aside0.mk hy114
  clear hy114
  obtain rfl := Option.some.inj H
  go_enter Try.func39, Try.ntmps39
  go_wp2_with (first | ((with_reducible refine gate_dst (N := 1) rfl ?_); refine Kd.R_lit Kd.string _ 9 ?hg (N := 1) ?hd (xs := ([(⟨#[97]⟩ : ByteArray), (⟨#[98]⟩ : ByteArray), (⟨#[99]⟩ : ByteArray), (⟨#[100]⟩ : ByteArray), (⟨#[101]⟩ : ByteArray), (⟨#[102]⟩ : ByteArray), (⟨#[103]⟩ : ByteArray), (⟨#[104]⟩ : ByteArray), (⟨#[107, 49]⟩ : ByteArray), (⟨#[107, 50]⟩ : ByteArray), (⟨#[107, 51]⟩ : ByteArray), (⟨#[107, 101, 121]⟩ : ByteArray)] : List ByteArray)) (inner := [.string (⟨#[97]⟩ : ByteArray), .string (⟨#[98]⟩ : ByteArray), .string (⟨#[99]⟩ : ByteArray), .string (⟨#[100]⟩ : ByteArray), .string (⟨#[101]⟩ : ByteArray), .string (⟨#[102]⟩ : ByteArray), .string (⟨#[103]⟩ : ByteArray), .string (⟨#[104]⟩ : ByteArray), .string (⟨#[107, 49]⟩ : ByteArray), .string (⟨#[107, 50]⟩ : ByteArray), .string (⟨#[107, 51]⟩ : ByteArray), .string (⟨#[107, 101, 121]⟩ : ByteArray)]) (ok := fun _ => True) (okp := fun _ => True) ?hr ?hp (fun _ hk => hk) trivial (Below.refl _ _) (Nat.le_refl _) (by simp) ?_; (case hd => rfl); (case hg => rfl); (case hr => first | (go_simp; done) | (go_simp; rfl)); (case hp => exact (Reps.one (show Kd.M Kd.string _ _ _ (⟨#[97]⟩ : ByteArray) [.string (⟨#[97]⟩ : ByteArray)] from rfl) (Reps.one (show Kd.M Kd.string _ _ _ (⟨#[98]⟩ : ByteArray) [.string (⟨#[98]⟩ : ByteArray)] from rfl) (Reps.one (show Kd.M Kd.string _ _ _ (⟨#[99]⟩ : ByteArray) [.string (⟨#[99]⟩ : ByteArray)] from rfl) (Reps.one (show Kd.M Kd.string _ _ _ (⟨#[100]⟩ : ByteArray) [.string (⟨#[100]⟩ : ByteArray)] from rfl) (Reps.one (show Kd.M Kd.string _ _ _ (⟨#[101]⟩ : ByteArray) [.string (⟨#[101]⟩ : ByteArray)] from rfl) (Reps.one (show Kd.M Kd.string _ _ _ (⟨#[102]⟩ : ByteArray) [.string (⟨#[102]⟩ : ByteArray)] from rfl) (Reps.one (show Kd.M Kd.string _ _ _ (⟨#[103]⟩ : ByteArray) [.string (⟨#[103]⟩ : ByteArray)] from rfl) (Reps.one (show Kd.M Kd.string _ _ _ (⟨#[104]⟩ : ByteArray) [.string (⟨#[104]⟩ : ByteArray)] from rfl) (Reps.one (show Kd.M Kd.string _ _ _ (⟨#[107, 49]⟩ : ByteArray) [.string (⟨#[107, 49]⟩ : ByteArray)] from rfl) (Reps.one (show Kd.M Kd.string _ _ _ (⟨#[107, 50]⟩ : ByteArray) [.string (⟨#[107, 50]⟩ : ByteArray)] from rfl) (Reps.one (show Kd.M Kd.string _ _ _ (⟨#[107, 51]⟩ : ByteArray) [.string (⟨#[107, 51]⟩ : ByteArray)] from rfl) (Reps.one (show Kd.M Kd.string _ _ _ (⟨#[107, 101, 121]⟩ : ByteArray) [.string (⟨#[107, 101, 121]⟩ : ByteArray)] from rfl) (Reps.none _ _)))))))))))))); intro v115 w1 ho2 hb hg_ hnew_; clear hg_ hnew_; (first | rw [← Ny114.out] at ho2 | (simp only [Int.reduceToNat] at ho2; rw [← Ny114.out] at ho2)); have n0_ := Aside0.mk (Kd.R_lower ho2 (below_size (by repeat (first | (with_reducible first | exact HB.out | apply below_alloc | apply pw_below_drewN | apply below_drew1) | exact HB.out)))); have n1_ := Aside0.mk (below_step (by repeat (first | (with_reducible first | exact HB.out | apply below_alloc | apply pw_below_drewN | apply below_drew1) | exact HB.out)) hb); clear HB; have HO116 := n0_; have HB := n1_; clear n0_ n1_; clear hb ho2))
  go_ret
  exact ⟨_, by first | rfl | (simp [errW_none, errW_some] <;> rfl) | (simp [*, errW_none, errW_some] <;> rfl), by (with_reducible repeat (first | apply Kd.R_alloc | apply Kd.R_drewN | apply Kd.R_drew)); exact HO116.out, by repeat (first | (with_reducible first | exact HB.out | apply below_alloc | apply pw_below_drewN | apply below_drew1) | exact HB.out)⟩

end Go.Proofs.Ytjiekmbonmbhlaa.GFnCounts
