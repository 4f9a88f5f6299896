/- Walks of the functions that the law reaches: by programs of this session, over a tool's print. -/
import Derived.Test.YtediiolcoilepaaGFnExactNearNewx0
namespace Go.Proofs.Ytediiolcoilepaa.GFnExactNearNew
open Go.RowKit Go.Proofs.YtediiolcoilepaaW.PrintWords Go.Proofs.YtediiolcoilepaaW.PrintLast Go.Proofs.YtediiolcoilepaaW.PrintMore
attribute [local go_sem] max2_int min2_int max_two min_two max_three min_three max_four min_four   -- for this text's walks alone
set_option linter.unusedVariables false
set_option linter.unusedSimpArgs false

/-! ### impl_inRange: function 20 -/
def impl_inRange.f (a0 : Int) (a1 : Int) (a2 : Int) : Option (Bool) := if a0 ≥ a1 then (some (decide (a0 ≤ a2))) else (some false)
set_option maxHeartbeats 8000000 in
set_option maxRecDepth 100000 in
theorem impl_inRange.calls (a0 : Int) (a1 : Int) (a2 : Int) (r : Bool) (w : World) (h : impl_inRange.f a0 a1 a2 = some r) :
    Calls Try.prog 20 #[.int .i64 a0, .int .i64 a1, .int .i64 a2] w fun e w' => e = .returned (.bool r) ∧ Drawn0 w w' := by
  have H : (if a0 ≥ a1 then (some (decide (a0 ≤ a2))) else (some false)) = some r := h
  clear h
  by_cases c4 : a0 ≥ a1
  · rw [if_pos c4] at H
    have c4b0 : decide (a1 ≤ a0) = true := decide_eq_true c4
    clear c4
    obtain rfl := Option.some.inj H
    go_enter Try.func20, Try.ntmps20
    go_wp2
    go_ret
    exact ⟨by first|rfl|(simp; done)|(simp [*]; done), by repeat (first|exact Drawn0.refl _|apply Drawn0.step)⟩
  · rw [if_neg c4] at H
    have c4b0 : decide (a1 ≤ a0) = false := decide_eq_false c4
    clear c4
    obtain rfl := Option.some.inj H
    go_enter Try.func20, Try.ntmps20
    go_wp2
    go_ret
    exact ⟨by first|rfl|(simp; done)|(simp [*]; done), by repeat (first|exact Drawn0.refl _|apply Drawn0.step)⟩

/-! ### impl_SketchNew: function 21 -/
def impl_SketchNew.f  : Option (List Int × Int) := if 48 ≤ 35184372088832 then (some ((List.replicate 48 0), 0)) else (none)
set_option maxHeartbeats 8000000 in
set_option maxRecDepth 100000 in
theorem impl_SketchNew.calls  (r1 : List Int) (r2 : Int) (w : World) (h : impl_SketchNew.f  = some (r1, r2)) :
    Calls Try.prog 21 #[] w fun e w' => ∃ v0_ : Value, e = .returned (.agg #[v0_, .int .i64 r2]) ∧ Kd.R (Kd.int .i64) 3 w' w.heap.size (fun _ => True) v0_ r1 ∧ Below w.heap.size w w' := by
  have hu33 := Try.underlying33
  have HB := Aside0.mk (Below.refl w.heap.size w)
  have H : (if 48 ≤ 35184372088832 then (some ((List.replicate 48 0), 0)) else (none)) = some (r1, r2) := h
  clear h
  by_cases c1 : 48 ≤ 35184372088832
  · rw [if_pos c1] at H
    have c1b0 := eq_true c1
    have c1b1 : decide (48 ≤ 35184372088832) = true := decide_eq_true c1
    clear c1
    obtain ⟨y151, hy151⟩ : ∃ y_ : List Int, y_ = (List.replicate 48 0) := ⟨_, rfl⟩
    replace H : (some (y151, 0)) = some (r1, r2) := by first|(rw [hy151]; with_reducible exact H)|(have H2_ := (Option.bind_some _ _).symm.trans H; rw [hy151]; with_reducible exact H2_)|(have H2_ := (Option.bind_some _ _).symm.trans H; with_reducible exact H2_)|with_reducible exact H|(rw [hy151]; exact H)|exact H
    have Ny151 := Aside0.mk hy151
    clear hy151
    simp only [Option.some.injEq, Prod.mk.injEq] at H
    obtain ⟨rfl, rfl⟩ := H
    go_enter Try.func21, Try.ntmps21
    go_wp2_with (first|((with_reducible refine gate_dst (N := 0) rfl ?_); refine box_event ?hg (N := 0) ?hd (cs := #[.slice none 0 0, .int .i64 0]) (t := 33) ?hr ?_; (case hd => rfl); (case hg => rfl); (case hr => first|(go_simp; done)|(go_simp; rfl)); intro gb150 hg w2 hbox hb; have n0_ := Aside0.mk (zN (by repeat (first|(with_reducible first|exact HB.out|apply zI|apply zG|apply zH)|exact HB.out)) hb); have n1_ := Aside0.mk (hbox); have n2_ := Aside0.mk ((by rw [hg]; exact (below_size (by repeat (first|(with_reducible first|exact HB.out|apply zI|apply zG|apply zH)|exact HB.out))) : w.heap.size ≤ gb150)); have n3_ := Aside0.mk ((by rw [hg]; exact (below_size (by repeat (first|(with_reducible first|exact HB.out|apply zI|apply zG|apply zH)|exact HB.out))) : w.heap.size ≤ gb150)); clear HB; have HB := n0_; have BK150 := n1_; have GW150 := n2_; have GE150 := n3_; clear n0_ n1_ n2_ n3_; clear hb hbox hg)|((with_reducible refine gate_dst (N := 1) rfl ?_); refine Kd.R_make (Kd.int .i64) _ 3 rfl (N := 1) rfl 31 _ _ rfl 48 rfl rfl Try.underlying31 (.int .i64 0) 8 info3 rfl (by decide) (by omega) 0 (ok := fun _ => True) (okp := fun _ => True) rfl (fun _ hk => hk) trivial (by omega) (by omega) (Below.refl _ _) (Nat.le_refl _) ?_; intro v152 w3 ho4 hb hg_ hnew_; clear hg_ hnew_; (first|rw [← Ny151.out] at ho4|(simp only [Int.reduceToNat] at ho4; rw [← Ny151.out] at ho4)); have n0_ := Aside0.mk (Kd.R_lower ho4 (below_size (by repeat (first|(with_reducible first|exact HB.out|apply zI|apply zG|apply zH|refine zJ ?_ GE150.out)|exact HB.out)))); have n1_ := Aside0.mk (zK (g := gb150) (o := .cells #[.slice none 0 0, .int .i64 0] 33 (0, 0)) (by (with_reducible repeat (first|refine zA ?_ _|refine zC ?_|refine zB ?_ _)); exact BK150.out) hb); have n2_ := Aside0.mk (zN (by repeat (first|(with_reducible first|exact HB.out|apply zI|apply zG|apply zH|refine zJ ?_ GE150.out)|exact HB.out)) hb); clear BK150; clear HB; have HO153 := n0_; have BK150 := n1_; have HB := n2_; clear n0_ n1_ n2_; clear hb ho4; obtain ⟨Ao5, co5, eo5⟩ := Kd.R_slice HO153.out; subst eo5; obtain ⟨hcz6_0, hcz6_1, hfz6_0, hfz6_1⟩ := zb2 BK150.out))
    refine bodyPost_ret (results_cell_row rfl _ _ gb150 33 #[.slice Ao5 y151.length co5, .int .i64 0] (0, 0) _ rfl (by (with_reducible repeat (first|refine zA ?_ _|refine zC ?_|refine zB ?_ _)); refine blk_put (cs := #[.slice Ao5 y151.length co5, .int .i64 0]) ?_ 1 _ rfl; (with_reducible repeat (first|refine zA ?_ _|refine zC ?_|refine zB ?_ _)); refine blk_put (cs := #[.slice none 0 0, .int .i64 0]) ?_ 0 _ rfl; (with_reducible repeat (first|refine zA ?_ _|refine zC ?_|refine zB ?_ _)); exact BK150.out) Try.underlying33 rfl (by kernel_rfl)) rfl ?_
    exact ⟨_, by first|rfl|(simp [errW_none, errW_some] <;> rfl)|(simp [*, errW_none, errW_some] <;> rfl), by (with_reducible repeat (first|apply zE|apply zD|apply zF)); exact zR (zL (p := ⟨gb150, 1, none⟩) (zL (p := ⟨gb150, 0, none⟩) (zQ HO153.out BK150.out (by decide)) (fun _ hk => hk.2) (.slice Ao5 y151.length co5)) (fun _ hk => hk.2) (.int .i64 0)) (fun _ hk => trivial), by repeat (first|(with_reducible first|exact HB.out|apply zI|apply zG|apply zH|refine zJ ?_ GE150.out)|exact HB.out)⟩
  · rw [if_neg c1] at H
    exact absurd H (by simp)

/-! ### impl_ArenaNew: function 22 -/
def impl_ArenaNew.l0 : Nat → Int → Int → Int → List (S73) → Int → Option ((List (S73)) × Int × Bool)
 |0, _, _, _, _, _ => none
 |k + 1, x0, x10, x11, x157000, x157001 => if x11 < x10 then (if x157000.length < 2513169434916 then (impl_ArenaNew.l0 k x0 x10 (wrap64 (x11 + 1)) (x157000 ++ [(⟨0, false, (⟨#[]⟩ : ByteArray), (⟨#[]⟩ : ByteArray), wrap64 (x11 + 1)⟩ : S73)]) x157001) else (none)) else (if 0 ≤ (wrap64 (x0 - 1)) then (if (wrap64 (x0 - 1)) < (x157000.length : Int) then (some ((x157000.set ((wrap64 (x0 - 1)) : Int).toNat (⟨(rd_T73 x157000 (wrap64 (x0 - 1))).f0, (rd_T73 x157000 (wrap64 (x0 - 1))).f1, (rd_T73 x157000 (wrap64 (x0 - 1))).f2, (rd_T73 x157000 (wrap64 (x0 - 1))).f3, (-1)⟩ : S73)), x157001, true)) else (none)) else (none))
def impl_ArenaNew.f (k : Nat) (a0 : Int) : Option ((List (S73)) × Int × Bool) := (impl_inRange.f a0 1 24).bind fun t155 => (if t155 = true then (impl_ArenaNew.l0 k a0 a0 0 ([] : List (S73)) 0) else (some (([] : List (S73)), 0, false)))
theorem impl_ArenaNew.mono_l : ∀ k, (∀ y0 y1 y2 y3 y4, LeO (impl_ArenaNew.l0 k y0 y1 y2 y3 y4) (impl_ArenaNew.l0 (k + 1) y0 y1 y2 y3 y4))
 |0 => fun _ _ _ _ _ r h => by simp [impl_ArenaNew.l0] at h
 |k + 1 => by
    have ih0 := impl_ArenaNew.mono_l k
    · intro y0 y1 y2 y3 y4
      unfold impl_ArenaNew.l0
      repeat' first
     |(with_reducible exact ih0 _ _ _ _ _)
     |(with_reducible exact LeO.refl _)
     |(with_reducible exact LeO.none _)
     |(with_reducible refine LeO.ite ?_ ?_)
     |(with_reducible refine LeO.bind ?_ (fun _ => ?_))
     |exact ih0 _ _ _ _ _
     |exact LeO.none _
     |refine LeO.ite ?_ ?_
     |refine LeO.bind ?_ (fun _ => ?_)
theorem impl_ArenaNew.mono : ∀ a0 k, LeO (impl_ArenaNew.f k a0) (impl_ArenaNew.f (k + 1) a0) := by
  intro a0 k
  have ih0 := impl_ArenaNew.mono_l k
  unfold impl_ArenaNew.f
  repeat' first
     |(with_reducible exact ih0 _ _ _ _ _)
     |(with_reducible exact LeO.refl _)
     |(with_reducible exact LeO.none _)
     |(with_reducible refine LeO.ite ?_ ?_)
     |(with_reducible refine LeO.bind ?_ (fun _ => ?_))
     |exact ih0 _ _ _ _ _
     |exact LeO.none _
     |refine LeO.ite ?_ ?_
     |refine LeO.bind ?_ (fun _ => ?_)
set_option maxHeartbeats 8000000 in
set_option maxRecDepth 100000 in
theorem impl_ArenaNew.calls (k : Nat) (a0 : Int) (r1 : List (S73)) (r2 : Int) (r3 : Bool) (w : World) (h : impl_ArenaNew.f k a0 = some (r1, r2, r3)) :
    Calls Try.prog 22 #[.int .i64 a0] w fun e w' => ∃ v0_ : Value, e = .returned (.tuple #[.agg #[v0_, .int .i64 r2], .bool r3]) ∧ Kd.R k73 73 w' w.heap.size (fun _ => True) v0_ r1 ∧ Below w.heap.size w w' := by
  have hu24 := Try.underlying24
  have hu73 := Try.underlying73
  have HB := Aside0.mk (Below.refl w.heap.size w)
  have H : ((impl_inRange.f a0 1 24).bind fun t155 => (if t155 = true then (impl_ArenaNew.l0 k a0 a0 0 ([] : List (S73)) 0) else (some (([] : List (S73)), 0, false)))) = some (r1, r2, r3) := h
  clear h
  replace H := Option.bind_eq_some_iff.mp H
  obtain ⟨t155, A20, H⟩ := H
  replace H : (if t155 = true then (impl_ArenaNew.l0 k a0 a0 0 ([] : List (S73)) 0) else (some (([] : List (S73)), 0, false))) = some (r1, r2, r3) := H
  have A2 := Aside0.mk A20
  clear A20
  by_cases c3 : t155 = true
  · subst c3
    have H1 : (impl_ArenaNew.l0 k a0 a0 0 ([] : List (S73)) 0) = some (r1, r2, r3) := by rw [if_pos rfl] at H; exact H
    clear H
    have H := H1
    clear H1
    have H' := Aside0.mk H
    clear H
    go_enter Try.func22, Try.ntmps22
    go_wp2_with (first|((with_reducible refine gate_dst (N := 2) rfl ?_); refine box_event ?hg (N := 2) ?hd (cs := #[.slice none 0 0, .int .i64 0]) (t := 24) ?hr ?_; (case hd => rfl); (case hg => rfl); (case hr => first|(go_simp; done)|(go_simp; rfl)); intro gb154 hg w4 hbox hb; have n0_ := Aside0.mk (zN (by repeat (first|(with_reducible first|exact HB.out|apply zI|apply zG|apply zH)|exact HB.out)) hb); have n1_ := Aside0.mk (hbox); have n2_ := Aside0.mk ((by rw [hg]; exact (below_size (by repeat (first|(with_reducible first|exact HB.out|apply zI|apply zG|apply zH)|exact HB.out))) : w.heap.size ≤ gb154)); have n3_ := Aside0.mk ((by rw [hg]; exact (below_size (by repeat (first|(with_reducible first|exact HB.out|apply zI|apply zG|apply zH)|exact HB.out))) : w.heap.size ≤ gb154)); clear HB; have HB := n0_; have BK154 := n1_; have GW154 := n2_; have GE154 := n3_; clear n0_ n1_ n2_ n3_; clear hb hbox hg)|((with_reducible refine gate_callee (f := 20) rfl ?_); refine goesL_ (some 7) rfl rfl Try.func20 (by kernel_rfl) rfl #[.int .i64 a0, .int .i64 1, .int .i64 24] rfl (by (try simp only [List.map_toArray, List.map_cons, List.map_nil]); first|done|rfl|(simp only [List.length_drop, List.length_take]; rfl)) ?_; (with_reducible refine (impl_inRange.calls a0 1 24 true _ A2.out).mono ?_); rintro e w' ⟨rfl, ⟨nd, rfl⟩⟩; refine ⟨_, rfl, ?_⟩)|((with_reducible refine gate_dst (N := 4) rfl ?_); refine box_event ?hg (N := 4) ?hd (cs := #[.slice none 0 0, .int .i64 0]) (t := 24) ?hr ?_; (case hd => rfl); (case hg => rfl); (case hr => first|(go_simp; done)|(go_simp; rfl)); intro gb156 hg w5 hbox hb; have n0_ := Aside0.mk (zK (g := gb154) (o := .cells #[.slice none 0 0, .int .i64 0] 24 (0, 0)) (by (with_reducible repeat (first|refine zA ?_ _|refine zC ?_|refine zB ?_ _)); exact BK154.out) hb); have n1_ := Aside0.mk (zN (by repeat (first|(with_reducible first|exact HB.out|apply zI|apply zG|apply zH|refine zJ ?_ GE154.out)|exact HB.out)) hb); have n2_ := Aside0.mk (hbox); have n3_ := Aside0.mk ((by rw [hg]; exact (below_size (by repeat (first|(with_reducible first|exact HB.out|apply zI|apply zG|apply zH|refine zJ ?_ GE154.out)|exact HB.out))) : w.heap.size ≤ gb156)); have n4_ := Aside0.mk ((by rw [hg]; exact (below_size (by repeat (first|(with_reducible first|exact HB.out|apply zI|apply zG|apply zH|refine zJ ?_ GE154.out)|exact HB.out))) : w.heap.size ≤ gb156)); have n5_ := Aside0.mk ((by rw [hg]; exact Nat.ne_of_lt (blk_lt (g := gb154) (o := .cells #[.slice none 0 0, .int .i64 0] 24 (0, 0)) (by (with_reducible repeat (first|refine zA ?_ _|refine zC ?_|refine zB ?_ _)); exact BK154.out)) : gb154 ≠ gb156)); have n6_ := Aside0.mk ((by rw [hg]; exact Nat.ne_of_gt (blk_lt (g := gb154) (o := .cells #[.slice none 0 0, .int .i64 0] 24 (0, 0)) (by (with_reducible repeat (first|refine zA ?_ _|refine zC ?_|refine zB ?_ _)); exact BK154.out)) : gb156 ≠ gb154)); clear BK154; clear HB; have BK154 := n0_; have HB := n1_; have BK156 := n2_; have GW156 := n3_; have GE156 := n4_; have NB154_156 := n5_; have NB156_154 := n6_; clear n0_ n1_ n2_ n3_ n4_ n5_ n6_; clear hb hbox hg))
    go_loopg [11] k (fun kq v11 w' => ∃ (x11_1 : Int) (x157000_1 : List (S73)) (u157000 : Value), v11 = .int .i64 x11_1 ∧ Aside0 (impl_ArenaNew.l0 kq a0 a0 x11_1 x157000_1 0 = some (r1, r2, r3)) ∧ Aside0 (kq ≤ k) ∧ Aside0 (Kd.R k73 73 w' w.heap.size (fun _ => True) u157000 x157000_1) ∧ Aside0 (w'.heap[gb154]? = some (.cells #[(.slice none 0 0), .int .i64 0] 24 (0, 0))) ∧ Aside0 (w'.heap[gb156]? = some (.cells #[u157000, .int .i64 0] 24 (0, 0))) ∧ Aside0 (Below w.heap.size w w'))
    case atStart => exact ⟨(0), (([] : List (S73))), (.slice none 0 0), (by first|rfl|(simp; done)|(simp [*]; done)), H', ⟨Nat.le_refl _⟩, ⟨by first|exact Kd.R_nil _ _ _ _ _|exact Kd.N_nil _ _ _ _ _|exact Kd.V_nil _ _ _ _ _|exact Kd.Q_nil _ _ _ _ _|exact Kd.S_nil _ _ _ _ _⟩, ⟨by (with_reducible repeat (first|refine zA ?_ _|refine zC ?_|refine zB ?_ _)); exact BK154.out⟩, ⟨by (with_reducible repeat (first|refine zA ?_ _|refine zC ?_|refine zB ?_ _)); exact BK156.out⟩, ⟨by repeat (first|(with_reducible first|exact HB.out|apply zI|apply zG|apply zH|refine zJ ?_ GE154.out|refine zJ ?_ GE156.out)|exact HB.out)⟩⟩
    case round =>
      clear H'
      try clear c2
      try clear p2
      try clear c3
      obtain ⟨x11_1, x157000_1, u157000, rfl, HA, HK1, HO_157000, BK154, BK156, HB⟩ := hrel
      cases gk with
     |zero => exact absurd HA.out (by simp [impl_ArenaNew.l0])
     |succ k1 =>
        have H := HA.out
        clear HA
        simp only [impl_ArenaNew.l0] at H
        by_cases c6 : x11_1 < a0
        · rw [if_pos c6] at H
          have c6b0 : decide (x11_1 < a0) = true := decide_eq_true c6
          clear c6
          by_cases c7 : x157000_1.length < 2513169434916
          · rw [if_pos c7] at H
            have LMc7 := Aside0.mk c7
            clear c7
            obtain ⟨y157, hy157⟩ : ∃ y_ : List (S73), y_ = (x157000_1 ++ [(⟨0, false, (⟨#[]⟩ : ByteArray), (⟨#[]⟩ : ByteArray), wrap64 (x11_1 + 1)⟩ : S73)]) := ⟨_, rfl⟩
            replace H : (impl_ArenaNew.l0 k1 a0 a0 (wrap64 (x11_1 + 1)) y157 0) = some (r1, r2, r3) := by first|(rw [hy157]; with_reducible exact H)|(have H2_ := (Option.bind_some _ _).symm.trans H; rw [hy157]; with_reducible exact H2_)|(have H2_ := (Option.bind_some _ _).symm.trans H; with_reducible exact H2_)|with_reducible exact H|(rw [hy157]; exact H)|exact H
            have Ny157 := Aside0.mk hy157
            clear hy157
            have H' := Aside0.mk H
            clear H
            have hnb8 := NB156_154.out
            have hnc8 := NB154_156.out
            obtain ⟨hcz9_0, hcz9_1, hfz9_0, hfz9_1⟩ := zb2 BK156.out
            go_wp2_with (first|((with_reducible refine gate_builtin (b := .append) (xs := #[.tmp 15, .tmp 19]) rfl ?_); at_builtin; refine Kd.R_append k73 (w0 := w) w.heap.size rfl (.tmp 15) (.tmp 19) 22 73 (.agg #[(.int .i64 0), (.bool false), (.string ⟨#[]⟩), (.string ⟨#[]⟩), (.int .i64 0)]) 56 rfl Try.underlying22 info73 rfl (by decide) (by omega) u157000 x157000_1 (⟨0, false, (⟨#[]⟩ : ByteArray), (⟨#[]⟩ : ByteArray), wrap64 (x11_1 + 1)⟩ : S73) [.int .i64 0, .bool false, .string (⟨#[]⟩ : ByteArray), .string (⟨#[]⟩ : ByteArray), .int .i64 (wrap64 (x11_1 + 1))] (fun _ => True) (fun _ => False) rfl rfl ?aP (fun _ hk => hk.elim) ?aF ?aO ?aB ?aS ?aL ?_; (case aP => exact k73_mkM _ _ _ (⟨0, false, (⟨#[]⟩ : ByteArray), (⟨#[]⟩ : ByteArray), wrap64 (x11_1 + 1)⟩ : S73)); (case aB => exact (by repeat (first|(with_reducible first|exact HB.out|apply zI|apply zG|apply zH|refine zJ ?_ GE154.out|refine zJ ?_ GE156.out)|exact HB.out))); (case aF => exact (fun _ _ => trivial)); (case aO => exact (by (with_reducible repeat (first|apply zE|apply zD|apply zF)); exact HO_157000.out)); (case aS => exact (below_size (by repeat (first|(with_reducible first|exact HB.out|apply zI|apply zG|apply zH|refine zJ ?_ GE154.out|refine zJ ?_ GE156.out)|exact HB.out)))); (case aL => have := LMc7.out; omega); intro v158 w10 ho hb hg hat; rw [← Ny157.out] at ho; have n0_ := Aside0.mk (blk_grown (g := gb154) (o := .cells #[.slice none 0 0, .int .i64 0] 24 (0, 0)) (by (with_reducible repeat (first|refine zA ?_ _|refine zC ?_|refine zB ?_ _)); exact BK154.out) hg (Kd.R_ne HO_157000.out BK154.out (by decide))); have n1_ := Aside0.mk (blk_grown (g := gb156) (o := .cells #[u157000, .int .i64 0] 24 (0, 0)) (by (with_reducible repeat (first|refine zA ?_ _|refine zC ?_|refine zB ?_ _)); exact BK156.out) hg (Kd.R_ne HO_157000.out BK156.out (by decide))); have n2_ := Aside0.mk (hb); have n3_ := Aside0.mk (ho); clear BK154; clear BK156; clear HB; clear HO_157000; have BK154 := n0_; have BK156 := n1_; have HB := n2_; have HO159 := n3_; clear n0_ n1_ n2_ n3_; clear ho hb hg hat; obtain ⟨Ao11, co11, eo11⟩ := Kd.R_slice HO159.out; subst eo11; obtain ⟨hcz12_0, hcz12_1, hfz12_0, hfz12_1⟩ := zb2 BK156.out))
            go_roundg k1
            case measure => have := HK1.out; omega
            case rel => exact ⟨(wrap64 (x11_1 + 1)), (y157), (.slice Ao11 y157.length co11), (by first|rfl|(simp; done)|(simp [*]; done)), H', ⟨by have := HK1.out; omega⟩, ⟨by (with_reducible repeat (first|apply zE|apply zD|apply zF)); exact zR (zL (p := ⟨gb156, 0, none⟩) (zQ HO159.out BK156.out (by decide)) (fun _ hk => hk.2) (.slice Ao11 y157.length co11)) (fun _ hk => trivial)⟩, ⟨by (with_reducible repeat (first|refine zA ?_ _|refine zC ?_|refine zB ?_ _)); refine zT ?_ NB154_156.out _; (with_reducible repeat (first|refine zA ?_ _|refine zC ?_|refine zB ?_ _)); exact BK154.out⟩, ⟨by (with_reducible repeat (first|refine zA ?_ _|refine zC ?_|refine zB ?_ _)); refine blk_put (cs := #[u157000, .int .i64 0]) ?_ 0 _ rfl; (with_reducible repeat (first|refine zA ?_ _|refine zC ?_|refine zB ?_ _)); exact BK156.out⟩, ⟨by repeat (first|(with_reducible first|exact HB.out|apply zI|apply zG|apply zH|refine zJ ?_ GE154.out|refine zJ ?_ GE156.out)|exact HB.out)⟩⟩
          · rw [if_neg c7] at H
            exact absurd H (by simp)
        · rw [if_neg c6] at H
          have c6b0 : decide (x11_1 < a0) = false := decide_eq_false c6
          clear c6
          obtain ⟨ji13, hji13⟩ : ∃ j_ : Int, (wrap64 (a0 - 1)) = j_ := ⟨_, rfl⟩
          replace H : (if 0 ≤ (ji13) then (if (ji13) < (x157000_1.length : Int) then (some ((x157000_1.set ((ji13) : Int).toNat (⟨(rd_T73 x157000_1 (ji13)).f0, (rd_T73 x157000_1 (ji13)).f1, (rd_T73 x157000_1 (ji13)).f2, (rd_T73 x157000_1 (ji13)).f3, (-1)⟩ : S73)), 0, true)) else (none)) else (none)) = some (r1, r2, r3) := by first|(rw [hji13] at H; exact H)|(simp only [hji13] at H ⊢; exact H)
          have hji13w : (IntKind.i64.wrap (a0 - 1)) = ji13 := (i64_w _).trans hji13
          by_cases c14 : 0 ≤ (ji13)
          · rw [if_pos c14] at H
            have c14b0 : decide (0 ≤ (ji13)) = true := decide_eq_true c14
            clear c14
            by_cases c15 : (ji13) < (x157000_1.length : Int)
            · rw [if_pos c15] at H
              have c15b0 : decide ((ji13) < (x157000_1.length : Int)) = true := decide_eq_true c15
              clear c15
              obtain ⟨y160, hy160⟩ : ∃ y_ : List (S73), y_ = (x157000_1.set ((ji13) : Int).toNat (⟨(rd_T73 x157000_1 (ji13)).f0, (rd_T73 x157000_1 (ji13)).f1, (rd_T73 x157000_1 (ji13)).f2, (rd_T73 x157000_1 (ji13)).f3, (-1)⟩ : S73)) := ⟨_, rfl⟩
              replace H : (some (y160, 0, true)) = some (r1, r2, r3) := by first|(rw [hy160]; with_reducible exact H)|(have H2_ := (Option.bind_some _ _).symm.trans H; rw [hy160]; with_reducible exact H2_)|(have H2_ := (Option.bind_some _ _).symm.trans H; with_reducible exact H2_)|with_reducible exact H|(rw [hy160]; exact H)|exact H
              have Ny160 := Aside0.mk hy160
              clear hy160
              simp only [Option.some.injEq, Prod.mk.injEq] at H
              obtain ⟨rfl, rfl, rfl⟩ := H
              have hnb17 := NB156_154.out
              have hnc17 := NB154_156.out
              obtain ⟨hcz18_0, hcz18_1, hfz18_0, hfz18_1⟩ := zb2 BK156.out
              have p16 : 0 ≤ ((ji13) : Int) := of_decide_eq_true (by first|(with_reducible assumption)|assumption)
              have q16 : ((ji13) : Int) < ((x157000_1.length : Int) : Int) := of_decide_eq_true (by first|(with_reducible assumption)|assumption)
              obtain ⟨go16, co16, eo16, gb16, gl16, cl16, HG16⟩ := Kd.R_form HO_157000.out (by omega)
              (first|cases eo16|(injection eo16 with ea_ en_ ec_; (first|subst ea_|(injection ea_ with ea_; subst ea_)); subst ec_; clear en_))
              have GB16 := Aside0.mk gb16
              have GG16 := Aside0.mk HG16
              clear gb16 gl16 HG16
              obtain ⟨ce16, hcl16, hM16, hcc16, hfr16⟩ := Kd.R_elem HO_157000.out z73 ((ji13) : Int) p16 q16
              obtain rfl := k73_openM hM16
              have hx16_0 : wr.cell? ⟨go16, ((ji13) : Int).toNat * 5, none⟩ = some (.int .i64 ((rd_T73 x157000_1 (ji13)).f0)) := hcc16 0 _ rfl
              have hx16_1 : wr.cell? ⟨go16, ((ji13) : Int).toNat * 5 + 1, none⟩ = some (.bool ((rd_T73 x157000_1 (ji13)).f1)) := hcc16 1 _ rfl
              have hx16_2 : wr.cell? ⟨go16, ((ji13) : Int).toNat * 5 + 2, none⟩ = some (.string ((rd_T73 x157000_1 (ji13)).f2)) := hcc16 2 _ rfl
              have hx16_3 : wr.cell? ⟨go16, ((ji13) : Int).toNat * 5 + 3, none⟩ = some (.string ((rd_T73 x157000_1 (ji13)).f3)) := hcc16 3 _ rfl
              have hx16_4 : wr.cell? ⟨go16, ((ji13) : Int).toNat * 5 + 4, none⟩ = some (.int .i64 ((rd_T73 x157000_1 (ji13)).f4)) := hcc16 4 _ rfl
              have hf16_0 : wr.frozen? ⟨go16, ((ji13) : Int).toNat * 5, none⟩ = false := hfr16 0
              have hf16_1 : wr.frozen? ⟨go16, ((ji13) : Int).toNat * 5 + 1, none⟩ = false := hfr16 1
              have hf16_2 : wr.frozen? ⟨go16, ((ji13) : Int).toNat * 5 + 2, none⟩ = false := hfr16 2
              have hf16_3 : wr.frozen? ⟨go16, ((ji13) : Int).toNat * 5 + 3, none⟩ = false := hfr16 3
              have hf16_4 : wr.frozen? ⟨go16, ((ji13) : Int).toNat * 5 + 4, none⟩ = false := hfr16 4
              clear hcl16 hcc16 hfr16 hM16
              replace p16 := eq_true p16
              replace q16 := eq_true q16
              have HX19 := Aside0.mk (show Kd.R k73 73 wr w.heap.size (fun _ => True) (.slice (some ⟨go16, 0, none⟩) x157000_1.length co16) x157000_1 from (by (with_reducible repeat (first|apply zE|apply zD|apply zF)); exact HO_157000.out))
              obtain ⟨ce19, hcl19, hM19, hcc19, hfr19⟩ := Kd.R_elem HX19.out z73 ((ji13) : Int) (of_decide_eq_true (by first|(with_reducible assumption)|assumption)) (by have h_ : ((ji13) : Int) < ((x157000_1.length : Int) : Int) := of_decide_eq_true (by first|(with_reducible assumption)|assumption); first|exact h_|(have e_ := (Kd.R_reads' HO_157000.out).1; omega)|simpa using h_)
              obtain rfl := k73_openM hM19
              have HP19 := Kd.R_seg HX19.out ((ji13) : Int) (of_decide_eq_true (by first|(with_reducible assumption)|assumption)) (by have h_ : ((ji13) : Int) < ((x157000_1.length : Int) : Int) := of_decide_eq_true (by first|(with_reducible assumption)|assumption); first|exact h_|(have e_ := (Kd.R_reads' HO_157000.out).1; omega)|simpa using h_) (seg := [.int .i64 (-1)]) (j := 4) hcl19 hcc19 (show 5 ≤ 5 from by decide) (x' := (⟨(rd_T73 x157000_1 (ji13)).f0, (rd_T73 x157000_1 (ji13)).f1, (rd_T73 x157000_1 (ji13)).f2, (rd_T73 x157000_1 (ji13)).f3, (-1)⟩ : S73)) (k73_mkM _ _ _ (⟨(rd_T73 x157000_1 (ji13)).f0, (rd_T73 x157000_1 (ji13)).f1, (rd_T73 x157000_1 (ji13)).f2, (rd_T73 x157000_1 (ji13)).f3, (-1)⟩ : S73) ) (fun _ hk => hk)
              have hx19_4 := hcc19 4 _ rfl
              (try simp only [show (k73).sz = 5 from rfl, Nat.mul_one, Nat.add_zero] at hx19_4)
              have hf19_4 := hfr19 4
              (try simp only [show (k73).sz = 5 from rfl, Nat.mul_one, Nat.add_zero] at hf19_4)
              clear hcl19 hcc19 hfr19 hM19
              go_wp2_with (first|((with_reducible refine gate_store (t := 3) (p := 28) rfl ?_); refine store_event (t := 3) (p := 28) (v := ?vo_w20) (w1 := (wr.setCell ⟨go16, ((ji13) : Int).toNat * 5 + 4, none⟩ (.int .i64 (-1)))) ?hg ?ho ?hn ?hr ?_; (case ho => rfl); (case hg => rfl); (case hn => rfl); (case hr => first|(go_simp; done)|(go_simp; rfl)); intro w20 hw; have hg : wr.grownBy w20 (some go16) := (by rw [hw]; exact HP19.2); have hp_ : Kd.R k73 73 w20 w.heap.size (fun _ => True) (.slice (some ⟨go16, 0, none⟩) x157000_1.length co16) y160 := (by rw [hw, Ny160.out]; exact HP19.1); clear HP19; have n0_ := Aside0.mk (hp_); have n1_ := Aside0.mk (blk_grown (g := gb154) (o := .cells #[.slice none 0 0, .int .i64 0] 24 (0, 0)) (by (with_reducible repeat (first|refine zA ?_ _|refine zC ?_|refine zB ?_ _)); exact BK154.out) hg (Kd.R_ne HO_157000.out BK154.out (by decide))); have n2_ := Aside0.mk (blk_grown (g := gb156) (o := .cells #[.slice (some ⟨go16, 0, none⟩) x157000_1.length co16, .int .i64 0] 24 (0, 0)) (by (with_reducible repeat (first|refine zA ?_ _|refine zC ?_|refine zB ?_ _)); exact BK156.out) hg (Kd.R_ne HO_157000.out BK156.out (by decide))); have n3_ := Aside0.mk ((by rw [hw]; exact zJ (HB.out) GB16.out : Below w.heap.size w w20)); clear HO_157000; clear BK154; clear BK156; clear HB; have HO_157000 := n0_; have BK154 := n1_; have BK156 := n2_; have HB := n3_; clear n0_ n1_ n2_ n3_; clear hg hw hp_; obtain ⟨hcz21_0, hcz21_1, hfz21_0, hfz21_1⟩ := zb2 BK156.out; obtain ⟨hcz22_0, hcz22_1, hfz22_0, hfz22_1⟩ := zb2 BK154.out))
              refine bodyPost_ret (results_ct rfl _ _ gb154 24 #[.slice (some ⟨go16, 0, none⟩) x157000_1.length co16, .int .i64 0] (0, 0) _ rfl (by (with_reducible repeat (first|refine zA ?_ _|refine zC ?_|refine zB ?_ _)); refine blk_put (cs := #[.slice (some ⟨go16, 0, none⟩) x157000_1.length co16, .int .i64 0]) ?_ 1 _ rfl; (with_reducible repeat (first|refine zA ?_ _|refine zC ?_|refine zB ?_ _)); refine blk_put (cs := #[.slice none 0 0, .int .i64 0]) ?_ 0 _ rfl; (with_reducible repeat (first|refine zA ?_ _|refine zC ?_|refine zB ?_ _)); exact BK154.out) Try.underlying24 rfl (by kernel_rfl)) rfl ?_
              exact ⟨_, by first|rfl|(simp [errW_none, errW_some] <;> rfl)|(simp only [← hji13]; first|rfl|(simp [errW_none, errW_some] <;> rfl))|(simp [*, errW_none, errW_some] <;> rfl), by (with_reducible repeat (first|apply zE|apply zD|apply zF)); exact zR (zL (p := ⟨gb154, 1, none⟩) (zL (p := ⟨gb154, 0, none⟩) (zQ HO_157000.out BK154.out (by decide)) (fun _ hk => hk.2) (.slice (some ⟨go16, 0, none⟩) x157000_1.length co16)) (fun _ hk => hk.2) (.int .i64 0)) (fun _ hk => trivial), by repeat (first|(with_reducible first|exact HB.out|apply zI|apply zG|apply zH|refine zJ ?_ GE154.out|refine zJ ?_ GE156.out)|exact HB.out)⟩
            · rw [if_neg c15] at H
              exact absurd H (by simp)
          · rw [if_neg c14] at H
            exact absurd H (by simp)
  · replace c3 := Bool.eq_false_iff.mpr c3
    subst c3
    have H1 : (some (([] : List (S73)), 0, false)) = some (r1, r2, r3) := by rw [if_neg (show ¬ (false = true) by decide)] at H; exact H
    clear H
    have H := H1
    clear H1
    simp only [Option.some.injEq, Prod.mk.injEq] at H
    obtain ⟨rfl, rfl, rfl⟩ := H
    go_enter Try.func22, Try.ntmps22
    go_wp2_with (first|((with_reducible refine gate_dst (N := 2) rfl ?_); refine box_event ?hg (N := 2) ?hd (cs := #[.slice none 0 0, .int .i64 0]) (t := 24) ?hr ?_; (case hd => rfl); (case hg => rfl); (case hr => first|(go_simp; done)|(go_simp; rfl)); intro gb154 hg w23 hbox hb; have n0_ := Aside0.mk (zN (by repeat (first|(with_reducible first|exact HB.out|apply zI|apply zG|apply zH)|exact HB.out)) hb); have n1_ := Aside0.mk (hbox); have n2_ := Aside0.mk ((by rw [hg]; exact (below_size (by repeat (first|(with_reducible first|exact HB.out|apply zI|apply zG|apply zH)|exact HB.out))) : w.heap.size ≤ gb154)); have n3_ := Aside0.mk ((by rw [hg]; exact (below_size (by repeat (first|(with_reducible first|exact HB.out|apply zI|apply zG|apply zH)|exact HB.out))) : w.heap.size ≤ gb154)); clear HB; have HB := n0_; have BK154 := n1_; have GW154 := n2_; have GE154 := n3_; clear n0_ n1_ n2_ n3_; clear hb hbox hg)|((with_reducible refine gate_callee (f := 20) rfl ?_); refine goesL_ (some 7) rfl rfl Try.func20 (by kernel_rfl) rfl #[.int .i64 a0, .int .i64 1, .int .i64 24] rfl (by (try simp only [List.map_toArray, List.map_cons, List.map_nil]); first|done|rfl|(simp only [List.length_drop, List.length_take]; rfl)) ?_; (with_reducible refine (impl_inRange.calls a0 1 24 false _ A2.out).mono ?_); rintro e w' ⟨rfl, ⟨nd, rfl⟩⟩; refine ⟨_, rfl, ?_⟩; (try (rw [drewN_self w23]; generalize hq_ : World.drewN w23 _ = w23; have n0_ : Aside0 (w23.heap[gb154]? = some (.cells #[.slice none 0 0, .int .i64 0] 24 (0, 0))) := ⟨by rw [← hq_]; exact (by (with_reducible repeat (first|refine zA ?_ _|refine zC ?_|refine zB ?_ _)); exact BK154.out)⟩; have n1_ : Aside0 (Below w.heap.size w w23) := ⟨by rw [← hq_]; exact (by repeat (first|(with_reducible first|exact HB.out|apply zI|apply zG|apply zH|refine zJ ?_ GE154.out)|exact HB.out))⟩; clear BK154 HB hq_; have BK154 := n0_; have HB := n1_; clear n0_ n1_)); obtain ⟨hcz24_0, hcz24_1, hfz24_0, hfz24_1⟩ := zb2 BK154.out))
    refine bodyPost_ret (results_ct rfl _ _ gb154 24 #[.slice none 0 0, .int .i64 0] (0, 0) _ rfl (by (with_reducible repeat (first|refine zA ?_ _|refine zC ?_|refine zB ?_ _)); refine blk_put (cs := #[.slice none 0 0, .int .i64 0]) ?_ 1 _ rfl; (with_reducible repeat (first|refine zA ?_ _|refine zC ?_|refine zB ?_ _)); refine blk_put (cs := #[.slice none 0 0, .int .i64 0]) ?_ 0 _ rfl; (with_reducible repeat (first|refine zA ?_ _|refine zC ?_|refine zB ?_ _)); exact BK154.out) Try.underlying24 rfl (by kernel_rfl)) rfl ?_
    exact ⟨_, by first|rfl|(simp [errW_none, errW_some] <;> rfl)|(simp [*, errW_none, errW_some] <;> rfl), by first|exact Kd.R_nil _ _ _ _ _|exact Kd.N_nil _ _ _ _ _|exact Kd.V_nil _ _ _ _ _|exact Kd.Q_nil _ _ _ _ _|exact Kd.S_nil _ _ _ _ _, by repeat (first|(with_reducible first|exact HB.out|apply zI|apply zG|apply zH|refine zJ ?_ GE154.out)|exact HB.out)⟩

/-! ### impl_isSize: function 50 -/
def impl_isSize.f (a0 : Int) : Option (Bool) := if a0 = 4 then (some true) else (if a0 = 8 then (some true) else (if a0 = 16 then (some true) else (if a0 = 32 then (some true) else (if a0 = 64 then (some true) else (some false)))))
set_option maxHeartbeats 8000000 in
set_option maxRecDepth 100000 in
theorem impl_isSize.calls (a0 : Int) (r : Bool) (w : World) (h : impl_isSize.f a0 = some r) :
    Calls Try.prog 50 #[.int .i64 a0] w fun e w' => e = .returned (.bool r) ∧ Drawn0 w w' := by
  have H : (if a0 = 4 then (some true) else (if a0 = 8 then (some true) else (if a0 = 16 then (some true) else (if a0 = 32 then (some true) else (if a0 = 64 then (some true) else (some false)))))) = some r := h
  clear h
  by_cases c2 : a0 = 4
  · rw [if_pos c2] at H
    have c2b0 : (a0 == 4) = true := beq_iff_eq.mpr c2
    have c2b1 : (a0 != 4) = false := bne_eq_false_iff_eq.mpr c2
    clear c2
    obtain rfl := Option.some.inj H
    go_enter Try.func50, Try.ntmps50
    go_wp2
    go_ret
    exact ⟨by first|rfl|(simp; done)|(simp [*]; done), by repeat (first|exact Drawn0.refl _|apply Drawn0.step)⟩
  · rw [if_neg c2] at H
    have c2b0 : (a0 == 4) = false := beq_eq_false_iff_ne.mpr c2
    have c2b1 : (a0 != 4) = true := bne_iff_ne.mpr c2
    by_cases c3 : a0 = 8
    · rw [if_pos c3] at H
      have c3b0 : (a0 == 8) = true := beq_iff_eq.mpr c3
      have c3b1 : (a0 != 8) = false := bne_eq_false_iff_eq.mpr c3
      clear c3
      obtain rfl := Option.some.inj H
      go_enter Try.func50, Try.ntmps50
      go_wp2
      go_ret
      exact ⟨by first|rfl|(simp; done)|(simp [*]; done), by repeat (first|exact Drawn0.refl _|apply Drawn0.step)⟩
    · rw [if_neg c3] at H
      have c3b0 : (a0 == 8) = false := beq_eq_false_iff_ne.mpr c3
      have c3b1 : (a0 != 8) = true := bne_iff_ne.mpr c3
      by_cases c4 : a0 = 16
      · rw [if_pos c4] at H
        have c4b0 : (a0 == 16) = true := beq_iff_eq.mpr c4
        have c4b1 : (a0 != 16) = false := bne_eq_false_iff_eq.mpr c4
        clear c4
        obtain rfl := Option.some.inj H
        go_enter Try.func50, Try.ntmps50
        go_wp2
        go_ret
        exact ⟨by first|rfl|(simp; done)|(simp [*]; done), by repeat (first|exact Drawn0.refl _|apply Drawn0.step)⟩
      · rw [if_neg c4] at H
        have c4b0 : (a0 == 16) = false := beq_eq_false_iff_ne.mpr c4
        have c4b1 : (a0 != 16) = true := bne_iff_ne.mpr c4
        by_cases c5 : a0 = 32
        · rw [if_pos c5] at H
          have c5b0 : (a0 == 32) = true := beq_iff_eq.mpr c5
          have c5b1 : (a0 != 32) = false := bne_eq_false_iff_eq.mpr c5
          clear c5
          obtain rfl := Option.some.inj H
          go_enter Try.func50, Try.ntmps50
          go_wp2
          go_ret
          exact ⟨by first|rfl|(simp; done)|(simp [*]; done), by repeat (first|exact Drawn0.refl _|apply Drawn0.step)⟩
        · rw [if_neg c5] at H
          have c5b0 : (a0 == 32) = false := beq_eq_false_iff_ne.mpr c5
          have c5b1 : (a0 != 32) = true := bne_iff_ne.mpr c5
          by_cases c6 : a0 = 64
          · rw [if_pos c6] at H
            have c6b0 : (a0 == 64) = true := beq_iff_eq.mpr c6
            have c6b1 : (a0 != 64) = false := bne_eq_false_iff_eq.mpr c6
            clear c6
            obtain rfl := Option.some.inj H
            go_enter Try.func50, Try.ntmps50
            go_wp2
            go_ret
            exact ⟨by first|rfl|(simp; done)|(simp [*]; done), by repeat (first|exact Drawn0.refl _|apply Drawn0.step)⟩
          · rw [if_neg c6] at H
            have c6b0 : (a0 == 64) = false := beq_eq_false_iff_ne.mpr c6
            have c6b1 : (a0 != 64) = true := bne_iff_ne.mpr c6
            obtain rfl := Option.some.inj H
            go_enter Try.func50, Try.ntmps50
            go_wp2
            go_ret
            exact ⟨by first|rfl|(simp; done)|(simp [*]; done), by repeat (first|exact Drawn0.refl _|apply Drawn0.step)⟩

/-! ### bits_Mul32: function 109 -/
def bits_Mul32.f (a0 : Int) (a1 : Int) : Option (Int × Int) := some (((IntKind.u64.wrap ((IntKind.u64.wrap (a0)) * (IntKind.u64.wrap (a1)))) / 4294967296) % 4294967296, (IntKind.u64.wrap ((IntKind.u64.wrap (a0)) * (IntKind.u64.wrap (a1)))) % 4294967296)
set_option maxHeartbeats 8000000 in
set_option maxRecDepth 100000 in
theorem bits_Mul32.calls (a0 : Int) (a1 : Int) (r1 : Int) (r2 : Int) (w : World) (h : bits_Mul32.f a0 a1 = some (r1, r2)) :
    Calls Try.prog 109 #[.int .u32 a0, .int .u32 a1] w fun e w' => e = .returned (.tuple #[.int .u32 r1, .int .u32 r2]) ∧ Drawn0 w w' := by
  have H : (some (((IntKind.u64.wrap ((IntKind.u64.wrap (a0)) * (IntKind.u64.wrap (a1)))) / 4294967296) % 4294967296, (IntKind.u64.wrap ((IntKind.u64.wrap (a0)) * (IntKind.u64.wrap (a1)))) % 4294967296)) = some (r1, r2) := h
  clear h
  simp only [Option.some.injEq, Prod.mk.injEq] at H
  obtain ⟨rfl, rfl⟩ := H
  go_enter Try.func109, Try.ntmps109
  go_wp2
  go_ret2
  exact ⟨by first|rfl|(simp; done)|(simp [*]; done), by repeat (first|exact Drawn0.refl _|apply Drawn0.step)⟩

/-! ### bits_Mul64: function 110 -/
def bits_Mul64.f (a0 : Int) (a1 : Int) : Option (Int × Int) := some (IntKind.u64.wrap ((IntKind.u64.wrap ((IntKind.u64.wrap ((a0 / 4294967296) * (a1 / 4294967296))) + ((IntKind.u64.wrap ((IntKind.u64.wrap ((a0 / 4294967296) * (Go.bits .and .u64 a1 4294967295))) + ((IntKind.u64.wrap ((Go.bits .and .u64 a0 4294967295) * (Go.bits .and .u64 a1 4294967295))) / 4294967296))) / 4294967296))) + ((IntKind.u64.wrap ((Go.bits .and .u64 (IntKind.u64.wrap ((IntKind.u64.wrap ((a0 / 4294967296) * (Go.bits .and .u64 a1 4294967295))) + ((IntKind.u64.wrap ((Go.bits .and .u64 a0 4294967295) * (Go.bits .and .u64 a1 4294967295))) / 4294967296))) 4294967295) + (IntKind.u64.wrap ((Go.bits .and .u64 a0 4294967295) * (a1 / 4294967296))))) / 4294967296)), IntKind.u64.wrap (a0 * a1))
set_option maxHeartbeats 8000000 in
set_option maxRecDepth 100000 in
theorem bits_Mul64.calls (a0 : Int) (a1 : Int) (r1 : Int) (r2 : Int) (w : World) (h : bits_Mul64.f a0 a1 = some (r1, r2)) :
    Calls Try.prog 110 #[.int .u64 a0, .int .u64 a1] w fun e w' => e = .returned (.tuple #[.int .u64 r1, .int .u64 r2]) ∧ Drawn0 w w' := by
  have H : (some (IntKind.u64.wrap ((IntKind.u64.wrap ((IntKind.u64.wrap ((a0 / 4294967296) * (a1 / 4294967296))) + ((IntKind.u64.wrap ((IntKind.u64.wrap ((a0 / 4294967296) * (Go.bits .and .u64 a1 4294967295))) + ((IntKind.u64.wrap ((Go.bits .and .u64 a0 4294967295) * (Go.bits .and .u64 a1 4294967295))) / 4294967296))) / 4294967296))) + ((IntKind.u64.wrap ((Go.bits .and .u64 (IntKind.u64.wrap ((IntKind.u64.wrap ((a0 / 4294967296) * (Go.bits .and .u64 a1 4294967295))) + ((IntKind.u64.wrap ((Go.bits .and .u64 a0 4294967295) * (Go.bits .and .u64 a1 4294967295))) / 4294967296))) 4294967295) + (IntKind.u64.wrap ((Go.bits .and .u64 a0 4294967295) * (a1 / 4294967296))))) / 4294967296)), IntKind.u64.wrap (a0 * a1))) = some (r1, r2) := h
  clear h
  simp only [Option.some.injEq, Prod.mk.injEq] at H
  obtain ⟨rfl, rfl⟩ := H
  go_enter Try.func110, Try.ntmps110
  go_wp2
  go_ret2
  exact ⟨by first|rfl|(simp; done)|(simp [*]; done), by repeat (first|exact Drawn0.refl _|apply Drawn0.step)⟩

/-! ### bits_Mul: function 102 -/
def bits_Mul.f (a0 : Int) (a1 : Int) : Option (Int × Int) := (bits_Mul64.f a0 a1).bind fun bt161 => (some (bt161.1, bt161.2))
set_option maxHeartbeats 8000000 in
set_option maxRecDepth 100000 in
theorem bits_Mul.calls (a0 : Int) (a1 : Int) (r1 : Int) (r2 : Int) (w : World) (h : bits_Mul.f a0 a1 = some (r1, r2)) :
    Calls Try.prog 102 #[.int .u64 a0, .int .u64 a1] w fun e w' => e = .returned (.tuple #[.int .u64 r1, .int .u64 r2]) ∧ Drawn0 w w' := by
  have H : ((bits_Mul64.f a0 a1).bind fun bt161 => (some (bt161.1, bt161.2))) = some (r1, r2) := h
  clear h
  replace H := Option.bind_eq_some_iff.mp H
  obtain ⟨⟨t161, t162⟩, A30, H⟩ := H
  replace H : (some (t161, t162)) = some (r1, r2) := H
  have A3 := Aside0.mk A30
  clear A30
  simp only [Option.some.injEq, Prod.mk.injEq] at H
  obtain ⟨rfl, rfl⟩ := H
  go_enter Try.func102, Try.ntmps102
  go_wp2_with (first|((with_reducible refine gate_callee (f := 110) rfl ?_); refine goesL_ (some 25) rfl rfl Try.func110 (by kernel_rfl) rfl #[.int .u64 a0, .int .u64 a1] rfl (by (try simp only [List.map_toArray, List.map_cons, List.map_nil]); first|done|rfl|(simp only [List.length_drop, List.length_take]; rfl)) ?_; (with_reducible refine (bits_Mul64.calls a0 a1 t161 t162 _ A3.out).mono ?_); rintro e w' ⟨rfl, ⟨nd, rfl⟩⟩; refine ⟨_, rfl, ?_⟩))
  go_ret2
  exact ⟨by first|rfl|(simp; done)|(simp [*]; done), by repeat (first|exact Drawn0.refl _|apply Drawn0.step)⟩


section
/-- A kind whose elements hold no rows of their own: its cells are told by the element. -/
structure Flat {α : Type} (d : Kd α) (enc : α → List Value) : Prop where
  E : d.E = []
  K : ∀ w x cs, d.K w x cs ↔ cs = enc x
  M : ∀ w base ok x cs, d.M w base ok x cs ↔ cs = enc x
  len : ∀ x, (enc x).length = d.sz
  one : ∀ x, ∀ v ∈ enc x, v.oneCell' = true
theorem take_drop_flat {α : Type} (enc : α → List Value) (sz : Nat) (hl : ∀ x, (enc x).length = sz) : ∀ (xs : List α) (j : Nat) (x : α), xs[j]? = some x → ((xs.flatMap enc).drop (j * sz)).take sz = enc x
 |[], j, x, h => by simp at h
 |y :: ys, 0, x, h => by
    obtain rfl := Option.some.inj h
    rw [List.flatMap_cons, Nat.zero_mul, List.drop_zero, List.take_left' (hl y)]
 |y :: ys, j + 1, x, h => by
    rw [List.flatMap_cons, Nat.succ_mul, Nat.add_comm, ← List.drop_drop, List.drop_left' (hl y)]
    exact take_drop_flat enc sz hl ys j x h
theorem flat_length {α : Type} (enc : α → List Value) (sz : Nat) (hl : ∀ x, (enc x).length = sz) : ∀ (xs : List α), (xs.flatMap enc).length = xs.length * sz
 |[] => by simp
 |y :: ys => by rw [List.flatMap_cons, List.length_append, hl, flat_length enc sz hl ys, List.length_cons, Nat.succ_mul, Nat.add_comm]
theorem reps_flat {α : Type} (enc : α → List Value) (sz : Nat) (hl : ∀ x, (enc x).length = sz) {R : α → List Value → Prop} (hR : ∀ x cs, R x cs ↔ cs = enc x) :
    ∀ (xs : List α) (cs : List Value), Reps R sz xs cs ↔ cs = xs.flatMap enc
 |[], cs => by
    constructor
    · rintro ⟨h, _⟩
      rw [List.length_nil, Nat.zero_mul] at h
      rw [List.eq_nil_of_length_eq_zero h]; rfl
    · rintro rfl; exact Reps.none _ _
 |y :: ys, cs => by
    constructor
    · rintro ⟨h, hr⟩
      have h0 : cs.take sz = enc y := by
        have := (hR _ _).1 (hr 0 y rfl)
        rwa [Nat.zero_mul, List.drop_zero] at this
      have h1 := (reps_flat enc sz hl hR ys (cs.drop sz)).1 ⟨by rw [List.length_drop, h, List.length_cons, Nat.succ_mul]; omega, fun j p hj => by
        have := hr (j + 1) p hj
        rwa [Nat.succ_mul, Nat.add_comm, ← List.drop_drop] at this⟩
      rw [List.flatMap_cons, ← h0, ← h1, List.take_append_drop]
    · rintro rfl
      exact ⟨flat_length enc sz hl _, fun j p hj => (hR _ _).2 (take_drop_flat enc sz hl _ j p hj)⟩
/-- A row of flat elements of the call's own, block and all. -/
theorem row_flat {α : Type} {d : Kd α} {enc : α → List Value} (F : Flat d enc) {e base : Nat} {ok : Nat → Prop} {w : World} {A : Option Addr} {n c : Nat} {xs : List α} (h : d.R e w base ok (.slice A n c) xs) :
    n = xs.length ∧ ((A = none ∧ n = 0 ∧ c = 0) ∨ ∃ g cur, A = some ⟨g, 0, none⟩ ∧ ok g ∧ base ≤ g ∧ w.heap[g]? = some (.cells cur e (0, 0)) ∧ n ≤ c ∧ c ≤ maxLen ∧ cur.size = c * d.sz ∧ cur.toList.take (n * d.sz) = xs.flatMap enc) := by
  obtain ⟨h0, inner, ⟨hlen, ho⟩, hr⟩ := h
  obtain rfl := (reps_flat enc d.sz F.len (fun x cs => F.M _ _ _ x cs) xs inner).1 hr
  rcases ho with ⟨hv, hn⟩|⟨g, cap, cur, hv, hb, hc, hn, hm, hs, ht⟩
  · obtain ⟨rfl, rfl, rfl⟩ := Value.slice.inj hv
    exact ⟨hn.symm, .inl ⟨rfl, rfl, rfl⟩⟩
  · obtain ⟨rfl, rfl, rfl⟩ := Value.slice.inj hv
    exact ⟨rfl, .inr ⟨g, cur, rfl, h0 g rfl, hb, hc, hn, hm, hs, ht⟩⟩
theorem flat_row {α : Type} {d : Kd α} {enc : α → List Value} (F : Flat d enc) {e base : Nat} {ok : Nat → Prop} {w : World} {g n c : Nat} {cur : Array Value} {xs : List α} (hk : ok g) (hb : base ≤ g)
    (hc : w.heap[g]? = some (.cells cur e (0, 0))) (hn : n = xs.length) (hnc : n ≤ c) (hm : c ≤ maxLen) (hs : cur.size = c * d.sz) (ht : cur.toList.take (n * d.sz) = xs.flatMap enc) :
    d.R e w base ok (.slice (some ⟨g, 0, none⟩) n c) xs := by
  subst hn
  refine ⟨fun k hk' => ?_, xs.flatMap enc, ⟨flat_length enc d.sz F.len xs, .inr ⟨g, c, cur, rfl, hb, hc, hnc, hm, hs, ht⟩⟩, (reps_flat enc d.sz F.len (fun x cs => F.M _ _ _ x cs) xs _).2 rfl⟩
  simp [Value.ownBlock] at hk'; rw [← hk']; exact hk
/-- A row that is read: its cells. -/
theorem read_flat {α : Type} {d : Kd α} {enc : α → List Value} (F : Flat d enc) {w : World} {A : Option Addr} {n : Nat} {xs : List α} (h : d.C w A n xs) (hp : 0 < n) :
    ∃ ad, A = some ad ∧ ∀ j v, (xs.flatMap enc)[j]? = some v → w.cell? (ad.add j) = some v := by
  obtain ⟨h1, _, h2⟩ := h
  obtain ⟨ad, e, hc⟩ := h2 hp
  refine ⟨ad, e, fun j v hj => ?_⟩
  have hjl : j < xs.length * d.sz := by
    have := (List.getElem?_eq_some_iff.1 hj).1
    rwa [flat_length enc d.sz F.len] at this
  have hs : 0 < d.sz := by
    rcases Nat.eq_zero_or_pos d.sz with h|h
    · rw [h, Nat.mul_zero] at hjl; omega
    · exact h
  have hq : j / d.sz < xs.length := Nat.div_lt_of_lt_mul (by rwa [Nat.mul_comm] at hjl)
  obtain ⟨c, hc1, hc2, hc3⟩ := hc (j / d.sz) xs[j / d.sz] (List.getElem?_eq_getElem hq)
  obtain rfl := (F.K _ _ _).1 hc2
  have ht := take_drop_flat enc d.sz F.len xs (j / d.sz) _ (List.getElem?_eq_getElem hq)
  have hm := Nat.mod_lt j hs
  have hdm := Nat.div_add_mod' j d.sz
  have := hc3 (j % d.sz) v (by
    rw [← ht, List.getElem?_take, if_pos hm, List.getElem?_drop, hdm]
    exact hj)
  rwa [hdm] at this
theorem read_flat' {α : Type} {d : Kd α} {enc : α → List Value} (F : Flat d enc) {w : World} {ad : Addr} {n : Nat} {xs : List α} (h : d.C w (some ad) n xs) (hp : 0 < n) (j : Nat) (v : Value) (hj : (xs.flatMap enc)[j]? = some v) : w.cell? (ad.add j) = some v := by
  obtain ⟨ad', e, hc⟩ := read_flat F h hp
  obtain rfl := Option.some.inj e
  exact hc j v hj
/-- Cells of a block, told as a list. -/
theorem blk_list {w : World} {g e : Nat} {cur : Array Value} (hc : w.heap[g]? = some (.cells cur e (0, 0))) {cs : List Value} {m : Nat} (ht : cur.toList.take m = cs) (j : Nat) (v : Value) (hj : cs[j]? = some v) : w.cell? ⟨g, j, none⟩ = some v := by
  rw [zO hc j]
  subst ht
  rw [List.getElem?_take] at hj
  split at hj
  · rw [← Array.getElem?_toList]; exact hj
  · cases hj
/-- An element is stored over. -/
theorem flat_set {α : Type} (enc : α → List Value) (sz : Nat) (hl : ∀ x, (enc x).length = sz) : ∀ (xs : List α) (i : Nat) (x : α), i < xs.length → (xs.set i x).flatMap enc = (xs.flatMap enc).take (i * sz) ++ enc x ++ (xs.flatMap enc).drop (i * sz + sz)
 |[], i, x, h => absurd h (Nat.not_lt_zero _)
 |y :: ys, 0, x, h => by
    rw [List.set_cons_zero, List.flatMap_cons, List.flatMap_cons, Nat.zero_mul, List.take_zero, List.nil_append, Nat.zero_add, List.drop_left' (hl y)]
 |y :: ys, i + 1, x, h => by
    have hy := hl y
    rw [List.set_cons_succ, List.flatMap_cons, List.flatMap_cons, flat_set enc sz hl ys i x (by simpa using h), show (i + 1) * sz = (enc y).length + i * sz by rw [Nat.succ_mul, hy]; omega, Nat.add_assoc, List.take_length_add_append, List.drop_length_add_append]
    simp only [List.append_assoc]
end

def enc103 (x : S103) : List Value := [.string x.f0, .int .i64 x.f1]
theorem F103 : Flat k103 enc103 where
  E := rfl
  K := fun w x cs => ⟨fun h => k103_open h, fun h => h ▸ k103_mk w x⟩
  M := fun w base ok x cs => ⟨fun h => k103_openM h, fun h => h ▸ k103_mkM w base ok x⟩
  len := fun _ => rfl
  one := fun x v h => by
    simp only [enc103, List.mem_cons, List.not_mem_nil, or_false] at h
    rcases h with rfl|rfl <;> rfl

/-! ### impl_Cell: function 78 -/
section
/-- copy, at elements of sz cells. -/
theorem run_copy_k {P : Program} (w : World) (dT sT ty elem : TypeId) (g o dLen dCap : Nat) (a : Addr) (sLen sCap : Nat) (cur : Array Value) (t : TypeId) (cs : List Value) (sz m : Nat)
    (hu : P.underlying dT = some (.slice elem)) (hs : (P.info? elem).map (·.size) = some sz) (hm : m = Nat.min sLen dLen)
    (hg : w.heap[g]? = some (.cells cur t (0, 0))) (hn : cs.length = m * sz)
    (hsrc : ∀ j v, cs[j]? = some v → w.cell? (a.add j) = some v) (hfit : o + cs.length ≤ cur.size) (h1 : ∀ v ∈ cs, v.oneCell' = true) :
    (Builtin.copy_ #[dT, sT] ty #[.slice (some ⟨g, o, none⟩) dLen dCap, .slice (some a) sLen sCap]).run P w =
      .ok (goInt m) (w.setRow g (cur.toList.take o ++ cs ++ cur.toList.drop (o + cs.length)).toArray) := by
  subst hm
  have hl := run_loadCells_list (P := P) w a cs hsrc
  have hst := run_storeCells_at P g o t cs 0 cur w hg (by simpa using hfit) h1
  cases hq : P.info? elem with
 |none => simp [hq] at hs
 |some i =>
    have hi : i.size = sz := by simpa [hq] using hs
    simp [Builtin.copy_, run_underlying hu, Builtin.lenOf, Builtin.firstCells, sizeOf, typeInfo, hq, hi, ← hn, hl, hst]
theorem wpList_copy_k {P : Program} {w : World} {ops : Array Oper} {rest : List Oper} {o : Oper} {a : Act} {Q : Exit → Act → World → Prop} (hgd : o.guard = none) (d s : Operand) (dT sT : TypeId)
    (ho : o.op = .call { callee := .builtin .copy, args := #[d, s], argTypes := #[dT, sT] }) (elem : TypeId) (hu : P.underlying dT = some (.slice elem)) (sz : Nat) (hsz : (P.info? elem).map (·.size) = some sz)
    (g off dLen dCap : Nat) (ad : Addr) (sLen sCap : Nat) (hd : a.eval d = .slice (some ⟨g, off, none⟩) dLen dCap) (hs : a.eval s = .slice (some ad) sLen sCap)
    (cur : Array Value) (t : TypeId) (hg : w.heap[g]? = some (.cells cur t (0, 0))) (cs : List Value) (m : Nat) (hm : m = Nat.min sLen dLen) (hn : cs.length = m * sz)
    (hsrc : ∀ j v, cs[j]? = some v → w.cell? (ad.add j) = some v) (hfit : off + cs.length ≤ cur.size) (h1 : ∀ v ∈ cs, v.oneCell' = true) (B : Nat) (w0 : World) (hb : Below B w0 w) (hBg : B ≤ g)
    (h : ∀ w', Aside0 (w'.heap[g]? = some (.cells (cur.toList.take off ++ cs ++ cur.toList.drop (off + cs.length)).toArray t (0, 0))) → Aside0 (Below B w0 w') → wpList P ops Q rest (a.put o.dst (goInt m)) w') : wpList P ops Q (o :: rest) a w := by
  refine wpList_plain hgd fun K hK => ?_
  have hrun := run_copy_k (P := P) w dT sT o.type elem g off dLen dCap ad sLen sCap cur t cs sz m hu hsz hm hg hn hsrc hfit h1
  unfold Oper.wp
  simp [execOp, ho, resolve, invoke, builtin, hd, hs, hrun, Result.andThen]
  exact hK _ _ (h _ ⟨by simpa using setRow_heap w g _ _ t _ hg⟩ ⟨by simpa using below_setRow hb hBg _⟩)
theorem step_copy_k {P : Program} {ops : Array Oper} {o : Oper} {a : Act} {w : World} {K : Act → World → Prop} {Q : Exit → Act → World → Prop} {E : Prop} (hgd : o.guard = none) (d s : Operand) (dT sT : TypeId)
    (ho : o.op = .call { callee := .builtin .copy, args := #[d, s], argTypes := #[dT, sT] }) (elem : TypeId) (hu : P.underlying dT = some (.slice elem)) (sz : Nat) (hsz : (P.info? elem).map (·.size) = some sz)
    (g off dLen dCap : Nat) (ad : Addr) (sLen sCap : Nat) (hd : a.eval d = .slice (some ⟨g, off, none⟩) dLen dCap) (hs : a.eval s = .slice (some ad) sLen sCap)
    (cur : Array Value) (t : TypeId) (hg : w.heap[g]? = some (.cells cur t (0, 0))) (cs : List Value) (m : Nat) (hm : m = Nat.min sLen dLen) (hn : cs.length = m * sz)
    (hsrc : ∀ j v, cs[j]? = some v → w.cell? (ad.add j) = some v) (hfit : off + cs.length ≤ cur.size) (h1 : ∀ v ∈ cs, v.oneCell' = true) (B : Nat) (w0 : World) (hb : Below B w0 w) (hBg : B ≤ g)
    (h : ∀ w', Aside0 (w'.heap[g]? = some (.cells (cur.toList.take off ++ cs ++ cur.toList.drop (off + cs.length)).toArray t (0, 0))) → Aside0 (Below B w0 w') → K (a.put o.dst (goInt m)) w') :
    if Region.wanted o (yielded ops a.tmps) = true then Oper.wp P o a w K Q else E := by
  have hw : Region.wanted o (yielded ops a.tmps) = true := by simp [Region.wanted, hgd]
  rw [if_pos hw]
  have hrun := run_copy_k (P := P) w dT sT o.type elem g off dLen dCap ad sLen sCap cur t cs sz m hu hsz hm hg hn hsrc hfit h1
  unfold Oper.wp
  simp [execOp, ho, resolve, invoke, builtin, hd, hs, hrun, Result.andThen]
  exact h _ ⟨by simpa using setRow_heap w g _ _ t _ hg⟩ ⟨by simpa using below_setRow hb hBg _⟩
end
set_option maxHeartbeats 1600000 in
set_option maxRecDepth 100000 in
theorem repeat_one (x : S103) (c : Nat) (hc1 : 1 ≤ c) (hc2 : c ≤ 1024) (hm : bits_Mul.f 1 (c : Int) = some (0, (c : Int))) (A : Option Addr) (c0 : Nat) (w : World) (hr : Kd.C k103 w A 1 [x]) :
    Calls Try.prog 78 #[.slice A 1 c0, .int .i64 (c : Int)] w fun e w' => ∃ v, e = .returned v ∧ Kd.R k103 103 w' w.heap.size (fun _ => True) v (List.replicate c x) ∧ Below w.heap.size w w' := by
  obtain ⟨ad, rfl, hcell⟩ := read_flat F103 hr (by omega)
  have HM := Aside0.mk hm
  have HR := Aside0.mk hr
  have H1 := Aside0.mk hc1
  have H2 := Aside0.mk hc2
  have e1 : IntKind.u64.wrap (c : Int) = (c : Int) := by simp [IntKind.wrap, IntKind.bits, IntKind.signed]; omega
  have e2 : IntKind.i64.wrap (c : Int) = (c : Int) := by unfold IntKind.wrap; simp [IntKind.bits, IntKind.signed]; omega
  have n1 : ((c : Int) < 0) = False := by simp
  have n2 : ((c : Int) > 9223372036854775807) = False := by simp; omega
  clear hr hcell hm
  go_enter Try.func78, Try.ntmps78
  go_wp2_with (first|(go_at_call 102; refine (bits_Mul.calls 1 (c : Int) 0 (c : Int) _ HM.out).mono ?_; rintro e w' ⟨rfl, ⟨nd, rfl⟩⟩)|((with_reducible refine gate_dst (N := 30) rfl ?_); refine Kd.R_make k103 w.heap.size 103 rfl (N := 30) rfl 25 _ _ rfl (c : Int) rfl rfl Try.underlying25 (.agg #[.string ⟨#[]⟩, .int .i64 0]) 24 info103 rfl (by decide) (by omega) z103 (w0 := w) (ok := fun _ => True) (okp := fun _ => True) (k103_mkM _ _ _ z103) (fun _ hk => hk) trivial (by omega) (by omega) (by repeat (first|exact Below.refl _ _|apply zG|apply zH)) (by simp) ?_; intro v1 w1 ho1 hb1 hg_ hnew_; clear hg_ hnew_; rw [Int.toNat_natCast] at ho1; have HB := Aside0.mk hb1; clear hb1; obtain ⟨Ao, co, eo⟩ := Kd.R_slice ho1; subst eo; rw [List.length_replicate] at ho1; obtain ⟨-, ⟨-, hx_, -⟩|⟨g, cur, rfl, -, hgb, hbk, hcc, hcm, hcs, -⟩⟩ := row_flat F103 ho1; (first|omega|skip); have HBK := Aside0.mk hbk; have HCS := Aside0.mk hcs; have HCC := Aside0.mk hcc; have HCM := Aside0.mk hcm; have HG := Aside0.mk hgb; clear ho1 hbk hcs hcc hcm hgb)|((with_reducible refine gate_dst (N := 33) rfl ?_); refine wpList_copy_k rfl (.tmp 31) (.tmp 32) 25 25 rfl 103 Try.underlying25 2 ?c0 g 0 c co ad 1 c0 rfl rfl cur 103 HBK.out (enc103 x) 1 ?c1 ?c2 ?c3 ?c4 (F103.one x) w.heap.size w HB.out HG.out ?_; (case c0 => kernel_rfl); (case c1 => have := H1.out; show 1 = min 1 c; omega); (case c2 => rfl); (case c3 => have h5_ := read_flat' F103 (Kd.C_below HR.out HB.out) (by omega); rw [List.flatMap_cons, List.flatMap_nil, List.append_nil] at h5_; exact h5_); (case c4 => have h1_ := HCS.out; have h2_ := HCC.out; have h3_ := H1.out; have h4_ : cur.size = co * 2 := h1_; rw [h4_]; show 0 + 2 ≤ co * 2; omega); intro w2 hb2 hB2; have hcs0 : ∃ cur' : Array Value, w2.heap[g]? = some (.cells cur' 103 (0, 0)) ∧ cur'.size = co * 2 ∧ cur'.toList.take (1 * 2) = (List.replicate 1 x).flatMap enc103 := ⟨_, hb2.out, (by have h1_ := HCS.out; have h2_ := HCC.out; have h3_ := H1.out; have h4_ : cur.size = co * 2 := h1_; simp [enc103]; omega), (by simp [enc103])⟩; have HI := Aside0.mk hcs0; clear hcs0 hb2 HBK HCS HB HR cur w1 HM))
  clear e1 e2 n1 n2
  go_loopw [8] (fun v8 wr => ∃ n : Nat, 1 ≤ n ∧ n ≤ c ∧ v8 = .int .i64 n ∧ Aside0 (Below w.heap.size w wr) ∧ Aside0 (∃ cur' : Array Value, wr.heap[g]? = some (.cells cur' 103 (0, 0)) ∧ cur'.size = co * 2 ∧ cur'.toList.take (n * 2) = (List.replicate n x).flatMap enc103)) (fun v8 _ => c - (intOf v8).toNat)
  case atStart => exact ⟨1, Nat.le_refl _, hc1, rfl, hB2, HI⟩
  case round =>
    clear HI hB2
    obtain ⟨n, hn1, hn2, rfl, HB, HI⟩ := hrel
    by_cases hlt : n < c
    · have hltz : decide ((n : Int) < (c : Int)) = true := decide_eq_true (by omega)
      have hne : (co = n) = False := by have := HCC.out; simp; omega
      obtain ⟨cur, hbk, hcs, htk⟩ := HI.out
      have HBK := Aside0.mk hbk
      have HCS := Aside0.mk hcs
      have HTK := Aside0.mk htk
      clear hbk hcs htk HI
      have hnc : (n : Int) ≤ (co : Int) := by have := HCC.out; omega
      have hnl : (n : Int) ≤ (c : Int) := by omega
      obtain ⟨m, hm⟩ : ∃ m : Nat, m = min n (c - n) := ⟨_, rfl⟩
      obtain ⟨X, hX⟩ : ∃ X : List Value, X = (List.replicate m x).flatMap enc103 := ⟨_, rfl⟩
      have hXl : X.length = m * 2 := by rw [hX, flat_length enc103 2 (fun _ => rfl), List.length_replicate]
      have hX1 : ∀ v ∈ X, v.oneCell' = true := fun v hv => by
        rw [hX] at hv
        obtain ⟨y, _, hy⟩ := List.mem_flatMap.1 hv
        exact F103.one y v hy
      have hXc : ∀ j v, X[j]? = some v → wr.drew.cell? (Addr.add ⟨g, 0, none⟩ j) = some v := fun j v hj => by
        have e : X = ((List.replicate n x).flatMap enc103).take (m * 2) := by
          rw [hX, show n = m + (n - m) by omega, ← List.replicate_append_replicate, List.flatMap_append, List.take_left' (by rw [flat_length enc103 2 (fun _ => rfl), List.length_replicate])]
        have hjm : j < m * 2 := by rw [← hXl]; exact (List.getElem?_eq_some_iff.1 hj).1
        rw [e, List.getElem?_take, if_pos hjm] at hj
        have h1 := blk_list (zC HBK.out) HTK.out j v hj
        have h2 : Addr.add ⟨g, 0, none⟩ j = ⟨g, j, none⟩ := by unfold Addr.add; split <;> simp_all
        rw [h2]; exact h1
      have hXt : (cur.toList.take (n * 2) ++ X ++ cur.toList.drop (n * 2 + X.length)).take ((n + m) * 2) = (List.replicate (n + m) x).flatMap enc103 := by
        rw [List.take_left' (by rw [List.length_append, HTK.out, flat_length enc103 2 (fun _ => rfl), List.length_replicate, hXl]; omega), HTK.out, hX, ← List.replicate_append_replicate, List.flatMap_append]
      have hfit : n * 2 + X.length ≤ cur.size := by rw [hXl, HCS.out]; have := HCC.out; omega
      have hw : IntKind.i64.wrap ((n : Int) + (m : Int)) = ((n + m : Nat) : Int) := by unfold IntKind.wrap; simp [IntKind.bits, IntKind.signed]; omega
      have hmn := Aside0.mk hm
      have hn0 := Aside0.mk hn1
      have hnlt := Aside0.mk hlt
      have hXl' := Aside0.mk hXl
      have hX1' := Aside0.mk hX1
      have hXc' := Aside0.mk hXc
      have hXt' := Aside0.mk hXt
      have hfit' := Aside0.mk hfit
      clear hm hX hXl hX1 hXc hXt hfit
      go_wp2
      go_region_law (refine step_copy_k rfl (.tmp 41) (.tmp 44) 25 25 rfl 103 Try.underlying25 2 ?c0 g (n * 2) (c - n) (co - n) ⟨g, 0, none⟩ n co ?d1 ?d2 cur 103 (zC HBK.out) X m ?c1 hXl'.out hXc'.out hfit'.out hX1'.out w.heap.size w HB.out.drew HG.out ?_; (case c0 => kernel_rfl); (case d1 => go_simp); (case d2 => go_simp); (case c1 => exact hmn.out); intro w3 hb3 hB3; clear HB)
      simp only [Act.put, List.getElem_toArray, List.getElem_cons_zero, List.getElem_cons_succ, List.setIfInBounds_toArray, List.set_cons_zero, List.set_cons_succ]
      go_roundw
      case measure => have := hmn.out; have := hn0.out; have := hnlt.out; simp [intOf]; omega
      case rel =>
        have hcs3 : (cur.toList.take (n * 2) ++ X ++ cur.toList.drop (n * 2 + X.length)).length = co * 2 := by have := HCS.out; have := hXl'.out; have := hfit'.out; simp; omega
        repeat apply Exists.intro
        exact ⟨⟨n + m, by omega, by have := hmn.out; omega, rfl, hB3, ⟨_, hb3.out, by simpa using hcs3, hXt'.out⟩⟩, rfl⟩
    · have hlt2 : decide ((n : Int) < (c : Int)) = false := decide_eq_false (by omega)
      have hnc : n = c := by omega
      subst hnc
      obtain ⟨cur, hbk, hcs, htk⟩ := HI.out
      have HR := Aside0.mk (flat_row F103 (ok := fun _ => True) (base := w.heap.size) (n := n) (c := co) (xs := List.replicate n x) trivial HG.out hbk (by simp) HCC.out HCM.out hcs htk)
      clear hbk hcs htk HI
      go_wp2
      go_ret
      exact ⟨_, rfl, HR.out, HB.out⟩

def impl_Cell.f (l0 : List S103) (a1 : Int) : Option (List S103) := if l0.length = 1 ∧ (a1 = 4 ∨ a1 = 8 ∨ a1 = 16 ∨ a1 = 32 ∨ a1 = 64) then some (List.replicate a1.toNat (l0.getD 0 z103)) else none
theorem impl_Cell.calls (A0 : Option Addr) (c0 : Nat) (l0 : List S103) (a1 : Int) (r : List S103) (w : World) (hr0 : Kd.C k103 w A0 l0.length l0) (hc0 : l0.length ≤ c0) (h : impl_Cell.f l0 a1 = some r) :
    Calls Try.prog 78 #[.slice A0 l0.length c0, .int .i64 a1] w fun e w' => ∃ v0_ : Value, e = .returned (v0_) ∧ Kd.R k103 103 w' w.heap.size (fun _ => True) v0_ r ∧ Below w.heap.size w w' := by
  unfold impl_Cell.f at h
  split at h
  case isFalse => cases h
  case isTrue hl =>
  obtain ⟨h1, h2⟩ := hl
  obtain rfl := Option.some.inj h
  obtain ⟨x, rfl⟩ : ∃ x, l0 = [x] := List.length_eq_one_iff.1 h1
  rcases h2 with rfl|rfl|rfl|rfl|rfl
  · exact repeat_one x 4 (by omega) (by omega) (by decide +kernel) A0 c0 w hr0
  · exact repeat_one x 8 (by omega) (by omega) (by decide +kernel) A0 c0 w hr0
  · exact repeat_one x 16 (by omega) (by omega) (by decide +kernel) A0 c0 w hr0
  · exact repeat_one x 32 (by omega) (by omega) (by decide +kernel) A0 c0 w hr0
  · exact repeat_one x 64 (by omega) (by omega) (by decide +kernel) A0 c0 w hr0

/-! ### impl_newCells: function 51 -/
def impl_newCells.f (a0 : Int) : Option ((List (S103))) := (impl_Cell.f (([(⟨(⟨#[]⟩ : ByteArray), (-1)⟩ : S103)] : List (S103))) a0).bind fun t166 => (some t166)
set_option maxHeartbeats 8000000 in
set_option maxRecDepth 100000 in
theorem impl_newCells.calls (a0 : Int) (r : List (S103)) (w : World) (h : impl_newCells.f a0 = some r) :
    Calls Try.prog 51 #[.int .i64 a0] w fun e w' => ∃ v0_ : Value, e = .returned (v0_) ∧ Kd.R k103 103 w' w.heap.size (fun _ => True) v0_ r ∧ Below w.heap.size w w' := by
  have hu103 := Try.underlying103
  have HB := Aside0.mk (Below.refl w.heap.size w)
  have H : ((impl_Cell.f (([(⟨(⟨#[]⟩ : ByteArray), (-1)⟩ : S103)] : List (S103))) a0).bind fun t166 => (some t166)) = some r := h
  clear h
  obtain ⟨y163, hy163⟩ : ∃ y_ : List (S103), y_ = (([(⟨(⟨#[]⟩ : ByteArray), (-1)⟩ : S103)] : List (S103))) := ⟨_, rfl⟩
  replace H : ((impl_Cell.f y163 a0).bind fun t166 => (some t166)) = some r := by first|(rw [hy163]; with_reducible exact H)|(have H2_ := (Option.bind_some _ _).symm.trans H; rw [hy163]; with_reducible exact H2_)|(have H2_ := (Option.bind_some _ _).symm.trans H; with_reducible exact H2_)|with_reducible exact H|(rw [hy163]; exact H)|exact H
  have Ny163 := Aside0.mk hy163
  clear hy163
  replace H := Option.bind_eq_some_iff.mp H
  obtain ⟨t166, A20, H⟩ := H
  replace H : (some t166) = some r := H
  have A2 := Aside0.mk A20
  clear A20
  obtain rfl := Option.some.inj H
  go_enter Try.func51, Try.ntmps51
  go_wp2_with (first|((with_reducible refine gate_dst (N := 4) rfl ?_); refine Kd.R_lit k103 _ 103 ?hg (N := 4) ?hd (xs := ([(⟨(⟨#[]⟩ : ByteArray), (-1)⟩ : S103)] : List (S103))) (inner := [.string (⟨#[]⟩ : ByteArray), .int .i64 (-1)]) (ok := fun _ => True) (okp := fun _ => True) ?hr ?hp (fun _ hk => hk) trivial (Below.refl _ _) (Nat.le_refl _) (by simp) ?_; (case hd => rfl); (case hg => rfl); (case hr => first|(go_simp; done)|(go_simp; rfl)); (case hp => exact (Reps.c2 (show Kd.M k103 _ _ _ (⟨(⟨#[]⟩ : ByteArray), (-1)⟩ : S103) [.string (⟨#[]⟩ : ByteArray), .int .i64 (-1)] from (k103_mkM _ _ _ (⟨(⟨#[]⟩ : ByteArray), (-1)⟩ : S103) )) (Reps.none _ _))); intro v164 w3 ho4 hb hg_ hnew_; clear hg_ hnew_; (first|rw [← Ny163.out] at ho4|(simp only [Int.reduceToNat] at ho4; rw [← Ny163.out] at ho4)); have n0_ := Aside0.mk (Kd.R_lower ho4 (below_size (by repeat (first|(with_reducible first|exact HB.out|apply zI|apply zG|apply zH)|exact HB.out)))); have n1_ := Aside0.mk (zN (by repeat (first|(with_reducible first|exact HB.out|apply zI|apply zG|apply zH)|exact HB.out)) hb); clear HB; have HO165 := n0_; have HB := n1_; clear n0_ n1_; clear hb ho4; obtain ⟨Ao5, co5, eo5⟩ := Kd.R_slice HO165.out; subst eo5)|((with_reducible refine gate_callee (f := 78) rfl ?_); refine goesL_ (some 6) rfl rfl Try.func78 (by kernel_rfl) rfl #[.slice Ao5 y163.length co5, .int .i64 a0] rfl (by (try simp only [List.map_toArray, List.map_cons, List.map_nil]); first|done|rfl|(simp only [List.length_drop, List.length_take]; rfl)) ?_; (with_reducible refine (impl_Cell.calls _ _ y163 a0 t166 _ ?side1 ?side2 A2.out).mono ?_); (case side1 => repeat (first|exact (Kd.R_reads' HO165.out).2.2|(with_reducible refine Kd.C_alloc ?_ _)|(with_reducible refine Kd.C_drewN ?_ _)|(with_reducible refine Kd.C_drew ?_))); (case side2 => exact (Kd.R_reads' HO165.out).2.1); rintro e w6 ⟨v167, rfl, ho0, hb⟩; refine ⟨_, rfl, ?_⟩; have n0_ := Aside0.mk (Kd.R_elder' (by (with_reducible repeat (first|apply zE|apply zD|apply zF)); exact HO165.out) (Kd.R_base ho0) hb); have n1_ := Aside0.mk (Kd.R_lower (Kd.R_new' ho0 (Kd.R_lt (by (with_reducible repeat (first|apply zE|apply zD|apply zF)); exact HO165.out))) (below_size (by repeat (first|(with_reducible first|exact HB.out|apply zI|apply zG|apply zH)|exact HB.out)))); have n2_ := Aside0.mk (zN (by repeat (first|(with_reducible first|exact HB.out|apply zI|apply zG|apply zH)|exact HB.out)) hb); clear HO165; clear HB; have HO165 := n0_; have HO168 := n1_; have HB := n2_; clear n0_ n1_ n2_; (try clear hb); (try clear hb2); (try clear hk); (try clear hi); (try clear ho0)))
  go_ret
  exact ⟨_, by first|rfl|(simp [errW_none, errW_some] <;> rfl)|(simp [*, errW_none, errW_some] <;> rfl), by (with_reducible repeat (first|apply zE|apply zD|apply zF)); exact zR HO168.out (fun _ hk => trivial), by repeat (first|(with_reducible first|exact HB.out|apply zI|apply zG|apply zH)|exact HB.out)⟩

/-! ### impl_TableNew: function 23 -/
def impl_TableNew.f (a0 : Int) : Option ((List (S103)) × (List (S103)) × Int × Bool) := (impl_isSize.f a0).bind fun t170 => (if t170 = true then ((impl_newCells.f a0).bind fun t171 => (some (t171, ([] : List (S103)), 0, true))) else (some (([] : List (S103)), ([] : List (S103)), 0, false)))
set_option maxHeartbeats 8000000 in
set_option maxRecDepth 100000 in
theorem impl_TableNew.calls (a0 : Int) (r1 : List (S103)) (r2 : List (S103)) (r3 : Int) (r4 : Bool) (w : World) (h : impl_TableNew.f a0 = some (r1, r2, r3, r4)) :
    Calls Try.prog 23 #[.int .i64 a0] w fun e w' => ∃ v0_ v1_ : Value, e = .returned (.tuple #[.agg #[v0_, v1_, .int .i64 r3], .bool r4]) ∧ Kd.R k103 103 w' w.heap.size (fun k_ => some k_ ≠ (v1_ : Value).ownBlock) v0_ r1 ∧ Kd.R k103 103 w' w.heap.size (fun k_ => some k_ ≠ (v0_ : Value).ownBlock) v1_ r2 ∧ Below w.heap.size w w' := by
  have hu27 := Try.underlying27
  have HB := Aside0.mk (Below.refl w.heap.size w)
  have H : ((impl_isSize.f a0).bind fun t170 => (if t170 = true then ((impl_newCells.f a0).bind fun t171 => (some (t171, ([] : List (S103)), 0, true))) else (some (([] : List (S103)), ([] : List (S103)), 0, false)))) = some (r1, r2, r3, r4) := h
  clear h
  replace H := Option.bind_eq_some_iff.mp H
  obtain ⟨t170, A20, H⟩ := H
  replace H : (if t170 = true then ((impl_newCells.f a0).bind fun t171 => (some (t171, ([] : List (S103)), 0, true))) else (some (([] : List (S103)), ([] : List (S103)), 0, false))) = some (r1, r2, r3, r4) := H
  have A2 := Aside0.mk A20
  clear A20
  go_enter Try.func23, Try.ntmps23
  go_wp2_with (first|((with_reducible refine gate_dst (N := 2) rfl ?_); refine box_event ?hg (N := 2) ?hd (cs := #[.slice none 0 0, .slice none 0 0, .int .i64 0]) (t := 27) ?hr ?_; (case hd => rfl); (case hg => rfl); (case hr => first|(go_simp; done)|(go_simp; rfl)); intro gb169 hg w5 hbox hb; have n0_ := Aside0.mk (zN (by repeat (first|(with_reducible first|exact HB.out|apply zI|apply zG|apply zH)|exact HB.out)) hb); have n1_ := Aside0.mk (hbox); have n2_ := Aside0.mk ((by rw [hg]; exact (below_size (by repeat (first|(with_reducible first|exact HB.out|apply zI|apply zG|apply zH)|exact HB.out))) : w.heap.size ≤ gb169)); have n3_ := Aside0.mk ((by rw [hg]; exact (below_size (by repeat (first|(with_reducible first|exact HB.out|apply zI|apply zG|apply zH)|exact HB.out))) : w.heap.size ≤ gb169)); clear HB; have HB := n0_; have BK169 := n1_; have GW169 := n2_; have GE169 := n3_; clear n0_ n1_ n2_ n3_; clear hb hbox hg)|((with_reducible refine gate_callee (f := 50) rfl ?_); refine goesL_ (some 5) rfl rfl Try.func50 (by kernel_rfl) rfl #[.int .i64 a0] rfl (by (try simp only [List.map_toArray, List.map_cons, List.map_nil]); first|done|rfl|(simp only [List.length_drop, List.length_take]; rfl)) ?_; (with_reducible refine (impl_isSize.calls a0 t170 _ A2.out).mono ?_); rintro e w' ⟨rfl, ⟨nd, rfl⟩⟩; refine ⟨_, rfl, ?_⟩; (try (rw [drewN_self w5]; generalize hq_ : World.drewN w5 _ = w5; have n0_ : Aside0 (w5.heap[gb169]? = some (.cells #[.slice none 0 0, .slice none 0 0, .int .i64 0] 27 (0, 0))) := ⟨by rw [← hq_]; exact (by (with_reducible repeat (first|refine zA ?_ _|refine zC ?_|refine zB ?_ _)); exact BK169.out)⟩; have n1_ : Aside0 (Below w.heap.size w w5) := ⟨by rw [← hq_]; exact (by repeat (first|(with_reducible first|exact HB.out|apply zI|apply zG|apply zH|refine zJ ?_ GE169.out)|exact HB.out))⟩; clear BK169 HB hq_; have BK169 := n0_; have HB := n1_; clear n0_ n1_)); obtain ⟨hcz10_0, hcz10_1, hcz10_2, hfz10_0, hfz10_1, hfz10_2⟩ := zb3 BK169.out; (refine Classical.byCases (p := (t170 = true)) (fun c3 => ?zp3) (fun c3 => ?zn3); (case' zn3 => (replace c3 := Bool.eq_false_iff.mpr c3); (subst c3); (have H1 : (some (([] : List (S103)), ([] : List (S103)), 0, false)) = some (r1, r2, r3, r4) := by rw [if_neg (show ¬ (false = true) by decide)] at H; exact H); (clear H); (have H := H1); (clear H1); (simp only [Option.some.injEq, Prod.mk.injEq] at H); (obtain ⟨rfl, rfl, rfl, rfl⟩ := H)); (case' zp3 => (subst c3); (have H1 : ((impl_newCells.f a0).bind fun t171 => (some (t171, ([] : List (S103)), 0, true))) = some (r1, r2, r3, r4) := by rw [if_pos rfl] at H; exact H); (clear H); (have H := H1); (clear H1); (replace H := Option.bind_eq_some_iff.mp H); (obtain ⟨t171, A40, H⟩ := H); (replace H : (some (t171, ([] : List (S103)), 0, true)) = some (r1, r2, r3, r4) := H); (have A4 := Aside0.mk A40); (clear A40); (simp only [Option.some.injEq, Prod.mk.injEq] at H); (obtain ⟨rfl, rfl, rfl, rfl⟩ := H))))|((with_reducible refine gate_callee (f := 51) rfl ?_); refine goesL_ (some 9) rfl rfl Try.func51 (by kernel_rfl) rfl #[.int .i64 a0] rfl (by (try simp only [List.map_toArray, List.map_cons, List.map_nil]); first|done|rfl|(simp only [List.length_drop, List.length_take]; rfl)) ?_; (with_reducible refine (impl_newCells.calls a0 t171 _ A4.out).mono ?_); rintro e w6 ⟨v172, rfl, ho0, hb⟩; refine ⟨_, rfl, ?_⟩; have n0_ := Aside0.mk (Kd.R_lower ho0 (below_size (by repeat (first|(with_reducible first|exact HB.out|apply zI|apply zG|apply zH|refine zJ ?_ GE169.out)|exact HB.out)))); have n1_ := Aside0.mk (zK (g := gb169) (o := .cells #[.slice none 0 0, .slice none 0 0, .int .i64 0] 27 (0, 0)) (by (with_reducible repeat (first|refine zA ?_ _|refine zC ?_|refine zB ?_ _)); exact BK169.out) hb); have n2_ := Aside0.mk (zN (by repeat (first|(with_reducible first|exact HB.out|apply zI|apply zG|apply zH|refine zJ ?_ GE169.out)|exact HB.out)) hb); clear BK169; clear HB; have HO173 := n0_; have BK169 := n1_; have HB := n2_; clear n0_ n1_ n2_; (try clear hb); (try clear hb2); (try clear hk); (try clear hi); (try clear ho0); obtain ⟨Ao7, co7, eo7⟩ := Kd.R_slice HO173.out; subst eo7; obtain ⟨hcz8_0, hcz8_1, hcz8_2, hfz8_0, hfz8_1, hfz8_2⟩ := zb3 BK169.out))
  · refine bodyPost_ret (results_ct rfl _ _ gb169 27 #[.slice Ao7 t171.length co7, .slice none 0 0, .int .i64 0] (0, 0) _ rfl (by (with_reducible repeat (first|refine zA ?_ _|refine zC ?_|refine zB ?_ _)); refine blk_put (cs := #[.slice Ao7 t171.length co7, .slice none 0 0, .int .i64 0]) ?_ 2 _ rfl; (with_reducible repeat (first|refine zA ?_ _|refine zC ?_|refine zB ?_ _)); refine blk_put (cs := #[.slice Ao7 t171.length co7, .slice none 0 0, .int .i64 0]) ?_ 1 _ rfl; (with_reducible repeat (first|refine zA ?_ _|refine zC ?_|refine zB ?_ _)); refine blk_put (cs := #[.slice none 0 0, .slice none 0 0, .int .i64 0]) ?_ 0 _ rfl; (with_reducible repeat (first|refine zA ?_ _|refine zC ?_|refine zB ?_ _)); exact BK169.out) Try.underlying27 rfl (by kernel_rfl)) rfl ?_
    exact ⟨_, _, by first|rfl|(simp [errW_none, errW_some] <;> rfl)|(simp [*, errW_none, errW_some] <;> rfl), by (with_reducible repeat (first|apply zE|apply zD|apply zF)); exact zR (zL (p := ⟨gb169, 2, none⟩) (zL (p := ⟨gb169, 1, none⟩) (zL (p := ⟨gb169, 0, none⟩) (zQ HO173.out BK169.out (by decide)) (fun _ hk => hk.2) (.slice Ao7 t171.length co7)) (fun _ hk => hk.2) (.slice none 0 0)) (fun _ hk => hk.2) (.int .i64 0)) (fun _ hk => (by simp [Value.ownBlock])), by first|exact Kd.R_nil _ _ _ _ _|exact Kd.N_nil _ _ _ _ _|exact Kd.V_nil _ _ _ _ _|exact Kd.Q_nil _ _ _ _ _|exact Kd.S_nil _ _ _ _ _, by repeat (first|(with_reducible first|exact HB.out|apply zI|apply zG|apply zH|refine zJ ?_ GE169.out)|exact HB.out)⟩
  · refine bodyPost_ret (results_ct rfl _ _ gb169 27 #[.slice none 0 0, .slice none 0 0, .int .i64 0] (0, 0) _ rfl (by (with_reducible repeat (first|refine zA ?_ _|refine zC ?_|refine zB ?_ _)); refine blk_put (cs := #[.slice none 0 0, .slice none 0 0, .int .i64 0]) ?_ 2 _ rfl; (with_reducible repeat (first|refine zA ?_ _|refine zC ?_|refine zB ?_ _)); refine blk_put (cs := #[.slice none 0 0, .slice none 0 0, .int .i64 0]) ?_ 1 _ rfl; (with_reducible repeat (first|refine zA ?_ _|refine zC ?_|refine zB ?_ _)); refine blk_put (cs := #[.slice none 0 0, .slice none 0 0, .int .i64 0]) ?_ 0 _ rfl; (with_reducible repeat (first|refine zA ?_ _|refine zC ?_|refine zB ?_ _)); exact BK169.out) Try.underlying27 rfl (by kernel_rfl)) rfl ?_
    exact ⟨_, _, by first|rfl|(simp [errW_none, errW_some] <;> rfl)|(simp [*, errW_none, errW_some] <;> rfl), by first|exact Kd.R_nil _ _ _ _ _|exact Kd.N_nil _ _ _ _ _|exact Kd.V_nil _ _ _ _ _|exact Kd.Q_nil _ _ _ _ _|exact Kd.S_nil _ _ _ _ _, by first|exact Kd.R_nil _ _ _ _ _|exact Kd.N_nil _ _ _ _ _|exact Kd.V_nil _ _ _ _ _|exact Kd.Q_nil _ _ _ _ _|exact Kd.S_nil _ _ _ _ _, by repeat (first|(with_reducible first|exact HB.out|apply zI|apply zG|apply zH|refine zJ ?_ GE169.out)|exact HB.out)⟩

/-! ### impl_NearNew: function 6 -/
def impl_NearNew.l0 : Nat → Int → Int → Option ((List (S73)) × Int × (List (S103)) × (List (S103)) × Int × Int × List ByteArray × Int × List ByteArray × Int × List ByteArray × List Int × Int × Int × Bool)
 |0, _, _ => none
 |k + 1, x0, x4 => if x4 ≤ (wrap64 (2 * x0)) then (impl_NearNew.l0 k x0 (wrap64 (x4 * 2))) else ((impl_SketchNew.f).bind fun bt176 => ((impl_ArenaNew.f k x0).bind fun bt181 => ((impl_TableNew.f x4).bind fun bt186 => (some (bt181.1, bt181.2.1, bt186.1, bt186.2.1, bt186.2.2.1, mx 1 (wrap64 (Int.tdiv x0 4)), ([] : List ByteArray), wrap64 ((wrap64 (x0 - (mx 1 (wrap64 (Int.tdiv x0 4))))) - (wrap64 (Int.tdiv (wrap64 (x0 - (mx 1 (wrap64 (Int.tdiv x0 4))))) 2))), ([] : List ByteArray), wrap64 (Int.tdiv (wrap64 (x0 - (mx 1 (wrap64 (Int.tdiv x0 4))))) 2), ([] : List ByteArray), bt176.1, bt176.2, 0, true)))))
def impl_NearNew.f (k : Nat) (a0 : Int) : Option ((List (S73)) × Int × (List (S103)) × (List (S103)) × Int × Int × List ByteArray × Int × List ByteArray × Int × List ByteArray × List Int × Int × Int × Bool) := (impl_inRange.f a0 2 24).bind fun t175 => (if t175 = true then (impl_NearNew.l0 k a0 4) else (some (([] : List (S73)), 0, ([] : List (S103)), ([] : List (S103)), 0, 0, ([] : List ByteArray), 0, ([] : List ByteArray), 0, ([] : List ByteArray), ([] : List Int), 0, 0, false)))
theorem impl_NearNew.mono_l : ∀ k, (∀ y0 y1, LeO (impl_NearNew.l0 k y0 y1) (impl_NearNew.l0 (k + 1) y0 y1))
 |0 => fun _ _ r h => by simp [impl_NearNew.l0] at h
 |k + 1 => by
    have ih0 := impl_NearNew.mono_l k
    · intro y0 y1
      unfold impl_NearNew.l0
      repeat' first
     |(with_reducible exact ih0 _ _)
     |(with_reducible exact impl_ArenaNew.mono _ _)
     |(with_reducible exact LeO.refl _)
     |(with_reducible exact LeO.none _)
     |(with_reducible refine LeO.ite ?_ ?_)
     |(with_reducible refine LeO.bind ?_ (fun _ => ?_))
     |exact ih0 _ _
     |exact impl_ArenaNew.mono _ _
     |exact LeO.none _
     |refine LeO.ite ?_ ?_
     |refine LeO.bind ?_ (fun _ => ?_)
theorem impl_NearNew.mono : ∀ a0 k, LeO (impl_NearNew.f k a0) (impl_NearNew.f (k + 1) a0) := by
  intro a0 k
  have ih0 := impl_NearNew.mono_l k
  unfold impl_NearNew.f
  repeat' first
     |(with_reducible exact ih0 _ _)
     |(with_reducible exact impl_ArenaNew.mono _ _)
     |(with_reducible exact LeO.refl _)
     |(with_reducible exact LeO.none _)
     |(with_reducible refine LeO.ite ?_ ?_)
     |(with_reducible refine LeO.bind ?_ (fun _ => ?_))
     |exact ih0 _ _
     |exact impl_ArenaNew.mono _ _
     |exact LeO.none _
     |refine LeO.ite ?_ ?_
     |refine LeO.bind ?_ (fun _ => ?_)
set_option maxHeartbeats 8000000 in
set_option maxRecDepth 100000 in
theorem impl_NearNew.calls (k : Nat) (a0 : Int) (r1 : List (S73)) (r2 : Int) (r3 : List (S103)) (r4 : List (S103)) (r5 : Int) (r6 : Int) (r7 : List ByteArray) (r8 : Int) (r9 : List ByteArray) (r10 : Int) (r11 : List ByteArray) (r12 : List Int) (r13 : Int) (r14 : Int) (r15 : Bool) (w : World) (h : impl_NearNew.f k a0 = some (r1, r2, r3, r4, r5, r6, r7, r8, r9, r10, r11, r12, r13, r14, r15)) :
    Calls Try.prog 6 #[.int .i64 a0] w fun e w' => ∃ v0_ v2_ v3_ v6_ v8_ v10_ v11_ : Value, e = .returned (.tuple #[.agg #[v0_, .int .i64 r2, v2_, v3_, .int .i64 r5, .int .i64 r6, v6_, .int .i64 r8, v8_, .int .i64 r10, v10_, v11_, .int .i64 r13, .int .i64 r14], .bool r15]) ∧ Kd.R k73 73 w' w.heap.size (fun _ => True) v0_ r1 ∧ Kd.R k103 103 w' w.heap.size (fun k_ => some k_ ≠ (v3_ : Value).ownBlock) v2_ r3 ∧ Kd.R k103 103 w' w.heap.size (fun k_ => some k_ ≠ (v2_ : Value).ownBlock) v3_ r4 ∧ Kd.R Kd.string 9 w' w.heap.size (fun k_ => some k_ ≠ (v8_ : Value).ownBlock ∧ some k_ ≠ (v10_ : Value).ownBlock) v6_ r7 ∧ Kd.R Kd.string 9 w' w.heap.size (fun k_ => some k_ ≠ (v6_ : Value).ownBlock ∧ some k_ ≠ (v10_ : Value).ownBlock) v8_ r9 ∧ Kd.R Kd.string 9 w' w.heap.size (fun k_ => some k_ ≠ (v6_ : Value).ownBlock ∧ some k_ ≠ (v8_ : Value).ownBlock) v10_ r11 ∧ Kd.R (Kd.int .i64) 3 w' w.heap.size (fun _ => True) v11_ r12 ∧ Below w.heap.size w w' := by
  have hu37 := Try.underlying37
  have hu24 := Try.underlying24
  have hu27 := Try.underlying27
  have HB := Aside0.mk (Below.refl w.heap.size w)
  have H : ((impl_inRange.f a0 2 24).bind fun t175 => (if t175 = true then (impl_NearNew.l0 k a0 4) else (some (([] : List (S73)), 0, ([] : List (S103)), ([] : List (S103)), 0, 0, ([] : List ByteArray), 0, ([] : List ByteArray), 0, ([] : List ByteArray), ([] : List Int), 0, 0, false)))) = some (r1, r2, r3, r4, r5, r6, r7, r8, r9, r10, r11, r12, r13, r14, r15) := h
  clear h
  replace H := Option.bind_eq_some_iff.mp H
  obtain ⟨t175, A20, H⟩ := H
  replace H : (if t175 = true then (impl_NearNew.l0 k a0 4) else (some (([] : List (S73)), 0, ([] : List (S103)), ([] : List (S103)), 0, 0, ([] : List ByteArray), 0, ([] : List ByteArray), 0, ([] : List ByteArray), ([] : List Int), 0, 0, false))) = some (r1, r2, r3, r4, r5, r6, r7, r8, r9, r10, r11, r12, r13, r14, r15) := H
  have A2 := Aside0.mk A20
  clear A20
  by_cases c3 : t175 = true
  · subst c3
    have H1 : (impl_NearNew.l0 k a0 4) = some (r1, r2, r3, r4, r5, r6, r7, r8, r9, r10, r11, r12, r13, r14, r15) := by rw [if_pos rfl] at H; exact H
    clear H
    have H := H1
    clear H1
    have H' := Aside0.mk H
    clear H
    go_enter Try.func6, Try.ntmps6
    go_wp2_with (first|((with_reducible refine gate_dst (N := 2) rfl ?_); refine box_event ?hg (N := 2) ?hd (cs := #[.slice none 0 0, .int .i64 0, .slice none 0 0, .slice none 0 0, .int .i64 0, .int .i64 0, .slice none 0 0, .int .i64 0, .slice none 0 0, .int .i64 0, .slice none 0 0, .slice none 0 0, .int .i64 0, .int .i64 0]) (t := 37) ?hr ?_; (case hd => rfl); (case hg => rfl); (case hr => first|(go_simp; done)|(go_simp; rfl)); intro gb174 hg w4 hbox hb; have n0_ := Aside0.mk (zN (by repeat (first|(with_reducible first|exact HB.out|apply zI|apply zG|apply zH)|exact HB.out)) hb); have n1_ := Aside0.mk (hbox); have n2_ := Aside0.mk ((by rw [hg]; exact (below_size (by repeat (first|(with_reducible first|exact HB.out|apply zI|apply zG|apply zH)|exact HB.out))) : w.heap.size ≤ gb174)); have n3_ := Aside0.mk ((by rw [hg]; exact (below_size (by repeat (first|(with_reducible first|exact HB.out|apply zI|apply zG|apply zH)|exact HB.out))) : w.heap.size ≤ gb174)); clear HB; have HB := n0_; have BK174 := n1_; have GW174 := n2_; have GE174 := n3_; clear n0_ n1_ n2_ n3_; clear hb hbox hg)|((with_reducible refine gate_callee (f := 20) rfl ?_); refine goesL_ (some 8) rfl rfl Try.func20 (by kernel_rfl) rfl #[.int .i64 a0, .int .i64 2, .int .i64 24] rfl (by (try simp only [List.map_toArray, List.map_cons, List.map_nil]); first|done|rfl|(simp only [List.length_drop, List.length_take]; rfl)) ?_; (with_reducible refine (impl_inRange.calls a0 2 24 true _ A2.out).mono ?_); rintro e w' ⟨rfl, ⟨nd, rfl⟩⟩; refine ⟨_, rfl, ?_⟩))
    go_loopg [4] k (fun kq v4 w' => ∃ (x4_1 : Int), v4 = .int .i64 x4_1 ∧ Aside0 (impl_NearNew.l0 kq a0 x4_1 = some (r1, r2, r3, r4, r5, r6, r7, r8, r9, r10, r11, r12, r13, r14, r15)) ∧ Aside0 (kq ≤ k) ∧ Aside0 (w'.heap[gb174]? = some (.cells #[(.slice none 0 0), .int .i64 0, (.slice none 0 0), (.slice none 0 0), .int .i64 0, .int .i64 0, (.slice none 0 0), .int .i64 0, (.slice none 0 0), .int .i64 0, (.slice none 0 0), (.slice none 0 0), .int .i64 0, .int .i64 0] 37 (0, 0))) ∧ Aside0 (Below w.heap.size w w'))
    case atStart => exact ⟨(4), (by first|rfl|(simp; done)|(simp [*]; done)), H', ⟨Nat.le_refl _⟩, ⟨by (with_reducible repeat (first|refine zA ?_ _|refine zC ?_|refine zB ?_ _)); exact BK174.out⟩, ⟨by repeat (first|(with_reducible first|exact HB.out|apply zI|apply zG|apply zH|refine zJ ?_ GE174.out)|exact HB.out)⟩⟩
    case round =>
      clear H'
      try clear c2
      try clear p2
      try clear c3
      obtain ⟨x4_1, rfl, HA, HK1, BK174, HB⟩ := hrel
      cases gk with
     |zero => exact absurd HA.out (by simp [impl_NearNew.l0])
     |succ k1 =>
        have H := HA.out
        clear HA
        simp only [impl_NearNew.l0] at H
        by_cases c5 : x4_1 ≤ (wrap64 (2 * a0))
        · rw [if_pos c5] at H
          have c5b0 : decide (x4_1 ≤ (wrap64 (2 * a0))) = true := decide_eq_true c5
          clear c5
          have H' := Aside0.mk H
          clear H
          go_wp2
          go_roundg k1
          case measure => have := HK1.out; omega
          case rel => exact ⟨(wrap64 (x4_1 * 2)), (by first|rfl|(simp; done)|(simp [*]; done)), H', ⟨by have := HK1.out; omega⟩, ⟨by (with_reducible repeat (first|refine zA ?_ _|refine zC ?_|refine zB ?_ _)); exact BK174.out⟩, ⟨by repeat (first|(with_reducible first|exact HB.out|apply zI|apply zG|apply zH|refine zJ ?_ GE174.out)|exact HB.out)⟩⟩
        · rw [if_neg c5] at H
          have c5b0 : decide (x4_1 ≤ (wrap64 (2 * a0))) = false := decide_eq_false c5
          clear c5
          replace H := Option.bind_eq_some_iff.mp H
          obtain ⟨⟨t176, t179⟩, A60, H⟩ := H
          replace H : ((impl_ArenaNew.f k1 a0).bind fun bt181 => ((impl_TableNew.f x4_1).bind fun bt186 => (some (bt181.1, bt181.2.1, bt186.1, bt186.2.1, bt186.2.2.1, mx 1 (wrap64 (Int.tdiv a0 4)), ([] : List ByteArray), wrap64 ((wrap64 (a0 - (mx 1 (wrap64 (Int.tdiv a0 4))))) - (wrap64 (Int.tdiv (wrap64 (a0 - (mx 1 (wrap64 (Int.tdiv a0 4))))) 2))), ([] : List ByteArray), wrap64 (Int.tdiv (wrap64 (a0 - (mx 1 (wrap64 (Int.tdiv a0 4))))) 2), ([] : List ByteArray), t176, t179, 0, true)))) = some (r1, r2, r3, r4, r5, r6, r7, r8, r9, r10, r11, r12, r13, r14, r15) := H
          have A6 := Aside0.mk A60
          clear A60
          replace H := Option.bind_eq_some_iff.mp H
          obtain ⟨⟨t181, t184, t185⟩, A70, H⟩ := H
          replace H : ((impl_TableNew.f x4_1).bind fun bt186 => (some (t181, t184, bt186.1, bt186.2.1, bt186.2.2.1, mx 1 (wrap64 (Int.tdiv a0 4)), ([] : List ByteArray), wrap64 ((wrap64 (a0 - (mx 1 (wrap64 (Int.tdiv a0 4))))) - (wrap64 (Int.tdiv (wrap64 (a0 - (mx 1 (wrap64 (Int.tdiv a0 4))))) 2))), ([] : List ByteArray), wrap64 (Int.tdiv (wrap64 (a0 - (mx 1 (wrap64 (Int.tdiv a0 4))))) 2), ([] : List ByteArray), t176, t179, 0, true))) = some (r1, r2, r3, r4, r5, r6, r7, r8, r9, r10, r11, r12, r13, r14, r15) := H
          have A7 := Aside0.mk A70
          clear A70
          replace H := Option.bind_eq_some_iff.mp H
          obtain ⟨⟨t186, t189, t192, t193⟩, A80, H⟩ := H
          replace H : (some (t181, t184, t186, t189, t192, mx 1 (wrap64 (Int.tdiv a0 4)), ([] : List ByteArray), wrap64 ((wrap64 (a0 - (mx 1 (wrap64 (Int.tdiv a0 4))))) - (wrap64 (Int.tdiv (wrap64 (a0 - (mx 1 (wrap64 (Int.tdiv a0 4))))) 2))), ([] : List ByteArray), wrap64 (Int.tdiv (wrap64 (a0 - (mx 1 (wrap64 (Int.tdiv a0 4))))) 2), ([] : List ByteArray), t176, t179, 0, true)) = some (r1, r2, r3, r4, r5, r6, r7, r8, r9, r10, r11, r12, r13, r14, r15) := H
          have A8 := Aside0.mk A80
          clear A80
          obtain ⟨ji9, hji9⟩ : ∃ j_ : Int, (mx 1 (wrap64 (Int.tdiv a0 4))) = j_ := ⟨_, rfl⟩
          replace H : (some (t181, t184, t186, t189, t192, ji9, ([] : List ByteArray), wrap64 ((wrap64 (a0 - (ji9))) - (wrap64 (Int.tdiv (wrap64 (a0 - (ji9))) 2))), ([] : List ByteArray), wrap64 (Int.tdiv (wrap64 (a0 - (ji9))) 2), ([] : List ByteArray), t176, t179, 0, true)) = some (r1, r2, r3, r4, r5, r6, r7, r8, r9, r10, r11, r12, r13, r14, r15) := by first|(rw [hji9] at H; exact H)|(simp only [hji9] at H ⊢; exact H)
          (try rw [hji9] at A6)
          (try rw [hji9] at A7)
          (try rw [hji9] at A8)
          have hji9_ : (if 1 < (wrap64 (Int.tdiv a0 4)) then (wrap64 (Int.tdiv a0 4)) else 1) = ji9 := hji9
          simp only [Option.some.injEq, Prod.mk.injEq] at H
          obtain ⟨rfl, rfl, rfl, rfl, rfl, rfl, rfl, rfl, rfl, rfl, rfl, rfl, rfl, rfl, rfl⟩ := H
          go_wp2_with (first|((with_reducible refine gate_callee (f := 21) rfl ?_); refine goesL_ (some 17) rfl rfl Try.func21 (by kernel_rfl) rfl #[] rfl (by (try simp only [List.map_toArray, List.map_cons, List.map_nil]); first|done|rfl|(simp only [List.length_drop, List.length_take]; rfl)) ?_; (with_reducible refine (impl_SketchNew.calls  t176 t179 _ A6.out).mono ?_); rintro e w10 ⟨v177, rfl, ho0, hb⟩; refine ⟨_, rfl, ?_⟩; have n0_ := Aside0.mk (Kd.R_lower ho0 (below_size (by repeat (first|(with_reducible first|exact HB.out|apply zI|apply zG|apply zH|refine zJ ?_ GE174.out)|exact HB.out)))); have n1_ := Aside0.mk (zK (g := gb174) (o := .cells #[.slice none 0 0, .int .i64 0, .slice none 0 0, .slice none 0 0, .int .i64 0, .int .i64 0, .slice none 0 0, .int .i64 0, .slice none 0 0, .int .i64 0, .slice none 0 0, .slice none 0 0, .int .i64 0, .int .i64 0] 37 (0, 0)) (by (with_reducible repeat (first|refine zA ?_ _|refine zC ?_|refine zB ?_ _)); exact BK174.out) hb); have n2_ := Aside0.mk (zN (by repeat (first|(with_reducible first|exact HB.out|apply zI|apply zG|apply zH|refine zJ ?_ GE174.out)|exact HB.out)) hb); clear BK174; clear HB; have HO178 := n0_; have BK174 := n1_; have HB := n2_; clear n0_ n1_ n2_; (try clear hb); (try clear hb2); (try clear hk); (try clear hi); (try clear ho0); obtain ⟨Ao11, co11, eo11⟩ := Kd.R_slice HO178.out; subst eo11)|((with_reducible refine gate_dst (N := 5) rfl ?_); refine box_event ?hg (N := 5) ?hd (cs := #[.slice none 0 0, .int .i64 0, .slice none 0 0, .slice none 0 0, .int .i64 0, .int .i64 0, .slice none 0 0, .int .i64 0, .slice none 0 0, .int .i64 0, .slice none 0 0, .slice none 0 0, .int .i64 0, .int .i64 0]) (t := 37) ?hr ?_; (case hd => rfl); (case hg => rfl); (case hr => first|(go_simp; done)|(go_simp; rfl)); intro gb180 hg w12 hbox hb; have n0_ := Aside0.mk (zM (by (with_reducible repeat (first|apply zE|apply zD|apply zF)); exact HO178.out) hb); have n1_ := Aside0.mk (zK (g := gb174) (o := .cells #[.slice none 0 0, .int .i64 0, .slice none 0 0, .slice none 0 0, .int .i64 0, .int .i64 0, .slice none 0 0, .int .i64 0, .slice none 0 0, .int .i64 0, .slice none 0 0, .slice none 0 0, .int .i64 0, .int .i64 0] 37 (0, 0)) (by (with_reducible repeat (first|refine zA ?_ _|refine zC ?_|refine zB ?_ _)); exact BK174.out) hb); have n2_ := Aside0.mk (zN (by repeat (first|(with_reducible first|exact HB.out|apply zI|apply zG|apply zH|refine zJ ?_ GE174.out)|exact HB.out)) hb); have n3_ := Aside0.mk (hbox); have n4_ := Aside0.mk ((by rw [hg]; exact (below_size (by repeat (first|(with_reducible first|exact HB.out|apply zI|apply zG|apply zH|refine zJ ?_ GE174.out)|exact HB.out))) : w.heap.size ≤ gb180)); have n5_ := Aside0.mk ((by rw [hg]; exact (below_size (by repeat (first|(with_reducible first|exact HB.out|apply zI|apply zG|apply zH|refine zJ ?_ GE174.out)|exact HB.out))) : w.heap.size ≤ gb180)); have n6_ := Aside0.mk ((by rw [hg]; exact Nat.ne_of_lt (blk_lt (g := gb174) (o := .cells #[.slice none 0 0, .int .i64 0, .slice none 0 0, .slice none 0 0, .int .i64 0, .int .i64 0, .slice none 0 0, .int .i64 0, .slice none 0 0, .int .i64 0, .slice none 0 0, .slice none 0 0, .int .i64 0, .int .i64 0] 37 (0, 0)) (by (with_reducible repeat (first|refine zA ?_ _|refine zC ?_|refine zB ?_ _)); exact BK174.out)) : gb174 ≠ gb180)); have n7_ := Aside0.mk ((by rw [hg]; exact Nat.ne_of_gt (blk_lt (g := gb174) (o := .cells #[.slice none 0 0, .int .i64 0, .slice none 0 0, .slice none 0 0, .int .i64 0, .int .i64 0, .slice none 0 0, .int .i64 0, .slice none 0 0, .int .i64 0, .slice none 0 0, .slice none 0 0, .int .i64 0, .int .i64 0] 37 (0, 0)) (by (with_reducible repeat (first|refine zA ?_ _|refine zC ?_|refine zB ?_ _)); exact BK174.out)) : gb180 ≠ gb174)); clear HO178; clear BK174; clear HB; have HO178 := n0_; have BK174 := n1_; have HB := n2_; have BK180 := n3_; have GW180 := n4_; have GE180 := n5_; have NB174_180 := n6_; have NB180_174 := n7_; clear n0_ n1_ n2_ n3_ n4_ n5_ n6_ n7_; clear hb hbox hg; have hnb13 := NB180_174.out; have hnc13 := NB174_180.out; obtain ⟨hcz14_0, hcz14_1, hcz14_2, hcz14_3, hcz14_4, hcz14_5, hcz14_6, hcz14_7, hcz14_8, hcz14_9, hcz14_10, hcz14_11, hcz14_12, hcz14_13, hfz14_0, hfz14_1, hfz14_2, hfz14_3, hfz14_4, hfz14_5, hfz14_6, hfz14_7, hfz14_8, hfz14_9, hfz14_10, hfz14_11, hfz14_12, hfz14_13⟩ := zb14 BK180.out)|((with_reducible refine gate_callee (f := 22) rfl ?_); refine goesL_ (some 21) rfl rfl Try.func22 (by kernel_rfl) rfl #[.int .i64 a0] rfl (by (try simp only [List.map_toArray, List.map_cons, List.map_nil]); first|done|rfl|(simp only [List.length_drop, List.length_take]; rfl)) ?_; (with_reducible refine (impl_ArenaNew.calls k1 a0 t181 t184 t185 _ A7.out).mono ?_); rintro e w15 ⟨v182, rfl, ho0, hb⟩; refine ⟨_, rfl, ?_⟩; have n0_ := Aside0.mk (zM (by (with_reducible repeat (first|apply zE|apply zD|apply zF)); exact (zR (zL (p := ⟨gb180, 13, none⟩) (zL (p := ⟨gb180, 12, none⟩) (zL (p := ⟨gb180, 11, none⟩) (zL (p := ⟨gb180, 10, none⟩) (zL (p := ⟨gb180, 9, none⟩) (zL (p := ⟨gb180, 8, none⟩) (zL (p := ⟨gb180, 7, none⟩) (zL (p := ⟨gb180, 6, none⟩) (zL (p := ⟨gb180, 5, none⟩) (zL (p := ⟨gb180, 4, none⟩) (zL (p := ⟨gb180, 3, none⟩) (zL (p := ⟨gb180, 2, none⟩) (zL (p := ⟨gb180, 1, none⟩) (zL (p := ⟨gb180, 0, none⟩) (zQ HO178.out BK180.out (by decide)) (fun _ hk => hk.2) (.slice none 0 0)) (fun _ hk => hk.2) (.int .i64 0)) (fun _ hk => hk.2) (.slice none 0 0)) (fun _ hk => hk.2) (.slice none 0 0)) (fun _ hk => hk.2) (.int .i64 0)) (fun _ hk => hk.2) (.int .i64 0)) (fun _ hk => hk.2) (.slice none 0 0)) (fun _ hk => hk.2) (.int .i64 0)) (fun _ hk => hk.2) (.slice none 0 0)) (fun _ hk => hk.2) (.int .i64 0)) (fun _ hk => hk.2) (.slice none 0 0)) (fun _ hk => hk.2) (.slice Ao11 t176.length co11)) (fun _ hk => hk.2) (.int .i64 t179)) (fun _ hk => hk.2) (.int .i64 0)) (fun _ h_ => h_.1))) hb); have n1_ := Aside0.mk (Kd.R_lower ho0 (below_size (by repeat (first|(with_reducible first|exact HB.out|apply zI|apply zG|apply zH|refine zJ ?_ GE174.out|refine zJ ?_ GE180.out)|exact HB.out)))); have n2_ := Aside0.mk (zK (g := gb174) (o := .cells #[.slice none 0 0, .int .i64 0, .slice none 0 0, .slice none 0 0, .int .i64 0, .int .i64 0, .slice none 0 0, .int .i64 0, .slice none 0 0, .int .i64 0, .slice none 0 0, .slice none 0 0, .int .i64 0, .int .i64 0] 37 (0, 0)) (by (with_reducible repeat (first|refine zA ?_ _|refine zC ?_|refine zB ?_ _)); refine zT ?_ NB174_180.out _; (with_reducible repeat (first|refine zA ?_ _|refine zC ?_|refine zB ?_ _)); refine zT ?_ NB174_180.out _; (with_reducible repeat (first|refine zA ?_ _|refine zC ?_|refine zB ?_ _)); refine zT ?_ NB174_180.out _; (with_reducible repeat (first|refine zA ?_ _|refine zC ?_|refine zB ?_ _)); refine zT ?_ NB174_180.out _; (with_reducible repeat (first|refine zA ?_ _|refine zC ?_|refine zB ?_ _)); refine zT ?_ NB174_180.out _; (with_reducible repeat (first|refine zA ?_ _|refine zC ?_|refine zB ?_ _)); refine zT ?_ NB174_180.out _; (with_reducible repeat (first|refine zA ?_ _|refine zC ?_|refine zB ?_ _)); refine zT ?_ NB174_180.out _; (with_reducible repeat (first|refine zA ?_ _|refine zC ?_|refine zB ?_ _)); refine zT ?_ NB174_180.out _; (with_reducible repeat (first|refine zA ?_ _|refine zC ?_|refine zB ?_ _)); refine zT ?_ NB174_180.out _; (with_reducible repeat (first|refine zA ?_ _|refine zC ?_|refine zB ?_ _)); refine zT ?_ NB174_180.out _; (with_reducible repeat (first|refine zA ?_ _|refine zC ?_|refine zB ?_ _)); refine zT ?_ NB174_180.out _; (with_reducible repeat (first|refine zA ?_ _|refine zC ?_|refine zB ?_ _)); refine zT ?_ NB174_180.out _; (with_reducible repeat (first|refine zA ?_ _|refine zC ?_|refine zB ?_ _)); refine zT ?_ NB174_180.out _; (with_reducible repeat (first|refine zA ?_ _|refine zC ?_|refine zB ?_ _)); refine zT ?_ NB174_180.out _; (with_reducible repeat (first|refine zA ?_ _|refine zC ?_|refine zB ?_ _)); exact BK174.out) hb); have n3_ := Aside0.mk (zK (g := gb180) (o := .cells #[.slice none 0 0, .int .i64 0, .slice none 0 0, .slice none 0 0, .int .i64 0, .int .i64 0, .slice none 0 0, .int .i64 0, .slice none 0 0, .int .i64 0, .slice none 0 0, .slice Ao11 t176.length co11, .int .i64 t179, .int .i64 0] 37 (0, 0)) (by (with_reducible repeat (first|refine zA ?_ _|refine zC ?_|refine zB ?_ _)); refine blk_put (cs := #[.slice none 0 0, .int .i64 0, .slice none 0 0, .slice none 0 0, .int .i64 0, .int .i64 0, .slice none 0 0, .int .i64 0, .slice none 0 0, .int .i64 0, .slice none 0 0, .slice Ao11 t176.length co11, .int .i64 t179, .int .i64 0]) ?_ 13 _ rfl; (with_reducible repeat (first|refine zA ?_ _|refine zC ?_|refine zB ?_ _)); refine blk_put (cs := #[.slice none 0 0, .int .i64 0, .slice none 0 0, .slice none 0 0, .int .i64 0, .int .i64 0, .slice none 0 0, .int .i64 0, .slice none 0 0, .int .i64 0, .slice none 0 0, .slice Ao11 t176.length co11, .int .i64 0, .int .i64 0]) ?_ 12 _ rfl; (with_reducible repeat (first|refine zA ?_ _|refine zC ?_|refine zB ?_ _)); refine blk_put (cs := #[.slice none 0 0, .int .i64 0, .slice none 0 0, .slice none 0 0, .int .i64 0, .int .i64 0, .slice none 0 0, .int .i64 0, .slice none 0 0, .int .i64 0, .slice none 0 0, .slice none 0 0, .int .i64 0, .int .i64 0]) ?_ 11 _ rfl; (with_reducible repeat (first|refine zA ?_ _|refine zC ?_|refine zB ?_ _)); refine blk_put (cs := #[.slice none 0 0, .int .i64 0, .slice none 0 0, .slice none 0 0, .int .i64 0, .int .i64 0, .slice none 0 0, .int .i64 0, .slice none 0 0, .int .i64 0, .slice none 0 0, .slice none 0 0, .int .i64 0, .int .i64 0]) ?_ 10 _ rfl; (with_reducible repeat (first|refine zA ?_ _|refine zC ?_|refine zB ?_ _)); refine blk_put (cs := #[.slice none 0 0, .int .i64 0, .slice none 0 0, .slice none 0 0, .int .i64 0, .int .i64 0, .slice none 0 0, .int .i64 0, .slice none 0 0, .int .i64 0, .slice none 0 0, .slice none 0 0, .int .i64 0, .int .i64 0]) ?_ 9 _ rfl; (with_reducible repeat (first|refine zA ?_ _|refine zC ?_|refine zB ?_ _)); refine blk_put (cs := #[.slice none 0 0, .int .i64 0, .slice none 0 0, .slice none 0 0, .int .i64 0, .int .i64 0, .slice none 0 0, .int .i64 0, .slice none 0 0, .int .i64 0, .slice none 0 0, .slice none 0 0, .int .i64 0, .int .i64 0]) ?_ 8 _ rfl; (with_reducible repeat (first|refine zA ?_ _|refine zC ?_|refine zB ?_ _)); refine blk_put (cs := #[.slice none 0 0, .int .i64 0, .slice none 0 0, .slice none 0 0, .int .i64 0, .int .i64 0, .slice none 0 0, .int .i64 0, .slice none 0 0, .int .i64 0, .slice none 0 0, .slice none 0 0, .int .i64 0, .int .i64 0]) ?_ 7 _ rfl; (with_reducible repeat (first|refine zA ?_ _|refine zC ?_|refine zB ?_ _)); refine blk_put (cs := #[.slice none 0 0, .int .i64 0, .slice none 0 0, .slice none 0 0, .int .i64 0, .int .i64 0, .slice none 0 0, .int .i64 0, .slice none 0 0, .int .i64 0, .slice none 0 0, .slice none 0 0, .int .i64 0, .int .i64 0]) ?_ 6 _ rfl; (with_reducible repeat (first|refine zA ?_ _|refine zC ?_|refine zB ?_ _)); refine blk_put (cs := #[.slice none 0 0, .int .i64 0, .slice none 0 0, .slice none 0 0, .int .i64 0, .int .i64 0, .slice none 0 0, .int .i64 0, .slice none 0 0, .int .i64 0, .slice none 0 0, .slice none 0 0, .int .i64 0, .int .i64 0]) ?_ 5 _ rfl; (with_reducible repeat (first|refine zA ?_ _|refine zC ?_|refine zB ?_ _)); refine blk_put (cs := #[.slice none 0 0, .int .i64 0, .slice none 0 0, .slice none 0 0, .int .i64 0, .int .i64 0, .slice none 0 0, .int .i64 0, .slice none 0 0, .int .i64 0, .slice none 0 0, .slice none 0 0, .int .i64 0, .int .i64 0]) ?_ 4 _ rfl; (with_reducible repeat (first|refine zA ?_ _|refine zC ?_|refine zB ?_ _)); refine blk_put (cs := #[.slice none 0 0, .int .i64 0, .slice none 0 0, .slice none 0 0, .int .i64 0, .int .i64 0, .slice none 0 0, .int .i64 0, .slice none 0 0, .int .i64 0, .slice none 0 0, .slice none 0 0, .int .i64 0, .int .i64 0]) ?_ 3 _ rfl; (with_reducible repeat (first|refine zA ?_ _|refine zC ?_|refine zB ?_ _)); refine blk_put (cs := #[.slice none 0 0, .int .i64 0, .slice none 0 0, .slice none 0 0, .int .i64 0, .int .i64 0, .slice none 0 0, .int .i64 0, .slice none 0 0, .int .i64 0, .slice none 0 0, .slice none 0 0, .int .i64 0, .int .i64 0]) ?_ 2 _ rfl; (with_reducible repeat (first|refine zA ?_ _|refine zC ?_|refine zB ?_ _)); refine blk_put (cs := #[.slice none 0 0, .int .i64 0, .slice none 0 0, .slice none 0 0, .int .i64 0, .int .i64 0, .slice none 0 0, .int .i64 0, .slice none 0 0, .int .i64 0, .slice none 0 0, .slice none 0 0, .int .i64 0, .int .i64 0]) ?_ 1 _ rfl; (with_reducible repeat (first|refine zA ?_ _|refine zC ?_|refine zB ?_ _)); refine blk_put (cs := #[.slice none 0 0, .int .i64 0, .slice none 0 0, .slice none 0 0, .int .i64 0, .int .i64 0, .slice none 0 0, .int .i64 0, .slice none 0 0, .int .i64 0, .slice none 0 0, .slice none 0 0, .int .i64 0, .int .i64 0]) ?_ 0 _ rfl; (with_reducible repeat (first|refine zA ?_ _|refine zC ?_|refine zB ?_ _)); exact BK180.out) hb); have n4_ := Aside0.mk (zN (by repeat (first|(with_reducible first|exact HB.out|apply zI|apply zG|apply zH|refine zJ ?_ GE174.out|refine zJ ?_ GE180.out)|exact HB.out)) hb); clear HO178; clear BK174; clear BK180; clear HB; have HO178 := n0_; have HO183 := n1_; have BK174 := n2_; have BK180 := n3_; have HB := n4_; clear n0_ n1_ n2_ n3_ n4_; (try clear hb); (try clear hb2); (try clear hk); (try clear hi); (try clear ho0); obtain ⟨Ao16, co16, eo16⟩ := Kd.R_slice HO183.out; subst eo16; obtain ⟨hcz17_0, hcz17_1, hcz17_2, hcz17_3, hcz17_4, hcz17_5, hcz17_6, hcz17_7, hcz17_8, hcz17_9, hcz17_10, hcz17_11, hcz17_12, hcz17_13, hfz17_0, hfz17_1, hfz17_2, hfz17_3, hfz17_4, hfz17_5, hfz17_6, hfz17_7, hfz17_8, hfz17_9, hfz17_10, hfz17_11, hfz17_12, hfz17_13⟩ := zb14 BK180.out)|((with_reducible refine gate_callee (f := 23) rfl ?_); refine goesL_ (some 27) rfl rfl Try.func23 (by kernel_rfl) rfl #[.int .i64 x4_1] rfl (by (try simp only [List.map_toArray, List.map_cons, List.map_nil]); first|done|rfl|(simp only [List.length_drop, List.length_take]; rfl)) ?_; (with_reducible refine (impl_TableNew.calls x4_1 t186 t189 t192 t193 _ A8.out).mono ?_); rintro e w18 ⟨v187, v190, rfl, ho0, ho1, hb⟩; refine ⟨_, rfl, ?_⟩; have n0_ := Aside0.mk (zM (by (with_reducible repeat (first|apply zE|apply zD|apply zF)); exact (zR (zL (p := ⟨gb180, 1, none⟩) (zL (p := ⟨gb180, 0, none⟩) (zQ HO178.out BK180.out (by decide)) (fun _ hk => hk.2) (.slice Ao16 t181.length co16)) (fun _ hk => hk.2) (.int .i64 t184)) (fun _ h_ => h_.1))) hb); have n1_ := Aside0.mk (zM (by (with_reducible repeat (first|apply zE|apply zD|apply zF)); exact (zR (zL (p := ⟨gb180, 1, none⟩) (zL (p := ⟨gb180, 0, none⟩) (zQ HO183.out BK180.out (by decide)) (fun _ hk => hk.2) (.slice Ao16 t181.length co16)) (fun _ hk => hk.2) (.int .i64 t184)) (fun _ h_ => h_.1))) hb); have n2_ := Aside0.mk (Kd.R_lower ho0 (below_size (by repeat (first|(with_reducible first|exact HB.out|apply zI|apply zG|apply zH|refine zJ ?_ GE174.out|refine zJ ?_ GE180.out)|exact HB.out)))); have n3_ := Aside0.mk (Kd.R_lower ho1 (below_size (by repeat (first|(with_reducible first|exact HB.out|apply zI|apply zG|apply zH|refine zJ ?_ GE174.out|refine zJ ?_ GE180.out)|exact HB.out)))); have n4_ := Aside0.mk (zK (g := gb174) (o := .cells #[.slice none 0 0, .int .i64 0, .slice none 0 0, .slice none 0 0, .int .i64 0, .int .i64 0, .slice none 0 0, .int .i64 0, .slice none 0 0, .int .i64 0, .slice none 0 0, .slice none 0 0, .int .i64 0, .int .i64 0] 37 (0, 0)) (by (with_reducible repeat (first|refine zA ?_ _|refine zC ?_|refine zB ?_ _)); refine zT ?_ NB174_180.out _; (with_reducible repeat (first|refine zA ?_ _|refine zC ?_|refine zB ?_ _)); refine zT ?_ NB174_180.out _; (with_reducible repeat (first|refine zA ?_ _|refine zC ?_|refine zB ?_ _)); exact BK174.out) hb); have n5_ := Aside0.mk (zK (g := gb180) (o := .cells #[.slice Ao16 t181.length co16, .int .i64 t184, .slice none 0 0, .slice none 0 0, .int .i64 0, .int .i64 0, .slice none 0 0, .int .i64 0, .slice none 0 0, .int .i64 0, .slice none 0 0, .slice Ao11 t176.length co11, .int .i64 t179, .int .i64 0] 37 (0, 0)) (by (with_reducible repeat (first|refine zA ?_ _|refine zC ?_|refine zB ?_ _)); refine blk_put (cs := #[.slice Ao16 t181.length co16, .int .i64 0, .slice none 0 0, .slice none 0 0, .int .i64 0, .int .i64 0, .slice none 0 0, .int .i64 0, .slice none 0 0, .int .i64 0, .slice none 0 0, .slice Ao11 t176.length co11, .int .i64 t179, .int .i64 0]) ?_ 1 _ rfl; (with_reducible repeat (first|refine zA ?_ _|refine zC ?_|refine zB ?_ _)); refine blk_put (cs := #[.slice none 0 0, .int .i64 0, .slice none 0 0, .slice none 0 0, .int .i64 0, .int .i64 0, .slice none 0 0, .int .i64 0, .slice none 0 0, .int .i64 0, .slice none 0 0, .slice Ao11 t176.length co11, .int .i64 t179, .int .i64 0]) ?_ 0 _ rfl; (with_reducible repeat (first|refine zA ?_ _|refine zC ?_|refine zB ?_ _)); exact BK180.out) hb); have n6_ := Aside0.mk (zN (by repeat (first|(with_reducible first|exact HB.out|apply zI|apply zG|apply zH|refine zJ ?_ GE174.out|refine zJ ?_ GE180.out)|exact HB.out)) hb); clear HO178; clear HO183; clear BK174; clear BK180; clear HB; have HO178 := n0_; have HO183 := n1_; have HO188 := n2_; have HO191 := n3_; have BK174 := n4_; have BK180 := n5_; have HB := n6_; clear n0_ n1_ n2_ n3_ n4_ n5_ n6_; (try clear hb); (try clear hb2); (try clear hk); (try clear hi); (try clear ho0); (try clear ho1); obtain ⟨Ao19, co19, eo19⟩ := Kd.R_slice HO188.out; subst eo19; obtain ⟨hcz20_0, hcz20_1, hcz20_2, hcz20_3, hcz20_4, hcz20_5, hcz20_6, hcz20_7, hcz20_8, hcz20_9, hcz20_10, hcz20_11, hcz20_12, hcz20_13, hfz20_0, hfz20_1, hfz20_2, hfz20_3, hfz20_4, hfz20_5, hfz20_6, hfz20_7, hfz20_8, hfz20_9, hfz20_10, hfz20_11, hfz20_12, hfz20_13⟩ := zb14 BK180.out; obtain ⟨Ao21, co21, eo21⟩ := Kd.R_slice HO191.out; subst eo21; obtain ⟨hcz22_0, hcz22_1, hcz22_2, hcz22_3, hcz22_4, hcz22_5, hcz22_6, hcz22_7, hcz22_8, hcz22_9, hcz22_10, hcz22_11, hcz22_12, hcz22_13, hfz22_0, hfz22_1, hfz22_2, hfz22_3, hfz22_4, hfz22_5, hfz22_6, hfz22_7, hfz22_8, hfz22_9, hfz22_10, hfz22_11, hfz22_12, hfz22_13⟩ := zb14 BK174.out))
          refine bodyPost_ret (results_ct rfl _ _ gb174 37 #[.slice Ao16 t181.length co16, .int .i64 t184, .slice Ao19 t186.length co19, .slice Ao21 t189.length co21, .int .i64 t192, .int .i64 ji9, .slice none 0 0, .int .i64 (wrap64 ((wrap64 (a0 - (ji9))) - (wrap64 (Int.tdiv (wrap64 (a0 - (ji9))) 2)))), .slice none 0 0, .int .i64 (wrap64 (Int.tdiv (wrap64 (a0 - (ji9))) 2)), .slice none 0 0, .slice Ao11 t176.length co11, .int .i64 t179, .int .i64 0] (0, 0) _ rfl (by (with_reducible repeat (first|refine zA ?_ _|refine zC ?_|refine zB ?_ _)); refine blk_put (cs := #[.slice Ao16 t181.length co16, .int .i64 t184, .slice Ao19 t186.length co19, .slice Ao21 t189.length co21, .int .i64 t192, .int .i64 ji9, .slice none 0 0, .int .i64 (wrap64 ((wrap64 (a0 - (ji9))) - (wrap64 (Int.tdiv (wrap64 (a0 - (ji9))) 2)))), .slice none 0 0, .int .i64 (wrap64 (Int.tdiv (wrap64 (a0 - (ji9))) 2)), .slice none 0 0, .slice Ao11 t176.length co11, .int .i64 t179, .int .i64 0]) ?_ 13 _ rfl; (with_reducible repeat (first|refine zA ?_ _|refine zC ?_|refine zB ?_ _)); refine blk_put (cs := #[.slice Ao16 t181.length co16, .int .i64 t184, .slice Ao19 t186.length co19, .slice Ao21 t189.length co21, .int .i64 t192, .int .i64 ji9, .slice none 0 0, .int .i64 (wrap64 ((wrap64 (a0 - (ji9))) - (wrap64 (Int.tdiv (wrap64 (a0 - (ji9))) 2)))), .slice none 0 0, .int .i64 (wrap64 (Int.tdiv (wrap64 (a0 - (ji9))) 2)), .slice none 0 0, .slice Ao11 t176.length co11, .int .i64 0, .int .i64 0]) ?_ 12 _ rfl; (with_reducible repeat (first|refine zA ?_ _|refine zC ?_|refine zB ?_ _)); refine blk_put (cs := #[.slice Ao16 t181.length co16, .int .i64 t184, .slice Ao19 t186.length co19, .slice Ao21 t189.length co21, .int .i64 t192, .int .i64 ji9, .slice none 0 0, .int .i64 (wrap64 ((wrap64 (a0 - (ji9))) - (wrap64 (Int.tdiv (wrap64 (a0 - (ji9))) 2)))), .slice none 0 0, .int .i64 (wrap64 (Int.tdiv (wrap64 (a0 - (ji9))) 2)), .slice none 0 0, .slice none 0 0, .int .i64 0, .int .i64 0]) ?_ 11 _ rfl; (with_reducible repeat (first|refine zA ?_ _|refine zC ?_|refine zB ?_ _)); refine blk_put (cs := #[.slice Ao16 t181.length co16, .int .i64 t184, .slice Ao19 t186.length co19, .slice Ao21 t189.length co21, .int .i64 t192, .int .i64 ji9, .slice none 0 0, .int .i64 (wrap64 ((wrap64 (a0 - (ji9))) - (wrap64 (Int.tdiv (wrap64 (a0 - (ji9))) 2)))), .slice none 0 0, .int .i64 (wrap64 (Int.tdiv (wrap64 (a0 - (ji9))) 2)), .slice none 0 0, .slice none 0 0, .int .i64 0, .int .i64 0]) ?_ 10 _ rfl; (with_reducible repeat (first|refine zA ?_ _|refine zC ?_|refine zB ?_ _)); refine blk_put (cs := #[.slice Ao16 t181.length co16, .int .i64 t184, .slice Ao19 t186.length co19, .slice Ao21 t189.length co21, .int .i64 t192, .int .i64 ji9, .slice none 0 0, .int .i64 (wrap64 ((wrap64 (a0 - (ji9))) - (wrap64 (Int.tdiv (wrap64 (a0 - (ji9))) 2)))), .slice none 0 0, .int .i64 0, .slice none 0 0, .slice none 0 0, .int .i64 0, .int .i64 0]) ?_ 9 _ rfl; (with_reducible repeat (first|refine zA ?_ _|refine zC ?_|refine zB ?_ _)); refine blk_put (cs := #[.slice Ao16 t181.length co16, .int .i64 t184, .slice Ao19 t186.length co19, .slice Ao21 t189.length co21, .int .i64 t192, .int .i64 ji9, .slice none 0 0, .int .i64 (wrap64 ((wrap64 (a0 - (ji9))) - (wrap64 (Int.tdiv (wrap64 (a0 - (ji9))) 2)))), .slice none 0 0, .int .i64 0, .slice none 0 0, .slice none 0 0, .int .i64 0, .int .i64 0]) ?_ 8 _ rfl; (with_reducible repeat (first|refine zA ?_ _|refine zC ?_|refine zB ?_ _)); refine blk_put (cs := #[.slice Ao16 t181.length co16, .int .i64 t184, .slice Ao19 t186.length co19, .slice Ao21 t189.length co21, .int .i64 t192, .int .i64 ji9, .slice none 0 0, .int .i64 0, .slice none 0 0, .int .i64 0, .slice none 0 0, .slice none 0 0, .int .i64 0, .int .i64 0]) ?_ 7 _ rfl; (with_reducible repeat (first|refine zA ?_ _|refine zC ?_|refine zB ?_ _)); refine blk_put (cs := #[.slice Ao16 t181.length co16, .int .i64 t184, .slice Ao19 t186.length co19, .slice Ao21 t189.length co21, .int .i64 t192, .int .i64 ji9, .slice none 0 0, .int .i64 0, .slice none 0 0, .int .i64 0, .slice none 0 0, .slice none 0 0, .int .i64 0, .int .i64 0]) ?_ 6 _ rfl; (with_reducible repeat (first|refine zA ?_ _|refine zC ?_|refine zB ?_ _)); refine blk_put (cs := #[.slice Ao16 t181.length co16, .int .i64 t184, .slice Ao19 t186.length co19, .slice Ao21 t189.length co21, .int .i64 t192, .int .i64 0, .slice none 0 0, .int .i64 0, .slice none 0 0, .int .i64 0, .slice none 0 0, .slice none 0 0, .int .i64 0, .int .i64 0]) ?_ 5 _ rfl; (with_reducible repeat (first|refine zA ?_ _|refine zC ?_|refine zB ?_ _)); refine blk_put (cs := #[.slice Ao16 t181.length co16, .int .i64 t184, .slice Ao19 t186.length co19, .slice Ao21 t189.length co21, .int .i64 0, .int .i64 0, .slice none 0 0, .int .i64 0, .slice none 0 0, .int .i64 0, .slice none 0 0, .slice none 0 0, .int .i64 0, .int .i64 0]) ?_ 4 _ rfl; (with_reducible repeat (first|refine zA ?_ _|refine zC ?_|refine zB ?_ _)); refine blk_put (cs := #[.slice Ao16 t181.length co16, .int .i64 t184, .slice Ao19 t186.length co19, .slice none 0 0, .int .i64 0, .int .i64 0, .slice none 0 0, .int .i64 0, .slice none 0 0, .int .i64 0, .slice none 0 0, .slice none 0 0, .int .i64 0, .int .i64 0]) ?_ 3 _ rfl; (with_reducible repeat (first|refine zA ?_ _|refine zC ?_|refine zB ?_ _)); refine blk_put (cs := #[.slice Ao16 t181.length co16, .int .i64 t184, .slice none 0 0, .slice none 0 0, .int .i64 0, .int .i64 0, .slice none 0 0, .int .i64 0, .slice none 0 0, .int .i64 0, .slice none 0 0, .slice none 0 0, .int .i64 0, .int .i64 0]) ?_ 2 _ rfl; (with_reducible repeat (first|refine zA ?_ _|refine zC ?_|refine zB ?_ _)); refine blk_put (cs := #[.slice Ao16 t181.length co16, .int .i64 0, .slice none 0 0, .slice none 0 0, .int .i64 0, .int .i64 0, .slice none 0 0, .int .i64 0, .slice none 0 0, .int .i64 0, .slice none 0 0, .slice none 0 0, .int .i64 0, .int .i64 0]) ?_ 1 _ rfl; (with_reducible repeat (first|refine zA ?_ _|refine zC ?_|refine zB ?_ _)); refine blk_put (cs := #[.slice none 0 0, .int .i64 0, .slice none 0 0, .slice none 0 0, .int .i64 0, .int .i64 0, .slice none 0 0, .int .i64 0, .slice none 0 0, .int .i64 0, .slice none 0 0, .slice none 0 0, .int .i64 0, .int .i64 0]) ?_ 0 _ rfl; (with_reducible repeat (first|refine zA ?_ _|refine zC ?_|refine zB ?_ _)); refine zT ?_ NB174_180.out _; (with_reducible repeat (first|refine zA ?_ _|refine zC ?_|refine zB ?_ _)); refine zT ?_ NB174_180.out _; (with_reducible repeat (first|refine zA ?_ _|refine zC ?_|refine zB ?_ _)); refine zT ?_ NB174_180.out _; (with_reducible repeat (first|refine zA ?_ _|refine zC ?_|refine zB ?_ _)); refine zT ?_ NB174_180.out _; (with_reducible repeat (first|refine zA ?_ _|refine zC ?_|refine zB ?_ _)); refine zT ?_ NB174_180.out _; (with_reducible repeat (first|refine zA ?_ _|refine zC ?_|refine zB ?_ _)); refine zT ?_ NB174_180.out _; (with_reducible repeat (first|refine zA ?_ _|refine zC ?_|refine zB ?_ _)); exact BK174.out) Try.underlying37 rfl (by kernel_rfl)) rfl ?_
          exact ⟨_, _, _, _, _, _, _, by first|rfl|(simp [errW_none, errW_some] <;> rfl)|(simp only [← hji9]; first|rfl|(simp [errW_none, errW_some] <;> rfl))|(simp [*, errW_none, errW_some] <;> rfl), by (with_reducible repeat (first|apply zE|apply zD|apply zF)); exact zR (zL (p := ⟨gb174, 13, none⟩) (zL (p := ⟨gb174, 12, none⟩) (zL (p := ⟨gb174, 11, none⟩) (zL (p := ⟨gb174, 10, none⟩) (zL (p := ⟨gb174, 9, none⟩) (zL (p := ⟨gb174, 8, none⟩) (zL (p := ⟨gb174, 7, none⟩) (zL (p := ⟨gb174, 6, none⟩) (zL (p := ⟨gb174, 5, none⟩) (zL (p := ⟨gb174, 4, none⟩) (zL (p := ⟨gb174, 3, none⟩) (zL (p := ⟨gb174, 2, none⟩) (zL (p := ⟨gb174, 1, none⟩) (zL (p := ⟨gb174, 0, none⟩) (zL (p := ⟨gb180, 7, none⟩) (zL (p := ⟨gb180, 9, none⟩) (zL (p := ⟨gb180, 5, none⟩) (zL (p := ⟨gb180, 4, none⟩) (zL (p := ⟨gb180, 3, none⟩) (zL (p := ⟨gb180, 2, none⟩) (zQ (zQ HO183.out BK180.out (by decide)) BK174.out (by decide)) (fun _ hk => hk.1.2) (.slice Ao19 t186.length co19)) (fun _ hk => hk.1.2) (.slice Ao21 t189.length co21)) (fun _ hk => hk.1.2) (.int .i64 t192)) (fun _ hk => hk.1.2) (.int .i64 ji9)) (fun _ hk => hk.1.2) (.int .i64 (wrap64 (Int.tdiv (wrap64 (a0 - (ji9))) 2)))) (fun _ hk => hk.1.2) (.int .i64 (wrap64 ((wrap64 (a0 - (ji9))) - (wrap64 (Int.tdiv (wrap64 (a0 - (ji9))) 2)))))) (fun _ hk => hk.2) (.slice Ao16 t181.length co16)) (fun _ hk => hk.2) (.int .i64 t184)) (fun _ hk => hk.2) (.slice Ao19 t186.length co19)) (fun _ hk => hk.2) (.slice Ao21 t189.length co21)) (fun _ hk => hk.2) (.int .i64 t192)) (fun _ hk => hk.2) (.int .i64 ji9)) (fun _ hk => hk.2) (.slice none 0 0)) (fun _ hk => hk.2) (.int .i64 (wrap64 ((wrap64 (a0 - (ji9))) - (wrap64 (Int.tdiv (wrap64 (a0 - (ji9))) 2)))))) (fun _ hk => hk.2) (.slice none 0 0)) (fun _ hk => hk.2) (.int .i64 (wrap64 (Int.tdiv (wrap64 (a0 - (ji9))) 2)))) (fun _ hk => hk.2) (.slice none 0 0)) (fun _ hk => hk.2) (.slice Ao11 t176.length co11)) (fun _ hk => hk.2) (.int .i64 t179)) (fun _ hk => hk.2) (.int .i64 0)) (fun _ hk => trivial), by (with_reducible repeat (first|apply zE|apply zD|apply zF)); exact zR (zL (p := ⟨gb174, 13, none⟩) (zL (p := ⟨gb174, 12, none⟩) (zL (p := ⟨gb174, 11, none⟩) (zL (p := ⟨gb174, 10, none⟩) (zL (p := ⟨gb174, 9, none⟩) (zL (p := ⟨gb174, 8, none⟩) (zL (p := ⟨gb174, 7, none⟩) (zL (p := ⟨gb174, 6, none⟩) (zL (p := ⟨gb174, 5, none⟩) (zL (p := ⟨gb174, 4, none⟩) (zL (p := ⟨gb174, 3, none⟩) (zL (p := ⟨gb174, 2, none⟩) (zL (p := ⟨gb174, 1, none⟩) (zL (p := ⟨gb174, 0, none⟩) (zL (p := ⟨gb180, 7, none⟩) (zL (p := ⟨gb180, 9, none⟩) (zL (p := ⟨gb180, 5, none⟩) (zL (p := ⟨gb180, 4, none⟩) (zL (p := ⟨gb180, 3, none⟩) (zL (p := ⟨gb180, 2, none⟩) (zQ (zQ HO188.out BK180.out (by decide)) BK174.out (by decide)) (fun _ hk => hk.1.2) (.slice Ao19 t186.length co19)) (fun _ hk => hk.1.2) (.slice Ao21 t189.length co21)) (fun _ hk => hk.1.2) (.int .i64 t192)) (fun _ hk => hk.1.2) (.int .i64 ji9)) (fun _ hk => hk.1.2) (.int .i64 (wrap64 (Int.tdiv (wrap64 (a0 - (ji9))) 2)))) (fun _ hk => hk.1.2) (.int .i64 (wrap64 ((wrap64 (a0 - (ji9))) - (wrap64 (Int.tdiv (wrap64 (a0 - (ji9))) 2)))))) (fun _ hk => hk.2) (.slice Ao16 t181.length co16)) (fun _ hk => hk.2) (.int .i64 t184)) (fun _ hk => hk.2) (.slice Ao19 t186.length co19)) (fun _ hk => hk.2) (.slice Ao21 t189.length co21)) (fun _ hk => hk.2) (.int .i64 t192)) (fun _ hk => hk.2) (.int .i64 ji9)) (fun _ hk => hk.2) (.slice none 0 0)) (fun _ hk => hk.2) (.int .i64 (wrap64 ((wrap64 (a0 - (ji9))) - (wrap64 (Int.tdiv (wrap64 (a0 - (ji9))) 2)))))) (fun _ hk => hk.2) (.slice none 0 0)) (fun _ hk => hk.2) (.int .i64 (wrap64 (Int.tdiv (wrap64 (a0 - (ji9))) 2)))) (fun _ hk => hk.2) (.slice none 0 0)) (fun _ hk => hk.2) (.slice Ao11 t176.length co11)) (fun _ hk => hk.2) (.int .i64 t179)) (fun _ hk => hk.2) (.int .i64 0)) (fun _ hk => hk.1.1), by (with_reducible repeat (first|apply zE|apply zD|apply zF)); exact zR (zL (p := ⟨gb174, 13, none⟩) (zL (p := ⟨gb174, 12, none⟩) (zL (p := ⟨gb174, 11, none⟩) (zL (p := ⟨gb174, 10, none⟩) (zL (p := ⟨gb174, 9, none⟩) (zL (p := ⟨gb174, 8, none⟩) (zL (p := ⟨gb174, 7, none⟩) (zL (p := ⟨gb174, 6, none⟩) (zL (p := ⟨gb174, 5, none⟩) (zL (p := ⟨gb174, 4, none⟩) (zL (p := ⟨gb174, 3, none⟩) (zL (p := ⟨gb174, 2, none⟩) (zL (p := ⟨gb174, 1, none⟩) (zL (p := ⟨gb174, 0, none⟩) (zL (p := ⟨gb180, 7, none⟩) (zL (p := ⟨gb180, 9, none⟩) (zL (p := ⟨gb180, 5, none⟩) (zL (p := ⟨gb180, 4, none⟩) (zL (p := ⟨gb180, 3, none⟩) (zL (p := ⟨gb180, 2, none⟩) (zQ (zQ HO191.out BK180.out (by decide)) BK174.out (by decide)) (fun _ hk => hk.1.2) (.slice Ao19 t186.length co19)) (fun _ hk => hk.1.2) (.slice Ao21 t189.length co21)) (fun _ hk => hk.1.2) (.int .i64 t192)) (fun _ hk => hk.1.2) (.int .i64 ji9)) (fun _ hk => hk.1.2) (.int .i64 (wrap64 (Int.tdiv (wrap64 (a0 - (ji9))) 2)))) (fun _ hk => hk.1.2) (.int .i64 (wrap64 ((wrap64 (a0 - (ji9))) - (wrap64 (Int.tdiv (wrap64 (a0 - (ji9))) 2)))))) (fun _ hk => hk.2) (.slice Ao16 t181.length co16)) (fun _ hk => hk.2) (.int .i64 t184)) (fun _ hk => hk.2) (.slice Ao19 t186.length co19)) (fun _ hk => hk.2) (.slice Ao21 t189.length co21)) (fun _ hk => hk.2) (.int .i64 t192)) (fun _ hk => hk.2) (.int .i64 ji9)) (fun _ hk => hk.2) (.slice none 0 0)) (fun _ hk => hk.2) (.int .i64 (wrap64 ((wrap64 (a0 - (ji9))) - (wrap64 (Int.tdiv (wrap64 (a0 - (ji9))) 2)))))) (fun _ hk => hk.2) (.slice none 0 0)) (fun _ hk => hk.2) (.int .i64 (wrap64 (Int.tdiv (wrap64 (a0 - (ji9))) 2)))) (fun _ hk => hk.2) (.slice none 0 0)) (fun _ hk => hk.2) (.slice Ao11 t176.length co11)) (fun _ hk => hk.2) (.int .i64 t179)) (fun _ hk => hk.2) (.int .i64 0)) (fun _ hk => hk.1.1), by first|exact Kd.R_nil _ _ _ _ _|exact Kd.N_nil _ _ _ _ _|exact Kd.V_nil _ _ _ _ _|exact Kd.Q_nil _ _ _ _ _|exact Kd.S_nil _ _ _ _ _, by first|exact Kd.R_nil _ _ _ _ _|exact Kd.N_nil _ _ _ _ _|exact Kd.V_nil _ _ _ _ _|exact Kd.Q_nil _ _ _ _ _|exact Kd.S_nil _ _ _ _ _, by first|exact Kd.R_nil _ _ _ _ _|exact Kd.N_nil _ _ _ _ _|exact Kd.V_nil _ _ _ _ _|exact Kd.Q_nil _ _ _ _ _|exact Kd.S_nil _ _ _ _ _, by (with_reducible repeat (first|apply zE|apply zD|apply zF)); exact zR (zL (p := ⟨gb174, 13, none⟩) (zL (p := ⟨gb174, 12, none⟩) (zL (p := ⟨gb174, 11, none⟩) (zL (p := ⟨gb174, 10, none⟩) (zL (p := ⟨gb174, 9, none⟩) (zL (p := ⟨gb174, 8, none⟩) (zL (p := ⟨gb174, 7, none⟩) (zL (p := ⟨gb174, 6, none⟩) (zL (p := ⟨gb174, 5, none⟩) (zL (p := ⟨gb174, 4, none⟩) (zL (p := ⟨gb174, 3, none⟩) (zL (p := ⟨gb174, 2, none⟩) (zL (p := ⟨gb174, 1, none⟩) (zL (p := ⟨gb174, 0, none⟩) (zL (p := ⟨gb180, 7, none⟩) (zL (p := ⟨gb180, 9, none⟩) (zL (p := ⟨gb180, 5, none⟩) (zL (p := ⟨gb180, 4, none⟩) (zL (p := ⟨gb180, 3, none⟩) (zL (p := ⟨gb180, 2, none⟩) (zQ (zQ HO178.out BK180.out (by decide)) BK174.out (by decide)) (fun _ hk => hk.1.2) (.slice Ao19 t186.length co19)) (fun _ hk => hk.1.2) (.slice Ao21 t189.length co21)) (fun _ hk => hk.1.2) (.int .i64 t192)) (fun _ hk => hk.1.2) (.int .i64 ji9)) (fun _ hk => hk.1.2) (.int .i64 (wrap64 (Int.tdiv (wrap64 (a0 - (ji9))) 2)))) (fun _ hk => hk.1.2) (.int .i64 (wrap64 ((wrap64 (a0 - (ji9))) - (wrap64 (Int.tdiv (wrap64 (a0 - (ji9))) 2)))))) (fun _ hk => hk.2) (.slice Ao16 t181.length co16)) (fun _ hk => hk.2) (.int .i64 t184)) (fun _ hk => hk.2) (.slice Ao19 t186.length co19)) (fun _ hk => hk.2) (.slice Ao21 t189.length co21)) (fun _ hk => hk.2) (.int .i64 t192)) (fun _ hk => hk.2) (.int .i64 ji9)) (fun _ hk => hk.2) (.slice none 0 0)) (fun _ hk => hk.2) (.int .i64 (wrap64 ((wrap64 (a0 - (ji9))) - (wrap64 (Int.tdiv (wrap64 (a0 - (ji9))) 2)))))) (fun _ hk => hk.2) (.slice none 0 0)) (fun _ hk => hk.2) (.int .i64 (wrap64 (Int.tdiv (wrap64 (a0 - (ji9))) 2)))) (fun _ hk => hk.2) (.slice none 0 0)) (fun _ hk => hk.2) (.slice Ao11 t176.length co11)) (fun _ hk => hk.2) (.int .i64 t179)) (fun _ hk => hk.2) (.int .i64 0)) (fun _ hk => trivial), by repeat (first|(with_reducible first|exact HB.out|apply zI|apply zG|apply zH|refine zJ ?_ GE174.out|refine zJ ?_ GE180.out)|exact HB.out)⟩
  · replace c3 := Bool.eq_false_iff.mpr c3
    subst c3
    have H1 : (some (([] : List (S73)), 0, ([] : List (S103)), ([] : List (S103)), 0, 0, ([] : List ByteArray), 0, ([] : List ByteArray), 0, ([] : List ByteArray), ([] : List Int), 0, 0, false)) = some (r1, r2, r3, r4, r5, r6, r7, r8, r9, r10, r11, r12, r13, r14, r15) := by rw [if_neg (show ¬ (false = true) by decide)] at H; exact H
    clear H
    have H := H1
    clear H1
    simp only [Option.some.injEq, Prod.mk.injEq] at H
    obtain ⟨rfl, rfl, rfl, rfl, rfl, rfl, rfl, rfl, rfl, rfl, rfl, rfl, rfl, rfl, rfl⟩ := H
    go_enter Try.func6, Try.ntmps6
    go_wp2_with (first|((with_reducible refine gate_dst (N := 2) rfl ?_); refine box_event ?hg (N := 2) ?hd (cs := #[.slice none 0 0, .int .i64 0, .slice none 0 0, .slice none 0 0, .int .i64 0, .int .i64 0, .slice none 0 0, .int .i64 0, .slice none 0 0, .int .i64 0, .slice none 0 0, .slice none 0 0, .int .i64 0, .int .i64 0]) (t := 37) ?hr ?_; (case hd => rfl); (case hg => rfl); (case hr => first|(go_simp; done)|(go_simp; rfl)); intro gb174 hg w23 hbox hb; have n0_ := Aside0.mk (zN (by repeat (first|(with_reducible first|exact HB.out|apply zI|apply zG|apply zH)|exact HB.out)) hb); have n1_ := Aside0.mk (hbox); have n2_ := Aside0.mk ((by rw [hg]; exact (below_size (by repeat (first|(with_reducible first|exact HB.out|apply zI|apply zG|apply zH)|exact HB.out))) : w.heap.size ≤ gb174)); have n3_ := Aside0.mk ((by rw [hg]; exact (below_size (by repeat (first|(with_reducible first|exact HB.out|apply zI|apply zG|apply zH)|exact HB.out))) : w.heap.size ≤ gb174)); clear HB; have HB := n0_; have BK174 := n1_; have GW174 := n2_; have GE174 := n3_; clear n0_ n1_ n2_ n3_; clear hb hbox hg)|((with_reducible refine gate_callee (f := 20) rfl ?_); refine goesL_ (some 8) rfl rfl Try.func20 (by kernel_rfl) rfl #[.int .i64 a0, .int .i64 2, .int .i64 24] rfl (by (try simp only [List.map_toArray, List.map_cons, List.map_nil]); first|done|rfl|(simp only [List.length_drop, List.length_take]; rfl)) ?_; (with_reducible refine (impl_inRange.calls a0 2 24 false _ A2.out).mono ?_); rintro e w' ⟨rfl, ⟨nd, rfl⟩⟩; refine ⟨_, rfl, ?_⟩; (try (rw [drewN_self w23]; generalize hq_ : World.drewN w23 _ = w23; have n0_ : Aside0 (w23.heap[gb174]? = some (.cells #[.slice none 0 0, .int .i64 0, .slice none 0 0, .slice none 0 0, .int .i64 0, .int .i64 0, .slice none 0 0, .int .i64 0, .slice none 0 0, .int .i64 0, .slice none 0 0, .slice none 0 0, .int .i64 0, .int .i64 0] 37 (0, 0))) := ⟨by rw [← hq_]; exact (by (with_reducible repeat (first|refine zA ?_ _|refine zC ?_|refine zB ?_ _)); exact BK174.out)⟩; have n1_ : Aside0 (Below w.heap.size w w23) := ⟨by rw [← hq_]; exact (by repeat (first|(with_reducible first|exact HB.out|apply zI|apply zG|apply zH|refine zJ ?_ GE174.out)|exact HB.out))⟩; clear BK174 HB hq_; have BK174 := n0_; have HB := n1_; clear n0_ n1_)); obtain ⟨hcz24_0, hcz24_1, hcz24_2, hcz24_3, hcz24_4, hcz24_5, hcz24_6, hcz24_7, hcz24_8, hcz24_9, hcz24_10, hcz24_11, hcz24_12, hcz24_13, hfz24_0, hfz24_1, hfz24_2, hfz24_3, hfz24_4, hfz24_5, hfz24_6, hfz24_7, hfz24_8, hfz24_9, hfz24_10, hfz24_11, hfz24_12, hfz24_13⟩ := zb14 BK174.out))
    refine bodyPost_ret (results_ct rfl _ _ gb174 37 #[.slice none 0 0, .int .i64 0, .slice none 0 0, .slice none 0 0, .int .i64 0, .int .i64 0, .slice none 0 0, .int .i64 0, .slice none 0 0, .int .i64 0, .slice none 0 0, .slice none 0 0, .int .i64 0, .int .i64 0] (0, 0) _ rfl (by (with_reducible repeat (first|refine zA ?_ _|refine zC ?_|refine zB ?_ _)); refine blk_put (cs := #[.slice none 0 0, .int .i64 0, .slice none 0 0, .slice none 0 0, .int .i64 0, .int .i64 0, .slice none 0 0, .int .i64 0, .slice none 0 0, .int .i64 0, .slice none 0 0, .slice none 0 0, .int .i64 0, .int .i64 0]) ?_ 13 _ rfl; (with_reducible repeat (first|refine zA ?_ _|refine zC ?_|refine zB ?_ _)); refine blk_put (cs := #[.slice none 0 0, .int .i64 0, .slice none 0 0, .slice none 0 0, .int .i64 0, .int .i64 0, .slice none 0 0, .int .i64 0, .slice none 0 0, .int .i64 0, .slice none 0 0, .slice none 0 0, .int .i64 0, .int .i64 0]) ?_ 12 _ rfl; (with_reducible repeat (first|refine zA ?_ _|refine zC ?_|refine zB ?_ _)); refine blk_put (cs := #[.slice none 0 0, .int .i64 0, .slice none 0 0, .slice none 0 0, .int .i64 0, .int .i64 0, .slice none 0 0, .int .i64 0, .slice none 0 0, .int .i64 0, .slice none 0 0, .slice none 0 0, .int .i64 0, .int .i64 0]) ?_ 11 _ rfl; (with_reducible repeat (first|refine zA ?_ _|refine zC ?_|refine zB ?_ _)); refine blk_put (cs := #[.slice none 0 0, .int .i64 0, .slice none 0 0, .slice none 0 0, .int .i64 0, .int .i64 0, .slice none 0 0, .int .i64 0, .slice none 0 0, .int .i64 0, .slice none 0 0, .slice none 0 0, .int .i64 0, .int .i64 0]) ?_ 10 _ rfl; (with_reducible repeat (first|refine zA ?_ _|refine zC ?_|refine zB ?_ _)); refine blk_put (cs := #[.slice none 0 0, .int .i64 0, .slice none 0 0, .slice none 0 0, .int .i64 0, .int .i64 0, .slice none 0 0, .int .i64 0, .slice none 0 0, .int .i64 0, .slice none 0 0, .slice none 0 0, .int .i64 0, .int .i64 0]) ?_ 9 _ rfl; (with_reducible repeat (first|refine zA ?_ _|refine zC ?_|refine zB ?_ _)); refine blk_put (cs := #[.slice none 0 0, .int .i64 0, .slice none 0 0, .slice none 0 0, .int .i64 0, .int .i64 0, .slice none 0 0, .int .i64 0, .slice none 0 0, .int .i64 0, .slice none 0 0, .slice none 0 0, .int .i64 0, .int .i64 0]) ?_ 8 _ rfl; (with_reducible repeat (first|refine zA ?_ _|refine zC ?_|refine zB ?_ _)); refine blk_put (cs := #[.slice none 0 0, .int .i64 0, .slice none 0 0, .slice none 0 0, .int .i64 0, .int .i64 0, .slice none 0 0, .int .i64 0, .slice none 0 0, .int .i64 0, .slice none 0 0, .slice none 0 0, .int .i64 0, .int .i64 0]) ?_ 7 _ rfl; (with_reducible repeat (first|refine zA ?_ _|refine zC ?_|refine zB ?_ _)); refine blk_put (cs := #[.slice none 0 0, .int .i64 0, .slice none 0 0, .slice none 0 0, .int .i64 0, .int .i64 0, .slice none 0 0, .int .i64 0, .slice none 0 0, .int .i64 0, .slice none 0 0, .slice none 0 0, .int .i64 0, .int .i64 0]) ?_ 6 _ rfl; (with_reducible repeat (first|refine zA ?_ _|refine zC ?_|refine zB ?_ _)); refine blk_put (cs := #[.slice none 0 0, .int .i64 0, .slice none 0 0, .slice none 0 0, .int .i64 0, .int .i64 0, .slice none 0 0, .int .i64 0, .slice none 0 0, .int .i64 0, .slice none 0 0, .slice none 0 0, .int .i64 0, .int .i64 0]) ?_ 5 _ rfl; (with_reducible repeat (first|refine zA ?_ _|refine zC ?_|refine zB ?_ _)); refine blk_put (cs := #[.slice none 0 0, .int .i64 0, .slice none 0 0, .slice none 0 0, .int .i64 0, .int .i64 0, .slice none 0 0, .int .i64 0, .slice none 0 0, .int .i64 0, .slice none 0 0, .slice none 0 0, .int .i64 0, .int .i64 0]) ?_ 4 _ rfl; (with_reducible repeat (first|refine zA ?_ _|refine zC ?_|refine zB ?_ _)); refine blk_put (cs := #[.slice none 0 0, .int .i64 0, .slice none 0 0, .slice none 0 0, .int .i64 0, .int .i64 0, .slice none 0 0, .int .i64 0, .slice none 0 0, .int .i64 0, .slice none 0 0, .slice none 0 0, .int .i64 0, .int .i64 0]) ?_ 3 _ rfl; (with_reducible repeat (first|refine zA ?_ _|refine zC ?_|refine zB ?_ _)); refine blk_put (cs := #[.slice none 0 0, .int .i64 0, .slice none 0 0, .slice none 0 0, .int .i64 0, .int .i64 0, .slice none 0 0, .int .i64 0, .slice none 0 0, .int .i64 0, .slice none 0 0, .slice none 0 0, .int .i64 0, .int .i64 0]) ?_ 2 _ rfl; (with_reducible repeat (first|refine zA ?_ _|refine zC ?_|refine zB ?_ _)); refine blk_put (cs := #[.slice none 0 0, .int .i64 0, .slice none 0 0, .slice none 0 0, .int .i64 0, .int .i64 0, .slice none 0 0, .int .i64 0, .slice none 0 0, .int .i64 0, .slice none 0 0, .slice none 0 0, .int .i64 0, .int .i64 0]) ?_ 1 _ rfl; (with_reducible repeat (first|refine zA ?_ _|refine zC ?_|refine zB ?_ _)); refine blk_put (cs := #[.slice none 0 0, .int .i64 0, .slice none 0 0, .slice none 0 0, .int .i64 0, .int .i64 0, .slice none 0 0, .int .i64 0, .slice none 0 0, .int .i64 0, .slice none 0 0, .slice none 0 0, .int .i64 0, .int .i64 0]) ?_ 0 _ rfl; (with_reducible repeat (first|refine zA ?_ _|refine zC ?_|refine zB ?_ _)); exact BK174.out) Try.underlying37 rfl (by kernel_rfl)) rfl ?_
    exact ⟨_, _, _, _, _, _, _, by first|rfl|(simp [errW_none, errW_some] <;> rfl)|(simp [*, errW_none, errW_some] <;> rfl), by first|exact Kd.R_nil _ _ _ _ _|exact Kd.N_nil _ _ _ _ _|exact Kd.V_nil _ _ _ _ _|exact Kd.Q_nil _ _ _ _ _|exact Kd.S_nil _ _ _ _ _, by first|exact Kd.R_nil _ _ _ _ _|exact Kd.N_nil _ _ _ _ _|exact Kd.V_nil _ _ _ _ _|exact Kd.Q_nil _ _ _ _ _|exact Kd.S_nil _ _ _ _ _, by first|exact Kd.R_nil _ _ _ _ _|exact Kd.N_nil _ _ _ _ _|exact Kd.V_nil _ _ _ _ _|exact Kd.Q_nil _ _ _ _ _|exact Kd.S_nil _ _ _ _ _, by first|exact Kd.R_nil _ _ _ _ _|exact Kd.N_nil _ _ _ _ _|exact Kd.V_nil _ _ _ _ _|exact Kd.Q_nil _ _ _ _ _|exact Kd.S_nil _ _ _ _ _, by first|exact Kd.R_nil _ _ _ _ _|exact Kd.N_nil _ _ _ _ _|exact Kd.V_nil _ _ _ _ _|exact Kd.Q_nil _ _ _ _ _|exact Kd.S_nil _ _ _ _ _, by first|exact Kd.R_nil _ _ _ _ _|exact Kd.N_nil _ _ _ _ _|exact Kd.V_nil _ _ _ _ _|exact Kd.Q_nil _ _ _ _ _|exact Kd.S_nil _ _ _ _ _, by first|exact Kd.R_nil _ _ _ _ _|exact Kd.N_nil _ _ _ _ _|exact Kd.V_nil _ _ _ _ _|exact Kd.Q_nil _ _ _ _ _|exact Kd.S_nil _ _ _ _ _, by repeat (first|(with_reducible first|exact HB.out|apply zI|apply zG|apply zH|refine zJ ?_ GE174.out)|exact HB.out)⟩

/-! ### laws_eqSlot: function 79 -/
def laws_eqSlot.f (a0_0 : Int) (a0_1 : Bool) (a0_2 : ByteArray) (a0_3 : ByteArray) (a0_4 : Int) (a1_0 : Int) (a1_1 : Bool) (a1_2 : ByteArray) (a1_3 : ByteArray) (a1_4 : Int) : Option (Bool) := if a0_0 = a1_0 then (if (a0_1 != a1_1) = true then (some false) else (if a0_2.toList = a1_2.toList then (if a0_3.toList = a1_3.toList then (if a0_4 = a1_4 then (some true) else (some false)) else (some false)) else (some false))) else (some false)
set_option maxHeartbeats 8000000 in
set_option maxRecDepth 100000 in
theorem laws_eqSlot.calls (a0_0 : Int) (a0_1 : Bool) (a0_2 : ByteArray) (a0_3 : ByteArray) (a0_4 : Int) (a1_0 : Int) (a1_1 : Bool) (a1_2 : ByteArray) (a1_3 : ByteArray) (a1_4 : Int) (r : Bool) (w : World) (h : laws_eqSlot.f a0_0 a0_1 a0_2 a0_3 a0_4 a1_0 a1_1 a1_2 a1_3 a1_4 = some r) (HT0_ : r = true) :
    Calls Try.prog 79 #[.agg #[.int .i64 a0_0, .bool a0_1, .string a0_2, .string a0_3, .int .i64 a0_4], .agg #[.int .i64 a1_0, .bool a1_1, .string a1_2, .string a1_3, .int .i64 a1_4]] w fun e w' => e = .returned (.bool r) ∧ Below w.heap.size w w' := by
  have HT_ := Aside0.mk HT0_
  clear HT0_
  have hu73 := Try.underlying73
  have HB := Aside0.mk (Below.refl w.heap.size w)
  have H : (if a0_0 = a1_0 then (if (a0_1 != a1_1) = true then (some false) else (if a0_2.toList = a1_2.toList then (if a0_3.toList = a1_3.toList then (if a0_4 = a1_4 then (some true) else (some false)) else (some false)) else (some false))) else (some false)) = some r := h
  clear h
  by_cases c3 : a0_0 = a1_0
  · rw [if_pos c3] at H
    have c3b0 : (a0_0 == a1_0) = true := beq_iff_eq.mpr c3
    have c3b1 : (a0_0 != a1_0) = false := bne_eq_false_iff_eq.mpr c3
    clear c3
    by_cases c4 : (a0_1 != a1_1) = true
    · rw [if_pos c4] at H
      have c4b0 : (a0_1 != a1_1) = true := c4
      (try (have c4b1 : decide (a0_1 = a1_1) = false := by simpa using c4))
      (try (have c4b2 : (a0_1 == a1_1) = false := by simpa using c4))
      (try (have c4b3 : ¬ (a0_1 = a1_1) := by simpa using c4))
      clear c4
      exact absurd ((Option.some.inj H).trans HT_.out) (by simp)
    · rw [if_neg c4] at H
      have c4b0 : (a0_1 != a1_1) = false := by simpa using c4
      (try (have c4b1 : decide (a0_1 = a1_1) = true := by simpa using c4))
      (try (have c4b2 : (a0_1 == a1_1) = true := by simpa using c4))
      clear c4
      by_cases c10 : a0_2.toList = a1_2.toList
      · rw [if_pos c10] at H
        have c10b0 : (a0_2.toList == a1_2.toList) = true := beq_iff_eq.mpr c10
        have c10b1 : (a0_2.toList != a1_2.toList) = false := bne_eq_false_iff_eq.mpr c10
        clear c10
        by_cases c11 : a0_3.toList = a1_3.toList
        · rw [if_pos c11] at H
          have c11b0 : (a0_3.toList == a1_3.toList) = true := beq_iff_eq.mpr c11
          have c11b1 : (a0_3.toList != a1_3.toList) = false := bne_eq_false_iff_eq.mpr c11
          clear c11
          by_cases c12 : a0_4 = a1_4
          · rw [if_pos c12] at H
            have c12b0 : (a0_4 == a1_4) = true := beq_iff_eq.mpr c12
            have c12b1 : (a0_4 != a1_4) = false := bne_eq_false_iff_eq.mpr c12
            clear c12
            obtain rfl := Option.some.inj H
            go_enter Try.func79, Try.ntmps79
            go_wp2_with (first|((with_reducible refine gate_dst (N := 2) rfl ?_); refine box_event ?hg (N := 2) ?hd (cs := #[.int .i64 a0_0, .bool a0_1, .string a0_2, .string a0_3, .int .i64 a0_4]) (t := 73) ?hr ?_; (case hd => rfl); (case hg => rfl); (case hr => first|(go_simp; done)|(go_simp; rfl)); intro gb194 hg w13 hbox hb; have n0_ := Aside0.mk (zN (by repeat (first|(with_reducible first|exact HB.out|apply zI|apply zG|apply zH)|exact HB.out)) hb); have n1_ := Aside0.mk (hbox); have n2_ := Aside0.mk ((by rw [hg]; exact (below_size (by repeat (first|(with_reducible first|exact HB.out|apply zI|apply zG|apply zH)|exact HB.out))) : w.heap.size ≤ gb194)); have n3_ := Aside0.mk ((by rw [hg]; exact (below_size (by repeat (first|(with_reducible first|exact HB.out|apply zI|apply zG|apply zH)|exact HB.out))) : w.heap.size ≤ gb194)); clear HB; have HB := n0_; have BK194 := n1_; have GW194 := n2_; have GE194 := n3_; clear n0_ n1_ n2_ n3_; clear hb hbox hg)|((with_reducible refine gate_dst (N := 3) rfl ?_); refine box_event ?hg (N := 3) ?hd (cs := #[.int .i64 a1_0, .bool a1_1, .string a1_2, .string a1_3, .int .i64 a1_4]) (t := 73) ?hr ?_; (case hd => rfl); (case hg => rfl); (case hr => first|(go_simp; done)|(go_simp; rfl)); intro gb195 hg w14 hbox hb; have n0_ := Aside0.mk (zK (g := gb194) (o := .cells #[.int .i64 a0_0, .bool a0_1, .string a0_2, .string a0_3, .int .i64 a0_4] 73 (0, 0)) (by (with_reducible repeat (first|refine zA ?_ _|refine zC ?_|refine zB ?_ _)); exact BK194.out) hb); have n1_ := Aside0.mk (zN (by repeat (first|(with_reducible first|exact HB.out|apply zI|apply zG|apply zH|refine zJ ?_ GE194.out)|exact HB.out)) hb); have n2_ := Aside0.mk (hbox); have n3_ := Aside0.mk ((by rw [hg]; exact (below_size (by repeat (first|(with_reducible first|exact HB.out|apply zI|apply zG|apply zH|refine zJ ?_ GE194.out)|exact HB.out))) : w.heap.size ≤ gb195)); have n4_ := Aside0.mk ((by rw [hg]; exact (below_size (by repeat (first|(with_reducible first|exact HB.out|apply zI|apply zG|apply zH|refine zJ ?_ GE194.out)|exact HB.out))) : w.heap.size ≤ gb195)); have n5_ := Aside0.mk ((by rw [hg]; exact Nat.ne_of_lt (blk_lt (g := gb194) (o := .cells #[.int .i64 a0_0, .bool a0_1, .string a0_2, .string a0_3, .int .i64 a0_4] 73 (0, 0)) (by (with_reducible repeat (first|refine zA ?_ _|refine zC ?_|refine zB ?_ _)); exact BK194.out)) : gb194 ≠ gb195)); have n6_ := Aside0.mk ((by rw [hg]; exact Nat.ne_of_gt (blk_lt (g := gb194) (o := .cells #[.int .i64 a0_0, .bool a0_1, .string a0_2, .string a0_3, .int .i64 a0_4] 73 (0, 0)) (by (with_reducible repeat (first|refine zA ?_ _|refine zC ?_|refine zB ?_ _)); exact BK194.out)) : gb195 ≠ gb194)); clear BK194; clear HB; have BK194 := n0_; have HB := n1_; have BK195 := n2_; have GW195 := n3_; have GE195 := n4_; have NB194_195 := n5_; have NB195_194 := n6_; clear n0_ n1_ n2_ n3_ n4_ n5_ n6_; clear hb hbox hg; have hnb15 := NB194_195.out; have hnc15 := NB195_194.out; obtain ⟨hcz16_0, hcz16_1, hcz16_2, hcz16_3, hcz16_4, hfz16_0, hfz16_1, hfz16_2, hfz16_3, hfz16_4⟩ := zb5 BK194.out; obtain ⟨hcz17_0, hcz17_1, hcz17_2, hcz17_3, hcz17_4, hfz17_0, hfz17_1, hfz17_2, hfz17_3, hfz17_4⟩ := zb5 BK195.out))
            go_ret
            exact ⟨by first|rfl|(simp [errW_none, errW_some] <;> rfl)|(simp [*, errW_none, errW_some] <;> rfl), by repeat (first|(with_reducible first|exact HB.out|apply zI|apply zG|apply zH|refine zJ ?_ GE194.out|refine zJ ?_ GE195.out)|exact HB.out)⟩
          · rw [if_neg c12] at H
            have c12b0 : (a0_4 == a1_4) = false := beq_eq_false_iff_ne.mpr c12
            have c12b1 : (a0_4 != a1_4) = true := bne_iff_ne.mpr c12
            exact absurd ((Option.some.inj H).trans HT_.out) (by simp)
        · rw [if_neg c11] at H
          have c11b0 : (a0_3.toList == a1_3.toList) = false := beq_eq_false_iff_ne.mpr c11
          have c11b1 : (a0_3.toList != a1_3.toList) = true := bne_iff_ne.mpr c11
          exact absurd ((Option.some.inj H).trans HT_.out) (by simp)
      · rw [if_neg c10] at H
        have c10b0 : (a0_2.toList == a1_2.toList) = false := beq_eq_false_iff_ne.mpr c10
        have c10b1 : (a0_2.toList != a1_2.toList) = true := bne_iff_ne.mpr c10
        exact absurd ((Option.some.inj H).trans HT_.out) (by simp)
  · rw [if_neg c3] at H
    have c3b0 : (a0_0 == a1_0) = false := beq_eq_false_iff_ne.mpr c3
    have c3b1 : (a0_0 != a1_0) = true := bne_iff_ne.mpr c3
    exact absurd ((Option.some.inj H).trans HT_.out) (by simp)
end Go.Proofs.Ytediiolcoilepaa.GFnExactNearNew
