/- Walks of the functions that the law reaches: by programs of this session, over a tool's print. -/
import Derived.Test.YtediiolcoilepaaGFnExactNearNewx0
namespace Go.Proofs.Ytediiolcoilepaa.GFnExactNearNew
open Go.RowKit Go.Proofs.YtediiolcoilepaaW.PrintWords Go.Proofs.YtediiolcoilepaaW.PrintLast Go.Proofs.YtediiolcoilepaaW.PrintMore
attribute [local go_sem] max2_int min2_int max_two min_two max_three min_three max_four min_four   -- for this text's walks alone
set_option linter.unusedVariables false
set_option linter.unusedSimpArgs false

/-! ### spec_l01In: function 14 -/
def spec_l01In.f (a0 : Int) (a1 : Int) (a2 : Int) : Option (Bool) := if a0 ≥ a1 then (some (decide (a0 ≤ a2))) else (some false)
set_option maxHeartbeats 8000000 in
set_option maxRecDepth 100000 in
theorem spec_l01In.calls (a0 : Int) (a1 : Int) (a2 : Int) (r : Bool) (w : World) (h : spec_l01In.f a0 a1 a2 = some r) :
    Calls Try.prog 14 #[.int .i64 a0, .int .i64 a1, .int .i64 a2] w fun e w' => e = .returned (.bool r) ∧ Drawn0 w w' := by
  have H : (if a0 ≥ a1 then (some (decide (a0 ≤ a2))) else (some false)) = some r := h
  clear h
  by_cases c4 : a0 ≥ a1
  · rw [if_pos c4] at H
    have c4b0 : decide (a1 ≤ a0) = true := decide_eq_true c4
    clear c4
    obtain rfl := Option.some.inj H
    go_enter Try.func14, Try.ntmps14
    go_wp2
    go_ret
    exact ⟨by first|rfl|(simp; done)|(simp [*]; done), by repeat (first|exact Drawn0.refl _|apply Drawn0.step)⟩
  · rw [if_neg c4] at H
    have c4b0 : decide (a1 ≤ a0) = false := decide_eq_false c4
    clear c4
    obtain rfl := Option.some.inj H
    go_enter Try.func14, Try.ntmps14
    go_wp2
    go_ret
    exact ⟨by first|rfl|(simp; done)|(simp [*]; done), by repeat (first|exact Drawn0.refl _|apply Drawn0.step)⟩

/-! ### spec_ArenaNew: function 15 -/
def spec_ArenaNew.l0 : Nat → Int → Int → List (S73) → Int → Option ((List (S73)) × Int × Bool)
 |0, _, _, _, _ => none
 |k + 1, x0, x5, x104000, x104001 => if x5 < x0 then (if (wrap64 (x5 + 1)) = x0 then (if x104000.length < 2513169434916 then (spec_ArenaNew.l0 k x0 (wrap64 (x5 + 1)) (x104000 ++ [(⟨0, false, (⟨#[]⟩ : ByteArray), (⟨#[]⟩ : ByteArray), (-1)⟩ : S73)]) x104001) else (none)) else (if x104000.length < 2513169434916 then (spec_ArenaNew.l0 k x0 (wrap64 (x5 + 1)) (x104000 ++ [(⟨0, false, (⟨#[]⟩ : ByteArray), (⟨#[]⟩ : ByteArray), wrap64 (x5 + 1)⟩ : S73)]) x104001) else (none))) else (some (x104000, x104001, true))
def spec_ArenaNew.f (k : Nat) (a0 : Int) : Option ((List (S73)) × Int × Bool) := (spec_l01In.f a0 1 24).bind fun t102 => (if t102 = true then (spec_ArenaNew.l0 k a0 0 ([] : List (S73)) 0) else (some (([] : List (S73)), 0, false)))
theorem spec_ArenaNew.mono_l : ∀ k, (∀ y0 y1 y2 y3, LeO (spec_ArenaNew.l0 k y0 y1 y2 y3) (spec_ArenaNew.l0 (k + 1) y0 y1 y2 y3))
 |0 => fun _ _ _ _ r h => by simp [spec_ArenaNew.l0] at h
 |k + 1 => by
    have ih0 := spec_ArenaNew.mono_l k
    · intro y0 y1 y2 y3
      unfold spec_ArenaNew.l0
      repeat' first
     |(with_reducible exact ih0 _ _ _ _)
     |(with_reducible exact LeO.refl _)
     |(with_reducible exact LeO.none _)
     |(with_reducible refine LeO.ite ?_ ?_)
     |(with_reducible refine LeO.bind ?_ (fun _ => ?_))
     |exact ih0 _ _ _ _
     |exact LeO.none _
     |refine LeO.ite ?_ ?_
     |refine LeO.bind ?_ (fun _ => ?_)
theorem spec_ArenaNew.mono : ∀ a0 k, LeO (spec_ArenaNew.f k a0) (spec_ArenaNew.f (k + 1) a0) := by
  intro a0 k
  have ih0 := spec_ArenaNew.mono_l k
  unfold spec_ArenaNew.f
  repeat' first
     |(with_reducible exact ih0 _ _ _ _)
     |(with_reducible exact LeO.refl _)
     |(with_reducible exact LeO.none _)
     |(with_reducible refine LeO.ite ?_ ?_)
     |(with_reducible refine LeO.bind ?_ (fun _ => ?_))
     |exact ih0 _ _ _ _
     |exact LeO.none _
     |refine LeO.ite ?_ ?_
     |refine LeO.bind ?_ (fun _ => ?_)
set_option maxHeartbeats 8000000 in
set_option maxRecDepth 100000 in
theorem spec_ArenaNew.calls (k : Nat) (a0 : Int) (r1 : List (S73)) (r2 : Int) (r3 : Bool) (w : World) (h : spec_ArenaNew.f k a0 = some (r1, r2, r3)) :
    Calls Try.prog 15 #[.int .i64 a0] w fun e w' => ∃ v0_ : Value, e = .returned (.tuple #[.agg #[v0_, .int .i64 r2], .bool r3]) ∧ Kd.R k73 73 w' w.heap.size (fun _ => True) v0_ r1 ∧ Below w.heap.size w w' := by
  have hu24 := Try.underlying24
  have hu73 := Try.underlying73
  have HB := Aside0.mk (Below.refl w.heap.size w)
  have H : ((spec_l01In.f a0 1 24).bind fun t102 => (if t102 = true then (spec_ArenaNew.l0 k a0 0 ([] : List (S73)) 0) else (some (([] : List (S73)), 0, false)))) = some (r1, r2, r3) := h
  clear h
  replace H := Option.bind_eq_some_iff.mp H
  obtain ⟨t102, A20, H⟩ := H
  replace H : (if t102 = true then (spec_ArenaNew.l0 k a0 0 ([] : List (S73)) 0) else (some (([] : List (S73)), 0, false))) = some (r1, r2, r3) := H
  have A2 := Aside0.mk A20
  clear A20
  go_enter Try.func15, Try.ntmps15
  go_wp2_with (first|((with_reducible refine gate_dst (N := 2) rfl ?_); refine box_event ?hg (N := 2) ?hd (cs := #[.slice none 0 0, .int .i64 0]) (t := 24) ?hr ?_; (case hd => rfl); (case hg => rfl); (case hr => first|(go_simp; done)|(go_simp; rfl)); intro gb101 hg w4 hbox hb; have n0_ := Aside0.mk (zN (by repeat (first|(with_reducible first|exact HB.out|apply zI|apply zG|apply zH)|exact HB.out)) hb); have n1_ := Aside0.mk (hbox); have n2_ := Aside0.mk ((by rw [hg]; exact (below_size (by repeat (first|(with_reducible first|exact HB.out|apply zI|apply zG|apply zH)|exact HB.out))) : w.heap.size ≤ gb101)); have n3_ := Aside0.mk ((by rw [hg]; exact (below_size (by repeat (first|(with_reducible first|exact HB.out|apply zI|apply zG|apply zH)|exact HB.out))) : w.heap.size ≤ gb101)); clear HB; have HB := n0_; have BK101 := n1_; have GW101 := n2_; have GE101 := n3_; clear n0_ n1_ n2_ n3_; clear hb hbox hg)|((with_reducible refine gate_callee (f := 14) rfl ?_); refine goesL_ (some 8) rfl rfl Try.func14 (by kernel_rfl) rfl #[.int .i64 a0, .int .i64 1, .int .i64 24] rfl (by (try simp only [List.map_toArray, List.map_cons, List.map_nil]); first|done|rfl|(simp only [List.length_drop, List.length_take]; rfl)) ?_; (with_reducible refine (spec_l01In.calls a0 1 24 t102 _ A2.out).mono ?_); rintro e w' ⟨rfl, ⟨nd, rfl⟩⟩; refine ⟨_, rfl, ?_⟩; (try (rw [drewN_self w4]; generalize hq_ : World.drewN w4 _ = w4; have n0_ : Aside0 (w4.heap[gb101]? = some (.cells #[.slice none 0 0, .int .i64 0] 24 (0, 0))) := ⟨by rw [← hq_]; exact (by (with_reducible repeat (first|refine zA ?_ _|refine zC ?_|refine zB ?_ _)); exact BK101.out)⟩; have n1_ : Aside0 (Below w.heap.size w w4) := ⟨by rw [← hq_]; exact (by repeat (first|(with_reducible first|exact HB.out|apply zI|apply zG|apply zH|refine zJ ?_ GE101.out)|exact HB.out))⟩; clear BK101 HB hq_; have BK101 := n0_; have HB := n1_; clear n0_ n1_)); obtain ⟨hcz27_0, hcz27_1, hfz27_0, hfz27_1⟩ := zb2 BK101.out; (refine Classical.byCases (p := (t102 = true)) (fun c3 => ?zp1) (fun c3 => ?zn1); (case' zn1 => (replace c3 := Bool.eq_false_iff.mpr c3); (subst c3); (have H1 : (some (([] : List (S73)), 0, false)) = some (r1, r2, r3) := by rw [if_neg (show ¬ (false = true) by decide)] at H; exact H); (clear H); (have H := H1); (clear H1); (simp only [Option.some.injEq, Prod.mk.injEq] at H); (obtain ⟨rfl, rfl, rfl⟩ := H)); (case' zp1 => (subst c3); (have H1 : (spec_ArenaNew.l0 k a0 0 ([] : List (S73)) 0) = some (r1, r2, r3) := by rw [if_pos rfl] at H; exact H); (clear H); (have H := H1); (clear H1); (have H' := Aside0.mk H); (clear H))))|((with_reducible refine gate_dst (N := 4) rfl ?_); refine box_event ?hg (N := 4) ?hd (cs := #[.slice none 0 0, .int .i64 0]) (t := 24) ?hr ?_; (case hd => rfl); (case hg => rfl); (case hr => first|(go_simp; done)|(go_simp; rfl)); intro gb103 hg w5 hbox hb; have n0_ := Aside0.mk (zK (g := gb101) (o := .cells #[.slice none 0 0, .int .i64 0] 24 (0, 0)) (by (with_reducible repeat (first|refine zA ?_ _|refine zC ?_|refine zB ?_ _)); exact BK101.out) hb); have n1_ := Aside0.mk (zN (by repeat (first|(with_reducible first|exact HB.out|apply zI|apply zG|apply zH|refine zJ ?_ GE101.out)|exact HB.out)) hb); have n2_ := Aside0.mk (hbox); have n3_ := Aside0.mk ((by rw [hg]; exact (below_size (by repeat (first|(with_reducible first|exact HB.out|apply zI|apply zG|apply zH|refine zJ ?_ GE101.out)|exact HB.out))) : w.heap.size ≤ gb103)); have n4_ := Aside0.mk ((by rw [hg]; exact (below_size (by repeat (first|(with_reducible first|exact HB.out|apply zI|apply zG|apply zH|refine zJ ?_ GE101.out)|exact HB.out))) : w.heap.size ≤ gb103)); have n5_ := Aside0.mk ((by rw [hg]; exact Nat.ne_of_lt (blk_lt (g := gb101) (o := .cells #[.slice none 0 0, .int .i64 0] 24 (0, 0)) (by (with_reducible repeat (first|refine zA ?_ _|refine zC ?_|refine zB ?_ _)); exact BK101.out)) : gb101 ≠ gb103)); have n6_ := Aside0.mk ((by rw [hg]; exact Nat.ne_of_gt (blk_lt (g := gb101) (o := .cells #[.slice none 0 0, .int .i64 0] 24 (0, 0)) (by (with_reducible repeat (first|refine zA ?_ _|refine zC ?_|refine zB ?_ _)); exact BK101.out)) : gb103 ≠ gb101)); clear BK101; clear HB; have BK101 := n0_; have HB := n1_; have BK103 := n2_; have GW103 := n3_; have GE103 := n4_; have NB101_103 := n5_; have NB103_101 := n6_; clear n0_ n1_ n2_ n3_ n4_ n5_ n6_; clear hb hbox hg; have hnb6 := NB103_101.out; have hnc6 := NB101_103.out; obtain ⟨hcz7_0, hcz7_1, hfz7_0, hfz7_1⟩ := zb2 BK103.out))
  · go_loopg [5] k (fun kq v5 w' => ∃ (x5_1 : Int) (x104000_1 : List (S73)) (u104000 : Value), v5 = .int .i64 x5_1 ∧ Aside0 (spec_ArenaNew.l0 kq a0 x5_1 x104000_1 0 = some (r1, r2, r3)) ∧ Aside0 (kq ≤ k) ∧ Aside0 (Kd.R k73 73 w' w.heap.size (fun _ => True) u104000 x104000_1) ∧ Aside0 (w'.heap[gb101]? = some (.cells #[(.slice none 0 0), .int .i64 0] 24 (0, 0))) ∧ Aside0 (w'.heap[gb103]? = some (.cells #[u104000, .int .i64 0] 24 (0, 0))) ∧ Aside0 (Below w.heap.size w w'))
    case atStart => exact ⟨(0), (([] : List (S73))), (.slice none 0 0), (by first|rfl|(simp; done)|(simp [*]; done)), H', ⟨Nat.le_refl _⟩, ⟨by first|exact Kd.R_nil _ _ _ _ _|exact Kd.N_nil _ _ _ _ _|exact Kd.V_nil _ _ _ _ _|exact Kd.Q_nil _ _ _ _ _|exact Kd.S_nil _ _ _ _ _⟩, ⟨by (with_reducible repeat (first|refine zA ?_ _|refine zC ?_|refine zB ?_ _)); refine zT ?_ NB101_103.out _; (with_reducible repeat (first|refine zA ?_ _|refine zC ?_|refine zB ?_ _)); refine zT ?_ NB101_103.out _; (with_reducible repeat (first|refine zA ?_ _|refine zC ?_|refine zB ?_ _)); exact BK101.out⟩, ⟨by (with_reducible repeat (first|refine zA ?_ _|refine zC ?_|refine zB ?_ _)); refine blk_put (cs := #[.slice none 0 0, .int .i64 0]) ?_ 1 _ rfl; (with_reducible repeat (first|refine zA ?_ _|refine zC ?_|refine zB ?_ _)); refine blk_put (cs := #[.slice none 0 0, .int .i64 0]) ?_ 0 _ rfl; (with_reducible repeat (first|refine zA ?_ _|refine zC ?_|refine zB ?_ _)); exact BK103.out⟩, ⟨by repeat (first|(with_reducible first|exact HB.out|apply zI|apply zG|apply zH|refine zJ ?_ GE101.out|refine zJ ?_ GE103.out)|exact HB.out)⟩⟩
    case round =>
      clear H'
      try clear c1
      try clear p2
      try clear c3
      try clear c6
      try clear hcz7_0
      try clear hcz7_1
      try clear hfz7_0
      try clear hfz7_1
      obtain ⟨x5_1, x104000_1, u104000, rfl, HA, HK1, HO_104000, BK101, BK103, HB⟩ := hrel
      cases gk with
     |zero => exact absurd HA.out (by simp [spec_ArenaNew.l0])
     |succ k1 =>
        have H := HA.out
        clear HA
        simp only [spec_ArenaNew.l0] at H
        by_cases c8 : x5_1 < a0
        · rw [if_pos c8] at H
          have c8b0 : decide (x5_1 < a0) = true := decide_eq_true c8
          clear c8
          by_cases c9 : (wrap64 (x5_1 + 1)) = a0
          · rw [if_pos c9] at H
            have c9b0 : ((wrap64 (x5_1 + 1)) == a0) = true := beq_iff_eq.mpr c9
            have c9b1 : ((wrap64 (x5_1 + 1)) != a0) = false := bne_eq_false_iff_eq.mpr c9
            clear c9
            by_cases c10 : x104000_1.length < 2513169434916
            · rw [if_pos c10] at H
              have LMc10 := Aside0.mk c10
              clear c10
              obtain ⟨y104, hy104⟩ : ∃ y_ : List (S73), y_ = (x104000_1 ++ [(⟨0, false, (⟨#[]⟩ : ByteArray), (⟨#[]⟩ : ByteArray), (-1)⟩ : S73)]) := ⟨_, rfl⟩
              replace H : (spec_ArenaNew.l0 k1 a0 (wrap64 (x5_1 + 1)) y104 0) = some (r1, r2, r3) := by first|(rw [hy104]; with_reducible exact H)|(have H2_ := (Option.bind_some _ _).symm.trans H; rw [hy104]; with_reducible exact H2_)|(have H2_ := (Option.bind_some _ _).symm.trans H; with_reducible exact H2_)|with_reducible exact H|(rw [hy104]; exact H)|exact H
              have Ny104 := Aside0.mk hy104
              clear hy104
              have H' := Aside0.mk H
              clear H
              have hnb11 := NB103_101.out
              have hnc11 := NB101_103.out
              obtain ⟨hcz12_0, hcz12_1, hfz12_0, hfz12_1⟩ := zb2 BK103.out
              go_wp2_with (first|((with_reducible refine gate_builtin (b := .append) (xs := #[.tmp 23, .tmp 26]) rfl ?_); at_builtin; refine Kd.R_append k73 (w0 := w) w.heap.size rfl (.tmp 23) (.tmp 26) 22 73 (.agg #[(.int .i64 0), (.bool false), (.string ⟨#[]⟩), (.string ⟨#[]⟩), (.int .i64 0)]) 56 rfl Try.underlying22 info73 rfl (by decide) (by omega) u104000 x104000_1 (⟨0, false, (⟨#[]⟩ : ByteArray), (⟨#[]⟩ : ByteArray), (-1)⟩ : S73) [.int .i64 0, .bool false, .string (⟨#[]⟩ : ByteArray), .string (⟨#[]⟩ : ByteArray), .int .i64 (-1)] (fun _ => True) (fun _ => False) rfl rfl ?aP (fun _ hk => hk.elim) ?aF ?aO ?aB ?aS ?aL ?_; (case aP => exact k73_mkM _ _ _ (⟨0, false, (⟨#[]⟩ : ByteArray), (⟨#[]⟩ : ByteArray), (-1)⟩ : S73)); (case aB => exact (by repeat (first|(with_reducible first|exact HB.out|apply zI|apply zG|apply zH|refine zJ ?_ GE101.out|refine zJ ?_ GE103.out)|exact HB.out))); (case aF => exact (fun _ _ => trivial)); (case aO => exact (by (with_reducible repeat (first|apply zE|apply zD|apply zF)); exact HO_104000.out)); (case aS => exact (below_size (by repeat (first|(with_reducible first|exact HB.out|apply zI|apply zG|apply zH|refine zJ ?_ GE101.out|refine zJ ?_ GE103.out)|exact HB.out)))); (case aL => have := LMc10.out; omega); intro v105 w13 ho hb hg hat; rw [← Ny104.out] at ho; have n0_ := Aside0.mk (blk_grown (g := gb101) (o := .cells #[.slice none 0 0, .int .i64 0] 24 (0, 0)) (by (with_reducible repeat (first|refine zA ?_ _|refine zC ?_|refine zB ?_ _)); exact BK101.out) hg (Kd.R_ne HO_104000.out BK101.out (by decide))); have n1_ := Aside0.mk (blk_grown (g := gb103) (o := .cells #[u104000, .int .i64 0] 24 (0, 0)) (by (with_reducible repeat (first|refine zA ?_ _|refine zC ?_|refine zB ?_ _)); exact BK103.out) hg (Kd.R_ne HO_104000.out BK103.out (by decide))); have n2_ := Aside0.mk (hb); have n3_ := Aside0.mk (ho); clear BK101; clear BK103; clear HB; clear HO_104000; have BK101 := n0_; have BK103 := n1_; have HB := n2_; have HO106 := n3_; clear n0_ n1_ n2_ n3_; clear ho hb hg hat; obtain ⟨Ao14, co14, eo14⟩ := Kd.R_slice HO106.out; subst eo14; obtain ⟨hcz15_0, hcz15_1, hfz15_0, hfz15_1⟩ := zb2 BK103.out))
              go_roundg k1
              case measure => have := HK1.out; omega
              case rel => exact ⟨(wrap64 (x5_1 + 1)), (y104), (.slice Ao14 y104.length co14), (by first|rfl|(simp; done)|(simp [*]; done)), H', ⟨by have := HK1.out; omega⟩, ⟨by (with_reducible repeat (first|apply zE|apply zD|apply zF)); exact zR (zL (p := ⟨gb103, 0, none⟩) (zQ HO106.out BK103.out (by decide)) (fun _ hk => hk.2) (.slice Ao14 y104.length co14)) (fun _ hk => trivial)⟩, ⟨by (with_reducible repeat (first|refine zA ?_ _|refine zC ?_|refine zB ?_ _)); refine zT ?_ NB101_103.out _; (with_reducible repeat (first|refine zA ?_ _|refine zC ?_|refine zB ?_ _)); exact BK101.out⟩, ⟨by (with_reducible repeat (first|refine zA ?_ _|refine zC ?_|refine zB ?_ _)); refine blk_put (cs := #[u104000, .int .i64 0]) ?_ 0 _ rfl; (with_reducible repeat (first|refine zA ?_ _|refine zC ?_|refine zB ?_ _)); exact BK103.out⟩, ⟨by repeat (first|(with_reducible first|exact HB.out|apply zI|apply zG|apply zH|refine zJ ?_ GE101.out|refine zJ ?_ GE103.out)|exact HB.out)⟩⟩
            · rw [if_neg c10] at H
              exact absurd H (by simp)
          · rw [if_neg c9] at H
            have c9b0 : ((wrap64 (x5_1 + 1)) == a0) = false := beq_eq_false_iff_ne.mpr c9
            have c9b1 : ((wrap64 (x5_1 + 1)) != a0) = true := bne_iff_ne.mpr c9
            by_cases c16 : x104000_1.length < 2513169434916
            · rw [if_pos c16] at H
              have LMc16 := Aside0.mk c16
              clear c16
              obtain ⟨y107, hy107⟩ : ∃ y_ : List (S73), y_ = (x104000_1 ++ [(⟨0, false, (⟨#[]⟩ : ByteArray), (⟨#[]⟩ : ByteArray), wrap64 (x5_1 + 1)⟩ : S73)]) := ⟨_, rfl⟩
              replace H : (spec_ArenaNew.l0 k1 a0 (wrap64 (x5_1 + 1)) y107 0) = some (r1, r2, r3) := by first|(rw [hy107]; with_reducible exact H)|(have H2_ := (Option.bind_some _ _).symm.trans H; rw [hy107]; with_reducible exact H2_)|(have H2_ := (Option.bind_some _ _).symm.trans H; with_reducible exact H2_)|with_reducible exact H|(rw [hy107]; exact H)|exact H
              have Ny107 := Aside0.mk hy107
              clear hy107
              have H' := Aside0.mk H
              clear H
              have hnb17 := NB103_101.out
              have hnc17 := NB101_103.out
              obtain ⟨hcz18_0, hcz18_1, hfz18_0, hfz18_1⟩ := zb2 BK103.out
              go_wp2_with (first|((with_reducible refine gate_builtin (b := .append) (xs := #[.tmp 23, .tmp 26]) rfl ?_); at_builtin; refine Kd.R_append k73 (w0 := w) w.heap.size rfl (.tmp 23) (.tmp 26) 22 73 (.agg #[(.int .i64 0), (.bool false), (.string ⟨#[]⟩), (.string ⟨#[]⟩), (.int .i64 0)]) 56 rfl Try.underlying22 info73 rfl (by decide) (by omega) u104000 x104000_1 (⟨0, false, (⟨#[]⟩ : ByteArray), (⟨#[]⟩ : ByteArray), wrap64 (x5_1 + 1)⟩ : S73) [.int .i64 0, .bool false, .string (⟨#[]⟩ : ByteArray), .string (⟨#[]⟩ : ByteArray), .int .i64 (wrap64 (x5_1 + 1))] (fun _ => True) (fun _ => False) rfl rfl ?aP (fun _ hk => hk.elim) ?aF ?aO ?aB ?aS ?aL ?_; (case aP => exact k73_mkM _ _ _ (⟨0, false, (⟨#[]⟩ : ByteArray), (⟨#[]⟩ : ByteArray), wrap64 (x5_1 + 1)⟩ : S73)); (case aB => exact (by repeat (first|(with_reducible first|exact HB.out|apply zI|apply zG|apply zH|refine zJ ?_ GE101.out|refine zJ ?_ GE103.out)|exact HB.out))); (case aF => exact (fun _ _ => trivial)); (case aO => exact (by (with_reducible repeat (first|apply zE|apply zD|apply zF)); exact HO_104000.out)); (case aS => exact (below_size (by repeat (first|(with_reducible first|exact HB.out|apply zI|apply zG|apply zH|refine zJ ?_ GE101.out|refine zJ ?_ GE103.out)|exact HB.out)))); (case aL => have := LMc16.out; omega); intro v108 w19 ho hb hg hat; rw [← Ny107.out] at ho; have n0_ := Aside0.mk (blk_grown (g := gb101) (o := .cells #[.slice none 0 0, .int .i64 0] 24 (0, 0)) (by (with_reducible repeat (first|refine zA ?_ _|refine zC ?_|refine zB ?_ _)); exact BK101.out) hg (Kd.R_ne HO_104000.out BK101.out (by decide))); have n1_ := Aside0.mk (blk_grown (g := gb103) (o := .cells #[u104000, .int .i64 0] 24 (0, 0)) (by (with_reducible repeat (first|refine zA ?_ _|refine zC ?_|refine zB ?_ _)); exact BK103.out) hg (Kd.R_ne HO_104000.out BK103.out (by decide))); have n2_ := Aside0.mk (hb); have n3_ := Aside0.mk (ho); clear BK101; clear BK103; clear HB; clear HO_104000; have BK101 := n0_; have BK103 := n1_; have HB := n2_; have HO109 := n3_; clear n0_ n1_ n2_ n3_; clear ho hb hg hat; obtain ⟨Ao20, co20, eo20⟩ := Kd.R_slice HO109.out; subst eo20; obtain ⟨hcz21_0, hcz21_1, hfz21_0, hfz21_1⟩ := zb2 BK103.out))
              go_roundg k1
              case measure => have := HK1.out; omega
              case rel => exact ⟨(wrap64 (x5_1 + 1)), (y107), (.slice Ao20 y107.length co20), (by first|rfl|(simp; done)|(simp [*]; done)), H', ⟨by have := HK1.out; omega⟩, ⟨by (with_reducible repeat (first|apply zE|apply zD|apply zF)); exact zR (zL (p := ⟨gb103, 0, none⟩) (zQ HO109.out BK103.out (by decide)) (fun _ hk => hk.2) (.slice Ao20 y107.length co20)) (fun _ hk => trivial)⟩, ⟨by (with_reducible repeat (first|refine zA ?_ _|refine zC ?_|refine zB ?_ _)); refine zT ?_ NB101_103.out _; (with_reducible repeat (first|refine zA ?_ _|refine zC ?_|refine zB ?_ _)); exact BK101.out⟩, ⟨by (with_reducible repeat (first|refine zA ?_ _|refine zC ?_|refine zB ?_ _)); refine blk_put (cs := #[u104000, .int .i64 0]) ?_ 0 _ rfl; (with_reducible repeat (first|refine zA ?_ _|refine zC ?_|refine zB ?_ _)); exact BK103.out⟩, ⟨by repeat (first|(with_reducible first|exact HB.out|apply zI|apply zG|apply zH|refine zJ ?_ GE101.out|refine zJ ?_ GE103.out)|exact HB.out)⟩⟩
            · rw [if_neg c16] at H
              exact absurd H (by simp)
        · rw [if_neg c8] at H
          have c8b0 : decide (x5_1 < a0) = false := decide_eq_false c8
          clear c8
          simp only [Option.some.injEq, Prod.mk.injEq] at H
          obtain ⟨rfl, rfl, rfl⟩ := H
          have hnb22 := NB103_101.out
          have hnc22 := NB101_103.out
          obtain ⟨hcz23_0, hcz23_1, hfz23_0, hfz23_1⟩ := zb2 BK103.out
          obtain ⟨Ao24, co24, eo24⟩ := Kd.R_slice HO_104000.out
          subst eo24
          obtain ⟨hcz25_0, hcz25_1, hfz25_0, hfz25_1⟩ := zb2 BK101.out
          go_wp2
          refine bodyPost_ret (results_ct rfl _ _ gb101 24 #[.slice Ao24 x104000_1.length co24, .int .i64 0] (0, 0) _ rfl (by (with_reducible repeat (first|refine zA ?_ _|refine zC ?_|refine zB ?_ _)); refine blk_put (cs := #[.slice Ao24 x104000_1.length co24, .int .i64 0]) ?_ 1 _ rfl; (with_reducible repeat (first|refine zA ?_ _|refine zC ?_|refine zB ?_ _)); refine blk_put (cs := #[.slice none 0 0, .int .i64 0]) ?_ 0 _ rfl; (with_reducible repeat (first|refine zA ?_ _|refine zC ?_|refine zB ?_ _)); exact BK101.out) Try.underlying24 rfl (by kernel_rfl)) rfl ?_
          exact ⟨_, by first|rfl|(simp [errW_none, errW_some] <;> rfl)|(simp [*, errW_none, errW_some] <;> rfl), by (with_reducible repeat (first|apply zE|apply zD|apply zF)); exact zR (zL (p := ⟨gb101, 1, none⟩) (zL (p := ⟨gb101, 0, none⟩) (zQ HO_104000.out BK101.out (by decide)) (fun _ hk => hk.2) (.slice Ao24 x104000_1.length co24)) (fun _ hk => hk.2) (.int .i64 0)) (fun _ hk => trivial), by repeat (first|(with_reducible first|exact HB.out|apply zI|apply zG|apply zH|refine zJ ?_ GE101.out|refine zJ ?_ GE103.out)|exact HB.out)⟩
  · refine bodyPost_ret (results_ct rfl _ _ gb101 24 #[.slice none 0 0, .int .i64 0] (0, 0) _ rfl (by (with_reducible repeat (first|refine zA ?_ _|refine zC ?_|refine zB ?_ _)); refine blk_put (cs := #[.slice none 0 0, .int .i64 0]) ?_ 1 _ rfl; (with_reducible repeat (first|refine zA ?_ _|refine zC ?_|refine zB ?_ _)); refine blk_put (cs := #[.slice none 0 0, .int .i64 0]) ?_ 0 _ rfl; (with_reducible repeat (first|refine zA ?_ _|refine zC ?_|refine zB ?_ _)); exact BK101.out) Try.underlying24 rfl (by kernel_rfl)) rfl ?_
    exact ⟨_, by first|rfl|(simp [errW_none, errW_some] <;> rfl)|(simp [*, errW_none, errW_some] <;> rfl), by first|exact Kd.R_nil _ _ _ _ _|exact Kd.N_nil _ _ _ _ _|exact Kd.V_nil _ _ _ _ _|exact Kd.Q_nil _ _ _ _ _|exact Kd.S_nil _ _ _ _ _, by repeat (first|(with_reducible first|exact HB.out|apply zI|apply zG|apply zH|refine zJ ?_ GE101.out)|exact HB.out)⟩

/-! ### spec_l04Size: function 48 -/
def spec_l04Size.f (a0 : Int) : Option (Bool) := if a0 = 4 then (some true) else (if a0 = 8 then (some true) else (if a0 = 16 then (some true) else (if a0 = 32 then (some true) else (some (a0 == 64)))))
set_option maxHeartbeats 8000000 in
set_option maxRecDepth 100000 in
theorem spec_l04Size.calls (a0 : Int) (r : Bool) (w : World) (h : spec_l04Size.f a0 = some r) :
    Calls Try.prog 48 #[.int .i64 a0] w fun e w' => e = .returned (.bool r) ∧ Drawn0 w w' := by
  have H : (if a0 = 4 then (some true) else (if a0 = 8 then (some true) else (if a0 = 16 then (some true) else (if a0 = 32 then (some true) else (some (a0 == 64)))))) = some r := h
  clear h
  by_cases c2 : a0 = 4
  · rw [if_pos c2] at H
    have c2b0 : (a0 == 4) = true := beq_iff_eq.mpr c2
    have c2b1 : (a0 != 4) = false := bne_eq_false_iff_eq.mpr c2
    clear c2
    obtain rfl := Option.some.inj H
    go_enter Try.func48, Try.ntmps48
    go_wp2
    go_ret
    exact ⟨by first|rfl|(simp; done)|(simp [*]; done), by repeat (first|exact Drawn0.refl _|apply Drawn0.step)⟩
  · rw [if_neg c2] at H
    have c2b0 : (a0 == 4) = false := beq_eq_false_iff_ne.mpr c2
    have c2b1 : (a0 != 4) = true := bne_iff_ne.mpr c2
    by_cases c3 : a0 = 8
    · rw [if_pos c3] at H
      have c3b0 : (a0 == 8) = true := beq_iff_eq.mpr c3
      have c3b1 : (a0 != 8) = false := bne_eq_false_iff_eq.mpr c3
      clear c3
      obtain rfl := Option.some.inj H
      go_enter Try.func48, Try.ntmps48
      go_wp2
      go_ret
      exact ⟨by first|rfl|(simp; done)|(simp [*]; done), by repeat (first|exact Drawn0.refl _|apply Drawn0.step)⟩
    · rw [if_neg c3] at H
      have c3b0 : (a0 == 8) = false := beq_eq_false_iff_ne.mpr c3
      have c3b1 : (a0 != 8) = true := bne_iff_ne.mpr c3
      by_cases c4 : a0 = 16
      · rw [if_pos c4] at H
        have c4b0 : (a0 == 16) = true := beq_iff_eq.mpr c4
        have c4b1 : (a0 != 16) = false := bne_eq_false_iff_eq.mpr c4
        clear c4
        obtain rfl := Option.some.inj H
        go_enter Try.func48, Try.ntmps48
        go_wp2
        go_ret
        exact ⟨by first|rfl|(simp; done)|(simp [*]; done), by repeat (first|exact Drawn0.refl _|apply Drawn0.step)⟩
      · rw [if_neg c4] at H
        have c4b0 : (a0 == 16) = false := beq_eq_false_iff_ne.mpr c4
        have c4b1 : (a0 != 16) = true := bne_iff_ne.mpr c4
        by_cases c5 : a0 = 32
        · rw [if_pos c5] at H
          have c5b0 : (a0 == 32) = true := beq_iff_eq.mpr c5
          have c5b1 : (a0 != 32) = false := bne_eq_false_iff_eq.mpr c5
          clear c5
          obtain rfl := Option.some.inj H
          go_enter Try.func48, Try.ntmps48
          go_wp2
          go_ret
          exact ⟨by first|rfl|(simp; done)|(simp [*]; done), by repeat (first|exact Drawn0.refl _|apply Drawn0.step)⟩
        · rw [if_neg c5] at H
          have c5b0 : (a0 == 32) = false := beq_eq_false_iff_ne.mpr c5
          have c5b1 : (a0 != 32) = true := bne_iff_ne.mpr c5
          obtain rfl := Option.some.inj H
          go_enter Try.func48, Try.ntmps48
          go_wp2
          go_ret
          exact ⟨by first|rfl|(simp; done)|(simp [*]; done), by repeat (first|exact Drawn0.refl _|apply Drawn0.step)⟩

/-! ### spec_l04Cells: function 49 -/
def spec_l04Cells.l0 : Nat → Int → List (S103) → Int → Option ((List (S103)))
 |0, _, _, _ => none
 |k + 1, x0, x3, x4 => if x4 < x0 then (if x3.length < 5864062014805 then (spec_l04Cells.l0 k x0 (x3 ++ [(⟨(⟨#[]⟩ : ByteArray), (-1)⟩ : S103)]) (wrap64 (x4 + 1))) else (none)) else (some x3)
def spec_l04Cells.f (k : Nat) (a0 : Int) : Option ((List (S103))) := spec_l04Cells.l0 k a0 (([] : List (S103))) 0
theorem spec_l04Cells.mono_l : ∀ k, (∀ y0 y1 y2, LeO (spec_l04Cells.l0 k y0 y1 y2) (spec_l04Cells.l0 (k + 1) y0 y1 y2))
 |0 => fun _ _ _ r h => by simp [spec_l04Cells.l0] at h
 |k + 1 => by
    have ih0 := spec_l04Cells.mono_l k
    · intro y0 y1 y2
      unfold spec_l04Cells.l0
      repeat' first
     |(with_reducible exact ih0 _ _ _)
     |(with_reducible exact LeO.refl _)
     |(with_reducible exact LeO.none _)
     |(with_reducible refine LeO.ite ?_ ?_)
     |(with_reducible refine LeO.bind ?_ (fun _ => ?_))
     |exact ih0 _ _ _
     |exact LeO.none _
     |refine LeO.ite ?_ ?_
     |refine LeO.bind ?_ (fun _ => ?_)
theorem spec_l04Cells.mono : ∀ a0 k, LeO (spec_l04Cells.f k a0) (spec_l04Cells.f (k + 1) a0) := by
  intro a0 k
  have ih0 := spec_l04Cells.mono_l k
  unfold spec_l04Cells.f
  repeat' first
     |(with_reducible exact ih0 _ _ _)
     |(with_reducible exact LeO.refl _)
     |(with_reducible exact LeO.none _)
     |(with_reducible refine LeO.ite ?_ ?_)
     |(with_reducible refine LeO.bind ?_ (fun _ => ?_))
     |exact ih0 _ _ _
     |exact LeO.none _
     |refine LeO.ite ?_ ?_
     |refine LeO.bind ?_ (fun _ => ?_)
set_option maxHeartbeats 8000000 in
set_option maxRecDepth 100000 in
theorem spec_l04Cells.calls (k : Nat) (a0 : Int) (r : List (S103)) (w : World) (h : spec_l04Cells.f k a0 = some r) :
    Calls Try.prog 49 #[.int .i64 a0] w fun e w' => ∃ v0_ : Value, e = .returned (v0_) ∧ Kd.R k103 103 w' w.heap.size (fun _ => True) v0_ r ∧ Below w.heap.size w w' := by
  have hu103 := Try.underlying103
  have HB := Aside0.mk (Below.refl w.heap.size w)
  have H : (spec_l04Cells.l0 k a0 (([] : List (S103))) 0) = some r := h
  clear h
  obtain ⟨y110, hy110⟩ : ∃ y_ : List (S103), y_ = (([] : List (S103))) := ⟨_, rfl⟩
  replace H : (spec_l04Cells.l0 k a0 y110 0) = some r := by first|(rw [hy110]; with_reducible exact H)|(have H2_ := (Option.bind_some _ _).symm.trans H; rw [hy110]; with_reducible exact H2_)|(have H2_ := (Option.bind_some _ _).symm.trans H; with_reducible exact H2_)|with_reducible exact H|(rw [hy110]; exact H)|exact H
  have Ny110 := Aside0.mk hy110
  clear hy110
  have H' := Aside0.mk H
  clear H
  go_enter Try.func49, Try.ntmps49
  go_wp2_with (first|((with_reducible refine gate_dst (N := 5) rfl ?_); refine Kd.R_lit k103 _ 103 ?hg (N := 5) ?hd (xs := ([] : List (S103))) (inner := []) (ok := fun _ => True) (okp := fun _ => True) ?hr ?hp (fun _ hk => hk) trivial (Below.refl _ _) (Nat.le_refl _) (by simp) ?_; (case hd => rfl); (case hg => rfl); (case hr => first|(go_simp; done)|(go_simp; rfl)); (case hp => exact (Reps.none _ _)); intro v111 w2 ho3 hb hg_ hnew_; clear hg_ hnew_; (first|rw [← Ny110.out] at ho3|(simp only [Int.reduceToNat] at ho3; rw [← Ny110.out] at ho3)); have n0_ := Aside0.mk (Kd.R_lower ho3 (below_size (by repeat (first|(with_reducible first|exact HB.out|apply zI|apply zG|apply zH)|exact HB.out)))); have n1_ := Aside0.mk (zN (by repeat (first|(with_reducible first|exact HB.out|apply zI|apply zG|apply zH)|exact HB.out)) hb); clear HB; have HO112 := n0_; have HB := n1_; clear n0_ n1_; clear hb ho3))
  go_loopg [3, 4] k (fun kq v3 v4 w' => ∃ (x3_1 : List (S103)) (x4_1 : Int), v4 = .int .i64 x4_1 ∧ Aside0 (spec_l04Cells.l0 kq a0 x3_1 x4_1 = some r) ∧ Aside0 (kq ≤ k) ∧ Aside0 (Kd.R k103 103 w' w.heap.size (fun _ => True) v3 x3_1) ∧ Aside0 (Below w.heap.size w w'))
  case atStart => exact ⟨(y110), (0), (by first|rfl|(simp; done)|(simp [*]; done)), H', ⟨Nat.le_refl _⟩, ⟨by (with_reducible repeat (first|apply zE|apply zD|apply zF)); exact HO112.out⟩, ⟨by repeat (first|(with_reducible first|exact HB.out|apply zI|apply zG|apply zH)|exact HB.out)⟩⟩
  case round =>
    clear H'
    try clear p2
    obtain ⟨x3_1, x4_1, rfl, HA, HK1, HO_3, HB⟩ := hrel
    cases gk with
   |zero => exact absurd HA.out (by simp [spec_l04Cells.l0])
   |succ k1 =>
      have H := HA.out
      clear HA
      simp only [spec_l04Cells.l0] at H
      by_cases c4 : x4_1 < a0
      · rw [if_pos c4] at H
        have c4b0 : decide (x4_1 < a0) = true := decide_eq_true c4
        clear c4
        by_cases c5 : x3_1.length < 5864062014805
        · rw [if_pos c5] at H
          have LMc5 := Aside0.mk c5
          clear c5
          obtain ⟨y113, hy113⟩ : ∃ y_ : List (S103), y_ = (x3_1 ++ [(⟨(⟨#[]⟩ : ByteArray), (-1)⟩ : S103)]) := ⟨_, rfl⟩
          replace H : (spec_l04Cells.l0 k1 a0 y113 (wrap64 (x4_1 + 1))) = some r := by first|(rw [hy113]; with_reducible exact H)|(have H2_ := (Option.bind_some _ _).symm.trans H; rw [hy113]; with_reducible exact H2_)|(have H2_ := (Option.bind_some _ _).symm.trans H; with_reducible exact H2_)|with_reducible exact H|(rw [hy113]; exact H)|exact H
          have Ny113 := Aside0.mk hy113
          clear hy113
          have H' := Aside0.mk H
          clear H
          go_wp2_with (first|((with_reducible refine gate_builtin (b := .append) (xs := #[.tmp 11, .tmp 13]) rfl ?_); at_builtin; refine Kd.R_append k103 (w0 := w) w.heap.size rfl (.tmp 11) (.tmp 13) 25 103 (.agg #[(.string ⟨#[]⟩), (.int .i64 0)]) 24 rfl Try.underlying25 info103 rfl (by decide) (by omega) u3 x3_1 (⟨(⟨#[]⟩ : ByteArray), (-1)⟩ : S103) [.string (⟨#[]⟩ : ByteArray), .int .i64 (-1)] (fun _ => True) (fun _ => False) rfl rfl ?aP (fun _ hk => hk.elim) ?aF ?aO ?aB ?aS ?aL ?_; (case aP => exact k103_mkM _ _ _ (⟨(⟨#[]⟩ : ByteArray), (-1)⟩ : S103)); (case aB => exact (by repeat (first|(with_reducible first|exact HB.out|apply zI|apply zG|apply zH)|exact HB.out))); (case aF => exact (fun _ _ => trivial)); (case aO => exact (by (with_reducible repeat (first|apply zE|apply zD|apply zF)); exact HO_3.out)); (case aS => exact (below_size (by repeat (first|(with_reducible first|exact HB.out|apply zI|apply zG|apply zH)|exact HB.out)))); (case aL => have := LMc5.out; omega); intro v114 w6 ho hb hg hat; rw [← Ny113.out] at ho; have n0_ := Aside0.mk (hb); have n1_ := Aside0.mk (ho); clear HB; clear HO_3; have HB := n0_; have HO115 := n1_; clear n0_ n1_; clear ho hb hg hat))
          go_roundg k1
          case measure => have := HK1.out; omega
          case rel => exact ⟨(y113), (wrap64 (x4_1 + 1)), (by first|rfl|(simp; done)|(simp [*]; done)), H', ⟨by have := HK1.out; omega⟩, ⟨by (with_reducible repeat (first|apply zE|apply zD|apply zF)); exact HO115.out⟩, ⟨by repeat (first|(with_reducible first|exact HB.out|apply zI|apply zG|apply zH)|exact HB.out)⟩⟩
        · rw [if_neg c5] at H
          exact absurd H (by simp)
      · rw [if_neg c4] at H
        have c4b0 : decide (x4_1 < a0) = false := decide_eq_false c4
        clear c4
        obtain rfl := Option.some.inj H
        go_wp2
        go_ret
        exact ⟨_, by first|rfl|(simp [errW_none, errW_some] <;> rfl)|(simp [*, errW_none, errW_some] <;> rfl), by (with_reducible repeat (first|apply zE|apply zD|apply zF)); exact HO_3.out, by repeat (first|(with_reducible first|exact HB.out|apply zI|apply zG|apply zH)|exact HB.out)⟩

/-! ### spec_TableNew: function 16 -/
def spec_TableNew.f (k : Nat) (a0 : Int) : Option ((List (S103)) × (List (S103)) × Int × Bool) := (spec_l04Size.f a0).bind fun t117 => (if t117 = true then ((spec_l04Cells.f k a0).bind fun t118 => (some (t118, ([] : List (S103)), 0, true))) else (some (([] : List (S103)), ([] : List (S103)), 0, false)))
theorem spec_TableNew.mono : ∀ a0 k, LeO (spec_TableNew.f k a0) (spec_TableNew.f (k + 1) a0) := by
  intro a0 k
  unfold spec_TableNew.f
  repeat' first
     |(with_reducible exact spec_l04Cells.mono _ _)
     |(with_reducible exact LeO.refl _)
     |(with_reducible exact LeO.none _)
     |(with_reducible refine LeO.ite ?_ ?_)
     |(with_reducible refine LeO.bind ?_ (fun _ => ?_))
     |exact spec_l04Cells.mono _ _
     |exact LeO.none _
     |refine LeO.ite ?_ ?_
     |refine LeO.bind ?_ (fun _ => ?_)
set_option maxHeartbeats 8000000 in
set_option maxRecDepth 100000 in
theorem spec_TableNew.calls (k : Nat) (a0 : Int) (r1 : List (S103)) (r2 : List (S103)) (r3 : Int) (r4 : Bool) (w : World) (h : spec_TableNew.f k a0 = some (r1, r2, r3, r4)) :
    Calls Try.prog 16 #[.int .i64 a0] w fun e w' => ∃ v0_ v1_ : Value, e = .returned (.tuple #[.agg #[v0_, v1_, .int .i64 r3], .bool r4]) ∧ Kd.R k103 103 w' w.heap.size (fun k_ => some k_ ≠ (v1_ : Value).ownBlock) v0_ r1 ∧ Kd.R k103 103 w' w.heap.size (fun k_ => some k_ ≠ (v0_ : Value).ownBlock) v1_ r2 ∧ Below w.heap.size w w' := by
  have hu27 := Try.underlying27
  have HB := Aside0.mk (Below.refl w.heap.size w)
  have H : ((spec_l04Size.f a0).bind fun t117 => (if t117 = true then ((spec_l04Cells.f k a0).bind fun t118 => (some (t118, ([] : List (S103)), 0, true))) else (some (([] : List (S103)), ([] : List (S103)), 0, false)))) = some (r1, r2, r3, r4) := h
  clear h
  replace H := Option.bind_eq_some_iff.mp H
  obtain ⟨t117, A20, H⟩ := H
  replace H : (if t117 = true then ((spec_l04Cells.f k a0).bind fun t118 => (some (t118, ([] : List (S103)), 0, true))) else (some (([] : List (S103)), ([] : List (S103)), 0, false))) = some (r1, r2, r3, r4) := H
  have A2 := Aside0.mk A20
  clear A20
  go_enter Try.func16, Try.ntmps16
  go_wp2_with (first|((with_reducible refine gate_dst (N := 2) rfl ?_); refine box_event ?hg (N := 2) ?hd (cs := #[.slice none 0 0, .slice none 0 0, .int .i64 0]) (t := 27) ?hr ?_; (case hd => rfl); (case hg => rfl); (case hr => first|(go_simp; done)|(go_simp; rfl)); intro gb116 hg w5 hbox hb; have n0_ := Aside0.mk (zN (by repeat (first|(with_reducible first|exact HB.out|apply zI|apply zG|apply zH)|exact HB.out)) hb); have n1_ := Aside0.mk (hbox); have n2_ := Aside0.mk ((by rw [hg]; exact (below_size (by repeat (first|(with_reducible first|exact HB.out|apply zI|apply zG|apply zH)|exact HB.out))) : w.heap.size ≤ gb116)); have n3_ := Aside0.mk ((by rw [hg]; exact (below_size (by repeat (first|(with_reducible first|exact HB.out|apply zI|apply zG|apply zH)|exact HB.out))) : w.heap.size ≤ gb116)); clear HB; have HB := n0_; have BK116 := n1_; have GW116 := n2_; have GE116 := n3_; clear n0_ n1_ n2_ n3_; clear hb hbox hg)|((with_reducible refine gate_callee (f := 48) rfl ?_); refine goesL_ (some 5) rfl rfl Try.func48 (by kernel_rfl) rfl #[.int .i64 a0] rfl (by (try simp only [List.map_toArray, List.map_cons, List.map_nil]); first|done|rfl|(simp only [List.length_drop, List.length_take]; rfl)) ?_; (with_reducible refine (spec_l04Size.calls a0 t117 _ A2.out).mono ?_); rintro e w' ⟨rfl, ⟨nd, rfl⟩⟩; refine ⟨_, rfl, ?_⟩; (try (rw [drewN_self w5]; generalize hq_ : World.drewN w5 _ = w5; have n0_ : Aside0 (w5.heap[gb116]? = some (.cells #[.slice none 0 0, .slice none 0 0, .int .i64 0] 27 (0, 0))) := ⟨by rw [← hq_]; exact (by (with_reducible repeat (first|refine zA ?_ _|refine zC ?_|refine zB ?_ _)); exact BK116.out)⟩; have n1_ : Aside0 (Below w.heap.size w w5) := ⟨by rw [← hq_]; exact (by repeat (first|(with_reducible first|exact HB.out|apply zI|apply zG|apply zH|refine zJ ?_ GE116.out)|exact HB.out))⟩; clear BK116 HB hq_; have BK116 := n0_; have HB := n1_; clear n0_ n1_)); obtain ⟨hcz10_0, hcz10_1, hcz10_2, hfz10_0, hfz10_1, hfz10_2⟩ := zb3 BK116.out; (refine Classical.byCases (p := (t117 = true)) (fun c3 => ?zp2) (fun c3 => ?zn2); (case' zn2 => (replace c3 := Bool.eq_false_iff.mpr c3); (subst c3); (have H1 : (some (([] : List (S103)), ([] : List (S103)), 0, false)) = some (r1, r2, r3, r4) := by rw [if_neg (show ¬ (false = true) by decide)] at H; exact H); (clear H); (have H := H1); (clear H1); (simp only [Option.some.injEq, Prod.mk.injEq] at H); (obtain ⟨rfl, rfl, rfl, rfl⟩ := H)); (case' zp2 => (subst c3); (have H1 : ((spec_l04Cells.f k a0).bind fun t118 => (some (t118, ([] : List (S103)), 0, true))) = some (r1, r2, r3, r4) := by rw [if_pos rfl] at H; exact H); (clear H); (have H := H1); (clear H1); (replace H := Option.bind_eq_some_iff.mp H); (obtain ⟨t118, A40, H⟩ := H); (replace H : (some (t118, ([] : List (S103)), 0, true)) = some (r1, r2, r3, r4) := H); (have A4 := Aside0.mk A40); (clear A40); (simp only [Option.some.injEq, Prod.mk.injEq] at H); (obtain ⟨rfl, rfl, rfl, rfl⟩ := H))))|((with_reducible refine gate_callee (f := 49) rfl ?_); refine goesL_ (some 9) rfl rfl Try.func49 (by kernel_rfl) rfl #[.int .i64 a0] rfl (by (try simp only [List.map_toArray, List.map_cons, List.map_nil]); first|done|rfl|(simp only [List.length_drop, List.length_take]; rfl)) ?_; (with_reducible refine (spec_l04Cells.calls k a0 t118 _ A4.out).mono ?_); rintro e w6 ⟨v119, rfl, ho0, hb⟩; refine ⟨_, rfl, ?_⟩; have n0_ := Aside0.mk (Kd.R_lower ho0 (below_size (by repeat (first|(with_reducible first|exact HB.out|apply zI|apply zG|apply zH|refine zJ ?_ GE116.out)|exact HB.out)))); have n1_ := Aside0.mk (zK (g := gb116) (o := .cells #[.slice none 0 0, .slice none 0 0, .int .i64 0] 27 (0, 0)) (by (with_reducible repeat (first|refine zA ?_ _|refine zC ?_|refine zB ?_ _)); exact BK116.out) hb); have n2_ := Aside0.mk (zN (by repeat (first|(with_reducible first|exact HB.out|apply zI|apply zG|apply zH|refine zJ ?_ GE116.out)|exact HB.out)) hb); clear BK116; clear HB; have HO120 := n0_; have BK116 := n1_; have HB := n2_; clear n0_ n1_ n2_; (try clear hb); (try clear hb2); (try clear hk); (try clear hi); (try clear ho0); obtain ⟨Ao7, co7, eo7⟩ := Kd.R_slice HO120.out; subst eo7; obtain ⟨hcz8_0, hcz8_1, hcz8_2, hfz8_0, hfz8_1, hfz8_2⟩ := zb3 BK116.out))
  · refine bodyPost_ret (results_ct rfl _ _ gb116 27 #[.slice Ao7 t118.length co7, .slice none 0 0, .int .i64 0] (0, 0) _ rfl (by (with_reducible repeat (first|refine zA ?_ _|refine zC ?_|refine zB ?_ _)); refine blk_put (cs := #[.slice Ao7 t118.length co7, .slice none 0 0, .int .i64 0]) ?_ 2 _ rfl; (with_reducible repeat (first|refine zA ?_ _|refine zC ?_|refine zB ?_ _)); refine blk_put (cs := #[.slice Ao7 t118.length co7, .slice none 0 0, .int .i64 0]) ?_ 1 _ rfl; (with_reducible repeat (first|refine zA ?_ _|refine zC ?_|refine zB ?_ _)); refine blk_put (cs := #[.slice none 0 0, .slice none 0 0, .int .i64 0]) ?_ 0 _ rfl; (with_reducible repeat (first|refine zA ?_ _|refine zC ?_|refine zB ?_ _)); exact BK116.out) Try.underlying27 rfl (by kernel_rfl)) rfl ?_
    exact ⟨_, _, by first|rfl|(simp [errW_none, errW_some] <;> rfl)|(simp [*, errW_none, errW_some] <;> rfl), by (with_reducible repeat (first|apply zE|apply zD|apply zF)); exact zR (zL (p := ⟨gb116, 2, none⟩) (zL (p := ⟨gb116, 1, none⟩) (zL (p := ⟨gb116, 0, none⟩) (zQ HO120.out BK116.out (by decide)) (fun _ hk => hk.2) (.slice Ao7 t118.length co7)) (fun _ hk => hk.2) (.slice none 0 0)) (fun _ hk => hk.2) (.int .i64 0)) (fun _ hk => (by simp [Value.ownBlock])), by first|exact Kd.R_nil _ _ _ _ _|exact Kd.N_nil _ _ _ _ _|exact Kd.V_nil _ _ _ _ _|exact Kd.Q_nil _ _ _ _ _|exact Kd.S_nil _ _ _ _ _, by repeat (first|(with_reducible first|exact HB.out|apply zI|apply zG|apply zH|refine zJ ?_ GE116.out)|exact HB.out)⟩
  · refine bodyPost_ret (results_ct rfl _ _ gb116 27 #[.slice none 0 0, .slice none 0 0, .int .i64 0] (0, 0) _ rfl (by (with_reducible repeat (first|refine zA ?_ _|refine zC ?_|refine zB ?_ _)); refine blk_put (cs := #[.slice none 0 0, .slice none 0 0, .int .i64 0]) ?_ 2 _ rfl; (with_reducible repeat (first|refine zA ?_ _|refine zC ?_|refine zB ?_ _)); refine blk_put (cs := #[.slice none 0 0, .slice none 0 0, .int .i64 0]) ?_ 1 _ rfl; (with_reducible repeat (first|refine zA ?_ _|refine zC ?_|refine zB ?_ _)); refine blk_put (cs := #[.slice none 0 0, .slice none 0 0, .int .i64 0]) ?_ 0 _ rfl; (with_reducible repeat (first|refine zA ?_ _|refine zC ?_|refine zB ?_ _)); exact BK116.out) Try.underlying27 rfl (by kernel_rfl)) rfl ?_
    exact ⟨_, _, by first|rfl|(simp [errW_none, errW_some] <;> rfl)|(simp [*, errW_none, errW_some] <;> rfl), by first|exact Kd.R_nil _ _ _ _ _|exact Kd.N_nil _ _ _ _ _|exact Kd.V_nil _ _ _ _ _|exact Kd.Q_nil _ _ _ _ _|exact Kd.S_nil _ _ _ _ _, by first|exact Kd.R_nil _ _ _ _ _|exact Kd.N_nil _ _ _ _ _|exact Kd.V_nil _ _ _ _ _|exact Kd.Q_nil _ _ _ _ _|exact Kd.S_nil _ _ _ _ _, by repeat (first|(with_reducible first|exact HB.out|apply zI|apply zG|apply zH|refine zJ ?_ GE116.out)|exact HB.out)⟩

/-! ### spec_l08Cells: function 17 -/
def spec_l08Cells.l0 : Nat → Int → Int → Option (Int)
 |0, _, _ => none
 |k + 1, x0, x3 => if x3 ≤ (wrap64 (2 * x0)) then (spec_l08Cells.l0 k x0 (wrap64 (2 * x3))) else (some x3)
def spec_l08Cells.f (k : Nat) (a0 : Int) : Option (Int) := spec_l08Cells.l0 k a0 4
theorem spec_l08Cells.mono_l : ∀ k, (∀ y0 y1, LeO (spec_l08Cells.l0 k y0 y1) (spec_l08Cells.l0 (k + 1) y0 y1))
 |0 => fun _ _ r h => by simp [spec_l08Cells.l0] at h
 |k + 1 => by
    have ih0 := spec_l08Cells.mono_l k
    · intro y0 y1
      unfold spec_l08Cells.l0
      repeat' first
     |(with_reducible exact ih0 _ _)
     |(with_reducible exact LeO.refl _)
     |(with_reducible exact LeO.none _)
     |(with_reducible refine LeO.ite ?_ ?_)
     |(with_reducible refine LeO.bind ?_ (fun _ => ?_))
     |exact ih0 _ _
     |exact LeO.none _
     |refine LeO.ite ?_ ?_
     |refine LeO.bind ?_ (fun _ => ?_)
theorem spec_l08Cells.mono : ∀ a0 k, LeO (spec_l08Cells.f k a0) (spec_l08Cells.f (k + 1) a0) := by
  intro a0 k
  have ih0 := spec_l08Cells.mono_l k
  unfold spec_l08Cells.f
  repeat' first
     |(with_reducible exact ih0 _ _)
     |(with_reducible exact LeO.refl _)
     |(with_reducible exact LeO.none _)
     |(with_reducible refine LeO.ite ?_ ?_)
     |(with_reducible refine LeO.bind ?_ (fun _ => ?_))
     |exact ih0 _ _
     |exact LeO.none _
     |refine LeO.ite ?_ ?_
     |refine LeO.bind ?_ (fun _ => ?_)
set_option maxHeartbeats 8000000 in
set_option maxRecDepth 100000 in
theorem spec_l08Cells.calls (k : Nat) (a0 : Int) (r : Int) (w : World) (h : spec_l08Cells.f k a0 = some r) :
    Calls Try.prog 17 #[.int .i64 a0] w fun e w' => e = .returned (.int .i64 r) ∧ Drawn0 w w' := by
  have H : (spec_l08Cells.l0 k a0 4) = some r := h
  clear h
  have H' := Aside0.mk H
  clear H
  go_enter Try.func17, Try.ntmps17
  go_wp2
  go_loopg [3] k (fun kq v3 w' => ∃ (x3_1 : Int), v3 = .int .i64 x3_1 ∧ Aside0 (spec_l08Cells.l0 kq a0 x3_1 = some r) ∧ Aside0 (kq ≤ k) ∧ Drawn0 w w')
  case atStart => exact ⟨(4), (by first|rfl|(simp; done)|(simp [*]; done)), H', ⟨Nat.le_refl _⟩, by repeat (first|exact Drawn0.refl _|apply Drawn0.step)⟩
  case round =>
    clear H'
    try clear c1
    obtain ⟨x3_1, rfl, HA, HK1, ⟨m1, rfl⟩⟩ := hrel
    cases gk with
   |zero => exact absurd HA.out (by simp [spec_l08Cells.l0])
   |succ k1 =>
      have H := HA.out
      clear HA
      simp only [spec_l08Cells.l0] at H
      by_cases c2 : x3_1 ≤ (wrap64 (2 * a0))
      · rw [if_pos c2] at H
        have c2b0 : decide (x3_1 ≤ (wrap64 (2 * a0))) = true := decide_eq_true c2
        clear c2
        have H' := Aside0.mk H
        clear H
        go_wp2
        go_roundg k1
        case measure => have := HK1.out; omega
        case rel => exact ⟨(wrap64 (2 * x3_1)), (by first|rfl|(simp; done)|(simp [*]; done)), H', ⟨by have := HK1.out; omega⟩, by repeat (first|exact Drawn0.refl _|apply Drawn0.step)⟩
      · rw [if_neg c2] at H
        have c2b0 : decide (x3_1 ≤ (wrap64 (2 * a0))) = false := decide_eq_false c2
        clear c2
        obtain rfl := Option.some.inj H
        go_wp2
        go_ret
        exact ⟨by first|rfl|(simp; done)|(simp [*]; done), by repeat (first|exact Drawn0.refl _|apply Drawn0.step)⟩

/-! ### spec_l08Mosts: function 18 -/
def spec_l08Mosts.f (a0 : Int) : Option (Int × Int × Int) := if (wrap64 (Int.tdiv a0 4)) < 1 then (some (1, wrap64 ((wrap64 (a0 - 1)) - (wrap64 (Int.tdiv (wrap64 (a0 - 1)) 2))), wrap64 (Int.tdiv (wrap64 (a0 - 1)) 2))) else (some (wrap64 (Int.tdiv a0 4), wrap64 ((wrap64 (a0 - (wrap64 (Int.tdiv a0 4)))) - (wrap64 (Int.tdiv (wrap64 (a0 - (wrap64 (Int.tdiv a0 4)))) 2))), wrap64 (Int.tdiv (wrap64 (a0 - (wrap64 (Int.tdiv a0 4)))) 2)))
set_option maxHeartbeats 8000000 in
set_option maxRecDepth 100000 in
theorem spec_l08Mosts.calls (a0 : Int) (r1 : Int) (r2 : Int) (r3 : Int) (w : World) (h : spec_l08Mosts.f a0 = some (r1, r2, r3)) :
    Calls Try.prog 18 #[.int .i64 a0] w fun e w' => e = .returned (.tuple #[.int .i64 r1, .int .i64 r2, .int .i64 r3]) ∧ Drawn0 w w' := by
  have H : (if (wrap64 (Int.tdiv a0 4)) < 1 then (some (1, wrap64 ((wrap64 (a0 - 1)) - (wrap64 (Int.tdiv (wrap64 (a0 - 1)) 2))), wrap64 (Int.tdiv (wrap64 (a0 - 1)) 2))) else (some (wrap64 (Int.tdiv a0 4), wrap64 ((wrap64 (a0 - (wrap64 (Int.tdiv a0 4)))) - (wrap64 (Int.tdiv (wrap64 (a0 - (wrap64 (Int.tdiv a0 4)))) 2))), wrap64 (Int.tdiv (wrap64 (a0 - (wrap64 (Int.tdiv a0 4)))) 2)))) = some (r1, r2, r3) := h
  clear h
  by_cases c2 : (wrap64 (Int.tdiv a0 4)) < 1
  · rw [if_pos c2] at H
    have c2b0 : decide ((wrap64 (Int.tdiv a0 4)) < 1) = true := decide_eq_true c2
    clear c2
    simp only [Option.some.injEq, Prod.mk.injEq] at H
    obtain ⟨rfl, rfl, rfl⟩ := H
    go_enter Try.func18, Try.ntmps18
    go_wp2
    go_ret3
    exact ⟨by first|rfl|(simp; done)|(simp [*]; done), by repeat (first|exact Drawn0.refl _|apply Drawn0.step)⟩
  · rw [if_neg c2] at H
    have c2b0 : decide ((wrap64 (Int.tdiv a0 4)) < 1) = false := decide_eq_false c2
    clear c2
    simp only [Option.some.injEq, Prod.mk.injEq] at H
    obtain ⟨rfl, rfl, rfl⟩ := H
    go_enter Try.func18, Try.ntmps18
    go_wp2
    go_ret3
    exact ⟨by first|rfl|(simp; done)|(simp [*]; done), by repeat (first|exact Drawn0.refl _|apply Drawn0.step)⟩

/-! ### spec_SketchNew: function 19 -/
def spec_SketchNew.f  : Option (List Int × Int) := if 48 ≤ 35184372088832 then (some ((List.replicate 48 0), 0)) else (none)
set_option maxHeartbeats 8000000 in
set_option maxRecDepth 100000 in
theorem spec_SketchNew.calls  (r1 : List Int) (r2 : Int) (w : World) (h : spec_SketchNew.f  = some (r1, r2)) :
    Calls Try.prog 19 #[] w fun e w' => ∃ v0_ : Value, e = .returned (.agg #[v0_, .int .i64 r2]) ∧ Kd.R (Kd.int .i64) 3 w' w.heap.size (fun _ => True) v0_ r1 ∧ Below w.heap.size w w' := by
  have hu33 := Try.underlying33
  have HB := Aside0.mk (Below.refl w.heap.size w)
  have H : (if 48 ≤ 35184372088832 then (some ((List.replicate 48 0), 0)) else (none)) = some (r1, r2) := h
  clear h
  by_cases c1 : 48 ≤ 35184372088832
  · rw [if_pos c1] at H
    have c1b0 := eq_true c1
    have c1b1 : decide (48 ≤ 35184372088832) = true := decide_eq_true c1
    clear c1
    obtain ⟨y122, hy122⟩ : ∃ y_ : List Int, y_ = (List.replicate 48 0) := ⟨_, rfl⟩
    replace H : (some (y122, 0)) = some (r1, r2) := by first|(rw [hy122]; with_reducible exact H)|(have H2_ := (Option.bind_some _ _).symm.trans H; rw [hy122]; with_reducible exact H2_)|(have H2_ := (Option.bind_some _ _).symm.trans H; with_reducible exact H2_)|with_reducible exact H|(rw [hy122]; exact H)|exact H
    have Ny122 := Aside0.mk hy122
    clear hy122
    simp only [Option.some.injEq, Prod.mk.injEq] at H
    obtain ⟨rfl, rfl⟩ := H
    go_enter Try.func19, Try.ntmps19
    go_wp2_with (first|((with_reducible refine gate_dst (N := 0) rfl ?_); refine box_event ?hg (N := 0) ?hd (cs := #[.slice none 0 0, .int .i64 0]) (t := 33) ?hr ?_; (case hd => rfl); (case hg => rfl); (case hr => first|(go_simp; done)|(go_simp; rfl)); intro gb121 hg w2 hbox hb; have n0_ := Aside0.mk (zN (by repeat (first|(with_reducible first|exact HB.out|apply zI|apply zG|apply zH)|exact HB.out)) hb); have n1_ := Aside0.mk (hbox); have n2_ := Aside0.mk ((by rw [hg]; exact (below_size (by repeat (first|(with_reducible first|exact HB.out|apply zI|apply zG|apply zH)|exact HB.out))) : w.heap.size ≤ gb121)); have n3_ := Aside0.mk ((by rw [hg]; exact (below_size (by repeat (first|(with_reducible first|exact HB.out|apply zI|apply zG|apply zH)|exact HB.out))) : w.heap.size ≤ gb121)); clear HB; have HB := n0_; have BK121 := n1_; have GW121 := n2_; have GE121 := n3_; clear n0_ n1_ n2_ n3_; clear hb hbox hg)|((with_reducible refine gate_dst (N := 1) rfl ?_); refine Kd.R_make (Kd.int .i64) _ 3 rfl (N := 1) rfl 31 _ _ rfl 48 rfl rfl Try.underlying31 (.int .i64 0) 8 info3 rfl (by decide) (by omega) 0 (ok := fun _ => True) (okp := fun _ => True) rfl (fun _ hk => hk) trivial (by omega) (by omega) (Below.refl _ _) (Nat.le_refl _) ?_; intro v123 w3 ho4 hb hg_ hnew_; clear hg_ hnew_; (first|rw [← Ny122.out] at ho4|(simp only [Int.reduceToNat] at ho4; rw [← Ny122.out] at ho4)); have n0_ := Aside0.mk (Kd.R_lower ho4 (below_size (by repeat (first|(with_reducible first|exact HB.out|apply zI|apply zG|apply zH|refine zJ ?_ GE121.out)|exact HB.out)))); have n1_ := Aside0.mk (zK (g := gb121) (o := .cells #[.slice none 0 0, .int .i64 0] 33 (0, 0)) (by (with_reducible repeat (first|refine zA ?_ _|refine zC ?_|refine zB ?_ _)); exact BK121.out) hb); have n2_ := Aside0.mk (zN (by repeat (first|(with_reducible first|exact HB.out|apply zI|apply zG|apply zH|refine zJ ?_ GE121.out)|exact HB.out)) hb); clear BK121; clear HB; have HO124 := n0_; have BK121 := n1_; have HB := n2_; clear n0_ n1_ n2_; clear hb ho4; obtain ⟨Ao5, co5, eo5⟩ := Kd.R_slice HO124.out; subst eo5; obtain ⟨hcz6_0, hcz6_1, hfz6_0, hfz6_1⟩ := zb2 BK121.out))
    refine bodyPost_ret (results_cell_row rfl _ _ gb121 33 #[.slice Ao5 y122.length co5, .int .i64 0] (0, 0) _ rfl (by (with_reducible repeat (first|refine zA ?_ _|refine zC ?_|refine zB ?_ _)); refine blk_put (cs := #[.slice Ao5 y122.length co5, .int .i64 0]) ?_ 1 _ rfl; (with_reducible repeat (first|refine zA ?_ _|refine zC ?_|refine zB ?_ _)); refine blk_put (cs := #[.slice none 0 0, .int .i64 0]) ?_ 0 _ rfl; (with_reducible repeat (first|refine zA ?_ _|refine zC ?_|refine zB ?_ _)); exact BK121.out) Try.underlying33 rfl (by kernel_rfl)) rfl ?_
    exact ⟨_, by first|rfl|(simp [errW_none, errW_some] <;> rfl)|(simp [*, errW_none, errW_some] <;> rfl), by (with_reducible repeat (first|apply zE|apply zD|apply zF)); exact zR (zL (p := ⟨gb121, 1, none⟩) (zL (p := ⟨gb121, 0, none⟩) (zQ HO124.out BK121.out (by decide)) (fun _ hk => hk.2) (.slice Ao5 y122.length co5)) (fun _ hk => hk.2) (.int .i64 0)) (fun _ hk => trivial), by repeat (first|(with_reducible first|exact HB.out|apply zI|apply zG|apply zH|refine zJ ?_ GE121.out)|exact HB.out)⟩
  · rw [if_neg c1] at H
    exact absurd H (by simp)

/-! ### spec_NearNew: function 5 -/
def spec_NearNew.f (k : Nat) (a0 : Int) : Option ((List (S73)) × Int × (List (S103)) × (List (S103)) × Int × Int × List ByteArray × Int × List ByteArray × Int × List ByteArray × List Int × Int × Int × Bool) := (spec_l01In.f a0 2 24).bind fun t126 => (if t126 = true then ((spec_ArenaNew.f k a0).bind fun bt127 => ((spec_l08Cells.f k a0).bind fun t133 => ((spec_TableNew.f k t133).bind fun bt134 => ((spec_l08Mosts.f a0).bind fun bt143 => ((spec_SketchNew.f).bind fun bt146 => (some (bt127.1, bt127.2.1, bt134.1, bt134.2.1, bt134.2.2.1, bt143.1, ([] : List ByteArray), bt143.2.1, ([] : List ByteArray), bt143.2.2, ([] : List ByteArray), bt146.1, bt146.2, 0, true))))))) else (some (([] : List (S73)), 0, ([] : List (S103)), ([] : List (S103)), 0, 0, ([] : List ByteArray), 0, ([] : List ByteArray), 0, ([] : List ByteArray), ([] : List Int), 0, 0, false)))
theorem spec_NearNew.mono : ∀ a0 k, LeO (spec_NearNew.f k a0) (spec_NearNew.f (k + 1) a0) := by
  intro a0 k
  unfold spec_NearNew.f
  repeat' first
     |(with_reducible exact spec_ArenaNew.mono _ _)
     |(with_reducible exact spec_TableNew.mono _ _)
     |(with_reducible exact spec_l08Cells.mono _ _)
     |(with_reducible exact LeO.refl _)
     |(with_reducible exact LeO.none _)
     |(with_reducible refine LeO.ite ?_ ?_)
     |(with_reducible refine LeO.bind ?_ (fun _ => ?_))
     |exact spec_ArenaNew.mono _ _
     |exact spec_TableNew.mono _ _
     |exact spec_l08Cells.mono _ _
     |exact LeO.none _
     |refine LeO.ite ?_ ?_
     |refine LeO.bind ?_ (fun _ => ?_)
def spec_NearNew.T6 : Bool × List (List Nat × List Nat) := (true, [([], []), ([], []), ([], []), ([2], [2]), ([], []), ([4], [4]), ([], []), ([6], [6]), ([], []), ([0, 1, 3, 5, 7, 8], [0, 1, 3, 5, 7, 8]), ([9, 8, 0, 1, 2, 3, 4, 5, 6, 7, 8, 9], [9]), ([10, 0, 1, 2, 3, 4, 5, 6, 7, 8, 9, 10], [])])
def spec_NearNew.B6 : List Nat := [0, 0, 0, 4, 0, 16, 0, 64, 0, 511, 1023, 2047]
theorem spec_NearNew.tab6 : rtab .any (opsOf Try.f5 6) = spec_NearNew.T6 := by kernel_rfl
theorem spec_NearNew.bits6 : waitsOk spec_NearNew.T6.2 spec_NearNew.B6 = true := by kernel_rfl
set_option maxHeartbeats 8000000 in
set_option maxRecDepth 100000 in
theorem spec_NearNew.calls (k : Nat) (a0 : Int) (r1 : List (S73)) (r2 : Int) (r3 : List (S103)) (r4 : List (S103)) (r5 : Int) (r6 : Int) (r7 : List ByteArray) (r8 : Int) (r9 : List ByteArray) (r10 : Int) (r11 : List ByteArray) (r12 : List Int) (r13 : Int) (r14 : Int) (r15 : Bool) (w : World) (h : spec_NearNew.f k a0 = some (r1, r2, r3, r4, r5, r6, r7, r8, r9, r10, r11, r12, r13, r14, r15)) :
    Calls Try.prog 5 #[.int .i64 a0] w fun e w' => ∃ v0_ v2_ v3_ v6_ v8_ v10_ v11_ : Value, e = .returned (.tuple #[.agg #[v0_, .int .i64 r2, v2_, v3_, .int .i64 r5, .int .i64 r6, v6_, .int .i64 r8, v8_, .int .i64 r10, v10_, v11_, .int .i64 r13, .int .i64 r14], .bool r15]) ∧ Kd.R k73 73 w' w.heap.size (fun _ => True) v0_ r1 ∧ Kd.R k103 103 w' w.heap.size (fun k_ => some k_ ≠ (v3_ : Value).ownBlock) v2_ r3 ∧ Kd.R k103 103 w' w.heap.size (fun k_ => some k_ ≠ (v2_ : Value).ownBlock) v3_ r4 ∧ Kd.R Kd.string 9 w' w.heap.size (fun k_ => some k_ ≠ (v8_ : Value).ownBlock ∧ some k_ ≠ (v10_ : Value).ownBlock) v6_ r7 ∧ Kd.R Kd.string 9 w' w.heap.size (fun k_ => some k_ ≠ (v6_ : Value).ownBlock ∧ some k_ ≠ (v10_ : Value).ownBlock) v8_ r9 ∧ Kd.R Kd.string 9 w' w.heap.size (fun k_ => some k_ ≠ (v6_ : Value).ownBlock ∧ some k_ ≠ (v8_ : Value).ownBlock) v10_ r11 ∧ Kd.R (Kd.int .i64) 3 w' w.heap.size (fun _ => True) v11_ r12 ∧ Below w.heap.size w w' := by
  have hu37 := Try.underlying37
  have hu24 := Try.underlying24
  have hu27 := Try.underlying27
  have hu30 := Try.underlying30
  have HB := Aside0.mk (Below.refl w.heap.size w)
  have H : ((spec_l01In.f a0 2 24).bind fun t126 => (if t126 = true then ((spec_ArenaNew.f k a0).bind fun bt127 => ((spec_l08Cells.f k a0).bind fun t133 => ((spec_TableNew.f k t133).bind fun bt134 => ((spec_l08Mosts.f a0).bind fun bt143 => ((spec_SketchNew.f).bind fun bt146 => (some (bt127.1, bt127.2.1, bt134.1, bt134.2.1, bt134.2.2.1, bt143.1, ([] : List ByteArray), bt143.2.1, ([] : List ByteArray), bt143.2.2, ([] : List ByteArray), bt146.1, bt146.2, 0, true))))))) else (some (([] : List (S73)), 0, ([] : List (S103)), ([] : List (S103)), 0, 0, ([] : List ByteArray), 0, ([] : List ByteArray), 0, ([] : List ByteArray), ([] : List Int), 0, 0, false)))) = some (r1, r2, r3, r4, r5, r6, r7, r8, r9, r10, r11, r12, r13, r14, r15) := h
  clear h
  replace H := Option.bind_eq_some_iff.mp H
  obtain ⟨t126, A20, H⟩ := H
  replace H : (if t126 = true then ((spec_ArenaNew.f k a0).bind fun bt127 => ((spec_l08Cells.f k a0).bind fun t133 => ((spec_TableNew.f k t133).bind fun bt134 => ((spec_l08Mosts.f a0).bind fun bt143 => ((spec_SketchNew.f).bind fun bt146 => (some (bt127.1, bt127.2.1, bt134.1, bt134.2.1, bt134.2.2.1, bt143.1, ([] : List ByteArray), bt143.2.1, ([] : List ByteArray), bt143.2.2, ([] : List ByteArray), bt146.1, bt146.2, 0, true))))))) else (some (([] : List (S73)), 0, ([] : List (S103)), ([] : List (S103)), 0, 0, ([] : List ByteArray), 0, ([] : List ByteArray), 0, ([] : List ByteArray), ([] : List Int), 0, 0, false))) = some (r1, r2, r3, r4, r5, r6, r7, r8, r9, r10, r11, r12, r13, r14, r15) := H
  have A2 := Aside0.mk A20
  clear A20
  by_cases c3 : t126 = true
  · subst c3
    have H1 : ((spec_ArenaNew.f k a0).bind fun bt127 => ((spec_l08Cells.f k a0).bind fun t133 => ((spec_TableNew.f k t133).bind fun bt134 => ((spec_l08Mosts.f a0).bind fun bt143 => ((spec_SketchNew.f).bind fun bt146 => (some (bt127.1, bt127.2.1, bt134.1, bt134.2.1, bt134.2.2.1, bt143.1, ([] : List ByteArray), bt143.2.1, ([] : List ByteArray), bt143.2.2, ([] : List ByteArray), bt146.1, bt146.2, 0, true))))))) = some (r1, r2, r3, r4, r5, r6, r7, r8, r9, r10, r11, r12, r13, r14, r15) := by rw [if_pos rfl] at H; exact H
    clear H
    have H := H1
    clear H1
    replace H := Option.bind_eq_some_iff.mp H
    obtain ⟨⟨t127, t130, t131⟩, A40, H⟩ := H
    replace H : ((spec_l08Cells.f k a0).bind fun t133 => ((spec_TableNew.f k t133).bind fun bt134 => ((spec_l08Mosts.f a0).bind fun bt143 => ((spec_SketchNew.f).bind fun bt146 => (some (t127, t130, bt134.1, bt134.2.1, bt134.2.2.1, bt143.1, ([] : List ByteArray), bt143.2.1, ([] : List ByteArray), bt143.2.2, ([] : List ByteArray), bt146.1, bt146.2, 0, true)))))) = some (r1, r2, r3, r4, r5, r6, r7, r8, r9, r10, r11, r12, r13, r14, r15) := H
    have A4 := Aside0.mk A40
    clear A40
    replace H := Option.bind_eq_some_iff.mp H
    obtain ⟨t133, A50, H⟩ := H
    replace H : ((spec_TableNew.f k t133).bind fun bt134 => ((spec_l08Mosts.f a0).bind fun bt143 => ((spec_SketchNew.f).bind fun bt146 => (some (t127, t130, bt134.1, bt134.2.1, bt134.2.2.1, bt143.1, ([] : List ByteArray), bt143.2.1, ([] : List ByteArray), bt143.2.2, ([] : List ByteArray), bt146.1, bt146.2, 0, true))))) = some (r1, r2, r3, r4, r5, r6, r7, r8, r9, r10, r11, r12, r13, r14, r15) := H
    have A5 := Aside0.mk A50
    clear A50
    replace H := Option.bind_eq_some_iff.mp H
    obtain ⟨⟨t134, t137, t140, t141⟩, A60, H⟩ := H
    replace H : ((spec_l08Mosts.f a0).bind fun bt143 => ((spec_SketchNew.f).bind fun bt146 => (some (t127, t130, t134, t137, t140, bt143.1, ([] : List ByteArray), bt143.2.1, ([] : List ByteArray), bt143.2.2, ([] : List ByteArray), bt146.1, bt146.2, 0, true)))) = some (r1, r2, r3, r4, r5, r6, r7, r8, r9, r10, r11, r12, r13, r14, r15) := H
    have A6 := Aside0.mk A60
    clear A60
    replace H := Option.bind_eq_some_iff.mp H
    obtain ⟨⟨t143, t144, t145⟩, A70, H⟩ := H
    replace H : ((spec_SketchNew.f).bind fun bt146 => (some (t127, t130, t134, t137, t140, t143, ([] : List ByteArray), t144, ([] : List ByteArray), t145, ([] : List ByteArray), bt146.1, bt146.2, 0, true))) = some (r1, r2, r3, r4, r5, r6, r7, r8, r9, r10, r11, r12, r13, r14, r15) := H
    have A7 := Aside0.mk A70
    clear A70
    replace H := Option.bind_eq_some_iff.mp H
    obtain ⟨⟨t146, t149⟩, A80, H⟩ := H
    replace H : (some (t127, t130, t134, t137, t140, t143, ([] : List ByteArray), t144, ([] : List ByteArray), t145, ([] : List ByteArray), t146, t149, 0, true)) = some (r1, r2, r3, r4, r5, r6, r7, r8, r9, r10, r11, r12, r13, r14, r15) := H
    have A8 := Aside0.mk A80
    clear A80
    simp only [Option.some.injEq, Prod.mk.injEq] at H
    obtain ⟨rfl, rfl, rfl, rfl, rfl, rfl, rfl, rfl, rfl, rfl, rfl, rfl, rfl, rfl, rfl⟩ := H
    go_enter Try.func5, Try.ntmps5
    try go_wp2_with (first|((with_reducible refine gate_dst (N := 2) rfl ?_); refine box_event ?hg (N := 2) ?hd (cs := #[.slice none 0 0, .int .i64 0, .slice none 0 0, .slice none 0 0, .int .i64 0, .int .i64 0, .slice none 0 0, .int .i64 0, .slice none 0 0, .int .i64 0, .slice none 0 0, .slice none 0 0, .int .i64 0, .int .i64 0]) (t := 37) ?hr ?_; (case hd => rfl); (case hg => rfl); (case hr => first|(go_simp; done)|(go_simp; rfl)); intro gb125 hg w9 hbox hb; have n0_ := Aside0.mk (zN (by repeat (first|(with_reducible first|exact HB.out|apply zI|apply zG|apply zH)|exact HB.out)) hb); have n1_ := Aside0.mk (hbox); have n2_ := Aside0.mk ((by rw [hg]; exact (below_size (by repeat (first|(with_reducible first|exact HB.out|apply zI|apply zG|apply zH)|exact HB.out))) : w.heap.size ≤ gb125)); have n3_ := Aside0.mk ((by rw [hg]; exact (below_size (by repeat (first|(with_reducible first|exact HB.out|apply zI|apply zG|apply zH)|exact HB.out))) : w.heap.size ≤ gb125)); clear HB; have HB := n0_; have BK125 := n1_; have GW125 := n2_; have GE125 := n3_; clear n0_ n1_ n2_ n3_; clear hb hbox hg)|((with_reducible refine gate_callee (f := 14) rfl ?_); refine goesL_ (some 12) rfl rfl Try.func14 (by kernel_rfl) rfl #[.int .i64 a0, .int .i64 2, .int .i64 24] rfl (by (try simp only [List.map_toArray, List.map_cons, List.map_nil]); first|done|rfl|(simp only [List.length_drop, List.length_take]; rfl)) ?_; (with_reducible refine (spec_l01In.calls a0 2 24 true _ A2.out).mono ?_); rintro e w' ⟨rfl, ⟨nd, rfl⟩⟩; refine ⟨_, rfl, ?_⟩; (try (rw [drewN_self w9]; generalize hq_ : World.drewN w9 _ = w9; have n0_ : Aside0 (w9.heap[gb125]? = some (.cells #[.slice none 0 0, .int .i64 0, .slice none 0 0, .slice none 0 0, .int .i64 0, .int .i64 0, .slice none 0 0, .int .i64 0, .slice none 0 0, .int .i64 0, .slice none 0 0, .slice none 0 0, .int .i64 0, .int .i64 0] 37 (0, 0))) := ⟨by rw [← hq_]; exact (by (with_reducible repeat (first|refine zA ?_ _|refine zC ?_|refine zB ?_ _)); exact BK125.out)⟩; have n1_ : Aside0 (Below w.heap.size w w9) := ⟨by rw [← hq_]; exact (by repeat (first|(with_reducible first|exact HB.out|apply zI|apply zG|apply zH|refine zJ ?_ GE125.out)|exact HB.out))⟩; clear BK125 HB hq_; have BK125 := n0_; have HB := n1_; clear n0_ n1_)))|((with_reducible refine gate_callee (f := 15) rfl ?_); refine goesL_ (some 17) rfl rfl Try.func15 (by kernel_rfl) rfl #[.int .i64 a0] rfl (by (try simp only [List.map_toArray, List.map_cons, List.map_nil]); first|done|rfl|(simp only [List.length_drop, List.length_take]; rfl)) ?_; (with_reducible refine (spec_ArenaNew.calls k a0 t127 t130 t131 _ A4.out).mono ?_); rintro e w10 ⟨v128, rfl, ho0, hb⟩; refine ⟨_, rfl, ?_⟩; have n0_ := Aside0.mk (Kd.R_lower ho0 (below_size (by repeat (first|(with_reducible first|exact HB.out|apply zI|apply zG|apply zH|refine zJ ?_ GE125.out)|exact HB.out)))); have n1_ := Aside0.mk (zK (g := gb125) (o := .cells #[.slice none 0 0, .int .i64 0, .slice none 0 0, .slice none 0 0, .int .i64 0, .int .i64 0, .slice none 0 0, .int .i64 0, .slice none 0 0, .int .i64 0, .slice none 0 0, .slice none 0 0, .int .i64 0, .int .i64 0] 37 (0, 0)) (by (with_reducible repeat (first|refine zA ?_ _|refine zC ?_|refine zB ?_ _)); exact BK125.out) hb); have n2_ := Aside0.mk (zN (by repeat (first|(with_reducible first|exact HB.out|apply zI|apply zG|apply zH|refine zJ ?_ GE125.out)|exact HB.out)) hb); clear BK125; clear HB; have HO129 := n0_; have BK125 := n1_; have HB := n2_; clear n0_ n1_ n2_; (try clear hb); (try clear hb2); (try clear hk); (try clear hi); (try clear ho0))|((with_reducible refine gate_dst (N := 4) rfl ?_); refine box_event ?hg (N := 4) ?hd (cs := #[.slice none 0 0, .int .i64 0]) (t := 24) ?hr ?_; (case hd => rfl); (case hg => rfl); (case hr => first|(go_simp; done)|(go_simp; rfl)); intro gb132 hg w11 hbox hb; have n0_ := Aside0.mk (zM (by (with_reducible repeat (first|apply zE|apply zD|apply zF)); exact HO129.out) hb); have n1_ := Aside0.mk (zK (g := gb125) (o := .cells #[.slice none 0 0, .int .i64 0, .slice none 0 0, .slice none 0 0, .int .i64 0, .int .i64 0, .slice none 0 0, .int .i64 0, .slice none 0 0, .int .i64 0, .slice none 0 0, .slice none 0 0, .int .i64 0, .int .i64 0] 37 (0, 0)) (by (with_reducible repeat (first|refine zA ?_ _|refine zC ?_|refine zB ?_ _)); exact BK125.out) hb); have n2_ := Aside0.mk (zN (by repeat (first|(with_reducible first|exact HB.out|apply zI|apply zG|apply zH|refine zJ ?_ GE125.out)|exact HB.out)) hb); have n3_ := Aside0.mk (hbox); have n4_ := Aside0.mk ((by rw [hg]; exact (below_size (by repeat (first|(with_reducible first|exact HB.out|apply zI|apply zG|apply zH|refine zJ ?_ GE125.out)|exact HB.out))) : w.heap.size ≤ gb132)); have n5_ := Aside0.mk ((by rw [hg]; exact (below_size (by repeat (first|(with_reducible first|exact HB.out|apply zI|apply zG|apply zH|refine zJ ?_ GE125.out)|exact HB.out))) : w.heap.size ≤ gb132)); have n6_ := Aside0.mk ((by rw [hg]; exact Nat.ne_of_lt (blk_lt (g := gb125) (o := .cells #[.slice none 0 0, .int .i64 0, .slice none 0 0, .slice none 0 0, .int .i64 0, .int .i64 0, .slice none 0 0, .int .i64 0, .slice none 0 0, .int .i64 0, .slice none 0 0, .slice none 0 0, .int .i64 0, .int .i64 0] 37 (0, 0)) (by (with_reducible repeat (first|refine zA ?_ _|refine zC ?_|refine zB ?_ _)); exact BK125.out)) : gb125 ≠ gb132)); have n7_ := Aside0.mk ((by rw [hg]; exact Nat.ne_of_gt (blk_lt (g := gb125) (o := .cells #[.slice none 0 0, .int .i64 0, .slice none 0 0, .slice none 0 0, .int .i64 0, .int .i64 0, .slice none 0 0, .int .i64 0, .slice none 0 0, .int .i64 0, .slice none 0 0, .slice none 0 0, .int .i64 0, .int .i64 0] 37 (0, 0)) (by (with_reducible repeat (first|refine zA ?_ _|refine zC ?_|refine zB ?_ _)); exact BK125.out)) : gb132 ≠ gb125)); clear HO129; clear BK125; clear HB; have HO129 := n0_; have BK125 := n1_; have HB := n2_; have BK132 := n3_; have GW132 := n4_; have GE132 := n5_; have NB125_132 := n6_; have NB132_125 := n7_; clear n0_ n1_ n2_ n3_ n4_ n5_ n6_ n7_; clear hb hbox hg; obtain ⟨Ao12, co12, eo12⟩ := Kd.R_slice HO129.out; subst eo12; have hnb13 := NB132_125.out; have hnc13 := NB125_132.out; obtain ⟨hcz14_0, hcz14_1, hfz14_0, hfz14_1⟩ := zb2 BK132.out)|((with_reducible refine gate_callee (f := 17) rfl ?_); refine goesL_ (some 22) rfl rfl Try.func17 (by kernel_rfl) rfl #[.int .i64 a0] rfl (by (try simp only [List.map_toArray, List.map_cons, List.map_nil]); first|done|rfl|(simp only [List.length_drop, List.length_take]; rfl)) ?_; (with_reducible refine (spec_l08Cells.calls k a0 t133 _ A5.out).mono ?_); rintro e w' ⟨rfl, ⟨nd, rfl⟩⟩; refine ⟨_, rfl, ?_⟩)|((with_reducible refine gate_callee (f := 16) rfl ?_); refine goesL_ (some 23) rfl rfl Try.func16 (by kernel_rfl) rfl #[.int .i64 t133] rfl (by (try simp only [List.map_toArray, List.map_cons, List.map_nil]); first|done|rfl|(simp only [List.length_drop, List.length_take]; rfl)) ?_; (with_reducible refine (spec_TableNew.calls k t133 t134 t137 t140 t141 _ A6.out).mono ?_); rintro e w15 ⟨v135, v138, rfl, ho0, ho1, hb⟩; refine ⟨_, rfl, ?_⟩; have n0_ := Aside0.mk (zM (by (with_reducible repeat (first|apply zE|apply zD|apply zF)); exact (zR (zL (p := ⟨gb132, 1, none⟩) (zL (p := ⟨gb132, 0, none⟩) (zQ HO129.out BK132.out (by decide)) (fun _ hk => hk.2) (.slice Ao12 t127.length co12)) (fun _ hk => hk.2) (.int .i64 t130)) (fun _ h_ => h_.1))) hb); have n1_ := Aside0.mk (Kd.R_lower ho0 (below_size (by repeat (first|(with_reducible first|exact HB.out|apply zI|apply zG|apply zH|refine zJ ?_ GE125.out|refine zJ ?_ GE132.out)|exact HB.out)))); have n2_ := Aside0.mk (Kd.R_lower ho1 (below_size (by repeat (first|(with_reducible first|exact HB.out|apply zI|apply zG|apply zH|refine zJ ?_ GE125.out|refine zJ ?_ GE132.out)|exact HB.out)))); have n3_ := Aside0.mk (zK (g := gb125) (o := .cells #[.slice none 0 0, .int .i64 0, .slice none 0 0, .slice none 0 0, .int .i64 0, .int .i64 0, .slice none 0 0, .int .i64 0, .slice none 0 0, .int .i64 0, .slice none 0 0, .slice none 0 0, .int .i64 0, .int .i64 0] 37 (0, 0)) (by (with_reducible repeat (first|refine zA ?_ _|refine zC ?_|refine zB ?_ _)); refine zT ?_ NB125_132.out _; (with_reducible repeat (first|refine zA ?_ _|refine zC ?_|refine zB ?_ _)); refine zT ?_ NB125_132.out _; (with_reducible repeat (first|refine zA ?_ _|refine zC ?_|refine zB ?_ _)); exact BK125.out) hb); have n4_ := Aside0.mk (zK (g := gb132) (o := .cells #[.slice Ao12 t127.length co12, .int .i64 t130] 24 (0, 0)) (by (with_reducible repeat (first|refine zA ?_ _|refine zC ?_|refine zB ?_ _)); refine blk_put (cs := #[.slice Ao12 t127.length co12, .int .i64 0]) ?_ 1 _ rfl; (with_reducible repeat (first|refine zA ?_ _|refine zC ?_|refine zB ?_ _)); refine blk_put (cs := #[.slice none 0 0, .int .i64 0]) ?_ 0 _ rfl; (with_reducible repeat (first|refine zA ?_ _|refine zC ?_|refine zB ?_ _)); exact BK132.out) hb); have n5_ := Aside0.mk (zN (by repeat (first|(with_reducible first|exact HB.out|apply zI|apply zG|apply zH|refine zJ ?_ GE125.out|refine zJ ?_ GE132.out)|exact HB.out)) hb); clear HO129; clear BK125; clear BK132; clear HB; have HO129 := n0_; have HO136 := n1_; have HO139 := n2_; have BK125 := n3_; have BK132 := n4_; have HB := n5_; clear n0_ n1_ n2_ n3_ n4_ n5_; (try clear hb); (try clear hb2); (try clear hk); (try clear hi); (try clear ho0); (try clear ho1))|((with_reducible refine gate_dst (N := 6) rfl ?_); refine box_event ?hg (N := 6) ?hd (cs := #[.slice none 0 0, .slice none 0 0, .int .i64 0]) (t := 27) ?hr ?_; (case hd => rfl); (case hg => rfl); (case hr => first|(go_simp; done)|(go_simp; rfl)); intro gb142 hg w16 hbox hb; have n0_ := Aside0.mk (zM (by (with_reducible repeat (first|apply zE|apply zD|apply zF)); exact HO129.out) hb); have n1_ := Aside0.mk (zM (by (with_reducible repeat (first|apply zE|apply zD|apply zF)); exact HO136.out) hb); have n2_ := Aside0.mk (zM (by (with_reducible repeat (first|apply zE|apply zD|apply zF)); exact HO139.out) hb); have n3_ := Aside0.mk (zK (g := gb125) (o := .cells #[.slice none 0 0, .int .i64 0, .slice none 0 0, .slice none 0 0, .int .i64 0, .int .i64 0, .slice none 0 0, .int .i64 0, .slice none 0 0, .int .i64 0, .slice none 0 0, .slice none 0 0, .int .i64 0, .int .i64 0] 37 (0, 0)) (by (with_reducible repeat (first|refine zA ?_ _|refine zC ?_|refine zB ?_ _)); exact BK125.out) hb); have n4_ := Aside0.mk (zK (g := gb132) (o := .cells #[.slice Ao12 t127.length co12, .int .i64 t130] 24 (0, 0)) (by (with_reducible repeat (first|refine zA ?_ _|refine zC ?_|refine zB ?_ _)); exact BK132.out) hb); have n5_ := Aside0.mk (zN (by repeat (first|(with_reducible first|exact HB.out|apply zI|apply zG|apply zH|refine zJ ?_ GE125.out|refine zJ ?_ GE132.out)|exact HB.out)) hb); have n6_ := Aside0.mk (hbox); have n7_ := Aside0.mk ((by rw [hg]; exact (below_size (by repeat (first|(with_reducible first|exact HB.out|apply zI|apply zG|apply zH|refine zJ ?_ GE125.out|refine zJ ?_ GE132.out)|exact HB.out))) : w.heap.size ≤ gb142)); have n8_ := Aside0.mk ((by rw [hg]; exact (below_size (by repeat (first|(with_reducible first|exact HB.out|apply zI|apply zG|apply zH|refine zJ ?_ GE125.out|refine zJ ?_ GE132.out)|exact HB.out))) : w.heap.size ≤ gb142)); have n9_ := Aside0.mk ((by rw [hg]; exact Nat.ne_of_lt (blk_lt (g := gb125) (o := .cells #[.slice none 0 0, .int .i64 0, .slice none 0 0, .slice none 0 0, .int .i64 0, .int .i64 0, .slice none 0 0, .int .i64 0, .slice none 0 0, .int .i64 0, .slice none 0 0, .slice none 0 0, .int .i64 0, .int .i64 0] 37 (0, 0)) (by (with_reducible repeat (first|refine zA ?_ _|refine zC ?_|refine zB ?_ _)); exact BK125.out)) : gb125 ≠ gb142)); have n10_ := Aside0.mk ((by rw [hg]; exact Nat.ne_of_gt (blk_lt (g := gb125) (o := .cells #[.slice none 0 0, .int .i64 0, .slice none 0 0, .slice none 0 0, .int .i64 0, .int .i64 0, .slice none 0 0, .int .i64 0, .slice none 0 0, .int .i64 0, .slice none 0 0, .slice none 0 0, .int .i64 0, .int .i64 0] 37 (0, 0)) (by (with_reducible repeat (first|refine zA ?_ _|refine zC ?_|refine zB ?_ _)); exact BK125.out)) : gb142 ≠ gb125)); have n11_ := Aside0.mk ((by rw [hg]; exact Nat.ne_of_lt (blk_lt (g := gb132) (o := .cells #[.slice Ao12 t127.length co12, .int .i64 t130] 24 (0, 0)) (by (with_reducible repeat (first|refine zA ?_ _|refine zC ?_|refine zB ?_ _)); exact BK132.out)) : gb132 ≠ gb142)); have n12_ := Aside0.mk ((by rw [hg]; exact Nat.ne_of_gt (blk_lt (g := gb132) (o := .cells #[.slice Ao12 t127.length co12, .int .i64 t130] 24 (0, 0)) (by (with_reducible repeat (first|refine zA ?_ _|refine zC ?_|refine zB ?_ _)); exact BK132.out)) : gb142 ≠ gb132)); clear HO129; clear HO136; clear HO139; clear BK125; clear BK132; clear HB; have HO129 := n0_; have HO136 := n1_; have HO139 := n2_; have BK125 := n3_; have BK132 := n4_; have HB := n5_; have BK142 := n6_; have GW142 := n7_; have GE142 := n8_; have NB125_142 := n9_; have NB142_125 := n10_; have NB132_142 := n11_; have NB142_132 := n12_; clear n0_ n1_ n2_ n3_ n4_ n5_ n6_ n7_ n8_ n9_ n10_ n11_ n12_; clear hb hbox hg; obtain ⟨Ao17, co17, eo17⟩ := Kd.R_slice HO136.out; subst eo17; have hnb18 := NB142_125.out; have hnc18 := NB125_142.out; have hnb19 := NB142_132.out; have hnc19 := NB132_142.out; obtain ⟨hcz20_0, hcz20_1, hcz20_2, hfz20_0, hfz20_1, hfz20_2⟩ := zb3 BK142.out; obtain ⟨Ao21, co21, eo21⟩ := Kd.R_slice HO139.out; subst eo21)|((with_reducible refine gate_callee (f := 18) rfl ?_); refine goesL_ (some 28) rfl rfl Try.func18 (by kernel_rfl) rfl #[.int .i64 a0] rfl (by (try simp only [List.map_toArray, List.map_cons, List.map_nil]); first|done|rfl|(simp only [List.length_drop, List.length_take]; rfl)) ?_; (with_reducible refine (spec_l08Mosts.calls a0 t143 t144 t145 _ A7.out).mono ?_); rintro e w' ⟨rfl, ⟨nd, rfl⟩⟩; refine ⟨_, rfl, ?_⟩))
    have n0_ : Aside0 (Kd.R k73 73 (((w16.setCell ⟨gb142, 0, none⟩ (.slice Ao17 t134.length co17)).setCell ⟨gb142, 1, none⟩ (.slice Ao21 t137.length co21)).setCell ⟨gb142, 2, none⟩ (.int .i64 t140)) w.heap.size (fun _ => True) (.slice Ao12 t127.length co12) t127) := ⟨by (with_reducible repeat (first|apply zE|apply zD|apply zF)); exact zR (zL (p := ⟨gb142, 2, none⟩) (zL (p := ⟨gb142, 1, none⟩) (zL (p := ⟨gb142, 0, none⟩) (zQ HO129.out BK142.out (by decide)) (fun _ hk => hk.2) (.slice Ao17 t134.length co17)) (fun _ hk => hk.2) (.slice Ao21 t137.length co21)) (fun _ hk => hk.2) (.int .i64 t140)) (fun _ hk => trivial)⟩
    have n1_ : Aside0 (Kd.R k103 103 (((w16.setCell ⟨gb142, 0, none⟩ (.slice Ao17 t134.length co17)).setCell ⟨gb142, 1, none⟩ (.slice Ao21 t137.length co21)).setCell ⟨gb142, 2, none⟩ (.int .i64 t140)) w.heap.size (fun k_ => some k_ ≠ (.slice Ao21 t137.length co21 : Value).ownBlock) (.slice Ao17 t134.length co17) t134) := ⟨by (with_reducible repeat (first|apply zE|apply zD|apply zF)); exact zR (zL (p := ⟨gb142, 2, none⟩) (zL (p := ⟨gb142, 1, none⟩) (zL (p := ⟨gb142, 0, none⟩) (zQ HO136.out BK142.out (by decide)) (fun _ hk => hk.2) (.slice Ao17 t134.length co17)) (fun _ hk => hk.2) (.slice Ao21 t137.length co21)) (fun _ hk => hk.2) (.int .i64 t140)) (fun _ hk => hk.1)⟩
    have n2_ : Aside0 (Kd.R k103 103 (((w16.setCell ⟨gb142, 0, none⟩ (.slice Ao17 t134.length co17)).setCell ⟨gb142, 1, none⟩ (.slice Ao21 t137.length co21)).setCell ⟨gb142, 2, none⟩ (.int .i64 t140)) w.heap.size (fun k_ => some k_ ≠ (.slice Ao17 t134.length co17 : Value).ownBlock) (.slice Ao21 t137.length co21) t137) := ⟨by (with_reducible repeat (first|apply zE|apply zD|apply zF)); exact zR (zL (p := ⟨gb142, 2, none⟩) (zL (p := ⟨gb142, 1, none⟩) (zL (p := ⟨gb142, 0, none⟩) (zQ HO139.out BK142.out (by decide)) (fun _ hk => hk.2) (.slice Ao17 t134.length co17)) (fun _ hk => hk.2) (.slice Ao21 t137.length co21)) (fun _ hk => hk.2) (.int .i64 t140)) (fun _ hk => hk.1)⟩
    have n3_ : Aside0 ((((w16.setCell ⟨gb142, 0, none⟩ (.slice Ao17 t134.length co17)).setCell ⟨gb142, 1, none⟩ (.slice Ao21 t137.length co21)).setCell ⟨gb142, 2, none⟩ (.int .i64 t140)).heap[gb125]? = some (.cells #[.slice none 0 0, .int .i64 0, .slice none 0 0, .slice none 0 0, .int .i64 0, .int .i64 0, .slice none 0 0, .int .i64 0, .slice none 0 0, .int .i64 0, .slice none 0 0, .slice none 0 0, .int .i64 0, .int .i64 0] 37 (0, 0))) := ⟨by (with_reducible repeat (first|refine zA ?_ _|refine zC ?_|refine zB ?_ _)); refine zT ?_ NB125_142.out _; (with_reducible repeat (first|refine zA ?_ _|refine zC ?_|refine zB ?_ _)); refine zT ?_ NB125_142.out _; (with_reducible repeat (first|refine zA ?_ _|refine zC ?_|refine zB ?_ _)); refine zT ?_ NB125_142.out _; (with_reducible repeat (first|refine zA ?_ _|refine zC ?_|refine zB ?_ _)); exact BK125.out⟩
    have n4_ : Aside0 ((((w16.setCell ⟨gb142, 0, none⟩ (.slice Ao17 t134.length co17)).setCell ⟨gb142, 1, none⟩ (.slice Ao21 t137.length co21)).setCell ⟨gb142, 2, none⟩ (.int .i64 t140)).heap[gb132]? = some (.cells #[.slice Ao12 t127.length co12, .int .i64 t130] 24 (0, 0))) := ⟨by (with_reducible repeat (first|refine zA ?_ _|refine zC ?_|refine zB ?_ _)); refine zT ?_ NB132_142.out _; (with_reducible repeat (first|refine zA ?_ _|refine zC ?_|refine zB ?_ _)); refine zT ?_ NB132_142.out _; (with_reducible repeat (first|refine zA ?_ _|refine zC ?_|refine zB ?_ _)); refine zT ?_ NB132_142.out _; (with_reducible repeat (first|refine zA ?_ _|refine zC ?_|refine zB ?_ _)); exact BK132.out⟩
    have n5_ : Aside0 ((((w16.setCell ⟨gb142, 0, none⟩ (.slice Ao17 t134.length co17)).setCell ⟨gb142, 1, none⟩ (.slice Ao21 t137.length co21)).setCell ⟨gb142, 2, none⟩ (.int .i64 t140)).heap[gb142]? = some (.cells #[.slice Ao17 t134.length co17, .slice Ao21 t137.length co21, .int .i64 t140] 27 (0, 0))) := ⟨by (with_reducible repeat (first|refine zA ?_ _|refine zC ?_|refine zB ?_ _)); refine blk_put (cs := #[.slice Ao17 t134.length co17, .slice Ao21 t137.length co21, .int .i64 0]) ?_ 2 _ rfl; (with_reducible repeat (first|refine zA ?_ _|refine zC ?_|refine zB ?_ _)); refine blk_put (cs := #[.slice Ao17 t134.length co17, .slice none 0 0, .int .i64 0]) ?_ 1 _ rfl; (with_reducible repeat (first|refine zA ?_ _|refine zC ?_|refine zB ?_ _)); refine blk_put (cs := #[.slice none 0 0, .slice none 0 0, .int .i64 0]) ?_ 0 _ rfl; (with_reducible repeat (first|refine zA ?_ _|refine zC ?_|refine zB ?_ _)); exact BK142.out⟩
    have n6_ : Aside0 (Below w.heap.size w (((w16.setCell ⟨gb142, 0, none⟩ (.slice Ao17 t134.length co17)).setCell ⟨gb142, 1, none⟩ (.slice Ao21 t137.length co21)).setCell ⟨gb142, 2, none⟩ (.int .i64 t140))) := ⟨by repeat (first|(with_reducible first|exact HB.out|apply zI|apply zG|apply zH|refine zJ ?_ GE125.out|refine zJ ?_ GE132.out|refine zJ ?_ GE142.out)|exact HB.out)⟩
    (try clear HO129)
    (try clear HO136)
    (try clear HO139)
    (try clear BK125)
    (try clear BK132)
    (try clear BK142)
    (try clear HB)
    generalize (((w16.setCell ⟨gb142, 0, none⟩ (.slice Ao17 t134.length co17)).setCell ⟨gb142, 1, none⟩ (.slice Ao21 t137.length co21)).setCell ⟨gb142, 2, none⟩ (.int .i64 t140)) = w22 at n0_ n1_ n2_ n3_ n4_ n5_ n6_ ⊢
    have HO129 := n0_
    have HO136 := n1_
    have HO139 := n2_
    have BK125 := n3_
    have BK132 := n4_
    have BK142 := n5_
    have HB := n6_
    clear n0_ n1_ n2_ n3_ n4_ n5_ n6_
    (try (rw [drewN_self w22]; generalize hq_ : World.drewN w22 _ = w22; have n0_ : Aside0 (Kd.R k73 73 w22 w.heap.size (fun _ => True) (.slice Ao12 t127.length co12) t127) := ⟨by rw [← hq_]; exact (by (with_reducible repeat (first|apply zE|apply zD|apply zF)); exact HO129.out)⟩; have n1_ : Aside0 (Kd.R k103 103 w22 w.heap.size (fun k_ => some k_ ≠ (.slice Ao21 t137.length co21 : Value).ownBlock) (.slice Ao17 t134.length co17) t134) := ⟨by rw [← hq_]; exact (by (with_reducible repeat (first|apply zE|apply zD|apply zF)); exact HO136.out)⟩; have n2_ : Aside0 (Kd.R k103 103 w22 w.heap.size (fun k_ => some k_ ≠ (.slice Ao17 t134.length co17 : Value).ownBlock) (.slice Ao21 t137.length co21) t137) := ⟨by rw [← hq_]; exact (by (with_reducible repeat (first|apply zE|apply zD|apply zF)); exact HO139.out)⟩; have n3_ : Aside0 (w22.heap[gb125]? = some (.cells #[.slice none 0 0, .int .i64 0, .slice none 0 0, .slice none 0 0, .int .i64 0, .int .i64 0, .slice none 0 0, .int .i64 0, .slice none 0 0, .int .i64 0, .slice none 0 0, .slice none 0 0, .int .i64 0, .int .i64 0] 37 (0, 0))) := ⟨by rw [← hq_]; exact (by (with_reducible repeat (first|refine zA ?_ _|refine zC ?_|refine zB ?_ _)); exact BK125.out)⟩; have n4_ : Aside0 (w22.heap[gb132]? = some (.cells #[.slice Ao12 t127.length co12, .int .i64 t130] 24 (0, 0))) := ⟨by rw [← hq_]; exact (by (with_reducible repeat (first|refine zA ?_ _|refine zC ?_|refine zB ?_ _)); exact BK132.out)⟩; have n5_ : Aside0 (w22.heap[gb142]? = some (.cells #[.slice Ao17 t134.length co17, .slice Ao21 t137.length co21, .int .i64 t140] 27 (0, 0))) := ⟨by rw [← hq_]; exact (by (with_reducible repeat (first|refine zA ?_ _|refine zC ?_|refine zB ?_ _)); exact BK142.out)⟩; have n6_ : Aside0 (Below w.heap.size w w22) := ⟨by rw [← hq_]; exact (by repeat (first|(with_reducible first|exact HB.out|apply zI|apply zG|apply zH|refine zJ ?_ GE125.out|refine zJ ?_ GE132.out|refine zJ ?_ GE142.out)|exact HB.out))⟩; clear HO129 HO136 HO139 BK125 BK132 BK142 HB hq_; have HO129 := n0_; have HO136 := n1_; have HO139 := n2_; have BK125 := n3_; have BK132 := n4_; have BK142 := n5_; have HB := n6_; clear n0_ n1_ n2_ n3_ n4_ n5_ n6_))
    have n0_ := Aside0.mk (zF HO129.out)
    have n1_ := Aside0.mk (zF HO136.out)
    have n2_ := Aside0.mk (zF HO139.out)
    have n3_ := Aside0.mk (zC BK125.out)
    have n4_ := Aside0.mk (zC BK132.out)
    have n5_ := Aside0.mk (zC BK142.out)
    have n6_ := Aside0.mk (zH HB.out)
    clear HO129
    clear HO136
    clear HO139
    clear BK125
    clear BK132
    clear BK142
    clear HB
    have HO129 := n0_
    have HO136 := n1_
    have HO139 := n2_
    have BK125 := n3_
    have BK132 := n4_
    have BK142 := n5_
    have HB := n6_
    clear n0_ n1_ n2_ n3_ n4_ n5_ n6_
    refine start_ (n := 12) (S := fun w' => w'.cell? ⟨gb132, 0, none⟩ = some (.slice Ao12 t127.length co12) ∧ w'.cell? ⟨gb132, 1, none⟩ = some (.int .i64 t130) ∧ w'.cell? ⟨gb142, 0, none⟩ = some (.slice Ao17 t134.length co17) ∧ w'.cell? ⟨gb142, 1, none⟩ = some (.slice Ao21 t137.length co21) ∧ w'.cell? ⟨gb142, 2, none⟩ = some (.int .i64 t140)) (ds := []) #[false, false, false, false, false, false, false, false, false, false, false, false] (by kernel_rfl) rfl rfl ⟨(zO BK132.out 0).trans rfl, (zO BK132.out 1).trans rfl, (zO BK142.out 0).trans rfl, (zO BK142.out 1).trans rfl, (zO BK142.out 2).trans rfl⟩ (fun hHeld => ?_); refine with_tabW spec_NearNew.tab6 spec_NearNew.bits6 (fun HT_ HW_ => ?_)
    generalize w22.drew = w23 at HO129 HO136 HO139 BK125 BK132 BK142 HB hHeld ⊢
    refine pure_ (i := 2) (N := some 34) (v := ?_) (a' := ?_) #[false, false, true, false, false, false, false, false, false, false, false, false] rfl rfl (any_of HT_.out (by kernel_rfl)) (fun _ _ _ h => h) (Or.inl ⟨by rfl, ?_⟩) ?_ ?_
    rotate_left
    · intro w'
      go_simp
      with_reducible rfl
    rotate_left
    · simp only [Act.put, List.setIfInBounds_toArray, List.set_cons_zero, List.set_cons_succ, i64_w, i32_w]
      rfl
    refine pure_ (i := 3) (N := some 35) (v := ?_) (a' := ?_) #[false, false, true, true, false, false, false, false, false, false, false, false] rfl rfl (any_of HT_.out (by kernel_rfl)) (fun _ _ _ h => h) (Or.inl ⟨by rfl, ?_⟩) ?_ ?_
    rotate_left
    · intro w'
      go_simp
      with_reducible rfl
    rotate_left
    · simp only [Act.put, List.setIfInBounds_toArray, List.set_cons_zero, List.set_cons_succ, i64_w, i32_w]
      rfl
    refine pure_ (i := 4) (N := some 36) (v := ?_) (a' := ?_) #[false, false, true, true, true, false, false, false, false, false, false, false] rfl rfl (any_of HT_.out (by kernel_rfl)) (fun _ _ _ h => h) (Or.inl ⟨by rfl, ?_⟩) ?_ ?_
    rotate_left
    · intro w'
      go_simp
      with_reducible rfl
    rotate_left
    · simp only [Act.put, List.setIfInBounds_toArray, List.set_cons_zero, List.set_cons_succ, i64_w, i32_w]
      rfl
    refine pure_ (i := 5) (N := some 37) (v := ?_) (a' := ?_) #[false, false, true, true, true, true, false, false, false, false, false, false] rfl rfl (any_of HT_.out (by kernel_rfl)) (fun _ _ _ h => h) (Or.inl ⟨by rfl, ?_⟩) ?_ ?_
    rotate_left
    · intro w'
      go_simp
      with_reducible rfl
    rotate_left
    · simp only [Act.put, List.setIfInBounds_toArray, List.set_cons_zero, List.set_cons_succ, i64_w, i32_w]
      rfl
    refine pure_ (i := 6) (N := some 38) (v := ?_) (a' := ?_) #[false, false, true, true, true, true, true, false, false, false, false, false] rfl rfl (any_of HT_.out (by kernel_rfl)) (fun _ _ _ h => h) (Or.inl ⟨by rfl, ?_⟩) ?_ ?_
    rotate_left
    · intro w'
      go_simp
      with_reducible rfl
    rotate_left
    · simp only [Act.put, List.setIfInBounds_toArray, List.set_cons_zero, List.set_cons_succ, i64_w, i32_w]
      rfl
    refine pure_ (i := 7) (N := some 39) (v := ?_) (a' := ?_) #[false, false, true, true, true, true, true, true, false, false, false, false] rfl rfl (any_of HT_.out (by kernel_rfl)) (fun _ _ _ h => h) (Or.inl ⟨by rfl, ?_⟩) ?_ ?_
    rotate_left
    · intro w'
      go_simp
      with_reducible rfl
    rotate_left
    · simp only [Act.put, List.setIfInBounds_toArray, List.set_cons_zero, List.set_cons_succ, i64_w, i32_w]
      rfl
    refine take_ (i := 0) (N := some 32) (v := ?_) (a' := ?_) #[true, false, true, true, true, true, true, true, false, false, false, false] rfl rfl (take_ofW HT_.out HW_.out (by kernel_rfl)) (fun _ _ _ h => h) (Or.inl ⟨by rfl, ?_⟩) hHeld ?_ ?_
    rotate_left
    · rintro w' ⟨s0, s1, s2, s3, s4⟩
      go_simp
      with_reducible rfl
    rotate_left
    · simp only [Act.put, List.setIfInBounds_toArray, List.set_cons_zero, List.set_cons_succ, i64_w, i32_w]
      rfl
    refine take_ (i := 1) (N := some 33) (v := ?_) (a' := ?_) #[true, true, true, true, true, true, true, true, false, false, false, false] rfl rfl (take_ofW HT_.out HW_.out (by kernel_rfl)) (fun _ _ _ h => h) (Or.inl ⟨by rfl, ?_⟩) hHeld ?_ ?_
    rotate_left
    · rintro w' ⟨s0, s1, s2, s3, s4⟩
      go_simp
      with_reducible rfl
    rotate_left
    · simp only [Act.put, List.setIfInBounds_toArray, List.set_cons_zero, List.set_cons_succ, i64_w, i32_w]
      rfl
    refine one_ (i := 8) (N := some 40) #[true, true, true, true, true, true, true, true, true, false, false, false] rfl rfl (one_of HT_.out (by kernel_rfl)) (by decide) (fun K hK => ?_)
    refine goes_ Try.func19 (by kernel_rfl) rfl #[] (by rfl) rfl rfl (by (try simp only [List.map_toArray, List.map_cons, List.map_nil]); first|done|rfl|(simp only [List.length_drop, List.length_take]; rfl)) ?_
    with_reducible refine (spec_SketchNew.calls  t146 t149 _ A8.out).mono ?_
    rintro e w24 ⟨v147, rfl, ho0, hb⟩
    refine ⟨_, rfl, ?_⟩
    have n0_ := Aside0.mk (zM (by (with_reducible repeat (first|apply zE|apply zD|apply zF)); exact HO129.out) hb)
    have n1_ := Aside0.mk (zM (by (with_reducible repeat (first|apply zE|apply zD|apply zF)); exact HO136.out) hb)
    have n2_ := Aside0.mk (zM (by (with_reducible repeat (first|apply zE|apply zD|apply zF)); exact HO139.out) hb)
    have n3_ := Aside0.mk (Kd.R_lower ho0 (below_size (by repeat (first|(with_reducible first|exact HB.out|apply zI|apply zG|apply zH|refine zJ ?_ GE125.out|refine zJ ?_ GE132.out|refine zJ ?_ GE142.out)|exact HB.out))))
    have n4_ := Aside0.mk (zK (g := gb125) (o := .cells #[.slice none 0 0, .int .i64 0, .slice none 0 0, .slice none 0 0, .int .i64 0, .int .i64 0, .slice none 0 0, .int .i64 0, .slice none 0 0, .int .i64 0, .slice none 0 0, .slice none 0 0, .int .i64 0, .int .i64 0] 37 (0, 0)) (by (with_reducible repeat (first|refine zA ?_ _|refine zC ?_|refine zB ?_ _)); exact BK125.out) hb)
    have n5_ := Aside0.mk (zK (g := gb132) (o := .cells #[.slice Ao12 t127.length co12, .int .i64 t130] 24 (0, 0)) (by (with_reducible repeat (first|refine zA ?_ _|refine zC ?_|refine zB ?_ _)); exact BK132.out) hb)
    have n6_ := Aside0.mk (zK (g := gb142) (o := .cells #[.slice Ao17 t134.length co17, .slice Ao21 t137.length co21, .int .i64 t140] 27 (0, 0)) (by (with_reducible repeat (first|refine zA ?_ _|refine zC ?_|refine zB ?_ _)); exact BK142.out) hb)
    have n7_ := Aside0.mk (zN (by repeat (first|(with_reducible first|exact HB.out|apply zI|apply zG|apply zH|refine zJ ?_ GE125.out|refine zJ ?_ GE132.out|refine zJ ?_ GE142.out)|exact HB.out)) hb)
    clear HO129
    clear HO136
    clear HO139
    clear BK125
    clear BK132
    clear BK142
    clear HB
    have HO129 := n0_
    have HO136 := n1_
    have HO139 := n2_
    have HO148 := n3_
    have BK125 := n4_
    have BK132 := n5_
    have BK142 := n6_
    have HB := n7_
    clear n0_ n1_ n2_ n3_ n4_ n5_ n6_ n7_
    (try clear hb)
    (try clear hb2)
    (try clear hk)
    (try clear hi)
    (try clear ho0)
    obtain ⟨Ao25, co25, eo25⟩ := Kd.R_slice HO148.out
    (first|subst eo25|(injection eo25 with f1_ f2_ f3_; have f4_ := f1_.symm; have f5_ := f3_.symm; clear f1_ f2_ f3_; subst f4_; subst f5_))
    refine hK.out _ _ ⟨(zO BK132.out 0).trans rfl, (zO BK132.out 1).trans rfl, (zO BK142.out 0).trans rfl, (zO BK142.out 1).trans rfl, (zO BK142.out 2).trans rfl⟩ (fun hHeld => ?_)
    clear hK K
    refine norm_ (a' := ?_) ?_ ?_
    rotate_left
    · show Act.put _ (some 40) _ = _
      simp only [Act.put, List.setIfInBounds_toArray, List.set_cons_zero, List.set_cons_succ, i64_w, i32_w]
      rfl
    refine pure_ (i := 9) (N := some 41) (v := ?_) (a' := ?_) #[true, true, true, true, true, true, true, true, true, true, false, false] rfl rfl (any_of HT_.out (by kernel_rfl)) (fun _ _ _ h => h) (Or.inl ⟨by rfl, ?_⟩) ?_ ?_
    rotate_left
    · intro w'
      go_simp
      with_reducible rfl
    rotate_left
    · simp only [Act.put, List.setIfInBounds_toArray, List.set_cons_zero, List.set_cons_succ, i64_w, i32_w]
      rfl
    refine one_ (i := 10) (N := none) #[true, true, true, true, true, true, true, true, true, true, true, false] rfl rfl (one_of HT_.out (by kernel_rfl)) (by decide) (fun K hK => ?_)
    have hs26 : w24.cell? ⟨gb125, 0, none⟩ = some (.slice none 0 0) := (zO BK125.out 0).trans rfl
    have hfs26 := zP BK125.out 0
    have hns26_1 := NB132_125.out
    have hns26_2 := NB142_125.out
    have hms26_1 := NB125_132.out
    have hms26_2 := NB125_142.out
    have hs27 : w24.cell? ⟨gb125, 1, none⟩ = some (.int .i64 0) := (zO BK125.out 1).trans rfl
    have hfs27 := zP BK125.out 1
    have hns27_1 := NB132_125.out
    have hns27_2 := NB142_125.out
    have hms27_1 := NB125_132.out
    have hms27_2 := NB125_142.out
    have hs28 : w24.cell? ⟨gb125, 2, none⟩ = some (.slice none 0 0) := (zO BK125.out 2).trans rfl
    have hfs28 := zP BK125.out 2
    have hns28_1 := NB132_125.out
    have hns28_2 := NB142_125.out
    have hms28_1 := NB125_132.out
    have hms28_2 := NB125_142.out
    have hs29 : w24.cell? ⟨gb125, 3, none⟩ = some (.slice none 0 0) := (zO BK125.out 3).trans rfl
    have hfs29 := zP BK125.out 3
    have hns29_1 := NB132_125.out
    have hns29_2 := NB142_125.out
    have hms29_1 := NB125_132.out
    have hms29_2 := NB125_142.out
    have hs30 : w24.cell? ⟨gb125, 4, none⟩ = some (.int .i64 0) := (zO BK125.out 4).trans rfl
    have hfs30 := zP BK125.out 4
    have hns30_1 := NB132_125.out
    have hns30_2 := NB142_125.out
    have hms30_1 := NB125_132.out
    have hms30_2 := NB125_142.out
    have hs31 : w24.cell? ⟨gb125, 5, none⟩ = some (.int .i64 0) := (zO BK125.out 5).trans rfl
    have hfs31 := zP BK125.out 5
    have hns31_1 := NB132_125.out
    have hns31_2 := NB142_125.out
    have hms31_1 := NB125_132.out
    have hms31_2 := NB125_142.out
    have hs32 : w24.cell? ⟨gb125, 6, none⟩ = some (.slice none 0 0) := (zO BK125.out 6).trans rfl
    have hfs32 := zP BK125.out 6
    have hns32_1 := NB132_125.out
    have hns32_2 := NB142_125.out
    have hms32_1 := NB125_132.out
    have hms32_2 := NB125_142.out
    have hs33 : w24.cell? ⟨gb125, 7, none⟩ = some (.int .i64 0) := (zO BK125.out 7).trans rfl
    have hfs33 := zP BK125.out 7
    have hns33_1 := NB132_125.out
    have hns33_2 := NB142_125.out
    have hms33_1 := NB125_132.out
    have hms33_2 := NB125_142.out
    have hs34 : w24.cell? ⟨gb125, 8, none⟩ = some (.slice none 0 0) := (zO BK125.out 8).trans rfl
    have hfs34 := zP BK125.out 8
    have hns34_1 := NB132_125.out
    have hns34_2 := NB142_125.out
    have hms34_1 := NB125_132.out
    have hms34_2 := NB125_142.out
    have hs35 : w24.cell? ⟨gb125, 9, none⟩ = some (.int .i64 0) := (zO BK125.out 9).trans rfl
    have hfs35 := zP BK125.out 9
    have hns35_1 := NB132_125.out
    have hns35_2 := NB142_125.out
    have hms35_1 := NB125_132.out
    have hms35_2 := NB125_142.out
    have hs36 : w24.cell? ⟨gb125, 10, none⟩ = some (.slice none 0 0) := (zO BK125.out 10).trans rfl
    have hfs36 := zP BK125.out 10
    have hns36_1 := NB132_125.out
    have hns36_2 := NB142_125.out
    have hms36_1 := NB125_132.out
    have hms36_2 := NB125_142.out
    have hs37 : w24.cell? ⟨gb125, 11, none⟩ = some (.slice none 0 0) := (zO BK125.out 11).trans rfl
    have hfs37 := zP BK125.out 11
    have hns37_1 := NB132_125.out
    have hns37_2 := NB142_125.out
    have hms37_1 := NB125_132.out
    have hms37_2 := NB125_142.out
    have hs38 : w24.cell? ⟨gb125, 12, none⟩ = some (.int .i64 0) := (zO BK125.out 12).trans rfl
    have hfs38 := zP BK125.out 12
    have hns38_1 := NB132_125.out
    have hns38_2 := NB142_125.out
    have hms38_1 := NB125_132.out
    have hms38_2 := NB125_142.out
    have hs39 : w24.cell? ⟨gb125, 13, none⟩ = some (.int .i64 0) := (zO BK125.out 13).trans rfl
    have hfs39 := zP BK125.out 13
    have hns39_1 := NB132_125.out
    have hns39_2 := NB142_125.out
    have hms39_1 := NB125_132.out
    have hms39_2 := NB125_142.out
    refine skip_ (w1 := ?_) (by rfl) rfl ?_ ?_
    rotate_left
    · go_simp
      rfl
    refine hK.out _ _ ⟨((cell_far (p := ⟨gb125, _, none⟩) NB132_125.out _).trans (((cell_far (p := ⟨gb125, _, none⟩) NB132_125.out _).trans (((cell_far (p := ⟨gb125, _, none⟩) NB132_125.out _).trans (((cell_far (p := ⟨gb125, _, none⟩) NB132_125.out _).trans (((cell_far (p := ⟨gb125, _, none⟩) NB132_125.out _).trans (((cell_far (p := ⟨gb125, _, none⟩) NB132_125.out _).trans (((cell_far (p := ⟨gb125, _, none⟩) NB132_125.out _).trans (((cell_far (p := ⟨gb125, _, none⟩) NB132_125.out _).trans (((cell_far (p := ⟨gb125, _, none⟩) NB132_125.out _).trans (((cell_far (p := ⟨gb125, _, none⟩) NB132_125.out _).trans (((cell_far (p := ⟨gb125, _, none⟩) NB132_125.out _).trans (((cell_far (p := ⟨gb125, _, none⟩) NB132_125.out _).trans (((cell_far (p := ⟨gb125, _, none⟩) NB132_125.out _).trans (((cell_far (p := ⟨gb125, _, none⟩) NB132_125.out _).trans (hHeld.1)))))))))))))))))))))))))))), ((cell_far (p := ⟨gb125, _, none⟩) NB132_125.out _).trans (((cell_far (p := ⟨gb125, _, none⟩) NB132_125.out _).trans (((cell_far (p := ⟨gb125, _, none⟩) NB132_125.out _).trans (((cell_far (p := ⟨gb125, _, none⟩) NB132_125.out _).trans (((cell_far (p := ⟨gb125, _, none⟩) NB132_125.out _).trans (((cell_far (p := ⟨gb125, _, none⟩) NB132_125.out _).trans (((cell_far (p := ⟨gb125, _, none⟩) NB132_125.out _).trans (((cell_far (p := ⟨gb125, _, none⟩) NB132_125.out _).trans (((cell_far (p := ⟨gb125, _, none⟩) NB132_125.out _).trans (((cell_far (p := ⟨gb125, _, none⟩) NB132_125.out _).trans (((cell_far (p := ⟨gb125, _, none⟩) NB132_125.out _).trans (((cell_far (p := ⟨gb125, _, none⟩) NB132_125.out _).trans (((cell_far (p := ⟨gb125, _, none⟩) NB132_125.out _).trans (((cell_far (p := ⟨gb125, _, none⟩) NB132_125.out _).trans (hHeld.2.1)))))))))))))))))))))))))))), ((cell_far (p := ⟨gb125, _, none⟩) NB142_125.out _).trans (((cell_far (p := ⟨gb125, _, none⟩) NB142_125.out _).trans (((cell_far (p := ⟨gb125, _, none⟩) NB142_125.out _).trans (((cell_far (p := ⟨gb125, _, none⟩) NB142_125.out _).trans (((cell_far (p := ⟨gb125, _, none⟩) NB142_125.out _).trans (((cell_far (p := ⟨gb125, _, none⟩) NB142_125.out _).trans (((cell_far (p := ⟨gb125, _, none⟩) NB142_125.out _).trans (((cell_far (p := ⟨gb125, _, none⟩) NB142_125.out _).trans (((cell_far (p := ⟨gb125, _, none⟩) NB142_125.out _).trans (((cell_far (p := ⟨gb125, _, none⟩) NB142_125.out _).trans (((cell_far (p := ⟨gb125, _, none⟩) NB142_125.out _).trans (((cell_far (p := ⟨gb125, _, none⟩) NB142_125.out _).trans (((cell_far (p := ⟨gb125, _, none⟩) NB142_125.out _).trans (((cell_far (p := ⟨gb125, _, none⟩) NB142_125.out _).trans (hHeld.2.2.1)))))))))))))))))))))))))))), ((cell_far (p := ⟨gb125, _, none⟩) NB142_125.out _).trans (((cell_far (p := ⟨gb125, _, none⟩) NB142_125.out _).trans (((cell_far (p := ⟨gb125, _, none⟩) NB142_125.out _).trans (((cell_far (p := ⟨gb125, _, none⟩) NB142_125.out _).trans (((cell_far (p := ⟨gb125, _, none⟩) NB142_125.out _).trans (((cell_far (p := ⟨gb125, _, none⟩) NB142_125.out _).trans (((cell_far (p := ⟨gb125, _, none⟩) NB142_125.out _).trans (((cell_far (p := ⟨gb125, _, none⟩) NB142_125.out _).trans (((cell_far (p := ⟨gb125, _, none⟩) NB142_125.out _).trans (((cell_far (p := ⟨gb125, _, none⟩) NB142_125.out _).trans (((cell_far (p := ⟨gb125, _, none⟩) NB142_125.out _).trans (((cell_far (p := ⟨gb125, _, none⟩) NB142_125.out _).trans (((cell_far (p := ⟨gb125, _, none⟩) NB142_125.out _).trans (((cell_far (p := ⟨gb125, _, none⟩) NB142_125.out _).trans (hHeld.2.2.2.1)))))))))))))))))))))))))))), ((cell_far (p := ⟨gb125, _, none⟩) NB142_125.out _).trans (((cell_far (p := ⟨gb125, _, none⟩) NB142_125.out _).trans (((cell_far (p := ⟨gb125, _, none⟩) NB142_125.out _).trans (((cell_far (p := ⟨gb125, _, none⟩) NB142_125.out _).trans (((cell_far (p := ⟨gb125, _, none⟩) NB142_125.out _).trans (((cell_far (p := ⟨gb125, _, none⟩) NB142_125.out _).trans (((cell_far (p := ⟨gb125, _, none⟩) NB142_125.out _).trans (((cell_far (p := ⟨gb125, _, none⟩) NB142_125.out _).trans (((cell_far (p := ⟨gb125, _, none⟩) NB142_125.out _).trans (((cell_far (p := ⟨gb125, _, none⟩) NB142_125.out _).trans (((cell_far (p := ⟨gb125, _, none⟩) NB142_125.out _).trans (((cell_far (p := ⟨gb125, _, none⟩) NB142_125.out _).trans (((cell_far (p := ⟨gb125, _, none⟩) NB142_125.out _).trans (((cell_far (p := ⟨gb125, _, none⟩) NB142_125.out _).trans (hHeld.2.2.2.2))))))))))))))))))))))))))))⟩ (fun hHeld => ?_)
    clear hK K
    refine pure_ (i := 11) (N := some 3) (v := ?_) (a' := ?_) #[true, true, true, true, true, true, true, true, true, true, true, true] rfl rfl (any_of HT_.out (by kernel_rfl)) (fun _ _ _ h => h) (Or.inl ⟨by rfl, ?_⟩) ?_ ?_
    rotate_left
    · intro w'
      go_simp
      with_reducible rfl
    rotate_left
    · simp only [Act.put, List.setIfInBounds_toArray, List.set_cons_zero, List.set_cons_succ, i64_w, i32_w]
      rfl
    refine done_ (done_of HT_.out (by kernel_rfl)) ?_
    try go_wp2
    refine bodyPost_ret (results_ct rfl _ _ gb125 37 #[.slice Ao12 t127.length co12, .int .i64 t130, .slice Ao17 t134.length co17, .slice Ao21 t137.length co21, .int .i64 t140, .int .i64 t143, .slice none 0 0, .int .i64 t144, .slice none 0 0, .int .i64 t145, .slice none 0 0, .slice Ao25 t146.length co25, .int .i64 t149, .int .i64 0] (0, 0) _ rfl (by (with_reducible repeat (first|refine zA ?_ _|refine zC ?_|refine zB ?_ _)); refine blk_put (cs := #[.slice Ao12 t127.length co12, .int .i64 t130, .slice Ao17 t134.length co17, .slice Ao21 t137.length co21, .int .i64 t140, .int .i64 t143, .slice none 0 0, .int .i64 t144, .slice none 0 0, .int .i64 t145, .slice none 0 0, .slice Ao25 t146.length co25, .int .i64 t149, .int .i64 0]) ?_ 13 _ rfl; (with_reducible repeat (first|refine zA ?_ _|refine zC ?_|refine zB ?_ _)); refine blk_put (cs := #[.slice Ao12 t127.length co12, .int .i64 t130, .slice Ao17 t134.length co17, .slice Ao21 t137.length co21, .int .i64 t140, .int .i64 t143, .slice none 0 0, .int .i64 t144, .slice none 0 0, .int .i64 t145, .slice none 0 0, .slice Ao25 t146.length co25, .int .i64 0, .int .i64 0]) ?_ 12 _ rfl; (with_reducible repeat (first|refine zA ?_ _|refine zC ?_|refine zB ?_ _)); refine blk_put (cs := #[.slice Ao12 t127.length co12, .int .i64 t130, .slice Ao17 t134.length co17, .slice Ao21 t137.length co21, .int .i64 t140, .int .i64 t143, .slice none 0 0, .int .i64 t144, .slice none 0 0, .int .i64 t145, .slice none 0 0, .slice none 0 0, .int .i64 0, .int .i64 0]) ?_ 11 _ rfl; (with_reducible repeat (first|refine zA ?_ _|refine zC ?_|refine zB ?_ _)); refine blk_put (cs := #[.slice Ao12 t127.length co12, .int .i64 t130, .slice Ao17 t134.length co17, .slice Ao21 t137.length co21, .int .i64 t140, .int .i64 t143, .slice none 0 0, .int .i64 t144, .slice none 0 0, .int .i64 t145, .slice none 0 0, .slice none 0 0, .int .i64 0, .int .i64 0]) ?_ 10 _ rfl; (with_reducible repeat (first|refine zA ?_ _|refine zC ?_|refine zB ?_ _)); refine blk_put (cs := #[.slice Ao12 t127.length co12, .int .i64 t130, .slice Ao17 t134.length co17, .slice Ao21 t137.length co21, .int .i64 t140, .int .i64 t143, .slice none 0 0, .int .i64 t144, .slice none 0 0, .int .i64 0, .slice none 0 0, .slice none 0 0, .int .i64 0, .int .i64 0]) ?_ 9 _ rfl; (with_reducible repeat (first|refine zA ?_ _|refine zC ?_|refine zB ?_ _)); refine blk_put (cs := #[.slice Ao12 t127.length co12, .int .i64 t130, .slice Ao17 t134.length co17, .slice Ao21 t137.length co21, .int .i64 t140, .int .i64 t143, .slice none 0 0, .int .i64 t144, .slice none 0 0, .int .i64 0, .slice none 0 0, .slice none 0 0, .int .i64 0, .int .i64 0]) ?_ 8 _ rfl; (with_reducible repeat (first|refine zA ?_ _|refine zC ?_|refine zB ?_ _)); refine blk_put (cs := #[.slice Ao12 t127.length co12, .int .i64 t130, .slice Ao17 t134.length co17, .slice Ao21 t137.length co21, .int .i64 t140, .int .i64 t143, .slice none 0 0, .int .i64 0, .slice none 0 0, .int .i64 0, .slice none 0 0, .slice none 0 0, .int .i64 0, .int .i64 0]) ?_ 7 _ rfl; (with_reducible repeat (first|refine zA ?_ _|refine zC ?_|refine zB ?_ _)); refine blk_put (cs := #[.slice Ao12 t127.length co12, .int .i64 t130, .slice Ao17 t134.length co17, .slice Ao21 t137.length co21, .int .i64 t140, .int .i64 t143, .slice none 0 0, .int .i64 0, .slice none 0 0, .int .i64 0, .slice none 0 0, .slice none 0 0, .int .i64 0, .int .i64 0]) ?_ 6 _ rfl; (with_reducible repeat (first|refine zA ?_ _|refine zC ?_|refine zB ?_ _)); refine blk_put (cs := #[.slice Ao12 t127.length co12, .int .i64 t130, .slice Ao17 t134.length co17, .slice Ao21 t137.length co21, .int .i64 t140, .int .i64 0, .slice none 0 0, .int .i64 0, .slice none 0 0, .int .i64 0, .slice none 0 0, .slice none 0 0, .int .i64 0, .int .i64 0]) ?_ 5 _ rfl; (with_reducible repeat (first|refine zA ?_ _|refine zC ?_|refine zB ?_ _)); refine blk_put (cs := #[.slice Ao12 t127.length co12, .int .i64 t130, .slice Ao17 t134.length co17, .slice Ao21 t137.length co21, .int .i64 0, .int .i64 0, .slice none 0 0, .int .i64 0, .slice none 0 0, .int .i64 0, .slice none 0 0, .slice none 0 0, .int .i64 0, .int .i64 0]) ?_ 4 _ rfl; (with_reducible repeat (first|refine zA ?_ _|refine zC ?_|refine zB ?_ _)); refine blk_put (cs := #[.slice Ao12 t127.length co12, .int .i64 t130, .slice Ao17 t134.length co17, .slice none 0 0, .int .i64 0, .int .i64 0, .slice none 0 0, .int .i64 0, .slice none 0 0, .int .i64 0, .slice none 0 0, .slice none 0 0, .int .i64 0, .int .i64 0]) ?_ 3 _ rfl; (with_reducible repeat (first|refine zA ?_ _|refine zC ?_|refine zB ?_ _)); refine blk_put (cs := #[.slice Ao12 t127.length co12, .int .i64 t130, .slice none 0 0, .slice none 0 0, .int .i64 0, .int .i64 0, .slice none 0 0, .int .i64 0, .slice none 0 0, .int .i64 0, .slice none 0 0, .slice none 0 0, .int .i64 0, .int .i64 0]) ?_ 2 _ rfl; (with_reducible repeat (first|refine zA ?_ _|refine zC ?_|refine zB ?_ _)); refine blk_put (cs := #[.slice Ao12 t127.length co12, .int .i64 0, .slice none 0 0, .slice none 0 0, .int .i64 0, .int .i64 0, .slice none 0 0, .int .i64 0, .slice none 0 0, .int .i64 0, .slice none 0 0, .slice none 0 0, .int .i64 0, .int .i64 0]) ?_ 1 _ rfl; (with_reducible repeat (first|refine zA ?_ _|refine zC ?_|refine zB ?_ _)); refine blk_put (cs := #[.slice none 0 0, .int .i64 0, .slice none 0 0, .slice none 0 0, .int .i64 0, .int .i64 0, .slice none 0 0, .int .i64 0, .slice none 0 0, .int .i64 0, .slice none 0 0, .slice none 0 0, .int .i64 0, .int .i64 0]) ?_ 0 _ rfl; (with_reducible repeat (first|refine zA ?_ _|refine zC ?_|refine zB ?_ _)); exact BK125.out) Try.underlying37 rfl (by kernel_rfl)) rfl ?_
    exact ⟨_, _, _, _, _, _, _, by first|rfl|(simp [errW_none, errW_some] <;> rfl)|(simp [*, errW_none, errW_some] <;> rfl), by (with_reducible repeat (first|apply zE|apply zD|apply zF)); exact zR (zL (p := ⟨gb125, 13, none⟩) (zL (p := ⟨gb125, 12, none⟩) (zL (p := ⟨gb125, 11, none⟩) (zL (p := ⟨gb125, 10, none⟩) (zL (p := ⟨gb125, 9, none⟩) (zL (p := ⟨gb125, 8, none⟩) (zL (p := ⟨gb125, 7, none⟩) (zL (p := ⟨gb125, 6, none⟩) (zL (p := ⟨gb125, 5, none⟩) (zL (p := ⟨gb125, 4, none⟩) (zL (p := ⟨gb125, 3, none⟩) (zL (p := ⟨gb125, 2, none⟩) (zL (p := ⟨gb125, 1, none⟩) (zL (p := ⟨gb125, 0, none⟩) (zQ HO129.out BK125.out (by decide)) (fun _ hk => hk.2) (.slice Ao12 t127.length co12)) (fun _ hk => hk.2) (.int .i64 t130)) (fun _ hk => hk.2) (.slice Ao17 t134.length co17)) (fun _ hk => hk.2) (.slice Ao21 t137.length co21)) (fun _ hk => hk.2) (.int .i64 t140)) (fun _ hk => hk.2) (.int .i64 t143)) (fun _ hk => hk.2) (.slice none 0 0)) (fun _ hk => hk.2) (.int .i64 t144)) (fun _ hk => hk.2) (.slice none 0 0)) (fun _ hk => hk.2) (.int .i64 t145)) (fun _ hk => hk.2) (.slice none 0 0)) (fun _ hk => hk.2) (.slice Ao25 t146.length co25)) (fun _ hk => hk.2) (.int .i64 t149)) (fun _ hk => hk.2) (.int .i64 0)) (fun _ hk => trivial), by (with_reducible repeat (first|apply zE|apply zD|apply zF)); exact zR (zL (p := ⟨gb125, 13, none⟩) (zL (p := ⟨gb125, 12, none⟩) (zL (p := ⟨gb125, 11, none⟩) (zL (p := ⟨gb125, 10, none⟩) (zL (p := ⟨gb125, 9, none⟩) (zL (p := ⟨gb125, 8, none⟩) (zL (p := ⟨gb125, 7, none⟩) (zL (p := ⟨gb125, 6, none⟩) (zL (p := ⟨gb125, 5, none⟩) (zL (p := ⟨gb125, 4, none⟩) (zL (p := ⟨gb125, 3, none⟩) (zL (p := ⟨gb125, 2, none⟩) (zL (p := ⟨gb125, 1, none⟩) (zL (p := ⟨gb125, 0, none⟩) (zQ HO136.out BK125.out (by decide)) (fun _ hk => hk.2) (.slice Ao12 t127.length co12)) (fun _ hk => hk.2) (.int .i64 t130)) (fun _ hk => hk.2) (.slice Ao17 t134.length co17)) (fun _ hk => hk.2) (.slice Ao21 t137.length co21)) (fun _ hk => hk.2) (.int .i64 t140)) (fun _ hk => hk.2) (.int .i64 t143)) (fun _ hk => hk.2) (.slice none 0 0)) (fun _ hk => hk.2) (.int .i64 t144)) (fun _ hk => hk.2) (.slice none 0 0)) (fun _ hk => hk.2) (.int .i64 t145)) (fun _ hk => hk.2) (.slice none 0 0)) (fun _ hk => hk.2) (.slice Ao25 t146.length co25)) (fun _ hk => hk.2) (.int .i64 t149)) (fun _ hk => hk.2) (.int .i64 0)) (fun _ hk => hk.1), by (with_reducible repeat (first|apply zE|apply zD|apply zF)); exact zR (zL (p := ⟨gb125, 13, none⟩) (zL (p := ⟨gb125, 12, none⟩) (zL (p := ⟨gb125, 11, none⟩) (zL (p := ⟨gb125, 10, none⟩) (zL (p := ⟨gb125, 9, none⟩) (zL (p := ⟨gb125, 8, none⟩) (zL (p := ⟨gb125, 7, none⟩) (zL (p := ⟨gb125, 6, none⟩) (zL (p := ⟨gb125, 5, none⟩) (zL (p := ⟨gb125, 4, none⟩) (zL (p := ⟨gb125, 3, none⟩) (zL (p := ⟨gb125, 2, none⟩) (zL (p := ⟨gb125, 1, none⟩) (zL (p := ⟨gb125, 0, none⟩) (zQ HO139.out BK125.out (by decide)) (fun _ hk => hk.2) (.slice Ao12 t127.length co12)) (fun _ hk => hk.2) (.int .i64 t130)) (fun _ hk => hk.2) (.slice Ao17 t134.length co17)) (fun _ hk => hk.2) (.slice Ao21 t137.length co21)) (fun _ hk => hk.2) (.int .i64 t140)) (fun _ hk => hk.2) (.int .i64 t143)) (fun _ hk => hk.2) (.slice none 0 0)) (fun _ hk => hk.2) (.int .i64 t144)) (fun _ hk => hk.2) (.slice none 0 0)) (fun _ hk => hk.2) (.int .i64 t145)) (fun _ hk => hk.2) (.slice none 0 0)) (fun _ hk => hk.2) (.slice Ao25 t146.length co25)) (fun _ hk => hk.2) (.int .i64 t149)) (fun _ hk => hk.2) (.int .i64 0)) (fun _ hk => hk.1), by first|exact Kd.R_nil _ _ _ _ _|exact Kd.N_nil _ _ _ _ _|exact Kd.V_nil _ _ _ _ _|exact Kd.Q_nil _ _ _ _ _|exact Kd.S_nil _ _ _ _ _, by first|exact Kd.R_nil _ _ _ _ _|exact Kd.N_nil _ _ _ _ _|exact Kd.V_nil _ _ _ _ _|exact Kd.Q_nil _ _ _ _ _|exact Kd.S_nil _ _ _ _ _, by first|exact Kd.R_nil _ _ _ _ _|exact Kd.N_nil _ _ _ _ _|exact Kd.V_nil _ _ _ _ _|exact Kd.Q_nil _ _ _ _ _|exact Kd.S_nil _ _ _ _ _, by (with_reducible repeat (first|apply zE|apply zD|apply zF)); exact zR (zL (p := ⟨gb125, 13, none⟩) (zL (p := ⟨gb125, 12, none⟩) (zL (p := ⟨gb125, 11, none⟩) (zL (p := ⟨gb125, 10, none⟩) (zL (p := ⟨gb125, 9, none⟩) (zL (p := ⟨gb125, 8, none⟩) (zL (p := ⟨gb125, 7, none⟩) (zL (p := ⟨gb125, 6, none⟩) (zL (p := ⟨gb125, 5, none⟩) (zL (p := ⟨gb125, 4, none⟩) (zL (p := ⟨gb125, 3, none⟩) (zL (p := ⟨gb125, 2, none⟩) (zL (p := ⟨gb125, 1, none⟩) (zL (p := ⟨gb125, 0, none⟩) (zQ HO148.out BK125.out (by decide)) (fun _ hk => hk.2) (.slice Ao12 t127.length co12)) (fun _ hk => hk.2) (.int .i64 t130)) (fun _ hk => hk.2) (.slice Ao17 t134.length co17)) (fun _ hk => hk.2) (.slice Ao21 t137.length co21)) (fun _ hk => hk.2) (.int .i64 t140)) (fun _ hk => hk.2) (.int .i64 t143)) (fun _ hk => hk.2) (.slice none 0 0)) (fun _ hk => hk.2) (.int .i64 t144)) (fun _ hk => hk.2) (.slice none 0 0)) (fun _ hk => hk.2) (.int .i64 t145)) (fun _ hk => hk.2) (.slice none 0 0)) (fun _ hk => hk.2) (.slice Ao25 t146.length co25)) (fun _ hk => hk.2) (.int .i64 t149)) (fun _ hk => hk.2) (.int .i64 0)) (fun _ hk => trivial), by repeat (first|(with_reducible first|exact HB.out|apply zI|apply zG|apply zH|refine zJ ?_ GE125.out|refine zJ ?_ GE132.out|refine zJ ?_ GE142.out)|exact HB.out)⟩
  · replace c3 := Bool.eq_false_iff.mpr c3
    subst c3
    have H1 : (some (([] : List (S73)), 0, ([] : List (S103)), ([] : List (S103)), 0, 0, ([] : List ByteArray), 0, ([] : List ByteArray), 0, ([] : List ByteArray), ([] : List Int), 0, 0, false)) = some (r1, r2, r3, r4, r5, r6, r7, r8, r9, r10, r11, r12, r13, r14, r15) := by rw [if_neg (show ¬ (false = true) by decide)] at H; exact H
    clear H
    have H := H1
    clear H1
    simp only [Option.some.injEq, Prod.mk.injEq] at H
    obtain ⟨rfl, rfl, rfl, rfl, rfl, rfl, rfl, rfl, rfl, rfl, rfl, rfl, rfl, rfl, rfl⟩ := H
    go_enter Try.func5, Try.ntmps5
    go_wp2_with (first|((with_reducible refine gate_dst (N := 2) rfl ?_); refine box_event ?hg (N := 2) ?hd (cs := #[.slice none 0 0, .int .i64 0, .slice none 0 0, .slice none 0 0, .int .i64 0, .int .i64 0, .slice none 0 0, .int .i64 0, .slice none 0 0, .int .i64 0, .slice none 0 0, .slice none 0 0, .int .i64 0, .int .i64 0]) (t := 37) ?hr ?_; (case hd => rfl); (case hg => rfl); (case hr => first|(go_simp; done)|(go_simp; rfl)); intro gb125 hg w40 hbox hb; have n0_ := Aside0.mk (zN (by repeat (first|(with_reducible first|exact HB.out|apply zI|apply zG|apply zH)|exact HB.out)) hb); have n1_ := Aside0.mk (hbox); have n2_ := Aside0.mk ((by rw [hg]; exact (below_size (by repeat (first|(with_reducible first|exact HB.out|apply zI|apply zG|apply zH)|exact HB.out))) : w.heap.size ≤ gb125)); have n3_ := Aside0.mk ((by rw [hg]; exact (below_size (by repeat (first|(with_reducible first|exact HB.out|apply zI|apply zG|apply zH)|exact HB.out))) : w.heap.size ≤ gb125)); clear HB; have HB := n0_; have BK125 := n1_; have GW125 := n2_; have GE125 := n3_; clear n0_ n1_ n2_ n3_; clear hb hbox hg)|((with_reducible refine gate_callee (f := 14) rfl ?_); refine goesL_ (some 12) rfl rfl Try.func14 (by kernel_rfl) rfl #[.int .i64 a0, .int .i64 2, .int .i64 24] rfl (by (try simp only [List.map_toArray, List.map_cons, List.map_nil]); first|done|rfl|(simp only [List.length_drop, List.length_take]; rfl)) ?_; (with_reducible refine (spec_l01In.calls a0 2 24 false _ A2.out).mono ?_); rintro e w' ⟨rfl, ⟨nd, rfl⟩⟩; refine ⟨_, rfl, ?_⟩; (try (rw [drewN_self w40]; generalize hq_ : World.drewN w40 _ = w40; have n0_ : Aside0 (w40.heap[gb125]? = some (.cells #[.slice none 0 0, .int .i64 0, .slice none 0 0, .slice none 0 0, .int .i64 0, .int .i64 0, .slice none 0 0, .int .i64 0, .slice none 0 0, .int .i64 0, .slice none 0 0, .slice none 0 0, .int .i64 0, .int .i64 0] 37 (0, 0))) := ⟨by rw [← hq_]; exact (by (with_reducible repeat (first|refine zA ?_ _|refine zC ?_|refine zB ?_ _)); exact BK125.out)⟩; have n1_ : Aside0 (Below w.heap.size w w40) := ⟨by rw [← hq_]; exact (by repeat (first|(with_reducible first|exact HB.out|apply zI|apply zG|apply zH|refine zJ ?_ GE125.out)|exact HB.out))⟩; clear BK125 HB hq_; have BK125 := n0_; have HB := n1_; clear n0_ n1_)); obtain ⟨hcz41_0, hcz41_1, hcz41_2, hcz41_3, hcz41_4, hcz41_5, hcz41_6, hcz41_7, hcz41_8, hcz41_9, hcz41_10, hcz41_11, hcz41_12, hcz41_13, hfz41_0, hfz41_1, hfz41_2, hfz41_3, hfz41_4, hfz41_5, hfz41_6, hfz41_7, hfz41_8, hfz41_9, hfz41_10, hfz41_11, hfz41_12, hfz41_13⟩ := zb14 BK125.out))
    refine bodyPost_ret (results_ct rfl _ _ gb125 37 #[.slice none 0 0, .int .i64 0, .slice none 0 0, .slice none 0 0, .int .i64 0, .int .i64 0, .slice none 0 0, .int .i64 0, .slice none 0 0, .int .i64 0, .slice none 0 0, .slice none 0 0, .int .i64 0, .int .i64 0] (0, 0) _ rfl (by (with_reducible repeat (first|refine zA ?_ _|refine zC ?_|refine zB ?_ _)); refine blk_put (cs := #[.slice none 0 0, .int .i64 0, .slice none 0 0, .slice none 0 0, .int .i64 0, .int .i64 0, .slice none 0 0, .int .i64 0, .slice none 0 0, .int .i64 0, .slice none 0 0, .slice none 0 0, .int .i64 0, .int .i64 0]) ?_ 13 _ rfl; (with_reducible repeat (first|refine zA ?_ _|refine zC ?_|refine zB ?_ _)); refine blk_put (cs := #[.slice none 0 0, .int .i64 0, .slice none 0 0, .slice none 0 0, .int .i64 0, .int .i64 0, .slice none 0 0, .int .i64 0, .slice none 0 0, .int .i64 0, .slice none 0 0, .slice none 0 0, .int .i64 0, .int .i64 0]) ?_ 12 _ rfl; (with_reducible repeat (first|refine zA ?_ _|refine zC ?_|refine zB ?_ _)); refine blk_put (cs := #[.slice none 0 0, .int .i64 0, .slice none 0 0, .slice none 0 0, .int .i64 0, .int .i64 0, .slice none 0 0, .int .i64 0, .slice none 0 0, .int .i64 0, .slice none 0 0, .slice none 0 0, .int .i64 0, .int .i64 0]) ?_ 11 _ rfl; (with_reducible repeat (first|refine zA ?_ _|refine zC ?_|refine zB ?_ _)); refine blk_put (cs := #[.slice none 0 0, .int .i64 0, .slice none 0 0, .slice none 0 0, .int .i64 0, .int .i64 0, .slice none 0 0, .int .i64 0, .slice none 0 0, .int .i64 0, .slice none 0 0, .slice none 0 0, .int .i64 0, .int .i64 0]) ?_ 10 _ rfl; (with_reducible repeat (first|refine zA ?_ _|refine zC ?_|refine zB ?_ _)); refine blk_put (cs := #[.slice none 0 0, .int .i64 0, .slice none 0 0, .slice none 0 0, .int .i64 0, .int .i64 0, .slice none 0 0, .int .i64 0, .slice none 0 0, .int .i64 0, .slice none 0 0, .slice none 0 0, .int .i64 0, .int .i64 0]) ?_ 9 _ rfl; (with_reducible repeat (first|refine zA ?_ _|refine zC ?_|refine zB ?_ _)); refine blk_put (cs := #[.slice none 0 0, .int .i64 0, .slice none 0 0, .slice none 0 0, .int .i64 0, .int .i64 0, .slice none 0 0, .int .i64 0, .slice none 0 0, .int .i64 0, .slice none 0 0, .slice none 0 0, .int .i64 0, .int .i64 0]) ?_ 8 _ rfl; (with_reducible repeat (first|refine zA ?_ _|refine zC ?_|refine zB ?_ _)); refine blk_put (cs := #[.slice none 0 0, .int .i64 0, .slice none 0 0, .slice none 0 0, .int .i64 0, .int .i64 0, .slice none 0 0, .int .i64 0, .slice none 0 0, .int .i64 0, .slice none 0 0, .slice none 0 0, .int .i64 0, .int .i64 0]) ?_ 7 _ rfl; (with_reducible repeat (first|refine zA ?_ _|refine zC ?_|refine zB ?_ _)); refine blk_put (cs := #[.slice none 0 0, .int .i64 0, .slice none 0 0, .slice none 0 0, .int .i64 0, .int .i64 0, .slice none 0 0, .int .i64 0, .slice none 0 0, .int .i64 0, .slice none 0 0, .slice none 0 0, .int .i64 0, .int .i64 0]) ?_ 6 _ rfl; (with_reducible repeat (first|refine zA ?_ _|refine zC ?_|refine zB ?_ _)); refine blk_put (cs := #[.slice none 0 0, .int .i64 0, .slice none 0 0, .slice none 0 0, .int .i64 0, .int .i64 0, .slice none 0 0, .int .i64 0, .slice none 0 0, .int .i64 0, .slice none 0 0, .slice none 0 0, .int .i64 0, .int .i64 0]) ?_ 5 _ rfl; (with_reducible repeat (first|refine zA ?_ _|refine zC ?_|refine zB ?_ _)); refine blk_put (cs := #[.slice none 0 0, .int .i64 0, .slice none 0 0, .slice none 0 0, .int .i64 0, .int .i64 0, .slice none 0 0, .int .i64 0, .slice none 0 0, .int .i64 0, .slice none 0 0, .slice none 0 0, .int .i64 0, .int .i64 0]) ?_ 4 _ rfl; (with_reducible repeat (first|refine zA ?_ _|refine zC ?_|refine zB ?_ _)); refine blk_put (cs := #[.slice none 0 0, .int .i64 0, .slice none 0 0, .slice none 0 0, .int .i64 0, .int .i64 0, .slice none 0 0, .int .i64 0, .slice none 0 0, .int .i64 0, .slice none 0 0, .slice none 0 0, .int .i64 0, .int .i64 0]) ?_ 3 _ rfl; (with_reducible repeat (first|refine zA ?_ _|refine zC ?_|refine zB ?_ _)); refine blk_put (cs := #[.slice none 0 0, .int .i64 0, .slice none 0 0, .slice none 0 0, .int .i64 0, .int .i64 0, .slice none 0 0, .int .i64 0, .slice none 0 0, .int .i64 0, .slice none 0 0, .slice none 0 0, .int .i64 0, .int .i64 0]) ?_ 2 _ rfl; (with_reducible repeat (first|refine zA ?_ _|refine zC ?_|refine zB ?_ _)); refine blk_put (cs := #[.slice none 0 0, .int .i64 0, .slice none 0 0, .slice none 0 0, .int .i64 0, .int .i64 0, .slice none 0 0, .int .i64 0, .slice none 0 0, .int .i64 0, .slice none 0 0, .slice none 0 0, .int .i64 0, .int .i64 0]) ?_ 1 _ rfl; (with_reducible repeat (first|refine zA ?_ _|refine zC ?_|refine zB ?_ _)); refine blk_put (cs := #[.slice none 0 0, .int .i64 0, .slice none 0 0, .slice none 0 0, .int .i64 0, .int .i64 0, .slice none 0 0, .int .i64 0, .slice none 0 0, .int .i64 0, .slice none 0 0, .slice none 0 0, .int .i64 0, .int .i64 0]) ?_ 0 _ rfl; (with_reducible repeat (first|refine zA ?_ _|refine zC ?_|refine zB ?_ _)); exact BK125.out) Try.underlying37 rfl (by kernel_rfl)) rfl ?_
    exact ⟨_, _, _, _, _, _, _, by first|rfl|(simp [errW_none, errW_some] <;> rfl)|(simp [*, errW_none, errW_some] <;> rfl), by first|exact Kd.R_nil _ _ _ _ _|exact Kd.N_nil _ _ _ _ _|exact Kd.V_nil _ _ _ _ _|exact Kd.Q_nil _ _ _ _ _|exact Kd.S_nil _ _ _ _ _, by first|exact Kd.R_nil _ _ _ _ _|exact Kd.N_nil _ _ _ _ _|exact Kd.V_nil _ _ _ _ _|exact Kd.Q_nil _ _ _ _ _|exact Kd.S_nil _ _ _ _ _, by first|exact Kd.R_nil _ _ _ _ _|exact Kd.N_nil _ _ _ _ _|exact Kd.V_nil _ _ _ _ _|exact Kd.Q_nil _ _ _ _ _|exact Kd.S_nil _ _ _ _ _, by first|exact Kd.R_nil _ _ _ _ _|exact Kd.N_nil _ _ _ _ _|exact Kd.V_nil _ _ _ _ _|exact Kd.Q_nil _ _ _ _ _|exact Kd.S_nil _ _ _ _ _, by first|exact Kd.R_nil _ _ _ _ _|exact Kd.N_nil _ _ _ _ _|exact Kd.V_nil _ _ _ _ _|exact Kd.Q_nil _ _ _ _ _|exact Kd.S_nil _ _ _ _ _, by first|exact Kd.R_nil _ _ _ _ _|exact Kd.N_nil _ _ _ _ _|exact Kd.V_nil _ _ _ _ _|exact Kd.Q_nil _ _ _ _ _|exact Kd.S_nil _ _ _ _ _, by first|exact Kd.R_nil _ _ _ _ _|exact Kd.N_nil _ _ _ _ _|exact Kd.V_nil _ _ _ _ _|exact Kd.Q_nil _ _ _ _ _|exact Kd.S_nil _ _ _ _ _, by repeat (first|(with_reducible first|exact HB.out|apply zI|apply zG|apply zH|refine zJ ?_ GE125.out)|exact HB.out)⟩

end Go.Proofs.Ytediiolcoilepaa.GFnExactNearNew
