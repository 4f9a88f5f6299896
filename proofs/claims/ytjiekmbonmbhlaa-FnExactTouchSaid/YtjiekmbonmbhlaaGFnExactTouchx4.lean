/- Walks of the functions that the law reaches: by programs of this session, over a tool's print. -/
import Derived.Test.YtjiekmbonmbhlaaGFnExactTouchx0
import Derived.Test.YtjiekmbonmbhlaaGFnExactTouchx3
namespace Go.Proofs.Ytjiekmbonmbhlaa.GFnExactTouch
open Go.RowKit Go.Proofs.YtjiekmbonmbhlaaW.PrintWords Go.Proofs.YtjiekmbonmbhlaaW.PrintLast Go.Proofs.YtjiekmbonmbhlaaW.PrintMore
attribute [local go_sem] max2_int min2_int max_two min_two max_three min_three max_four min_four   -- for this text's walks alone
set_option linter.unusedVariables false
set_option linter.unusedSimpArgs false

/-! ### impl_copyQueue: function 62 -/
def impl_copyQueue.f (a0_0 : Int) (l0_1 : List ByteArray) : Option (Int × List ByteArray) := (slices_Clone_string_string.f l0_1).bind fun t170 => (some (a0_0, t170))
set_option maxHeartbeats 8000000 in
set_option maxRecDepth 100000 in
theorem impl_copyQueue.calls (a0_0 : Int) (A0_1 : Option Addr) (c0_1 : Nat) (l0_1 : List ByteArray) (r1 : Int) (r2 : List ByteArray) (w : World) (hr0_1 : Kd.C Kd.string w A0_1 l0_1.length l0_1) (hc0_1 : l0_1.length ≤ c0_1) (h : impl_copyQueue.f a0_0 l0_1 = some (r1, r2)) :
    Calls Try.prog 62 #[.agg #[.int .i64 a0_0, .slice A0_1 l0_1.length c0_1]] w fun e w' => ∃ v1_ : Value, e = .returned (.agg #[.int .i64 r1, v1_]) ∧ Kd.R Kd.string 9 w' w.heap.size (fun _ => True) v1_ r2 ∧ Below w.heap.size w w' := by
  have hu26 := Try.underlying26
  have HR0_1 := Aside0.mk hr0_1
  have HC0_1 := Aside0.mk hc0_1
  clear hr0_1 hc0_1
  have HB := Aside0.mk (Below.refl w.heap.size w)
  have H : ((slices_Clone_string_string.f l0_1).bind fun t170 => (some (a0_0, t170))) = some (r1, r2) := h
  clear h
  replace H := Option.bind_eq_some_iff.mp H
  obtain ⟨t170, A20, H⟩ := H
  replace H : (some (a0_0, t170)) = some (r1, r2) := H
  have A2 := Aside0.mk A20
  clear A20
  simp only [Option.some.injEq, Prod.mk.injEq] at H
  obtain ⟨rfl, rfl⟩ := H
  go_enter Try.func62, Try.ntmps62
  go_wp2_with (first | ((with_reducible refine gate_dst (N := 1) rfl ?_); refine box_event ?hg (N := 1) ?hd (cs := #[.int .i64 a0_0, .slice A0_1 l0_1.length c0_1]) (t := 26) ?hr ?_; (case hd => rfl); (case hg => rfl); (case hr => first | (go_simp; done) | (go_simp; rfl)); intro gb168 hg w3 hbox hb; have n0_ := Aside0.mk (below_step (by repeat (first | (with_reducible first | exact HB.out | apply below_alloc | apply pw_below_drewN | apply below_drew1) | exact HB.out)) hb); have n1_ := Aside0.mk (hbox); have n2_ := Aside0.mk ((by rw [hg]; exact (below_size (by repeat (first | (with_reducible first | exact HB.out | apply below_alloc | apply pw_below_drewN | apply below_drew1) | exact HB.out))) : w.heap.size ≤ gb168)); have n3_ := Aside0.mk ((by rw [hg]; exact (below_size (by repeat (first | (with_reducible first | exact HB.out | apply below_alloc | apply pw_below_drewN | apply below_drew1) | exact HB.out))) : w.heap.size ≤ gb168)); clear HB; have HB := n0_; have BK168 := n1_; have GW168 := n2_; have GE168 := n3_; clear n0_ n1_ n2_ n3_; clear hb hbox hg) | ((with_reducible refine gate_dst (N := 2) rfl ?_); refine box_event ?hg (N := 2) ?hd (cs := #[.int .i64 0, .slice none 0 0]) (t := 26) ?hr ?_; (case hd => rfl); (case hg => rfl); (case hr => first | (go_simp; done) | (go_simp; rfl)); intro gb169 hg w4 hbox hb; have n0_ := Aside0.mk (blk_below (g := gb168) (o := .cells #[.int .i64 a0_0, .slice A0_1 l0_1.length c0_1] 26 (0, 0)) (by (with_reducible repeat (first | refine blk_drewN ?_ _ | refine blk_drew ?_ | refine blk_alloc ?_ _)); exact BK168.out) hb); have n1_ := Aside0.mk (below_step (by repeat (first | (with_reducible first | exact HB.out | apply below_alloc | apply pw_below_drewN | apply below_drew1 | refine below_set ?_ GE168.out) | exact HB.out)) hb); have n2_ := Aside0.mk (hbox); have n3_ := Aside0.mk ((by rw [hg]; exact (below_size (by repeat (first | (with_reducible first | exact HB.out | apply below_alloc | apply pw_below_drewN | apply below_drew1 | refine below_set ?_ GE168.out) | exact HB.out))) : w.heap.size ≤ gb169)); have n4_ := Aside0.mk ((by rw [hg]; exact (below_size (by repeat (first | (with_reducible first | exact HB.out | apply below_alloc | apply pw_below_drewN | apply below_drew1 | refine below_set ?_ GE168.out) | exact HB.out))) : w.heap.size ≤ gb169)); have n5_ := Aside0.mk ((by rw [hg]; exact Nat.ne_of_lt (blk_lt (g := gb168) (o := .cells #[.int .i64 a0_0, .slice A0_1 l0_1.length c0_1] 26 (0, 0)) (by (with_reducible repeat (first | refine blk_drewN ?_ _ | refine blk_drew ?_ | refine blk_alloc ?_ _)); exact BK168.out)) : gb168 ≠ gb169)); have n6_ := Aside0.mk ((by rw [hg]; exact Nat.ne_of_gt (blk_lt (g := gb168) (o := .cells #[.int .i64 a0_0, .slice A0_1 l0_1.length c0_1] 26 (0, 0)) (by (with_reducible repeat (first | refine blk_drewN ?_ _ | refine blk_drew ?_ | refine blk_alloc ?_ _)); exact BK168.out)) : gb169 ≠ gb168)); clear BK168; clear HB; have BK168 := n0_; have HB := n1_; have BK169 := n2_; have GW169 := n3_; have GE169 := n4_; have NB168_169 := n5_; have NB169_168 := n6_; clear n0_ n1_ n2_ n3_ n4_ n5_ n6_; clear hb hbox hg; have hnb5 := NB168_169.out; have hnc5 := NB169_168.out; have hcz6_0 : w4.cell? ⟨gb168, 0, none⟩ = some (.int .i64 a0_0) := (blk_cell BK168.out 0).trans rfl; have hcz6_1 : w4.cell? ⟨gb168, 1, none⟩ = some (.slice A0_1 l0_1.length c0_1) := (blk_cell BK168.out 1).trans rfl; have hfz6_0 := blk_frozen BK168.out 0; have hfz6_1 := blk_frozen BK168.out 1) | ((with_reducible refine gate_callee (f := 106) rfl ?_); refine goesL_ (some 5) rfl rfl Try.func106 (by kernel_rfl) rfl #[.slice A0_1 l0_1.length c0_1] rfl (by (try simp only [List.map_toArray, List.map_cons, List.map_nil]); first | done | rfl | (simp only [List.length_drop, List.length_take]; rfl)) ?_; (with_reducible refine (slices_Clone_string_string.calls _ _ l0_1 t170 _ ?side1 ?side2 A2.out).mono ?_); (case side1 => repeat (first | exact (Kd.C_below HR0_1.out HB.out) | (with_reducible refine Kd.C_alloc ?_ _) | (with_reducible refine Kd.C_drewN ?_ _) | (with_reducible refine Kd.C_drew ?_))); (case side2 => exact HC0_1.out); rintro e w7 ⟨v171, rfl, ho0, hb⟩; refine ⟨_, rfl, ?_⟩; have n0_ := Aside0.mk (Kd.R_lower ho0 (below_size (by repeat (first | (with_reducible first | exact HB.out | apply below_alloc | apply pw_below_drewN | apply below_drew1 | refine below_set ?_ GE168.out | refine below_set ?_ GE169.out) | exact HB.out)))); have n1_ := Aside0.mk (blk_below (g := gb168) (o := .cells #[.int .i64 a0_0, .slice A0_1 l0_1.length c0_1] 26 (0, 0)) (by (with_reducible repeat (first | refine blk_drewN ?_ _ | refine blk_drew ?_ | refine blk_alloc ?_ _)); exact BK168.out) hb); have n2_ := Aside0.mk (blk_below (g := gb169) (o := .cells #[.int .i64 0, .slice none 0 0] 26 (0, 0)) (by (with_reducible repeat (first | refine blk_drewN ?_ _ | refine blk_drew ?_ | refine blk_alloc ?_ _)); exact BK169.out) hb); have n3_ := Aside0.mk (below_step (by repeat (first | (with_reducible first | exact HB.out | apply below_alloc | apply pw_below_drewN | apply below_drew1 | refine below_set ?_ GE168.out | refine below_set ?_ GE169.out) | exact HB.out)) hb); clear BK168; clear BK169; clear HB; have HO172 := n0_; have BK168 := n1_; have BK169 := n2_; have HB := n3_; clear n0_ n1_ n2_ n3_; (try clear hb); (try clear hb2); (try clear hk); (try clear hi); (try clear ho0); obtain ⟨Ao8, co8, eo8⟩ := Kd.R_slice HO172.out; subst eo8; have hcz9_0 : w7.cell? ⟨gb168, 0, none⟩ = some (.int .i64 a0_0) := (blk_cell BK168.out 0).trans rfl; have hcz9_1 : w7.cell? ⟨gb168, 1, none⟩ = some (.slice A0_1 l0_1.length c0_1) := (blk_cell BK168.out 1).trans rfl; have hfz9_0 := blk_frozen BK168.out 0; have hfz9_1 := blk_frozen BK168.out 1; have hcz10_0 : w7.cell? ⟨gb169, 0, none⟩ = some (.int .i64 0) := (blk_cell BK169.out 0).trans rfl; have hcz10_1 : w7.cell? ⟨gb169, 1, none⟩ = some (.slice none 0 0) := (blk_cell BK169.out 1).trans rfl; have hfz10_0 := blk_frozen BK169.out 0; have hfz10_1 := blk_frozen BK169.out 1))
  refine bodyPost_ret (results_cell_row rfl _ _ gb169 26 #[.int .i64 a0_0, .slice Ao8 t170.length co8] (0, 0) _ rfl (by (with_reducible repeat (first | refine blk_drewN ?_ _ | refine blk_drew ?_ | refine blk_alloc ?_ _)); refine blk_put (cs := #[.int .i64 a0_0, .slice none 0 0]) ?_ 1 _ rfl; (with_reducible repeat (first | refine blk_drewN ?_ _ | refine blk_drew ?_ | refine blk_alloc ?_ _)); refine blk_put (cs := #[.int .i64 0, .slice none 0 0]) ?_ 0 _ rfl; (with_reducible repeat (first | refine blk_drewN ?_ _ | refine blk_drew ?_ | refine blk_alloc ?_ _)); refine blk_far ?_ NB169_168.out _; (with_reducible repeat (first | refine blk_drewN ?_ _ | refine blk_drew ?_ | refine blk_alloc ?_ _)); exact BK169.out) Try.underlying26 rfl (by kernel_rfl)) rfl ?_
  exact ⟨_, by first | rfl | (simp [errW_none, errW_some] <;> rfl) | (simp [*, errW_none, errW_some] <;> rfl), by (with_reducible repeat (first | apply Kd.R_alloc | apply Kd.R_drewN | apply Kd.R_drew)); exact Kd.R_mono (Kd.R_far (p := ⟨gb169, 1, none⟩) (Kd.R_far (p := ⟨gb169, 0, none⟩) (Kd.R_far (p := ⟨gb168, 1, none⟩) (Kd.R_types (Kd.R_types HO172.out BK168.out (by decide)) BK169.out (by decide)) (fun _ hk => hk.1.2) (.slice Ao8 t170.length co8)) (fun _ hk => hk.2) (.int .i64 a0_0)) (fun _ hk => hk.2) (.slice Ao8 t170.length co8)) (fun _ hk => trivial), by repeat (first | (with_reducible first | exact HB.out | apply below_alloc | apply pw_below_drewN | apply below_drew1 | refine below_set ?_ GE168.out | refine below_set ?_ GE169.out) | exact HB.out)⟩

-- NOT PRINTED: function 107 (slices_Delete_string_string)

-- NOT PRINTED: function 63 (impl_Queue_drop)

-- NOT PRINTED: function 127 (slices_overlaps_string)

/-! ### slices_Reverse_string_string: function 132 -/
def slices_Reverse_string_string.l0 : Nat → List ByteArray → Int → Int → Option (List ByteArray)
  | 0, _, _, _ => none
  | k + 1, x0, x2, x3 => if x2 < x3 then (if 0 ≤ x3 then (if x3 < (x0.length : Int) then (if 0 ≤ x2 then (if x2 < (x0.length : Int) then (slices_Reverse_string_string.l0 k ((x0.set (x2 : Int).toNat (rdOf ByteArray.empty x0 x3)).set (x3 : Int).toNat (rdOf ByteArray.empty x0 x2)) (wrap64 (x2 + 1)) (wrap64 (x3 - 1))) else (none)) else (none)) else (none)) else (none)) else (some x0)
def slices_Reverse_string_string.f (k : Nat) (l0 : List ByteArray) : Option (List ByteArray) := slices_Reverse_string_string.l0 k l0 0 (wrap64 ((l0.length : Int) - 1))
theorem slices_Reverse_string_string.mono_l : ∀ k, (∀ y0 y1 y2, LeO (slices_Reverse_string_string.l0 k y0 y1 y2) (slices_Reverse_string_string.l0 (k + 1) y0 y1 y2))
  | 0 => fun _ _ _ r h => by simp [slices_Reverse_string_string.l0] at h
  | k + 1 => by
    have ih0 := slices_Reverse_string_string.mono_l k
    · intro y0 y1 y2
      unfold slices_Reverse_string_string.l0
      repeat' first
      | (with_reducible exact ih0 _ _ _)
      | (with_reducible exact LeO.refl _)
      | (with_reducible exact LeO.none _)
      | (with_reducible refine LeO.ite ?_ ?_)
      | (with_reducible refine LeO.bind ?_ (fun _ => ?_))
      | exact ih0 _ _ _
      | exact LeO.none _
      | refine LeO.ite ?_ ?_
      | refine LeO.bind ?_ (fun _ => ?_)
theorem slices_Reverse_string_string.mono : ∀ a0 k, LeO (slices_Reverse_string_string.f k a0) (slices_Reverse_string_string.f (k + 1) a0) := by
  intro a0 k
  have ih0 := slices_Reverse_string_string.mono_l k
  unfold slices_Reverse_string_string.f
  repeat' first
      | (with_reducible exact ih0 _ _ _)
      | (with_reducible exact LeO.refl _)
      | (with_reducible exact LeO.none _)
      | (with_reducible refine LeO.ite ?_ ?_)
      | (with_reducible refine LeO.bind ?_ (fun _ => ?_))
      | exact ih0 _ _ _
      | exact LeO.none _
      | refine LeO.ite ?_ ?_
      | refine LeO.bind ?_ (fun _ => ?_)
def slices_Reverse_string_string.T3 : Bool × List (List Nat × List Nat) := (true, [([], []), ([], []), ([], []), ([], []), ([], []), ([], []), ([4, 5], [4, 5]), ([6], [6]), ([], []), ([], []), ([8, 9], [8, 9]), ([10], [10]), ([0, 1, 0, 1, 4, 5, 6, 7, 11], [0, 1]), ([12, 7, 0, 1, 4, 5, 6, 7, 11], [7, 12]), ([2, 3, 0, 1, 2, 3, 4, 5, 6, 7, 8, 9, 10, 11, 12, 13], [2, 3]), ([14, 11, 13, 0, 1, 2, 3, 4, 5, 6, 7, 8, 9, 10, 11, 12, 13], [11, 14])])
def slices_Reverse_string_string.B3 : List Nat := [0, 0, 0, 0, 0, 0, 48, 112, 0, 0, 768, 1792, 4083, 8179, 16383, 32767]
theorem slices_Reverse_string_string.tab3 : rtab .any (opsOf Try.f132 3) = slices_Reverse_string_string.T3 := by kernel_rfl
theorem slices_Reverse_string_string.bits3 : waitsOk slices_Reverse_string_string.T3.2 slices_Reverse_string_string.B3 = true := by kernel_rfl
set_option maxHeartbeats 8000000 in
set_option maxRecDepth 100000 in
theorem slices_Reverse_string_string.calls (k : Nat) (P0_ : Nat → Prop) (u9000_ : Value) (l0 : List ByteArray) (r : List ByteArray) (w0 w : World) (hB : Below w0.heap.size w0 w) (ho0 : Kd.R Kd.string 9 w w0.heap.size P0_ u9000_ l0) (h : slices_Reverse_string_string.f k l0 = some r) :
    Calls Try.prog 132 #[u9000_] w fun e w' => e = .returned (.tuple #[]) ∧ Kd.R Kd.string 9 w' w0.heap.size (fun k_ => (P0_ k_ ∨ w.heap.size ≤ k_)) u9000_ r ∧ Below w0.heap.size w0 w' ∧ Kept w w' (fun k_ => P0_ k_) := by
  have HO0 := Aside0.mk (show Kd.R Kd.string 9 w w0.heap.size (fun k_ => (P0_ k_ ∨ w.heap.size ≤ k_)) u9000_ l0 from Kd.R_mono ho0 (fun k_ hk => (.inl hk)))
  have HK := Aside0.mk (Kept.refl w (fun k_ => P0_ k_))
  have HW0 := Aside0.mk hB.size
  have HB := Aside0.mk hB
  clear hB
  have H : (slices_Reverse_string_string.l0 k l0 0 (wrap64 ((l0.length : Int) - 1))) = some r := h
  clear h
  have H' := Aside0.mk H
  clear H
  obtain ⟨Ao2, co2, eo2⟩ := Kd.R_slice HO0.out
  subst eo2
  go_enter Try.func132, Try.ntmps132
  go_wp2
  go_loopg [2, 3] k (fun kq v2 v3 w' => ∃ (x0_1 : List ByteArray) (x2_1 : Int) (x3_1 : Int), v2 = .int .i64 x2_1 ∧ v3 = .int .i64 x3_1 ∧ Aside0 (slices_Reverse_string_string.l0 kq x0_1 x2_1 x3_1 = some r) ∧ Aside0 (kq ≤ k) ∧ Aside0 (Kd.R Kd.string 9 w' w0.heap.size (fun k_ => (P0_ k_ ∨ w.heap.size ≤ k_)) (.slice Ao2 l0.length co2) x0_1) ∧ Aside0 (Kept w w' (fun k_ => P0_ k_)) ∧ Aside0 (Below w0.heap.size w0 w'))
  case atStart => exact ⟨(l0), (0), (wrap64 ((l0.length : Int) - 1)), (by first | rfl | (simp; done) | (simp [*]; done)), (by first | rfl | (simp; done) | (simp [*]; done)), H', ⟨Nat.le_refl _⟩, ⟨by (with_reducible repeat (first | apply Kd.R_alloc | apply Kd.R_drewN | apply Kd.R_drew)); exact HO0.out⟩, ⟨by repeat (first | (with_reducible first | exact HK.out | apply Kept.alloc | apply Kept.drewN | apply Kept.drew) | exact HK.out)⟩, ⟨by repeat (first | (with_reducible first | exact HB.out | apply below_alloc | apply pw_below_drewN | apply below_drew1) | exact HB.out)⟩⟩
  case round =>
    clear H'
    try clear c1
    try clear p2
    obtain ⟨x0_1, x2_1, x3_1, rfl, rfl, HA, HK1, HO_0, HK, HB⟩ := hrel
    have hl0_1 := (Kd.R_reads' HO_0.out).1
    rw [hl0_1] at HO_0
    (try simp only [hl0_1])
    cases gk with
    | zero => exact absurd HA.out (by simp [slices_Reverse_string_string.l0])
    | succ k1 =>
      have H := HA.out
      clear HA
      simp only [slices_Reverse_string_string.l0] at H
      by_cases c3 : x2_1 < x3_1
      · rw [if_pos c3] at H
        have c3b0 : decide (x2_1 < x3_1) = true := decide_eq_true c3
        clear c3
        by_cases c4 : 0 ≤ x3_1
        · rw [if_pos c4] at H
          have c4b0 : decide (0 ≤ x3_1) = true := decide_eq_true c4
          clear c4
          by_cases c5 : x3_1 < (x0_1.length : Int)
          · rw [if_pos c5] at H
            have c5b0 : decide (x3_1 < (x0_1.length : Int)) = true := decide_eq_true c5
            clear c5
            by_cases c6 : 0 ≤ x2_1
            · rw [if_pos c6] at H
              have c6b0 : decide (0 ≤ x2_1) = true := decide_eq_true c6
              clear c6
              by_cases c7 : x2_1 < (x0_1.length : Int)
              · rw [if_pos c7] at H
                have c7b0 : decide (x2_1 < (x0_1.length : Int)) = true := decide_eq_true c7
                clear c7
                obtain ⟨y176, hy176⟩ : ∃ y_ : List ByteArray, y_ = (x0_1.set (x2_1 : Int).toNat (rdOf ByteArray.empty x0_1 x3_1)) := ⟨_, rfl⟩
                replace H : (slices_Reverse_string_string.l0 k1 (y176.set (x3_1 : Int).toNat (rdOf ByteArray.empty x0_1 x2_1)) (wrap64 (x2_1 + 1)) (wrap64 (x3_1 - 1))) = some r := by first | (rw [hy176]; with_reducible exact H) | (have H2_ := (Option.bind_some _ _).symm.trans H; rw [hy176]; with_reducible exact H2_) | (have H2_ := (Option.bind_some _ _).symm.trans H; with_reducible exact H2_) | with_reducible exact H | (rw [hy176]; exact H) | exact H
                have Ny176 := Aside0.mk hy176
                clear hy176
                obtain ⟨y177, hy177⟩ : ∃ y_ : List ByteArray, y_ = (y176.set (x3_1 : Int).toNat (rdOf ByteArray.empty x0_1 x2_1)) := ⟨_, rfl⟩
                replace H : (slices_Reverse_string_string.l0 k1 y177 (wrap64 (x2_1 + 1)) (wrap64 (x3_1 - 1))) = some r := by first | (rw [hy177]; with_reducible exact H) | (have H2_ := (Option.bind_some _ _).symm.trans H; rw [hy177]; with_reducible exact H2_) | (have H2_ := (Option.bind_some _ _).symm.trans H; with_reducible exact H2_) | with_reducible exact H | (rw [hy177]; exact H) | exact H
                have Ny177 := Aside0.mk hy177
                clear hy177
                have H' := Aside0.mk H
                clear H
                try go_wp2
                have n0_ := Aside0.mk (Kd.R_drew HO_0.out)
                have n1_ := Aside0.mk (Kept.drew HK.out)
                have n2_ := Aside0.mk (below_drew1 HB.out)
                clear HO_0
                clear HK
                clear HB
                have HO_0 := n0_
                have HK := n1_
                have HB := n2_
                clear n0_ n1_ n2_
                have p174 : 0 ≤ (x3_1 : Int) := of_decide_eq_true (by first | (with_reducible assumption) | assumption)
                have q174 : x3_1 < (x0_1.length : Int) := of_decide_eq_true (by first | (with_reducible assumption) | assumption)
                obtain ⟨ad174, e174, hx174_0⟩ := Kd.at_string (Kd.R_reads' HO_0.out).2.2 x3_1 p174 q174
                cases e174
                replace p174 := eq_true p174
                replace q174 := eq_true q174
                have p175 : 0 ≤ (x2_1 : Int) := of_decide_eq_true (by first | (with_reducible assumption) | assumption)
                have q175 : x2_1 < (x0_1.length : Int) := of_decide_eq_true (by first | (with_reducible assumption) | assumption)
                obtain ⟨ad175, e175, hx175_0⟩ := Kd.at_string (Kd.R_reads' HO_0.out).2.2 x2_1 p175 q175
                obtain rfl : ad174 = ad175 := (by injection e175)
                replace p175 := eq_true p175
                replace q175 := eq_true q175
                have p8 : 0 ≤ (x2_1 : Int) := of_decide_eq_true (by first | (with_reducible assumption) | assumption)
                have q8 : (x2_1 : Int) < ((x0_1.length : Int) : Int) := of_decide_eq_true (by first | (with_reducible assumption) | assumption)
                obtain ⟨go8, co8, eo8, gb8, gl8, cl8, HG8⟩ := Kd.R_form HO_0.out (by omega)
                (first | cases eo8 | (injection eo8 with ea_ en_ ec_; (first | subst ea_ | (injection ea_ with ea_; subst ea_)); subst ec_; clear en_))
                have GB8 := Aside0.mk gb8
                have GG8 := Aside0.mk HG8
                clear gb8 gl8 HG8
                have HMgo8 := Aside0.mk (show (P0_ go8 ∨ w.heap.size ≤ go8) from (HO_0.out.1 _ rfl))
                (first | simp only [add_plain] at hx174_0 | skip)
                (first | simp only [add_plain] at hx175_0 | skip)
                obtain ⟨hx8_0, hf8_0⟩ := Kd.R_celln (⟨#[]⟩ : ByteArray) HO_0.out (x2_1 : Int) p8 q8
                replace p8 := eq_true p8
                replace q8 := eq_true q8
                have HP11 := Kd.R_putn HO_0.out (x2_1 : Int) (rdOf ByteArray.empty x0_1 x3_1)
                rw [← Ny176.out] at HP11
                have HQ11 := Aside0.mk HP11
                clear HP11
                have p9 : 0 ≤ (x3_1 : Int) := of_decide_eq_true (by first | (with_reducible assumption) | assumption)
                have q9 : (x3_1 : Int) < ((x0_1.length : Int) : Int) := of_decide_eq_true (by first | (with_reducible assumption) | assumption)
                obtain ⟨hx9_0, hf9_0⟩ := Kd.R_celln (⟨#[]⟩ : ByteArray) HQ11.out (x3_1 : Int) p9 q9
                replace p9 := eq_true p9
                replace q9 := eq_true q9
                have HP12 := Kd.R_putn HQ11.out (x3_1 : Int) (rdOf ByteArray.empty x0_1 x2_1)
                rw [← Ny177.out] at HP12
                have HQ12 := Aside0.mk HP12
                clear HP12
                refine start_ (n := 16) (S := fun w' => w'.cell? ⟨go8, (x3_1).toNat, none⟩ = some (.string (rdOf ByteArray.empty x0_1 x3_1)) ∧ w'.cell? ⟨go8, (x2_1).toNat, none⟩ = some (.string (rdOf ByteArray.empty x0_1 x2_1))) (ds := [13, 15]) #[false, false, false, false, false, false, false, false, false, false, false, false, false, false, false, false] (by kernel_rfl) rfl rfl ⟨hx174_0, hx175_0⟩ (fun hHeld => ?_); refine with_tabW slices_Reverse_string_string.tab3 slices_Reverse_string_string.bits3 (fun HT_ HW_ => ?_)
                generalize wr.drew = w10 at HO_0 HK HB GG8 HQ11 HQ12 hf8_0 hf9_0 hx174_0 hx175_0 hx8_0 hx9_0 hHeld ⊢
                refine pure_ (i := 0) (N := some 14) (v := ?_) (a' := ?_) #[true, false, false, false, false, false, false, false, false, false, false, false, false, false, false, false] rfl rfl (any_of HT_.out (by kernel_rfl)) (fun _ _ _ h => h) (Or.inl ⟨by rfl, ?_⟩) ?_ ?_
                rotate_left
                · intro w'
                  go_simp
                  with_reducible rfl
                rotate_left
                · simp only [Act.put, List.setIfInBounds_toArray, List.set_cons_zero, List.set_cons_succ, i64_w, i32_w]
                  rfl
                refine pure_ (i := 1) (N := some 15) (v := ?_) (a' := ?_) #[true, true, false, false, false, false, false, false, false, false, false, false, false, false, false, false] rfl rfl (any_of HT_.out (by kernel_rfl)) (fun _ _ _ h => h) (Or.inl ⟨by rfl, ?_⟩) ?_ ?_
                rotate_left
                · intro w'
                  go_simp
                  with_reducible rfl
                rotate_left
                · simp only [Act.put, List.setIfInBounds_toArray, List.set_cons_zero, List.set_cons_succ, i64_w, i32_w]
                  rfl
                refine pure_ (i := 2) (N := some 16) (v := ?_) (a' := ?_) #[true, true, true, false, false, false, false, false, false, false, false, false, false, false, false, false] rfl rfl (any_of HT_.out (by kernel_rfl)) (fun _ _ _ h => h) (Or.inl ⟨by rfl, ?_⟩) ?_ ?_
                rotate_left
                · intro w'
                  go_simp
                  with_reducible rfl
                rotate_left
                · simp only [Act.put, List.setIfInBounds_toArray, List.set_cons_zero, List.set_cons_succ, i64_w, i32_w]
                  rfl
                refine pure_ (i := 3) (N := some 17) (v := ?_) (a' := ?_) #[true, true, true, true, false, false, false, false, false, false, false, false, false, false, false, false] rfl rfl (any_of HT_.out (by kernel_rfl)) (fun _ _ _ h => h) (Or.inl ⟨by rfl, ?_⟩) ?_ ?_
                rotate_left
                · intro w'
                  go_simp
                  with_reducible rfl
                rotate_left
                · simp only [Act.put, List.setIfInBounds_toArray, List.set_cons_zero, List.set_cons_succ, i64_w, i32_w]
                  rfl
                refine pure_ (i := 4) (N := some 18) (v := ?_) (a' := ?_) #[true, true, true, true, true, false, false, false, false, false, false, false, false, false, false, false] rfl rfl (any_of HT_.out (by kernel_rfl)) (fun _ _ _ h => h) (Or.inl ⟨by rfl, ?_⟩) ?_ ?_
                rotate_left
                · intro w'
                  go_simp
                  with_reducible rfl
                rotate_left
                · simp only [Act.put, List.setIfInBounds_toArray, List.set_cons_zero, List.set_cons_succ, i64_w, i32_w]
                  rfl
                refine pure_ (i := 5) (N := some 19) (v := ?_) (a' := ?_) #[true, true, true, true, true, true, false, false, false, false, false, false, false, false, false, false] rfl rfl (any_of HT_.out (by kernel_rfl)) (fun _ _ _ h => h) (Or.inl ⟨by rfl, ?_⟩) ?_ ?_
                rotate_left
                · intro w'
                  go_simp
                  with_reducible rfl
                rotate_left
                · simp only [Act.put, List.setIfInBounds_toArray, List.set_cons_zero, List.set_cons_succ, i64_w, i32_w]
                  rfl
                refine pure_ (i := 6) (N := some 20) (v := ?_) (a' := ?_) #[true, true, true, true, true, true, true, false, false, false, false, false, false, false, false, false] rfl rfl (any_of HT_.out (by kernel_rfl)) (fun _ _ _ h => h) (Or.inl ⟨by rfl, ?_⟩) ?_ ?_
                rotate_left
                · intro w'
                  go_simp
                  with_reducible rfl
                rotate_left
                · simp only [Act.put, List.setIfInBounds_toArray, List.set_cons_zero, List.set_cons_succ, i64_w, i32_w]
                  rfl
                refine pure_ (i := 8) (N := some 22) (v := ?_) (a' := ?_) #[true, true, true, true, true, true, true, false, true, false, false, false, false, false, false, false] rfl rfl (any_of HT_.out (by kernel_rfl)) (fun _ _ _ h => h) (Or.inl ⟨by rfl, ?_⟩) ?_ ?_
                rotate_left
                · intro w'
                  go_simp
                  with_reducible rfl
                rotate_left
                · simp only [Act.put, List.setIfInBounds_toArray, List.set_cons_zero, List.set_cons_succ, i64_w, i32_w]
                  rfl
                refine pure_ (i := 9) (N := some 23) (v := ?_) (a' := ?_) #[true, true, true, true, true, true, true, false, true, true, false, false, false, false, false, false] rfl rfl (any_of HT_.out (by kernel_rfl)) (fun _ _ _ h => h) (Or.inl ⟨by rfl, ?_⟩) ?_ ?_
                rotate_left
                · intro w'
                  go_simp
                  with_reducible rfl
                rotate_left
                · simp only [Act.put, List.setIfInBounds_toArray, List.set_cons_zero, List.set_cons_succ, i64_w, i32_w]
                  rfl
                refine pure_ (i := 10) (N := some 24) (v := ?_) (a' := ?_) #[true, true, true, true, true, true, true, false, true, true, true, false, false, false, false, false] rfl rfl (any_of HT_.out (by kernel_rfl)) (fun _ _ _ h => h) (Or.inl ⟨by rfl, ?_⟩) ?_ ?_
                rotate_left
                · intro w'
                  go_simp
                  with_reducible rfl
                rotate_left
                · simp only [Act.put, List.setIfInBounds_toArray, List.set_cons_zero, List.set_cons_succ, i64_w, i32_w]
                  rfl
                refine take_ (i := 7) (N := some 21) (v := ?_) (a' := ?_) #[true, true, true, true, true, true, true, true, true, true, true, false, false, false, false, false] rfl rfl (take_ofW HT_.out HW_.out (by kernel_rfl)) (fun _ _ _ h => h) (Or.inl ⟨by rfl, ?_⟩) hHeld ?_ ?_
                rotate_left
                · rintro w' ⟨s0, s1⟩
                  go_simp
                  with_reducible rfl
                rotate_left
                · simp only [Act.put, List.setIfInBounds_toArray, List.set_cons_zero, List.set_cons_succ, i64_w, i32_w]
                  rfl
                refine take_ (i := 11) (N := some 25) (v := ?_) (a' := ?_) #[true, true, true, true, true, true, true, true, true, true, true, true, false, false, false, false] rfl rfl (take_ofW HT_.out HW_.out (by kernel_rfl)) (fun _ _ _ h => h) (Or.inl ⟨by rfl, ?_⟩) hHeld ?_ ?_
                rotate_left
                · rintro w' ⟨s0, s1⟩
                  go_simp
                  with_reducible rfl
                rotate_left
                · simp only [Act.put, List.setIfInBounds_toArray, List.set_cons_zero, List.set_cons_succ, i64_w, i32_w]
                  rfl
                refine pure_ (i := 12) (N := some 26) (v := ?_) (a' := ?_) #[true, true, true, true, true, true, true, true, true, true, true, true, true, false, false, false] rfl rfl (any_of HT_.out (by kernel_rfl)) (fun _ _ _ h => h) (Or.inl ⟨by rfl, ?_⟩) ?_ ?_
                rotate_left
                · intro w'
                  go_simp
                  with_reducible rfl
                rotate_left
                · simp only [Act.put, List.setIfInBounds_toArray, List.set_cons_zero, List.set_cons_succ, i64_w, i32_w]
                  rfl
                refine last_ (i := 13) (N := none) #[true, true, true, true, true, true, true, true, true, true, true, true, true, true, false, false] rfl rfl (one_of HT_.out (by kernel_rfl)) (by decide) (fun K hK => ?_)
                refine skip_ (w1 := ?_) (by rfl) rfl ?_ ?_
                rotate_left
                · go_simp
                  rfl
                refine hK.out _ _ ?_
                clear hK K
                refine pure_ (i := 14) (N := some 27) (v := ?_) (a' := ?_) #[true, true, true, true, true, true, true, true, true, true, true, true, true, true, true, false] rfl rfl (any_of HT_.out (by kernel_rfl)) (fun _ _ _ h => h) (Or.inl ⟨by rfl, ?_⟩) ?_ ?_
                rotate_left
                · intro w'
                  go_simp
                  with_reducible rfl
                rotate_left
                · simp only [Act.put, List.setIfInBounds_toArray, List.set_cons_zero, List.set_cons_succ, i64_w, i32_w]
                  rfl
                refine last_ (i := 15) (N := none) #[true, true, true, true, true, true, true, true, true, true, true, true, true, true, true, true] rfl rfl (one_of HT_.out (by kernel_rfl)) (by decide) (fun K hK => ?_)
                refine skip_ (w1 := ?_) (by rfl) rfl ?_ ?_
                rotate_left
                · go_simp
                  rfl
                refine hK.out _ _ ?_
                clear hK K
                refine done_ (done_of HT_.out (by kernel_rfl)) ?_
                try go_wp2
                (try simp only [← hl0_1])
                go_roundg k1
                case measure => have := HK1.out; omega
                case rel => exact ⟨(y177), (wrap64 (x2_1 + 1)), (wrap64 (x3_1 - 1)), (by first | rfl | (simp; done) | (simp [*]; done)), (by first | rfl | (simp; done) | (simp [*]; done)), H', ⟨by have := HK1.out; omega⟩, ⟨by (try simp only [hl0_1]); (with_reducible repeat (first | apply Kd.R_alloc | apply Kd.R_drewN | apply Kd.R_drew)); exact HQ12.out⟩, ⟨by repeat (first | (with_reducible first | exact HK.out | apply Kept.alloc | apply Kept.drewN | apply Kept.drew | refine Kept.setCell ?_ HMgo8.out _ | refine Kept.setCell ?_ HMgo8.out _) | exact HK.out)⟩, ⟨by repeat (first | (with_reducible first | exact HB.out | apply below_alloc | apply pw_below_drewN | apply below_drew1 | refine below_set ?_ GB8.out | refine below_set ?_ GB8.out) | exact HB.out)⟩⟩
              · rw [if_neg c7] at H
                exact absurd H (by simp)
            · rw [if_neg c6] at H
              exact absurd H (by simp)
          · rw [if_neg c5] at H
            exact absurd H (by simp)
        · rw [if_neg c4] at H
          exact absurd H (by simp)
      · rw [if_neg c3] at H
        have c3b0 : decide (x2_1 < x3_1) = false := decide_eq_false c3
        clear c3
        obtain rfl := Option.some.inj H
        go_wp2
        first | go_end0 | ((try simp only [Exit.inBlock, Exit.then]); refine bodyPost_ret (results_none rfl _ _ _) rfl ?_)
        exact ⟨by first | rfl | (simp [errW_none, errW_some] <;> rfl) | (simp [*, errW_none, errW_some] <;> rfl), (by first | exact (by (with_reducible repeat (first | apply Kd.R_alloc | apply Kd.R_drewN | apply Kd.R_drew)); exact HO_0.out) | (simp only [hl0_1]; exact (by (with_reducible repeat (first | apply Kd.R_alloc | apply Kd.R_drewN | apply Kd.R_drew)); exact HO_0.out))), by repeat (first | (with_reducible first | exact HB.out | apply below_alloc | apply pw_below_drewN | apply below_drew1) | exact HB.out), by repeat (first | (with_reducible first | exact HK.out | apply Kept.alloc | apply Kept.drewN | apply Kept.drew) | exact HK.out)⟩

-- NOT PRINTED: function 131 (slices_rotateLeft_string)

-- NOT PRINTED: function 128 (slices_rotateRight_string)

-- NOT PRINTED: function 109 (slices_Insert_string_string)

-- NOT PRINTED: function 67 (impl_Queue_touch)


/-! ### impl_Touch: function 21 -/
section
open Go.Lib Go.Sort
/-! ### Rows of texts, block and all -/
theorem row_block {e base : Nat} {ok : Nat → Prop} {w : World} {A : Option Addr} {n c : Nat} {xs : List ByteArray} (h : Kd.R Kd.string e w base ok (.slice A n c) xs) :
    n = xs.length ∧ ((A = none ∧ n = 0 ∧ c = 0) ∨ ∃ g cur, A = some ⟨g, 0, none⟩ ∧ ok g ∧ base ≤ g ∧ w.heap[g]? = some (.cells cur e (0, 0)) ∧ n ≤ c ∧ c ≤ maxLen ∧ cur.size = c ∧ cur.toList.take n = xs.map Value.string) := by
  obtain ⟨h0, inner, ⟨hlen, ho⟩, hr⟩ := h
  have hinner : inner = xs.map Value.string := by
    obtain ⟨hr1, hr2⟩ := hr
    apply List.ext_getElem?
    intro j
    by_cases hj : j < xs.length
    · have := hr2 j xs[j] (List.getElem?_eq_getElem hj)
      have h3 : (inner.drop (j * 1)).take 1 = [Value.string xs[j]] := this
      rw [Nat.mul_one] at h3
      have h4 := congrArg (fun l => l[0]?) h3
      simp at h4
      rw [h4]; simp [hj]
    · have hl : inner.length = xs.length := by have := hr1; simpa [Kd.string, Kd.scalar] using this
      rw [List.getElem?_eq_none (by omega), List.getElem?_eq_none (by simp; omega)]
  rcases ho with ⟨hv, hn⟩ | ⟨g, cap, cur, hv, hb, hc, hn, hm, hs, ht⟩
  · obtain ⟨rfl, rfl, rfl⟩ := Value.slice.inj hv
    exact ⟨hn.symm, .inl ⟨rfl, rfl, rfl⟩⟩
  · obtain ⟨rfl, rfl, rfl⟩ := Value.slice.inj hv
    refine ⟨rfl, .inr ⟨g, cur, rfl, h0 g rfl, hb, hc, hn, hm, ?_, ?_⟩⟩
    · rw [hs]; exact Nat.mul_one _
    · have : xs.length * (Kd.string).sz = xs.length := Nat.mul_one _
      rw [this] at ht
      rw [ht, hinner]
theorem block_row {e base : Nat} {ok : Nat → Prop} {w : World} {g n c : Nat} {cur : Array Value} {xs : List ByteArray} (hk : ok g) (hb : base ≤ g) (hc : w.heap[g]? = some (.cells cur e (0, 0))) (hn : n = xs.length) (hnc : n ≤ c) (hm : c ≤ maxLen) (hs : cur.size = c) (ht : cur.toList.take n = xs.map Value.string) :
    Kd.R Kd.string e w base ok (.slice (some ⟨g, 0, none⟩) n c) xs := by
  subst hn
  refine ⟨fun k hk' => ?_, xs.map Value.string, ⟨?_, .inr ⟨g, c, cur, rfl, hb, hc, hnc, hm, ?_, ?_⟩⟩, ?_⟩
  · simp [Value.ownBlock] at hk'; rw [← hk']; exact hk
  · show (xs.map Value.string).length = xs.length * 1; simp
  · show cur.size = c * 1; omega
  · show cur.toList.take (xs.length * 1) = _; rw [Nat.mul_one]; exact ht
  · exact Kd.reps_scalar (enc := Value.string) xs
theorem blk_sets (g : Nat) (t : TypeId) : ∀ (vs : List Value) (o : Nat) (w : World) (cur : Array Value), w.heap[g]? = some (.cells cur t (0, 0)) → o + vs.length ≤ cur.size →
    ∃ cur' : Array Value, (w.setCells g o vs).heap[g]? = some (.cells cur' t (0, 0)) ∧ cur'.size = cur.size ∧ cur'.toList = cur.toList.take o ++ vs ++ cur.toList.drop (o + vs.length)
  | [], o, w, cur, h, hl => ⟨cur, h, rfl, by simp⟩
  | v :: r, o, w, cur, h, hl => by
    simp only [List.length_cons] at hl
    obtain ⟨cur', h1, h2, h3⟩ := blk_sets g t r (o + 1) (w.setCell ⟨g, o, none⟩ v) (cur.setIfInBounds o v) (blk_set h o v) (by simp; omega)
    refine ⟨cur', h1, by rw [h2]; simp, ?_⟩
    rw [h3, Array.toList_setIfInBounds, List.take_add_one, List.take_set_of_le (Nat.le_refl o), List.getElem?_set_self (by simp; omega), List.drop_set_of_lt (by omega)]
    simp only [List.length_cons, Option.toList_some, List.append_assoc, List.cons_append, List.nil_append]
    rw [show o + 1 + r.length = o + (r.length + 1) by omega]
theorem grown_sets (g : Nat) : ∀ (vs : List Value) (o : Nat) (w : World), w.grownBy (w.setCells g o vs) (some g)
  | [], o, w => World.grownBy.refl w _
  | v :: r, o, w => World.grownBy.trans (⟨by simp [World.setCell], by simp [World.setCell], by simp [World.setCell], by simp [World.setCell], fun i hi hne => Below.heap_setCell w ⟨g, o, none⟩ v i (fun e => hne (by rw [e]))⟩) (grown_sets g r (o + 1) _)
theorem grown_drew {w W : World} {row : Option Nat} (h : w.grownBy W row) : w.grownBy W.drew row := ⟨h.os, h.tape, h.output, h.size, h.block⟩
theorem row_cell {w : World} {g e : Nat} {cur : Array Value} {xs : List ByteArray} (hc : w.heap[g]? = some (.cells cur e (0, 0))) (ht : cur.toList.take xs.length = xs.map Value.string) (j : Nat) (hj : j < xs.length) : w.cell? ⟨g, 0 + j, none⟩ = some (.string (xs.getD j ByteArray.empty)) := by
  rw [Nat.zero_add, blk_cell hc j]
  have h := congrArg (fun l => l[j]?) ht
  simp only [List.getElem?_take, if_pos hj, List.getElem?_map, List.getElem?_eq_getElem hj, Option.map_some] at h
  rw [List.getD_eq_getElem?_getD, List.getElem?_eq_getElem hj, ← Array.getElem?_toList, h]
  rfl
theorem strs_of (xs : List ByteArray) : Lib.strsOf (fun i => xs.getD i ByteArray.empty) xs.length = xs.map (fun s => s.data.toList) := by
  apply List.ext_getElem
  · simp [Lib.strsOf]
  · intro j h1 h2
    simp [Lib.strsOf] at h1 h2 ⊢
    simp [h2]
theorem enc_strs (xs : List ByteArray) : (xs.map (fun s : ByteArray => s.data.toList)).map encStr = xs.map Value.string := by
  rw [List.map_map]
  exact List.map_congr_left (fun s _ => rfl)
shelf_lay Lays2.n24 Nm2 24 at Try as layD
shelf_lay Lays2.n22 Nm2 22 at Try as layI
theorem del_calls (xs : List ByteArray) (i : Nat) (hi : i < xs.length) (A : Option Addr) (c base : Nat) (P_ : Nat → Prop) (w : World) (ho : Kd.R Kd.string 9 w base P_ (.slice A xs.length c) xs) :
    Calls Try.prog 107 #[.slice A xs.length c, .int .i64 (i : Int), .int .i64 ((i + 1 : Nat) : Int)] w fun e w' => e = .returned (.slice A (xs.length - 1) c) ∧ Kd.R Kd.string 9 w' base P_ (.slice A (xs.length - 1) c) (xs.eraseIdx i) ∧ w.grownBy w' (Value.slice A xs.length c).ownBlock := by
  obtain ⟨_, ⟨_, h0, _⟩ | ⟨g, cur, rfl, hk, hb, hc, hn, hm, hs, ht⟩⟩ := row_block ho
  · omega
  have hm' : c ≤ 9223372036854775807 := hm
  refine (Any.slices_Delete_string_cells layD g 0 xs.length c i (i + 1) (fun i => xs.getD i ByteArray.empty) w hn hm' (by omega) (by omega) (row_cell hc ht) (fun j hj => by rw [Nat.zero_add]; exact blk_frozen hc j)).mono ?_
  rintro e w' ⟨rfl, q, rfl⟩
  rw [strs_of]
  have hl : ((List.take i (xs.map (fun s : ByteArray => s.data.toList)) ++ List.drop (i + 1) (xs.map (fun s : ByteArray => s.data.toList)) ++ List.replicate (i + 1 - i) []).map encStr) = (xs.eraseIdx i).map Value.string ++ [.string ⟨#[]⟩] := by
    rw [show i + 1 - i = 1 by omega, List.eraseIdx_eq_take_drop_succ, List.map_append, List.map_append, List.map_append, List.map_take, List.map_drop, List.map_take, List.map_drop, enc_strs]
    rfl
  rw [hl]
  have hel : (xs.eraseIdx i).length = xs.length - 1 := by rw [List.length_eraseIdx, if_pos hi]
  obtain ⟨cur', h1, h2, h3⟩ := blk_sets g 9 ((xs.eraseIdx i).map Value.string ++ [.string ⟨#[]⟩]) 0 (w.drewN q) cur (blk_drewN hc q) (by simp; omega)
  refine ⟨by rw [show xs.length - (i + 1 - i) = xs.length - 1 by omega], block_row hk hb h1 hel.symm (by omega) hm (by omega) ?_, ?_⟩
  · rw [h3]
    simp only [List.take_zero, List.nil_append, List.append_assoc]
    rw [List.take_append_of_le_length (by simp; omega), List.take_of_length_le (by simp; omega)]
  · exact World.grownBy.trans (b := w.drewN q) ⟨rfl, rfl, rfl, Nat.le_refl _, fun _ _ _ => rfl⟩ (grown_sets g _ 0 _)
theorem zero_strs (m : Nat) : (Builtin.zeroCells (Value.string ⟨#[]⟩).cells m).size = m := by simp [Builtin.zeroCells, Value.cells]
theorem ins_calls (xs : List ByteArray) (hx : xs.length ≤ 1048576) (A : Option Addr) (c base : Nat) (P_ : Nat → Prop) (w : World) (ho : Kd.R Kd.string 9 w base P_ (.slice A xs.length c) xs) (hbw : base ≤ w.heap.size) (hf : P_ w.heap.size)
    (vb vc : Nat) (key : ByteArray) (curv : Array Value) (hv : w.heap[vb]? = some (.cells curv 9 (0, 0))) (hv0 : curv[0]? = some (.string key)) (hne : some vb ≠ (Value.slice A xs.length c).ownBlock) :
    Calls Try.prog 109 #[.slice A xs.length c, .int .i64 (0 : Int), .slice (some ⟨vb, 0, none⟩) 1 vc] w fun e w' => ∃ v', e = .returned v' ∧ Kd.R Kd.string 9 w' base P_ v' (key :: xs) ∧ w.grownBy w' (Value.slice A xs.length c).ownBlock := by
  have hvs : ∀ j v, [Value.string key][j]? = some v → w.cell? ⟨vb, 0 + j, none⟩ = some v := fun j v hj => by
    rw [Nat.zero_add, blk_cell hv j]
    rcases j with _ | j
    · rw [hv0]; exact hj
    · simp at hj
  have h1v : ∀ v ∈ [Value.string key], v.oneCell' = true := fun v h => by rw [List.mem_singleton.1 h]; rfl
  have hcl : (xs.map Value.string).length = xs.length := by simp
  have h1c : ∀ v ∈ xs.map Value.string, v.oneCell' = true := fun v h => by obtain ⟨s, _, rfl⟩ := List.mem_map.1 h; rfl
  have hML : maxLen = 9223372036854775807 := rfl
  obtain ⟨_, hrow⟩ := row_block ho
  -- no room, at the end (no text stood there)
  have grow0 : xs.length = 0 → c = 0 → (∀ a, A = some a → ∀ j v, (xs.map Value.string)[j]? = some v → w.cell? (a.add j) = some v) →
      Calls Try.prog 109 #[.slice A xs.length c, .int .i64 (0 : Int), .slice (some ⟨vb, 0, none⟩) 1 vc] w fun e w' => ∃ v', e = .returned v' ∧ Kd.R Kd.string 9 w' base P_ v' (key :: xs) ∧ w.grownBy w' (Value.slice A xs.length c).ownBlock := by
    intro h0 hc0 hcs
    obtain rfl := List.eq_nil_of_length_eq_zero h0
    subst hc0
    refine (Any2.slices_Insert_string_end_grow layI A 0 0 vb 0 1 vc [] [.string key] w (by omega) (by omega) (by omega) (by omega) rfl rfl (fun _ => rfl) hcs hvs h1v).mono ?_
    rintro e w' ⟨rfl, rfl⟩
    simp only [show layI_ren.t 9 = 9 from rfl]
    have hG : 1 ≤ grownCap w 1 0 9 := grownCap_ge w 1 0 9
    have hGm : grownCap w 1 0 9 ≤ maxLen := grownCap_le_maxLen w 1 0 9 (by rw [hML]; omega)
    refine ⟨_, rfl, ?_, ?_⟩
    · refine block_row (cur := ([Value.string key]).toArray ++ Builtin.zeroCells (Value.string ⟨#[]⟩).cells (grownCap w (0 + 1) 0 9 - (0 + 1))) hf hbw ?_ rfl hG hGm ?_ ?_
      · exact heap_alloc_new w.drew _
      · rw [Array.size_append, zero_strs]; simp; omega
      · simp
    · exact World.grownBy.trans (b := w.drew) ⟨rfl, rfl, rfl, Nat.le_refl _, fun _ _ _ => rfl⟩ (World.grownBy_alloc w.drew _ _)
  rcases hrow with ⟨rfl, h0, hc0⟩ | ⟨g, cur, rfl, hk, hb, hc, hn, hm, hs, ht⟩
  · exact grow0 h0 hc0 (fun a h => by cases h)
  have hcs : ∀ j v, (xs.map Value.string)[j]? = some v → w.cell? ⟨g, 0 + j, none⟩ = some v := fun j v hj => by
    rw [Nat.zero_add, blk_cell hc j, ← Array.getElem?_toList]
    rw [← ht] at hj
    rw [List.getElem?_take] at hj
    split at hj
    · exact hj
    · cases hj
  have hvg : vb ≠ g := fun e => hne (by rw [e]; rfl)
  have hdrew : w.grownBy w.drew (some g) := ⟨rfl, rfl, rfl, Nat.le_refl _, fun _ _ _ => rfl⟩
  by_cases hroom : xs.length + 1 ≤ c
  · have hsp : ∀ j, j < xs.length + 1 → (w.cell? ⟨g, 0 + j, none⟩).isSome = true := fun j hj => by
      rw [Nat.zero_add, blk_cell hc j, Array.getElem?_eq_getElem (by omega)]; rfl
    have hfz : ∀ j, j < xs.length + 1 → w.frozen? ⟨g, 0 + j, none⟩ = false := fun j hj => by rw [Nat.zero_add]; exact blk_frozen hc j
    by_cases h0 : xs.length = 0
    · obtain rfl := List.eq_nil_of_length_eq_zero h0
      refine (Any2.slices_Insert_string_end_room layI g 0 0 c vb 0 1 vc [.string key] w (by omega) hroom (by rw [← hML]; exact hm) rfl (fun j hj => by have := hsp j (by simpa using hj); simpa using this) (fun j hj => by have := hfz j (by simpa using hj); simpa using this) hvs h1v).mono ?_
      rintro e w' ⟨rfl, rfl⟩
      obtain ⟨cur', h1, h2, h3⟩ := blk_sets g 9 [.string key] 0 w cur hc (by simp at hroom ⊢; omega)
      refine ⟨_, rfl, block_row hk hb h1 rfl (by simpa using hroom) hm (by omega) ?_, grown_sets g _ 0 _⟩
      rw [h3]; simp
    · have hsh : w.shape? vb = some (9, curv.size) := by simp [World.shape?, hv]
      have hsg : w.shape? g = some (9, cur.size) := by simp [World.shape?, hc]
      refine (Any2.slices_Insert_string_shift layI g 0 xs.length c 0 vb 0 1 vc (xs.map Value.string) [.string key] w (by omega) (by omega) hroom (by rw [← hML]; exact hm) hvg hcl rfl hcs hsp hfz hvs h1c h1v 9 9 curv.size cur.size hsh hsg (by omega) (blk_frozen hv 0) (blk_frozen hv curv.size)).mono ?_
      rintro e w' ⟨rfl, rfl⟩
      obtain ⟨cur1, h1, h2, h3⟩ := blk_sets g 9 ((xs.map Value.string).drop 0) (0 + (0 + 1)) w.drew cur (blk_drew hc) (by simp; omega)
      obtain ⟨cur2, k1, k2, k3⟩ := blk_sets g 9 [.string key] (0 + 0) _ cur1 h1 (by simp; omega)
      refine ⟨_, rfl, block_row hk hb k1 (by simp) hroom hm (by omega) ?_, World.grownBy.trans hdrew (World.grownBy.trans (grown_sets g _ _ _) (grown_sets g _ _ _))⟩
      rw [k3, h3]
      simp only [Nat.zero_add, List.take_zero, List.nil_append, List.drop_zero, List.length_singleton]
      rw [List.append_assoc, List.drop_left' (by simp; omega), List.singleton_append, List.take_succ_cons, List.take_left' hcl]
      rfl
  · by_cases h0 : xs.length = 0
    · exact grow0 h0 (by omega) (fun a e j v hj => by rw [List.eq_nil_of_length_eq_zero h0] at hj; simp at hj)
    · refine (Any2.slices_Insert_string_grow layI g 0 xs.length c 0 vb 0 1 vc (xs.map Value.string) [.string key] w (by omega) (by omega) hn (by omega) (by omega) hcl rfl hcs hvs h1c h1v).mono ?_
      rintro e w' ⟨rfl, rfl⟩
      simp only [show layI_ren.t 9 = 9 from rfl]
      have hG := grownCap_ge w (xs.length + 1) c 9
      have hGm := grownCap_le_maxLen w (xs.length + 1) c 9 (by rw [hML]; omega)
      have hn0 := heap_alloc_new w (.cells (((xs.map Value.string).take 0).toArray ++ Builtin.zeroCells (Value.string ⟨#[]⟩).cells (xs.length + 1 - 0) ++ Builtin.zeroCells (Value.string ⟨#[]⟩).cells (grownCap w (xs.length + 1) c 9 - (xs.length + 1))) 9)
      have hsz : (((xs.map Value.string).take 0).toArray ++ Builtin.zeroCells (Value.string ⟨#[]⟩).cells (xs.length + 1 - 0) ++ Builtin.zeroCells (Value.string ⟨#[]⟩).cells (grownCap w (xs.length + 1) c 9 - (xs.length + 1))).size = grownCap w (xs.length + 1) c 9 := by
        rw [Array.size_append, Array.size_append, zero_strs, zero_strs]; simp; omega
      obtain ⟨cur1, h1, h2, h3⟩ := blk_sets w.heap.size 9 [.string key] 0 _ _ (blk_drew hn0) (by rw [hsz]; simp; omega)
      obtain ⟨cur2, k1, k2, k3⟩ := blk_sets w.heap.size 9 ((xs.map Value.string).drop 0) (0 + 1) _ cur1 (blk_drew h1) (by rw [h2, hsz]; simp; omega)
      refine ⟨_, rfl, block_row hf hbw k1 (by simp) hG hGm (by omega) ?_, ?_⟩
      · rw [k3, h3]
        simp only [Nat.zero_add, List.take_zero, List.nil_append, List.drop_zero, List.length_singleton]
        simp only [List.singleton_append, List.take_succ_cons, List.take_zero, List.append_assoc, List.cons_append, List.nil_append]
        rw [List.take_left' hcl]
        rfl
      · have G1 := grown_drew (World.grownBy_alloc w (.cells (((xs.map Value.string).take 0).toArray ++ Builtin.zeroCells (Value.string ⟨#[]⟩).cells (xs.length + 1 - 0) ++ Builtin.zeroCells (Value.string ⟨#[]⟩).cells (grownCap w (xs.length + 1) c 9 - (xs.length + 1))) 9) none)
        have G2 := World.grownBy.andThen (grown_drew (World.grownBy.andThen G1 (grown_sets w.heap.size [.string key] 0 _) (fun j hj => .inl (by injection hj with hj; omega)))) (grown_sets w.heap.size ((xs.map Value.string).drop 0) (0 + 1) _) (fun j hj => .inl (by injection hj with hj; omega))
        exact ⟨G2.os, G2.tape, G2.output, G2.size, fun i hi _ => G2.block i hi (by simp)⟩
end
theorem w64 (i : Nat) (h : (i : Int) < 9223372036854775807) : wrap64 ((i : Int) + 1) = ((i + 1 : Nat) : Int) := by unfold wrap64; omega
theorem set_back (cs : Array Value) (i : Nat) (u : Value) (h : cs[i]? = some u) : cs.setIfInBounds i u = cs := by
  apply Array.ext_getElem?
  intro j
  rw [Array.getElem?_setIfInBounds]
  by_cases c : i = j
  · subst c
    have := (Array.getElem?_eq_some_iff.1 h).1
    rw [if_pos rfl, if_pos this, h]
  · rw [if_neg c]
theorem below_grown {w0 w w' : World} {base : Nat} {g : Nat} (h : Below base w0 w) (hg : w.grownBy w' (some g)) (hb : base ≤ g) (hs : base ≤ w.heap.size) : Below base w0 w' := by
  exact h.grown hg hs (fun j hj => by injection hj with hj; omega)
set_option maxHeartbeats 1600000 in
set_option maxRecDepth 100000 in
theorem drop_calls (k g o t : Nat) (cs : Array Value) (u : Value) (xs : List ByteArray) (key : ByteArray) (r : Int) (P_ : Nat → Prop) (w0 w : World) (hx : xs.length ≤ 1048576) (hi : slices_Index_string_string.f k xs key = some r) (hr : r < (xs.length : Int))
    (hB : Below w0.heap.size w0 w) (hb : w.heap[g]? = some (.cells cs t (0, 0))) (hu : cs[o + 1]? = some u) (hg : w0.heap.size ≤ g)
    (ho : Kd.R Kd.string 9 w w0.heap.size P_ u xs) (hP : ∀ k, P_ k → k ≠ g) :
    Calls Try.prog 63 #[.pointer (some ⟨g, o, none⟩), .string key] w fun e w' => e = .returned (.bool (decide (0 ≤ r))) ∧ ∃ u', Kd.R Kd.string 9 w' w0.heap.size P_ u' (if r < 0 then xs else xs.eraseIdx r.toNat) ∧
      w'.heap[g]? = some (.cells (cs.setIfInBounds (o + 1) u') t (0, 0)) ∧ Below w0.heap.size w0 w' ∧ Kept w w' (fun k => some k = u.ownBlock ∨ k = g) ∧ u'.ownBlock = u.ownBlock := by
  have HB := Aside0.mk hB
  have HO := Aside0.mk ho
  have HNE := Aside0.mk (show some g ≠ u.ownBlock from fun e => hP g (ho.1 g e.symm) rfl)
  have HP := Aside0.mk hP
  have HU := Aside0.mk hu
  have HX := Aside0.mk hx
  have HI := Aside0.mk hi
  have HR := Aside0.mk hr
  have HBK := Aside0.mk hb
  have HG := Aside0.mk hg
  obtain ⟨A, c, e⟩ := Kd.R_slice ho
  subst e
  clear hB ho hP hu hb hg hx hi hr
  have hc1 : w.cell? ⟨g, o + 1, none⟩ = some (.slice A xs.length c) := (blk_cell HBK.out (o + 1)).trans HU.out
  by_cases c0 : r < 0
  · have c0b : decide (r < 0) = true := decide_eq_true c0
    have c0c : decide (0 ≤ r) = false := decide_eq_false (by omega)
    go_enter Try.func63, Try.ntmps63
    go_wp2_with (first | ((with_reducible refine gate_callee (f := 75) rfl ?_); refine goesL_ (some 11) rfl rfl Try.func75 (by kernel_rfl) rfl #[.slice A xs.length c, .string key] rfl (by (try simp only [List.map_toArray, List.map_cons, List.map_nil]); first | done | rfl) ?_; (with_reducible refine (slices_Index_string_string.calls k A c xs key r _ ?side1 ?side2 HI.out).mono ?_); (case side1 => exact (Kd.R_reads' HO.out).2.2); (case side2 => exact (Kd.R_reads' HO.out).2.1); rintro e w2 ⟨rfl, ⟨nd, rfl⟩⟩; refine ⟨_, rfl, ?_⟩))
    go_ret
    refine ⟨rfl, .slice A xs.length c, Kd.R_drewN HO.out _, by rw [set_back _ _ _ HU.out]; exact blk_drewN HBK.out _, pw_below_drewN HB.out _, Kept.drewN (Kept.refl _ _) _, rfl⟩
  · obtain ⟨i, rfl⟩ := Int.eq_ofNat_of_zero_le (show 0 ≤ r by omega)
    have hil : i < xs.length := by have := HR.out; omega
    have c0b : decide ((i : Int) < 0) = false := decide_eq_false c0
    have c0c : decide (0 ≤ (i : Int)) = true := decide_eq_true (by omega)
    have hw : IntKind.i64.wrap ((i : Int) + 1) = (i : Int) + 1 := by
      have h1 := HX.out
      rw [i64_w]
      unfold wrap64; omega
    go_enter Try.func63, Try.ntmps63
    go_wp2_with (first | ((with_reducible refine gate_callee (f := 75) rfl ?_); refine goesL_ (some 11) rfl rfl Try.func75 (by kernel_rfl) rfl #[.slice A xs.length c, .string key] rfl (by (try simp only [List.map_toArray, List.map_cons, List.map_nil]); first | done | rfl) ?_; (with_reducible refine (slices_Index_string_string.calls k A c xs key (i : Int) _ ?side1 ?side2 HI.out).mono ?_); (case side1 => exact (Kd.R_reads' HO.out).2.2); (case side2 => exact (Kd.R_reads' HO.out).2.1); rintro e w2 ⟨rfl, ⟨nd, rfl⟩⟩; refine ⟨_, rfl, ?_⟩))
    refine (del_calls xs i hil A c w0.heap.size P_ _ (Kd.R_drewN HO.out nd)).mono ?_
    rintro e w3 ⟨rfl, ho3, hgr0⟩
    have hgr : w.grownBy w3 (Value.slice A xs.length c).ownBlock := World.grownBy.trans (b := w.drewN nd) ⟨rfl, rfl, rfl, Nat.le_refl _, fun _ _ _ => rfl⟩ hgr0
    have HO3 := Aside0.mk ho3
    have HB3 := Aside0.mk (HB.out.grown hgr HB.out.size (fun j hj => ((Kd.R_bound HO.out).1 j hj).2.1))
    have HK3 := Aside0.mk (Kept.of_grown hgr (Kept.refl w (fun k => some k = (Value.slice A xs.length c).ownBlock ∨ k = g)) (fun k e => .inl (.inl e.symm)))
    have hb3 := blk_grown HBK.out hgr HNE.out
    have HBK3 := Aside0.mk hb3
    have hc3 : w3.cell? ⟨g, o + 1, none⟩ = some (.slice A xs.length c) := (blk_cell hb3 (o + 1)).trans HU.out
    have hf3 := blk_frozen hb3 (o + 1)
    clear ho3 hgr0 hgr hb3
    go_wp2
    go_ret
    refine ⟨rfl, .slice A (xs.length - 1) c, ?_, ?_, below_set HB3.out HG.out, Kept.setCell HK3.out (.inl (.inr rfl)) _, by cases A <;> rfl⟩
    · exact Kd.R_far HO3.out (p := ⟨g, o + 1, none⟩) HP.out _
    · exact blk_set HBK3.out (o + 1) _
set_option maxHeartbeats 1600000 in
set_option maxRecDepth 100000 in
theorem touch_calls (k g o t : Nat) (cs : Array Value) (u : Value) (xs : List ByteArray) (key : ByteArray) (r : Int) (P_ : Nat → Prop) (w0 w : World) (hx : xs.length ≤ 1048576) (hi : slices_Index_string_string.f k xs key = some r) (hr : r < (xs.length : Int))
    (hB : Below w0.heap.size w0 w) (hb : w.heap[g]? = some (.cells cs t (0, 0))) (hu : cs[o + 1]? = some u) (hg : w0.heap.size ≤ g)
    (ho : Kd.R Kd.string 9 w w0.heap.size P_ u xs) (hP : ∀ k, P_ k → k ≠ g) (hf : ∀ n, w.heap.size ≤ n → P_ n) :
    Calls Try.prog 67 #[.pointer (some ⟨g, o, none⟩), .string key] w fun e w' => e = .returned (.bool (decide (0 ≤ r))) ∧ ∃ u', Kd.R Kd.string 9 w' w0.heap.size P_ u' (if r < 0 then xs else key :: xs.eraseIdx r.toNat) ∧
      w'.heap[g]? = some (.cells (cs.setIfInBounds (o + 1) u') t (0, 0)) ∧ Below w0.heap.size w0 w' ∧ Kept w w' (fun k => some k = u.ownBlock ∨ k = g) := by
  have HB := Aside0.mk hB
  have HO := Aside0.mk ho
  have HNE := Aside0.mk (show some g ≠ u.ownBlock from fun e => hP g (ho.1 g e.symm) rfl)
  have HP := Aside0.mk hP
  have HU := Aside0.mk hu
  have HX := Aside0.mk hx
  have HI := Aside0.mk hi
  have HR := Aside0.mk hr
  have HBK := Aside0.mk hb
  have HG := Aside0.mk hg
  have HF := Aside0.mk hf
  clear hB ho hP hu hb hg hx hi hr hf
  by_cases c0 : r < 0
  · have c0c : decide (0 ≤ r) = false := decide_eq_false (by omega)
    go_enter Try.func67, Try.ntmps67
    go_wp2_with (first | ((with_reducible refine gate_callee (f := 63) rfl ?_); refine goesL_ (some 7) rfl rfl Try.func63 (by kernel_rfl) rfl #[.pointer (some ⟨g, o, none⟩), .string key] rfl (by (try simp only [List.map_toArray, List.map_cons, List.map_nil]); first | done | rfl) ?_; (with_reducible refine (drop_calls k g o t cs u xs key r P_ w0 _ HX.out HI.out HR.out HB.out HBK.out HU.out HG.out HO.out HP.out).mono ?_); rw [c0c, if_pos c0]; rintro e w2 ⟨rfl, u', ho2, hb2, hB2, hk2, hob⟩; refine ⟨_, rfl, ?_⟩))
    go_ret
    exact ⟨rfl, u', ho2, hb2, hB2, hk2⟩
  · obtain ⟨i, rfl⟩ := Int.eq_ofNat_of_zero_le (show 0 ≤ r by omega)
    have c0c : decide (0 ≤ (i : Int)) = true := decide_eq_true (by omega)
    go_enter Try.func67, Try.ntmps67
    go_wp2_with (first | ((with_reducible refine gate_callee (f := 63) rfl ?_); refine goesL_ (some 7) rfl rfl Try.func63 (by kernel_rfl) rfl #[.pointer (some ⟨g, o, none⟩), .string key] rfl (by (try simp only [List.map_toArray, List.map_cons, List.map_nil]); first | done | rfl) ?_; (with_reducible refine (drop_calls k g o t cs u xs key (i : Int) P_ w0 _ HX.out HI.out HR.out HB.out HBK.out HU.out HG.out HO.out HP.out).mono ?_); rw [c0c, if_neg c0, Int.toNat_natCast]; rintro e w2 ⟨rfl, u', ho2, hb2, hB2, hk2, hob⟩; refine ⟨_, rfl, ?_⟩; have HO2 := Aside0.mk ho2; have HBK2 := Aside0.mk hb2; have HB2 := Aside0.mk hB2; have HK2 := Aside0.mk hk2; have hlt := (Array.getElem?_eq_some_iff.1 HU.out).1; have hc2 : w2.cell? ⟨g, o + 1, none⟩ = some u' := (blk_cell hb2 (o + 1)).trans (by simp [hlt]); have hf2 := blk_frozen hb2 (o + 1); have HOB := Aside0.mk hob; clear ho2 hb2 hB2 hk2 hob))
    obtain ⟨A1, c1, e1⟩ := Kd.R_slice HO2.out
    subst e1
    have hel : (xs.eraseIdx i).length ≤ 1048576 := Nat.le_trans (List.length_eraseIdx_le xs i) HX.out
    have hsz : w0.heap.size ≤ w2.heap.size := HB2.out.size
    have hal : (w2.alloc (Obj.cells #[Value.string key] 9)).heap.size = w2.heap.size + 1 := by show (w2.heap.push _).size = _; rw [Array.size_push]
    refine (ins_calls (xs.eraseIdx i) hel A1 c1 w0.heap.size P_ (w2.alloc (Obj.cells #[Value.string key] 9)) (Kd.R_alloc HO2.out _) (by rw [hal]; omega) (HF.out _ (by have := HK2.out.1; rw [hal]; omega)) w2.heap.size 1 key #[.string key] (heap_alloc_new w2 _) rfl (fun e => by have := ((Kd.R_bound HO2.out).1 _ e.symm).2.2.1; omega)).mono ?_
    rintro e w4 ⟨v', rfl, ho4, hgr0⟩
    obtain ⟨A4, c4, e4⟩ := Kd.R_slice ho4
    subst e4
    have hgr := World.grownBy.trans (World.grownBy_alloc w2 (Obj.cells #[Value.string key] 9) _) hgr0
    have HO4 := Aside0.mk ho4
    have HB4 := Aside0.mk (HB2.out.grown hgr hsz (fun j hj => ((Kd.R_bound HO2.out).1 j hj).2.1))
    have HK4 := Aside0.mk (Kept.then_ HK2.out (Kept.of_grown hgr (Kept.refl w2 (fun k => some k = u.ownBlock)) (fun k e => .inl (by rw [← HOB.out, e]))) (fun k e => .inl (.inl e)))
    have hb4 := blk_grown HBK2.out hgr (by rw [HOB.out]; exact HNE.out)
    have HBK4 := Aside0.mk hb4
    have hc4 : w4.cell? ⟨g, o + 1, none⟩ = some (.slice A1 (xs.eraseIdx i).length c1) := (blk_cell hb4 (o + 1)).trans (by simp [hlt])
    have hf4 := blk_frozen hb4 (o + 1)
    clear ho4 hgr0 hgr hb4
    go_wp2
    go_ret
    refine ⟨rfl, .slice A4 ((xs.eraseIdx i).length + 1) c4, ?_, ?_, below_set HB4.out HG.out, Kept.setCell HK4.out (.inl (.inr rfl)) _⟩
    · exact Kd.R_far HO4.out (p := ⟨g, o + 1, none⟩) HP.out _
    · have := blk_set HBK4.out (o + 1) (.slice A4 ((xs.eraseIdx i).length + 1) c4)
      rw [Array.setIfInBounds_setIfInBounds] at this
      exact this
def impl_Touch.f (k : Nat) (m : Int) (l : List ByteArray) (key : ByteArray) : Option (Int × List ByteArray × Bool) :=
  (impl_copyQueue.f m l).bind fun t => (impl_QueueOk.f k m l).bind fun ok => if ok = true then ((slices_Index_string_string.f k t.2 key).bind fun r => if t.2.length ≤ 1048576 ∧ r < (t.2.length : Int) then (if r < 0 then some (0, [], false) else some (t.1, key :: t.2.eraseIdx r.toNat, true)) else none) else some (0, [], false)
theorem impl_Touch.mono : ∀ a0 a1 a2 k, LeO (impl_Touch.f k a0 a1 a2) (impl_Touch.f (k + 1) a0 a1 a2) := by
  intro a0 a1 a2 k
  unfold impl_Touch.f
  repeat' first
      | (with_reducible exact impl_QueueOk.mono _ _ _)
      | (with_reducible exact slices_Index_string_string.mono _ _ _)
      | (with_reducible exact LeO.refl _)
      | (with_reducible refine LeO.ite ?_ ?_)
      | (with_reducible refine LeO.bind ?_ (fun _ => ?_))
set_option maxHeartbeats 1600000 in
set_option maxRecDepth 100000 in
theorem impl_Touch.calls (k : Nat) (a0_0 : Int) (A0_1 : Option Addr) (c0_1 : Nat) (l0_1 : List ByteArray) (key : ByteArray) (r1 : Int) (r2 : List ByteArray) (r3 : Bool) (w : World) (hr0_1 : Kd.C Kd.string w A0_1 l0_1.length l0_1) (hc0_1 : l0_1.length ≤ c0_1) (h : impl_Touch.f k a0_0 l0_1 key = some (r1, r2, r3)) :
    Calls Try.prog 21 #[.agg #[.int .i64 a0_0, .slice A0_1 l0_1.length c0_1], .string key] w fun e w' => ∃ v1_ : Value, e = .returned (.tuple #[.agg #[.int .i64 r1, v1_], .bool r3]) ∧ Kd.R Kd.string 9 w' w.heap.size (fun _ => True) v1_ r2 ∧ Below w.heap.size w w' := by
  have hu26 := Try.underlying26
  have HR := Aside0.mk hr0_1
  have HC := Aside0.mk hc0_1
  clear hr0_1 hc0_1
  have HB := Aside0.mk (Below.refl w.heap.size w)
  obtain ⟨⟨tn, tl⟩, e1, h⟩ := Option.bind_eq_some_iff.mp h
  obtain ⟨ok, e2, h⟩ := Option.bind_eq_some_iff.mp h
  have A1 := Aside0.mk e1
  have A2 := Aside0.mk e2
  clear e1 e2
  cases ok with
  | false =>
    rw [if_neg (by simp)] at h
    obtain ⟨rfl, h2⟩ := Prod.mk.inj (Option.some.inj h)
    obtain ⟨rfl, rfl⟩ := Prod.mk.inj h2
    clear h h2
    go_enter Try.func21, Try.ntmps21
    go_wp2_with (first | ((with_reducible refine gate_dst (N := 2) rfl ?_); refine box_event ?hg (N := 2) ?hd (cs := #[.int .i64 a0_0, .slice A0_1 l0_1.length c0_1]) (t := 26) ?hr ?_; (case hd => rfl); (case hg => rfl); (case hr => first | (go_simp; done) | (go_simp; rfl)); intro g2 hg w3 hbox hb; have B2 := Aside0.mk hbox; have G2 := Aside0.mk (show w.heap.size ≤ g2 by rw [hg]; exact below_size HB.out); have n1_ := Aside0.mk (below_step HB.out hb); clear HB hbox hb hg; have HB := n1_; clear n1_) | ((with_reducible refine gate_dst (N := 4) rfl ?_); refine box_event ?hg (N := 4) ?hd (cs := #[.int .i64 0, .slice none 0 0]) (t := 26) ?hr ?_; (case hd => rfl); (case hg => rfl); (case hr => first | (go_simp; done) | (go_simp; rfl)); intro g4 hg w4 hbox hb; have B4 := Aside0.mk hbox; have G4 := Aside0.mk (show w.heap.size ≤ g4 by rw [hg]; exact below_size HB.out); have n0_ := Aside0.mk (blk_below B2.out hb); have n1_ := Aside0.mk (below_step HB.out hb); clear HB B2 hbox hb hg; have B2 := n0_; have HB := n1_; clear n0_ n1_; have hcz0 : w4.cell? ⟨g2, 0, none⟩ = some (.int .i64 a0_0) := (blk_cell B2.out 0).trans rfl; have hcz1 : w4.cell? ⟨g2, 1, none⟩ = some (.slice A0_1 l0_1.length c0_1) := (blk_cell B2.out 1).trans rfl) | ((with_reducible refine gate_callee (f := 62) rfl ?_); refine goesL_ (some 8) rfl rfl Try.func62 (by kernel_rfl) rfl #[.agg #[.int .i64 a0_0, .slice A0_1 l0_1.length c0_1]] rfl (by (try simp only [List.map_toArray, List.map_cons, List.map_nil]); first | done | rfl) ?_; (with_reducible refine (impl_copyQueue.calls a0_0 _ _ l0_1 tn tl _ ?side1 ?side2 A1.out).mono ?_); (case side1 => exact Kd.C_below HR.out HB.out); (case side2 => exact HC.out); rintro e w7 ⟨v7, rfl, ho0, hb⟩; refine ⟨_, rfl, ?_⟩; have HO := Aside0.mk (Kd.R_lower ho0 (below_size HB.out)); have n0_ := Aside0.mk (blk_below B2.out hb); have n2_ := Aside0.mk (blk_below B4.out hb); have n1_ := Aside0.mk (below_step HB.out hb); clear HB B2 B4 hb ho0 hcz0 hcz1; have B2 := n0_; have B4 := n2_; have HB := n1_; clear n0_ n1_ n2_; obtain ⟨Ao, co, eo⟩ := Kd.R_slice HO.out; subst eo) | ((with_reducible refine gate_dst (N := 6) rfl ?_); refine box_event ?hg (N := 6) ?hd (cs := #[.int .i64 0, .slice none 0 0]) (t := 26) ?hr ?_; (case hd => rfl); (case hg => rfl); (case hr => first | (go_simp; done) | (go_simp; rfl)); intro g6 hg w8 hbox hb; have B6 := Aside0.mk hbox; have G6 := Aside0.mk (show w.heap.size ≤ g6 by rw [hg]; exact below_size HB.out); have N26 := Aside0.mk (show g2 ≠ g6 by rw [hg]; exact Nat.ne_of_lt (blk_lt B2.out)); have N46 := Aside0.mk (show g4 ≠ g6 by rw [hg]; exact Nat.ne_of_lt (blk_lt B4.out)); have n0_ := Aside0.mk (blk_below B2.out hb); have n2_ := Aside0.mk (blk_below B4.out hb); have n1_ := Aside0.mk (below_step HB.out hb); have n3_ := Aside0.mk (Kd.R_below HO.out hb); clear HB B2 B4 HO hbox hb hg; have B2 := n0_; have B4 := n2_; have HB := n1_; have HO := n3_; clear n0_ n1_ n2_ n3_; have hcz0 : w8.cell? ⟨g6, 0, none⟩ = some (.int .i64 0) := (blk_cell B6.out 0).trans rfl; have hcz1 : w8.cell? ⟨g6, 1, none⟩ = some (.slice none 0 0) := (blk_cell B6.out 1).trans rfl; have hfz0 := blk_frozen B6.out 0; have hfz1 := blk_frozen B6.out 1; have hnb := N26.out; have hcy0 : w8.cell? ⟨g2, 0, none⟩ = some (.int .i64 a0_0) := (blk_cell B2.out 0).trans rfl; have hcy1 : w8.cell? ⟨g2, 1, none⟩ = some (.slice A0_1 l0_1.length c0_1) := (blk_cell B2.out 1).trans rfl) | ((with_reducible refine gate_callee (f := 28) rfl ?_); refine goesL_ (some 10) rfl rfl Try.func28 (by kernel_rfl) rfl #[.agg #[.int .i64 a0_0, .slice A0_1 l0_1.length c0_1]] rfl (by (try simp only [List.map_toArray, List.map_cons, List.map_nil]); first | done | rfl) ?_; (with_reducible refine (impl_QueueOk.calls k a0_0 _ _ l0_1 false _ ?side1 ?side2 A2.out).mono ?_); (case side1 => exact Kd.C_below HR.out (below_set (below_set HB.out G6.out) G6.out)); (case side2 => exact HC.out); rintro e w9 ⟨rfl, hb⟩; refine ⟨_, rfl, ?_⟩; have n0_ := Aside0.mk (blk_below (blk_far (blk_far B4.out (p := ⟨g6, 0, none⟩) N46.out _) (p := ⟨g6, 1, none⟩) N46.out _) hb); have n2_ := Aside0.mk (blk_below (blk_put (cs' := #[.int .i64 tn, .slice Ao tl.length co]) (blk_put (cs' := #[.int .i64 tn, .slice none 0 0]) B6.out 0 (.int .i64 tn) rfl) 1 (.slice Ao tl.length co) rfl) hb); have n1_ := Aside0.mk (below_step (below_set (below_set HB.out G6.out) G6.out) hb); have n3_ := Aside0.mk (Kd.R_below (Kd.R_far (p := ⟨g6, 1, none⟩) (Kd.R_far (p := ⟨g6, 0, none⟩) (Kd.R_types (Kd.R_types HO.out B6.out (by decide)) B4.out (by decide)) (fun _ hk => hk.1.2) (.int .i64 tn)) (fun _ hk => hk.1.2) (.slice Ao tl.length co)) hb); clear HB B2 B4 B6 HO hb hcz0 hcz1 hcy0 hcy1 hfz0 hfz1 hnb; have B4 := n0_; have B6 := n2_; have HB := n1_; have HO := n3_; clear n0_ n1_ n2_ n3_; have hcz0 : w9.cell? ⟨g6, 0, none⟩ = some (.int .i64 tn) := (blk_cell B6.out 0).trans rfl; have hcz1 : w9.cell? ⟨g6, 1, none⟩ = some (.slice Ao tl.length co) := (blk_cell B6.out 1).trans rfl; have hfw0 := blk_frozen B4.out 0; have hfw1 := blk_frozen B4.out 1; have hcw0 : w9.cell? ⟨g4, 0, none⟩ = some (.int .i64 0) := (blk_cell B4.out 0).trans rfl; have hcw1 : w9.cell? ⟨g4, 1, none⟩ = some (.slice none 0 0) := (blk_cell B4.out 1).trans rfl))
    refine bodyPost_ret (results_ct rfl _ _ g4 26 #[.int .i64 0, .slice none 0 0] (0, 0) _ rfl (by refine blk_put (cs := #[.int .i64 0, .slice none 0 0]) ?_ 1 _ rfl; refine blk_put (cs := #[.int .i64 0, .slice none 0 0]) ?_ 0 _ rfl; exact B4.out) Try.underlying26 rfl (by kernel_rfl)) rfl ?_
    exact ⟨_, rfl, Kd.R_nil _ _ _ _ _, below_set (below_set HB.out G4.out) G4.out⟩
  | true =>
    rw [if_pos rfl] at h
    obtain ⟨r, e3, h⟩ := Option.bind_eq_some_iff.mp h
    by_cases hs : tl.length ≤ 1048576 ∧ r < (tl.length : Int)
    case neg => rw [if_neg hs] at h; cases h
    rw [if_pos hs] at h
    have A3 := Aside0.mk e3
    have HX := Aside0.mk hs.1
    have HR3 := Aside0.mk hs.2
    clear e3 hs
    by_cases c0 : r < 0
    · rw [if_pos c0] at h
      obtain ⟨rfl, h2⟩ := Prod.mk.inj (Option.some.inj h)
      obtain ⟨rfl, rfl⟩ := Prod.mk.inj h2
      clear h h2
      have c0c : decide (0 ≤ r) = false := decide_eq_false (by omega)
      have C0 := Aside0.mk c0
      have C0c := Aside0.mk c0c
      clear c0 c0c
      go_enter Try.func21, Try.ntmps21
      go_wp2_with (first | ((with_reducible refine gate_dst (N := 2) rfl ?_); refine box_event ?hg (N := 2) ?hd (cs := #[.int .i64 a0_0, .slice A0_1 l0_1.length c0_1]) (t := 26) ?hr ?_; (case hd => rfl); (case hg => rfl); (case hr => first | (go_simp; done) | (go_simp; rfl)); intro g2 hg w3 hbox hb; have B2 := Aside0.mk hbox; have G2 := Aside0.mk (show w.heap.size ≤ g2 by rw [hg]; exact below_size HB.out); have n1_ := Aside0.mk (below_step HB.out hb); clear HB hbox hb hg; have HB := n1_; clear n1_) | ((with_reducible refine gate_dst (N := 4) rfl ?_); refine box_event ?hg (N := 4) ?hd (cs := #[.int .i64 0, .slice none 0 0]) (t := 26) ?hr ?_; (case hd => rfl); (case hg => rfl); (case hr => first | (go_simp; done) | (go_simp; rfl)); intro g4 hg w4 hbox hb; have B4 := Aside0.mk hbox; have G4 := Aside0.mk (show w.heap.size ≤ g4 by rw [hg]; exact below_size HB.out); have n0_ := Aside0.mk (blk_below B2.out hb); have n1_ := Aside0.mk (below_step HB.out hb); clear HB B2 hbox hb hg; have B2 := n0_; have HB := n1_; clear n0_ n1_; have hcz0 : w4.cell? ⟨g2, 0, none⟩ = some (.int .i64 a0_0) := (blk_cell B2.out 0).trans rfl; have hcz1 : w4.cell? ⟨g2, 1, none⟩ = some (.slice A0_1 l0_1.length c0_1) := (blk_cell B2.out 1).trans rfl) | ((with_reducible refine gate_callee (f := 62) rfl ?_); refine goesL_ (some 8) rfl rfl Try.func62 (by kernel_rfl) rfl #[.agg #[.int .i64 a0_0, .slice A0_1 l0_1.length c0_1]] rfl (by (try simp only [List.map_toArray, List.map_cons, List.map_nil]); first | done | rfl) ?_; (with_reducible refine (impl_copyQueue.calls a0_0 _ _ l0_1 tn tl _ ?side1 ?side2 A1.out).mono ?_); (case side1 => exact Kd.C_below HR.out HB.out); (case side2 => exact HC.out); rintro e w7 ⟨v7, rfl, ho0, hb⟩; refine ⟨_, rfl, ?_⟩; have HO := Aside0.mk (Kd.R_lower ho0 (below_size HB.out)); have n0_ := Aside0.mk (blk_below B2.out hb); have n2_ := Aside0.mk (blk_below B4.out hb); have n1_ := Aside0.mk (below_step HB.out hb); clear HB B2 B4 hb ho0 hcz0 hcz1; have B2 := n0_; have B4 := n2_; have HB := n1_; clear n0_ n1_ n2_; obtain ⟨Ao, co, eo⟩ := Kd.R_slice HO.out; subst eo) | ((with_reducible refine gate_dst (N := 6) rfl ?_); refine box_event ?hg (N := 6) ?hd (cs := #[.int .i64 0, .slice none 0 0]) (t := 26) ?hr ?_; (case hd => rfl); (case hg => rfl); (case hr => first | (go_simp; done) | (go_simp; rfl)); intro g6 hg w8 hbox hb; have B6 := Aside0.mk hbox; have G6 := Aside0.mk (show w.heap.size ≤ g6 by rw [hg]; exact below_size HB.out); have N26 := Aside0.mk (show g2 ≠ g6 by rw [hg]; exact Nat.ne_of_lt (blk_lt B2.out)); have N46 := Aside0.mk (show g4 ≠ g6 by rw [hg]; exact Nat.ne_of_lt (blk_lt B4.out)); have n0_ := Aside0.mk (blk_below B2.out hb); have n2_ := Aside0.mk (blk_below B4.out hb); have n1_ := Aside0.mk (below_step HB.out hb); have n3_ := Aside0.mk (Kd.R_below HO.out hb); clear HB B2 B4 HO hbox hb hg; have B2 := n0_; have B4 := n2_; have HB := n1_; have HO := n3_; clear n0_ n1_ n2_ n3_; have hcz0 : w8.cell? ⟨g6, 0, none⟩ = some (.int .i64 0) := (blk_cell B6.out 0).trans rfl; have hcz1 : w8.cell? ⟨g6, 1, none⟩ = some (.slice none 0 0) := (blk_cell B6.out 1).trans rfl; have hfz0 := blk_frozen B6.out 0; have hfz1 := blk_frozen B6.out 1; have hnb := N26.out; have hcy0 : w8.cell? ⟨g2, 0, none⟩ = some (.int .i64 a0_0) := (blk_cell B2.out 0).trans rfl; have hcy1 : w8.cell? ⟨g2, 1, none⟩ = some (.slice A0_1 l0_1.length c0_1) := (blk_cell B2.out 1).trans rfl) | ((with_reducible refine gate_callee (f := 28) rfl ?_); refine goesL_ (some 10) rfl rfl Try.func28 (by kernel_rfl) rfl #[.agg #[.int .i64 a0_0, .slice A0_1 l0_1.length c0_1]] rfl (by (try simp only [List.map_toArray, List.map_cons, List.map_nil]); first | done | rfl) ?_; (with_reducible refine (impl_QueueOk.calls k a0_0 _ _ l0_1 true _ ?side1 ?side2 A2.out).mono ?_); (case side1 => exact Kd.C_below HR.out (below_set (below_set HB.out G6.out) G6.out)); (case side2 => exact HC.out); rintro e w9 ⟨rfl, hb⟩; refine ⟨_, rfl, ?_⟩; have n0_ := Aside0.mk (blk_below (blk_far (blk_far B4.out (p := ⟨g6, 0, none⟩) N46.out _) (p := ⟨g6, 1, none⟩) N46.out _) hb); have n2_ := Aside0.mk (blk_below (blk_put (cs' := #[.int .i64 tn, .slice Ao tl.length co]) (blk_put (cs' := #[.int .i64 tn, .slice none 0 0]) B6.out 0 (.int .i64 tn) rfl) 1 (.slice Ao tl.length co) rfl) hb); have n1_ := Aside0.mk (below_step (below_set (below_set HB.out G6.out) G6.out) hb); have n3_ := Aside0.mk (Kd.R_below (Kd.R_far (p := ⟨g6, 1, none⟩) (Kd.R_far (p := ⟨g6, 0, none⟩) (Kd.R_types (Kd.R_types HO.out B6.out (by decide)) B4.out (by decide)) (fun _ hk => hk.1.2) (.int .i64 tn)) (fun _ hk => hk.1.2) (.slice Ao tl.length co)) hb); clear HB B2 B4 B6 HO hb hcz0 hcz1 hcy0 hcy1 hfz0 hfz1 hnb; have B4 := n0_; have B6 := n2_; have HB := n1_; have HO := n3_; clear n0_ n1_ n2_ n3_; have hcz0 : w9.cell? ⟨g6, 0, none⟩ = some (.int .i64 tn) := (blk_cell B6.out 0).trans rfl; have hcz1 : w9.cell? ⟨g6, 1, none⟩ = some (.slice Ao tl.length co) := (blk_cell B6.out 1).trans rfl; have hfw0 := blk_frozen B4.out 0; have hfw1 := blk_frozen B4.out 1; have hcw0 : w9.cell? ⟨g4, 0, none⟩ = some (.int .i64 0) := (blk_cell B4.out 0).trans rfl; have hcw1 : w9.cell? ⟨g4, 1, none⟩ = some (.slice none 0 0) := (blk_cell B4.out 1).trans rfl) | ((with_reducible refine gate_callee (f := 67) rfl ?_); (try (refine gate_guard (by rfl) ?_; dsimp only)); refine goesL_ (some 14) rfl rfl Try.func67 (by kernel_rfl) rfl #[.pointer (some ⟨g6, 0, none⟩), .string key] rfl (by (try simp only [List.map_toArray, List.map_cons, List.map_nil]); first | done | rfl) ?_; (with_reducible refine Calls.mono (touch_calls k g6 0 26 #[.int .i64 tn, .slice Ao tl.length co] (.slice Ao tl.length co) tl key r (fun k => (True ∧ k ≠ g6) ∧ k ≠ g4) w _ HX.out A3.out HR3.out HB.out B6.out rfl G6.out HO.out (fun _ hk => hk.1.2) (fun n hn => ⟨⟨trivial, by have := blk_lt B6.out; omega⟩, by have := blk_lt B4.out; omega⟩)) ?_); rw [C0c.out, if_pos C0.out]; rintro e w10 ⟨rfl, u', ho0, hb6, hb, hkp⟩; refine ⟨_, rfl, ?_⟩; have N4 := Aside0.mk (show ¬ (some g4 = (Value.slice Ao tl.length co).ownBlock ∨ g4 = g6) from by rintro (e | e) <;> first | exact Kd.R_ne HO.out B4.out (by decide) e | exact N46.out e); have n0_ := Aside0.mk (blk_kept B4.out hkp N4.out); have n1_ := Aside0.mk hb; have n2_ := Aside0.mk hb6; have n3_ := Aside0.mk ho0; clear HB B4 B6 HO hb hb6 hkp ho0 hcz0 hcz1 hfw0 hfw1 hcw0 hcw1; have B4 := n0_; have B6 := n2_; have HB := n1_; have HO := n3_; clear n0_ n1_ n2_ n3_; obtain ⟨Ap, cp, ep⟩ := Kd.R_slice HO.out; subst ep; have hcz0 : w10.cell? ⟨g6, 0, none⟩ = some (.int .i64 tn) := (blk_cell B6.out 0).trans rfl; have hcz1 : w10.cell? ⟨g6, 1, none⟩ = some (.slice Ap _ cp) := (blk_cell B6.out 1).trans rfl; have hfw0 := blk_frozen B4.out 0; have hfw1 := blk_frozen B4.out 1; have hcw0 : w10.cell? ⟨g4, 0, none⟩ = some (.int .i64 0) := (blk_cell B4.out 0).trans rfl; have hcw1 : w10.cell? ⟨g4, 1, none⟩ = some (.slice none 0 0) := (blk_cell B4.out 1).trans rfl))
      refine bodyPost_ret (results_ct rfl _ _ g4 26 #[.int .i64 0, .slice none 0 0] (0, 0) _ rfl (by refine blk_put (cs := #[.int .i64 0, .slice none 0 0]) ?_ 1 _ rfl; refine blk_put (cs := #[.int .i64 0, .slice none 0 0]) ?_ 0 _ rfl; exact B4.out) Try.underlying26 rfl (by kernel_rfl)) rfl ?_
      exact ⟨_, rfl, Kd.R_nil _ _ _ _ _, below_set (below_set HB.out G4.out) G4.out⟩
    · rw [if_neg c0] at h
      obtain ⟨rfl, h2⟩ := Prod.mk.inj (Option.some.inj h)
      obtain ⟨rfl, rfl⟩ := Prod.mk.inj h2
      clear h h2
      have c0c : decide (0 ≤ r) = true := decide_eq_true (by omega)
      have C0 := Aside0.mk c0
      have C0c := Aside0.mk c0c
      clear c0 c0c
      go_enter Try.func21, Try.ntmps21
      go_wp2_with (first | ((with_reducible refine gate_dst (N := 2) rfl ?_); refine box_event ?hg (N := 2) ?hd (cs := #[.int .i64 a0_0, .slice A0_1 l0_1.length c0_1]) (t := 26) ?hr ?_; (case hd => rfl); (case hg => rfl); (case hr => first | (go_simp; done) | (go_simp; rfl)); intro g2 hg w3 hbox hb; have B2 := Aside0.mk hbox; have G2 := Aside0.mk (show w.heap.size ≤ g2 by rw [hg]; exact below_size HB.out); have n1_ := Aside0.mk (below_step HB.out hb); clear HB hbox hb hg; have HB := n1_; clear n1_) | ((with_reducible refine gate_dst (N := 4) rfl ?_); refine box_event ?hg (N := 4) ?hd (cs := #[.int .i64 0, .slice none 0 0]) (t := 26) ?hr ?_; (case hd => rfl); (case hg => rfl); (case hr => first | (go_simp; done) | (go_simp; rfl)); intro g4 hg w4 hbox hb; have B4 := Aside0.mk hbox; have G4 := Aside0.mk (show w.heap.size ≤ g4 by rw [hg]; exact below_size HB.out); have n0_ := Aside0.mk (blk_below B2.out hb); have n1_ := Aside0.mk (below_step HB.out hb); clear HB B2 hbox hb hg; have B2 := n0_; have HB := n1_; clear n0_ n1_; have hcz0 : w4.cell? ⟨g2, 0, none⟩ = some (.int .i64 a0_0) := (blk_cell B2.out 0).trans rfl; have hcz1 : w4.cell? ⟨g2, 1, none⟩ = some (.slice A0_1 l0_1.length c0_1) := (blk_cell B2.out 1).trans rfl) | ((with_reducible refine gate_callee (f := 62) rfl ?_); refine goesL_ (some 8) rfl rfl Try.func62 (by kernel_rfl) rfl #[.agg #[.int .i64 a0_0, .slice A0_1 l0_1.length c0_1]] rfl (by (try simp only [List.map_toArray, List.map_cons, List.map_nil]); first | done | rfl) ?_; (with_reducible refine (impl_copyQueue.calls a0_0 _ _ l0_1 tn tl _ ?side1 ?side2 A1.out).mono ?_); (case side1 => exact Kd.C_below HR.out HB.out); (case side2 => exact HC.out); rintro e w7 ⟨v7, rfl, ho0, hb⟩; refine ⟨_, rfl, ?_⟩; have HO := Aside0.mk (Kd.R_lower ho0 (below_size HB.out)); have n0_ := Aside0.mk (blk_below B2.out hb); have n2_ := Aside0.mk (blk_below B4.out hb); have n1_ := Aside0.mk (below_step HB.out hb); clear HB B2 B4 hb ho0 hcz0 hcz1; have B2 := n0_; have B4 := n2_; have HB := n1_; clear n0_ n1_ n2_; obtain ⟨Ao, co, eo⟩ := Kd.R_slice HO.out; subst eo) | ((with_reducible refine gate_dst (N := 6) rfl ?_); refine box_event ?hg (N := 6) ?hd (cs := #[.int .i64 0, .slice none 0 0]) (t := 26) ?hr ?_; (case hd => rfl); (case hg => rfl); (case hr => first | (go_simp; done) | (go_simp; rfl)); intro g6 hg w8 hbox hb; have B6 := Aside0.mk hbox; have G6 := Aside0.mk (show w.heap.size ≤ g6 by rw [hg]; exact below_size HB.out); have N26 := Aside0.mk (show g2 ≠ g6 by rw [hg]; exact Nat.ne_of_lt (blk_lt B2.out)); have N46 := Aside0.mk (show g4 ≠ g6 by rw [hg]; exact Nat.ne_of_lt (blk_lt B4.out)); have n0_ := Aside0.mk (blk_below B2.out hb); have n2_ := Aside0.mk (blk_below B4.out hb); have n1_ := Aside0.mk (below_step HB.out hb); have n3_ := Aside0.mk (Kd.R_below HO.out hb); clear HB B2 B4 HO hbox hb hg; have B2 := n0_; have B4 := n2_; have HB := n1_; have HO := n3_; clear n0_ n1_ n2_ n3_; have hcz0 : w8.cell? ⟨g6, 0, none⟩ = some (.int .i64 0) := (blk_cell B6.out 0).trans rfl; have hcz1 : w8.cell? ⟨g6, 1, none⟩ = some (.slice none 0 0) := (blk_cell B6.out 1).trans rfl; have hfz0 := blk_frozen B6.out 0; have hfz1 := blk_frozen B6.out 1; have hnb := N26.out; have hcy0 : w8.cell? ⟨g2, 0, none⟩ = some (.int .i64 a0_0) := (blk_cell B2.out 0).trans rfl; have hcy1 : w8.cell? ⟨g2, 1, none⟩ = some (.slice A0_1 l0_1.length c0_1) := (blk_cell B2.out 1).trans rfl) | ((with_reducible refine gate_callee (f := 28) rfl ?_); refine goesL_ (some 10) rfl rfl Try.func28 (by kernel_rfl) rfl #[.agg #[.int .i64 a0_0, .slice A0_1 l0_1.length c0_1]] rfl (by (try simp only [List.map_toArray, List.map_cons, List.map_nil]); first | done | rfl) ?_; (with_reducible refine (impl_QueueOk.calls k a0_0 _ _ l0_1 true _ ?side1 ?side2 A2.out).mono ?_); (case side1 => exact Kd.C_below HR.out (below_set (below_set HB.out G6.out) G6.out)); (case side2 => exact HC.out); rintro e w9 ⟨rfl, hb⟩; refine ⟨_, rfl, ?_⟩; have n0_ := Aside0.mk (blk_below (blk_far (blk_far B4.out (p := ⟨g6, 0, none⟩) N46.out _) (p := ⟨g6, 1, none⟩) N46.out _) hb); have n2_ := Aside0.mk (blk_below (blk_put (cs' := #[.int .i64 tn, .slice Ao tl.length co]) (blk_put (cs' := #[.int .i64 tn, .slice none 0 0]) B6.out 0 (.int .i64 tn) rfl) 1 (.slice Ao tl.length co) rfl) hb); have n1_ := Aside0.mk (below_step (below_set (below_set HB.out G6.out) G6.out) hb); have n3_ := Aside0.mk (Kd.R_below (Kd.R_far (p := ⟨g6, 1, none⟩) (Kd.R_far (p := ⟨g6, 0, none⟩) (Kd.R_types (Kd.R_types HO.out B6.out (by decide)) B4.out (by decide)) (fun _ hk => hk.1.2) (.int .i64 tn)) (fun _ hk => hk.1.2) (.slice Ao tl.length co)) hb); clear HB B2 B4 B6 HO hb hcz0 hcz1 hcy0 hcy1 hfz0 hfz1 hnb; have B4 := n0_; have B6 := n2_; have HB := n1_; have HO := n3_; clear n0_ n1_ n2_ n3_; have hcz0 : w9.cell? ⟨g6, 0, none⟩ = some (.int .i64 tn) := (blk_cell B6.out 0).trans rfl; have hcz1 : w9.cell? ⟨g6, 1, none⟩ = some (.slice Ao tl.length co) := (blk_cell B6.out 1).trans rfl; have hfw0 := blk_frozen B4.out 0; have hfw1 := blk_frozen B4.out 1; have hcw0 : w9.cell? ⟨g4, 0, none⟩ = some (.int .i64 0) := (blk_cell B4.out 0).trans rfl; have hcw1 : w9.cell? ⟨g4, 1, none⟩ = some (.slice none 0 0) := (blk_cell B4.out 1).trans rfl) | ((with_reducible refine gate_callee (f := 67) rfl ?_); (try (refine gate_guard (by rfl) ?_; dsimp only)); refine goesL_ (some 14) rfl rfl Try.func67 (by kernel_rfl) rfl #[.pointer (some ⟨g6, 0, none⟩), .string key] rfl (by (try simp only [List.map_toArray, List.map_cons, List.map_nil]); first | done | rfl) ?_; (with_reducible refine Calls.mono (touch_calls k g6 0 26 #[.int .i64 tn, .slice Ao tl.length co] (.slice Ao tl.length co) tl key r (fun k => (True ∧ k ≠ g6) ∧ k ≠ g4) w _ HX.out A3.out HR3.out HB.out B6.out rfl G6.out HO.out (fun _ hk => hk.1.2) (fun n hn => ⟨⟨trivial, by have := blk_lt B6.out; omega⟩, by have := blk_lt B4.out; omega⟩)) ?_); rw [C0c.out, if_neg C0.out]; rintro e w10 ⟨rfl, u', ho0, hb6, hb, hkp⟩; refine ⟨_, rfl, ?_⟩; have N4 := Aside0.mk (show ¬ (some g4 = (Value.slice Ao tl.length co).ownBlock ∨ g4 = g6) from by rintro (e | e) <;> first | exact Kd.R_ne HO.out B4.out (by decide) e | exact N46.out e); have n0_ := Aside0.mk (blk_kept B4.out hkp N4.out); have n1_ := Aside0.mk hb; have n2_ := Aside0.mk hb6; have n3_ := Aside0.mk ho0; clear HB B4 B6 HO hb hb6 hkp ho0 hcz0 hcz1 hfw0 hfw1 hcw0 hcw1; have B4 := n0_; have B6 := n2_; have HB := n1_; have HO := n3_; clear n0_ n1_ n2_ n3_; obtain ⟨Ap, cp, ep⟩ := Kd.R_slice HO.out; subst ep; have hcz0 : w10.cell? ⟨g6, 0, none⟩ = some (.int .i64 tn) := (blk_cell B6.out 0).trans rfl; have hcz1 : w10.cell? ⟨g6, 1, none⟩ = some (.slice Ap _ cp) := (blk_cell B6.out 1).trans rfl; have hfw0 := blk_frozen B4.out 0; have hfw1 := blk_frozen B4.out 1; have hcw0 : w10.cell? ⟨g4, 0, none⟩ = some (.int .i64 0) := (blk_cell B4.out 0).trans rfl; have hcw1 : w10.cell? ⟨g4, 1, none⟩ = some (.slice none 0 0) := (blk_cell B4.out 1).trans rfl))
      refine bodyPost_ret (results_ct rfl _ _ g4 26 #[.int .i64 tn, .slice Ap _ cp] (0, 0) _ rfl (by refine blk_put (cs := #[.int .i64 tn, .slice none 0 0]) ?_ 1 _ rfl; refine blk_put (cs := #[.int .i64 0, .slice none 0 0]) ?_ 0 _ rfl; exact B4.out) Try.underlying26 rfl (by kernel_rfl)) rfl ?_
      exact ⟨_, rfl, Kd.R_mono (Kd.R_far (p := ⟨g4, 1, none⟩) (Kd.R_far (p := ⟨g4, 0, none⟩) HO.out (fun _ hk => hk.2) _) (fun _ hk => hk.2) _) (fun _ _ => trivial), below_set (below_set HB.out G4.out) G4.out⟩

end Go.Proofs.Ytjiekmbonmbhlaa.GFnExactTouch
