/- Walks of the functions that the law reaches: by programs of this session, over a tool's print. -/
import Derived.Test.YtjiekmbonmbhlaaGFnLiftsx0
import Derived.Test.YtjiekmbonmbhlaaGFnLiftsx2
import Derived.Test.YtjiekmbonmbhlaaGFnLiftsx3
import Derived.Test.YtjiekmbonmbhlaaGFnLiftsx4
import Derived.Test.YtjiekmbonmbhlaaGFnLiftsx5
import Derived.Test.YtjiekmbonmbhlaaGFnLiftsx6
import Derived.Test.YtjiekmbonmbhlaaGFnLiftsx8
namespace Go.Proofs.Ytjiekmbonmbhlaa.GFnLifts
open Go.RowKit Go.Proofs.YtjiekmbonmbhlaaW.PrintWords Go.Proofs.YtjiekmbonmbhlaaW.PrintLast Go.Proofs.YtjiekmbonmbhlaaW.PrintMore
attribute [local go_sem] max2_int min2_int max_two min_two max_three min_three max_four min_four   -- for this text's walks alone
set_option linter.unusedVariables false
set_option linter.unusedSimpArgs false

/-! ### spec_DrawRightArena: function 50 -/
def spec_DrawRightArena.f (k : Nat) (l0 : List Int) : Option ((List (S81)) × Int × ByteArray × ByteArray) := (spec_l01New.f k l0).bind fun bt269 => ((spec_l03Arena.f k bt269.1 bt269.2.1 bt269.2.2).bind fun bt273 => ((spec_l03Key.f bt269.1 bt273.2.2.1 bt273.2.2.2).bind fun bt279 => ((spec_l03Val.f bt269.1 bt279.2.1 bt279.2.2).bind fun bt282 => (some (bt273.1, bt273.2.1, bt279.1, bt282.1)))))
theorem spec_DrawRightArena.mono : ∀ a0 k, LeO (spec_DrawRightArena.f k a0) (spec_DrawRightArena.f (k + 1) a0) := by
  intro a0 k
  unfold spec_DrawRightArena.f
  repeat' first
     |(with_reducible exact spec_l01New.mono _ _)
     |(with_reducible exact spec_l03Arena.mono _ _ _ _)
     |(with_reducible exact LeO.refl _)
     |(with_reducible exact LeO.none _)
     |(with_reducible refine LeO.ite ?_ ?_)
     |(with_reducible refine LeO.bind ?_ (fun _ => ?_))
     |exact spec_l01New.mono _ _
     |exact spec_l03Arena.mono _ _ _ _
     |exact LeO.none _
     |refine LeO.ite ?_ ?_
     |refine LeO.bind ?_ (fun _ => ?_)
set_option maxHeartbeats 8000000 in
set_option maxRecDepth 100000 in
theorem spec_DrawRightArena.calls (k : Nat) (A0 : Option Addr) (c0 : Nat) (l0 : List Int) (r1 : List (S81)) (r2 : Int) (r3 : ByteArray) (r4 : ByteArray) (w : World) (hr0 : Kd.C (Kd.int .u8) w A0 l0.length l0) (hc0 : l0.length ≤ c0) (h : spec_DrawRightArena.f k l0 = some (r1, r2, r3, r4)) :
    Calls Try.prog 50 #[.slice A0 l0.length c0] w fun e w' => ∃ v0_ : Value, e = .returned (.tuple #[.agg #[v0_, .int .i64 r2], .string r3, .string r4]) ∧ Kd.R k81 81 w' w.heap.size (fun _ => True) v0_ r1 ∧ Below w.heap.size w w' := by
  have hu65 := Try.underlying65
  have HR0 := Aside0.mk hr0
  have HC0 := Aside0.mk hc0
  clear hr0 hc0
  have HB := Aside0.mk (Below.refl w.heap.size w)
  have H : ((spec_l01New.f k l0).bind fun bt269 => ((spec_l03Arena.f k bt269.1 bt269.2.1 bt269.2.2).bind fun bt273 => ((spec_l03Key.f bt269.1 bt273.2.2.1 bt273.2.2.2).bind fun bt279 => ((spec_l03Val.f bt269.1 bt279.2.1 bt279.2.2).bind fun bt282 => (some (bt273.1, bt273.2.1, bt279.1, bt282.1)))))) = some (r1, r2, r3, r4) := h
  clear h
  replace H := Option.bind_eq_some_iff.mp H
  obtain ⟨⟨t269, t270, t271⟩, A20, H⟩ := H
  replace H : ((spec_l03Arena.f k t269 t270 t271).bind fun bt273 => ((spec_l03Key.f t269 bt273.2.2.1 bt273.2.2.2).bind fun bt279 => ((spec_l03Val.f t269 bt279.2.1 bt279.2.2).bind fun bt282 => (some (bt273.1, bt273.2.1, bt279.1, bt282.1))))) = some (r1, r2, r3, r4) := H
  have A2 := Aside0.mk A20
  clear A20
  replace H := Option.bind_eq_some_iff.mp H
  obtain ⟨⟨t273, t276, t277, t278⟩, A30, H⟩ := H
  replace H : ((spec_l03Key.f t269 t277 t278).bind fun bt279 => ((spec_l03Val.f t269 bt279.2.1 bt279.2.2).bind fun bt282 => (some (t273, t276, bt279.1, bt282.1)))) = some (r1, r2, r3, r4) := H
  have A3 := Aside0.mk A30
  clear A30
  replace H := Option.bind_eq_some_iff.mp H
  obtain ⟨⟨t279, t280, t281⟩, A40, H⟩ := H
  replace H : ((spec_l03Val.f t269 t280 t281).bind fun bt282 => (some (t273, t276, t279, bt282.1))) = some (r1, r2, r3, r4) := H
  have A4 := Aside0.mk A40
  clear A40
  replace H := Option.bind_eq_some_iff.mp H
  obtain ⟨⟨t282, t283, t284⟩, A50, H⟩ := H
  replace H : (some (t273, t276, t279, t282)) = some (r1, r2, r3, r4) := H
  have A5 := Aside0.mk A50
  clear A50
  simp only [Option.some.injEq, Prod.mk.injEq] at H
  obtain ⟨rfl, rfl, rfl, rfl⟩ := H
  go_enter Try.func50, Try.ntmps50
  go_wp2_with (first|((with_reducible refine gate_dst (N := 2) rfl ?_); refine box_event ?hg (N := 2) ?hd (cs := #[.slice none 0 0, .int .i64 0]) (t := 65) ?hr ?_; (case hd => rfl); (case hg => rfl); (case hr => first|(go_simp; done)|(go_simp; rfl)); intro gb268 hg w6 hbox hb; have n0_ := Aside0.mk (zN (by repeat (first|(with_reducible first|exact HB.out|apply zI|apply zG|apply zH)|exact HB.out)) hb); have n1_ := Aside0.mk (hbox); have n2_ := Aside0.mk ((by rw [hg]; exact (below_size (by repeat (first|(with_reducible first|exact HB.out|apply zI|apply zG|apply zH)|exact HB.out))) : w.heap.size ≤ gb268)); have n3_ := Aside0.mk ((by rw [hg]; exact (below_size (by repeat (first|(with_reducible first|exact HB.out|apply zI|apply zG|apply zH)|exact HB.out))) : w.heap.size ≤ gb268)); clear HB; have HB := n0_; have BK268 := n1_; have GW268 := n2_; have GE268 := n3_; clear n0_ n1_ n2_ n3_; clear hb hbox hg)|((with_reducible refine gate_callee (f := 72) rfl ?_); refine goesL_ (some 7) rfl rfl Try.func72 (by kernel_rfl) rfl #[.slice A0 l0.length c0] rfl (by (try simp only [List.map_toArray, List.map_cons, List.map_nil]); first|done|rfl|(simp only [List.length_drop, List.length_take]; rfl)) ?_; (with_reducible refine (spec_l01New.calls k _ _ l0 t269 t270 t271 w _ ?side1 ?side2 ?side3 A2.out).mono ?_); (case side1 => repeat (first|(with_reducible first|exact HB.out|apply zI|apply zG|apply zH|refine zJ ?_ GE268.out)|exact HB.out)); (case side2 => exact HR0.out); (case side3 => exact HC0.out); rintro e w7 ⟨g272, rfl, hi, hb, hb2⟩; refine ⟨_, rfl, ?_⟩; have n0_ := Aside0.mk (zK (g := gb268) (o := .cells #[.slice none 0 0, .int .i64 0] 65 (0, 0)) (by (with_reducible repeat (first|refine zA ?_ _|refine zC ?_|refine zB ?_ _)); exact BK268.out) hb2); have n1_ := Aside0.mk (hb); have n2_ := Aside0.mk (hi); have n3_ := Aside0.mk (IsS119.ne_blk hi (zK (g := gb268) (o := .cells #[.slice none 0 0, .int .i64 0] 65 (0, 0)) (by (with_reducible repeat (first|refine zA ?_ _|refine zC ?_|refine zB ?_ _)); exact BK268.out) hb2) (by decide)); have n4_ := Aside0.mk (Ne.symm (IsS119.ne_blk hi (zK (g := gb268) (o := .cells #[.slice none 0 0, .int .i64 0] 65 (0, 0)) (by (with_reducible repeat (first|refine zA ?_ _|refine zC ?_|refine zB ?_ _)); exact BK268.out) hb2) (by decide))); clear BK268; clear HB; have BK268 := n0_; have HB := n1_; have HI272 := n2_; have NB272_268 := n3_; have NB268_272 := n4_; clear n0_ n1_ n2_ n3_ n4_; (try clear hb); (try clear hb2); (try clear hk); (try clear hi))|((with_reducible refine gate_callee (f := 98) rfl ?_); refine goesL_ (some 9) rfl rfl Try.func98 (by kernel_rfl) rfl #[.pointer (some ⟨g272, 0, none⟩)] rfl (by (try simp only [List.map_toArray, List.map_cons, List.map_nil]); first|done|rfl|(simp only [List.length_drop, List.length_take]; rfl)) ?_; (with_reducible refine (spec_l03Arena.calls k g272 t269 t270 t271 t273 t276 t277 t278 w _ ?side1 ?side2 A3.out).mono ?_); (case side1 => repeat (first|(with_reducible first|exact HI272.out|apply IsS119.alloc|apply IsS119.drewN|apply IsS119.drew|apply IsS119.set_1|apply IsS119.set_2|refine IsS119.far ?_ NB272_268.out _)|exact HI272.out)); (case side2 => repeat (first|(with_reducible first|exact HB.out|apply zI|apply zG|apply zH|refine zJ ?_ (IsS119.ge HI272.out)|refine zJ ?_ GE268.out)|exact HB.out)); rintro e w8 ⟨v274, rfl, ho0, hi, hb, hk⟩; refine ⟨_, rfl, ?_⟩; have n0_ := Aside0.mk (KeepBut.blk hk (g' := gb268) (o := .cells #[.slice none 0 0, .int .i64 0] 65 (0, 0)) (by (with_reducible repeat (first|refine zA ?_ _|refine zC ?_|refine zB ?_ _)); exact BK268.out) NB268_272.out (by simp)); have n1_ := Aside0.mk (Kd.R_lower ho0 (below_size (by repeat (first|(with_reducible first|exact HB.out|apply zI|apply zG|apply zH|refine zJ ?_ (IsS119.ge HI272.out)|refine zJ ?_ GE268.out)|exact HB.out)))); have n2_ := Aside0.mk (hb); have n3_ := Aside0.mk (hi); clear BK268; clear HB; clear HI272; have BK268 := n0_; have HO275 := n1_; have HB := n2_; have HI272 := n3_; clear n0_ n1_ n2_ n3_; (try clear hb); (try clear hb2); (try clear hk); (try clear hi); (try clear ho0))|((with_reducible refine gate_callee (f := 74) rfl ?_); refine goesL_ (some 11) rfl rfl Try.func74 (by kernel_rfl) rfl #[.pointer (some ⟨g272, 0, none⟩)] rfl (by (try simp only [List.map_toArray, List.map_cons, List.map_nil]); first|done|rfl|(simp only [List.length_drop, List.length_take]; rfl)) ?_; (with_reducible refine (spec_l03Key.calls g272 t269 t277 t278 t279 t280 t281 w _ ?side1 ?side2 A4.out).mono ?_); (case side1 => repeat (first|(with_reducible first|exact HI272.out|apply IsS119.alloc|apply IsS119.drewN|apply IsS119.drew|apply IsS119.set_1|apply IsS119.set_2|refine IsS119.far ?_ NB272_268.out _)|exact HI272.out)); (case side2 => repeat (first|(with_reducible first|exact HB.out|apply zI|apply zG|apply zH|refine zJ ?_ (IsS119.ge HI272.out)|refine zJ ?_ GE268.out)|exact HB.out)); rintro e w9 ⟨rfl, hi, hb, hk⟩; refine ⟨_, rfl, ?_⟩; have n0_ := Aside0.mk (KeepBut.blk hk (g' := gb268) (o := .cells #[.slice none 0 0, .int .i64 0] 65 (0, 0)) (by (with_reducible repeat (first|refine zA ?_ _|refine zC ?_|refine zB ?_ _)); exact BK268.out) NB268_272.out (by simp)); have n1_ := Aside0.mk (zR (Kd.R_keep (IsS119.apart (show IsS119 w _ g272 t269 t277 t278 from by repeat (first|(with_reducible first|exact HI272.out|apply IsS119.alloc|apply IsS119.drewN|apply IsS119.drew|apply IsS119.set_1|apply IsS119.set_2|refine IsS119.far ?_ NB272_268.out _)|exact HI272.out)) (by (with_reducible repeat (first|apply zE|apply zD|apply zF)); exact HO275.out) (by decide)) hk (fun _ h => h.2)) (fun _ h => h.1)); have n2_ := Aside0.mk (hb); have n3_ := Aside0.mk (hi); clear BK268; clear HO275; clear HB; clear HI272; have BK268 := n0_; have HO275 := n1_; have HB := n2_; have HI272 := n3_; clear n0_ n1_ n2_ n3_; (try clear hb); (try clear hb2); (try clear hk); (try clear hi))|((with_reducible refine gate_callee (f := 99) rfl ?_); refine goesL_ (some 13) rfl rfl Try.func99 (by kernel_rfl) rfl #[.pointer (some ⟨g272, 0, none⟩)] rfl (by (try simp only [List.map_toArray, List.map_cons, List.map_nil]); first|done|rfl|(simp only [List.length_drop, List.length_take]; rfl)) ?_; (with_reducible refine (spec_l03Val.calls g272 t269 t280 t281 t282 t283 t284 w _ ?side1 ?side2 A5.out).mono ?_); (case side1 => repeat (first|(with_reducible first|exact HI272.out|apply IsS119.alloc|apply IsS119.drewN|apply IsS119.drew|apply IsS119.set_1|apply IsS119.set_2|refine IsS119.far ?_ NB272_268.out _)|exact HI272.out)); (case side2 => repeat (first|(with_reducible first|exact HB.out|apply zI|apply zG|apply zH|refine zJ ?_ (IsS119.ge HI272.out)|refine zJ ?_ GE268.out)|exact HB.out)); rintro e w10 ⟨rfl, hi, hb, hk⟩; refine ⟨_, rfl, ?_⟩; have n0_ := Aside0.mk (KeepBut.blk hk (g' := gb268) (o := .cells #[.slice none 0 0, .int .i64 0] 65 (0, 0)) (by (with_reducible repeat (first|refine zA ?_ _|refine zC ?_|refine zB ?_ _)); exact BK268.out) NB268_272.out (by simp)); have n1_ := Aside0.mk (zR (Kd.R_keep (IsS119.apart (show IsS119 w _ g272 t269 t280 t281 from by repeat (first|(with_reducible first|exact HI272.out|apply IsS119.alloc|apply IsS119.drewN|apply IsS119.drew|apply IsS119.set_1|apply IsS119.set_2|refine IsS119.far ?_ NB272_268.out _)|exact HI272.out)) (by (with_reducible repeat (first|apply zE|apply zD|apply zF)); exact HO275.out) (by decide)) hk (fun _ h => h.2)) (fun _ h => h.1)); have n2_ := Aside0.mk (hb); have n3_ := Aside0.mk (hi); clear BK268; clear HO275; clear HB; clear HI272; have BK268 := n0_; have HO275 := n1_; have HB := n2_; have HI272 := n3_; clear n0_ n1_ n2_ n3_; (try clear hb); (try clear hb2); (try clear hk); (try clear hi); obtain ⟨Ao11, co11, eo11⟩ := Kd.R_slice HO275.out; subst eo11; have hnb12 := NB268_272.out; have hnc12 := NB272_268.out; obtain ⟨hcz13_0, hcz13_1, hfz13_0, hfz13_1⟩ := zb2 BK268.out))
  refine bodyPost_ret (results_ctt rfl _ _ gb268 65 #[.slice Ao11 t273.length co11, .int .i64 t276] (0, 0) _ rfl (by (with_reducible repeat (first|refine zA ?_ _|refine zC ?_|refine zB ?_ _)); refine blk_put (cs := #[.slice Ao11 t273.length co11, .int .i64 0]) ?_ 1 _ rfl; (with_reducible repeat (first|refine zA ?_ _|refine zC ?_|refine zB ?_ _)); refine blk_put (cs := #[.slice none 0 0, .int .i64 0]) ?_ 0 _ rfl; (with_reducible repeat (first|refine zA ?_ _|refine zC ?_|refine zB ?_ _)); exact BK268.out) Try.underlying65 rfl (by kernel_rfl)) rfl ?_
  exact ⟨_, by first|rfl|(simp [errW_none, errW_some] <;> rfl)|(simp [*, errW_none, errW_some] <;> rfl), by (with_reducible repeat (first|apply zE|apply zD|apply zF)); exact zR (zL (p := ⟨gb268, 1, none⟩) (zL (p := ⟨gb268, 0, none⟩) (zQ HO275.out BK268.out (by decide)) (fun _ hk => hk.2) (.slice Ao11 t273.length co11)) (fun _ hk => hk.2) (.int .i64 t276)) (fun _ hk => trivial), by repeat (first|(with_reducible first|exact HB.out|apply zI|apply zG|apply zH|refine zJ ?_ (IsS119.ge HI272.out)|refine zJ ?_ GE268.out)|exact HB.out)⟩

/-! ### impl_UsedOf: function 51 -/
def impl_UsedOf.f (k : Nat) (l0_0 : List (S81)) (a0_1 : Int) : Option (Int) := (impl_ArenaOk.f k l0_0 a0_1).bind fun t286 => (if t286 = true then ((impl_Arena_used.f k l0_0 a0_1).bind fun t287 => (some t287)) else (some 0))
theorem impl_UsedOf.mono : ∀ a0 a1 k, LeO (impl_UsedOf.f k a0 a1) (impl_UsedOf.f (k + 1) a0 a1) := by
  intro a0 a1 k
  unfold impl_UsedOf.f
  repeat' first
     |(with_reducible exact impl_ArenaOk.mono _ _ _)
     |(with_reducible exact impl_Arena_used.mono _ _ _)
     |(with_reducible exact LeO.refl _)
     |(with_reducible exact LeO.none _)
     |(with_reducible refine LeO.ite ?_ ?_)
     |(with_reducible refine LeO.bind ?_ (fun _ => ?_))
     |exact impl_ArenaOk.mono _ _ _
     |exact impl_Arena_used.mono _ _ _
     |exact LeO.none _
     |refine LeO.ite ?_ ?_
     |refine LeO.bind ?_ (fun _ => ?_)
set_option maxHeartbeats 8000000 in
set_option maxRecDepth 100000 in
theorem impl_UsedOf.calls (k : Nat) (A0_0 : Option Addr) (c0_0 : Nat) (l0_0 : List (S81)) (a0_1 : Int) (r : Int) (w : World) (hr0_0 : Kd.C k81 w A0_0 l0_0.length l0_0) (hc0_0 : l0_0.length ≤ c0_0) (h : impl_UsedOf.f k l0_0 a0_1 = some r) :
    Calls Try.prog 51 #[.agg #[.slice A0_0 l0_0.length c0_0, .int .i64 a0_1]] w fun e w' => e = .returned (.int .i64 r) ∧ Below w.heap.size w w' := by
  have hu65 := Try.underlying65
  have HR0_0 := Aside0.mk hr0_0
  have HC0_0 := Aside0.mk hc0_0
  clear hr0_0 hc0_0
  have HB := Aside0.mk (Below.refl w.heap.size w)
  have H : ((impl_ArenaOk.f k l0_0 a0_1).bind fun t286 => (if t286 = true then ((impl_Arena_used.f k l0_0 a0_1).bind fun t287 => (some t287)) else (some 0))) = some r := h
  clear h
  replace H := Option.bind_eq_some_iff.mp H
  obtain ⟨t286, A20, H⟩ := H
  replace H : (if t286 = true then ((impl_Arena_used.f k l0_0 a0_1).bind fun t287 => (some t287)) else (some 0)) = some r := H
  have A2 := Aside0.mk A20
  clear A20
  go_enter Try.func51, Try.ntmps51
  go_wp2_with (first|((with_reducible refine gate_dst (N := 1) rfl ?_); refine box_event ?hg (N := 1) ?hd (cs := #[.slice A0_0 l0_0.length c0_0, .int .i64 a0_1]) (t := 65) ?hr ?_; (case hd => rfl); (case hg => rfl); (case hr => first|(go_simp; done)|(go_simp; rfl)); intro gb285 hg w5 hbox hb; have n0_ := Aside0.mk (zN (by repeat (first|(with_reducible first|exact HB.out|apply zI|apply zG|apply zH)|exact HB.out)) hb); have n1_ := Aside0.mk (hbox); have n2_ := Aside0.mk ((by rw [hg]; exact (below_size (by repeat (first|(with_reducible first|exact HB.out|apply zI|apply zG|apply zH)|exact HB.out))) : w.heap.size ≤ gb285)); have n3_ := Aside0.mk ((by rw [hg]; exact (below_size (by repeat (first|(with_reducible first|exact HB.out|apply zI|apply zG|apply zH)|exact HB.out))) : w.heap.size ≤ gb285)); clear HB; have HB := n0_; have BK285 := n1_; have GW285 := n2_; have GE285 := n3_; clear n0_ n1_ n2_ n3_; clear hb hbox hg; obtain ⟨hcz6_0, hcz6_1, hfz6_0, hfz6_1⟩ := zb2 BK285.out)|((with_reducible refine gate_callee (f := 52) rfl ?_); refine goesL_ (some 4) rfl rfl Try.func52 (by kernel_rfl) rfl #[.agg #[.slice A0_0 l0_0.length c0_0, .int .i64 a0_1]] rfl (by (try simp only [List.map_toArray, List.map_cons, List.map_nil]); first|done|rfl|(simp only [List.length_drop, List.length_take]; rfl)) ?_; (with_reducible refine (impl_ArenaOk.calls k _ _ l0_0 a0_1 t286 _ ?side1 ?side2 A2.out).mono ?_); (case side1 => repeat (first|exact (Kd.C_below HR0_0.out HB.out)|(with_reducible refine Kd.C_alloc ?_ _)|(with_reducible refine Kd.C_drewN ?_ _)|(with_reducible refine Kd.C_drew ?_))); (case side2 => exact HC0_0.out); rintro e w7 ⟨rfl, hb⟩; refine ⟨_, rfl, ?_⟩; have n0_ := Aside0.mk (zK (g := gb285) (o := .cells #[.slice A0_0 l0_0.length c0_0, .int .i64 a0_1] 65 (0, 0)) (by (with_reducible repeat (first|refine zA ?_ _|refine zC ?_|refine zB ?_ _)); exact BK285.out) hb); have n1_ := Aside0.mk (zN (by repeat (first|(with_reducible first|exact HB.out|apply zI|apply zG|apply zH|refine zJ ?_ GE285.out)|exact HB.out)) hb); clear BK285; clear HB; have BK285 := n0_; have HB := n1_; clear n0_ n1_; (try clear hb); (try clear hb2); (try clear hk); (try clear hi); obtain ⟨hcz8_0, hcz8_1, hfz8_0, hfz8_1⟩ := zb2 BK285.out; (refine Classical.byCases (p := (t286 = true)) (fun c3 => ?zp18) (fun c3 => ?zn18); (case' zn18 => (replace c3 := Bool.eq_false_iff.mpr c3); (subst c3); (have H1 : (some 0) = some r := by rw [if_neg (show ¬ (false = true) by decide)] at H; exact H); (clear H); (have H := H1); (clear H1); (obtain rfl := Option.some.inj H)); (case' zp18 => (subst c3); (have H1 : ((impl_Arena_used.f k l0_0 a0_1).bind fun t287 => (some t287)) = some r := by rw [if_pos rfl] at H; exact H); (clear H); (have H := H1); (clear H1); (replace H := Option.bind_eq_some_iff.mp H); (obtain ⟨t287, A40, H⟩ := H); (replace H : (some t287) = some r := H); (have A4 := Aside0.mk A40); (clear A40); (obtain rfl := Option.some.inj H))))|((with_reducible refine gate_callee (f := 100) rfl ?_); refine goesL_ (some 7) rfl rfl Try.func100 (by kernel_rfl) rfl #[.agg #[.slice A0_0 l0_0.length c0_0, .int .i64 a0_1]] rfl (by (try simp only [List.map_toArray, List.map_cons, List.map_nil]); first|done|rfl|(simp only [List.length_drop, List.length_take]; rfl)) ?_; (with_reducible refine (impl_Arena_used.calls k _ _ l0_0 a0_1 t287 _ ?side1 ?side2 A4.out).mono ?_); (case side1 => repeat (first|exact (Kd.C_below HR0_0.out HB.out)|(with_reducible refine Kd.C_alloc ?_ _)|(with_reducible refine Kd.C_drewN ?_ _)|(with_reducible refine Kd.C_drew ?_))); (case side2 => exact HC0_0.out); rintro e w9 ⟨rfl, hb⟩; refine ⟨_, rfl, ?_⟩; have n0_ := Aside0.mk (zK (g := gb285) (o := .cells #[.slice A0_0 l0_0.length c0_0, .int .i64 a0_1] 65 (0, 0)) (by (with_reducible repeat (first|refine zA ?_ _|refine zC ?_|refine zB ?_ _)); exact BK285.out) hb); have n1_ := Aside0.mk (zN (by repeat (first|(with_reducible first|exact HB.out|apply zI|apply zG|apply zH|refine zJ ?_ GE285.out)|exact HB.out)) hb); clear BK285; clear HB; have BK285 := n0_; have HB := n1_; clear n0_ n1_; (try clear hb); (try clear hb2); (try clear hk); (try clear hi)))
  · go_ret
    exact ⟨by first|rfl|(simp [errW_none, errW_some] <;> rfl)|(simp [*, errW_none, errW_some] <;> rfl), by repeat (first|(with_reducible first|exact HB.out|apply zI|apply zG|apply zH|refine zJ ?_ GE285.out)|exact HB.out)⟩
  · go_ret
    exact ⟨by first|rfl|(simp [errW_none, errW_some] <;> rfl)|(simp [*, errW_none, errW_some] <;> rfl), by repeat (first|(with_reducible first|exact HB.out|apply zI|apply zG|apply zH|refine zJ ?_ GE285.out)|exact HB.out)⟩

/-! ### impl_Arena_place: function 103 -/
def impl_Arena_place.f (l0_0 : List (S81)) (a0_1 : Int) (a1 : Int) : Option (Int) := if a1 < 0 then (some (-1)) else (if (Int.tmod a1 24) ≥ (l0_0.length : Int) then (some (-1)) else (if 0 ≤ (Int.tmod a1 24) then (if (Int.tmod a1 24) < (l0_0.length : Int) then (if ((rd_T81 l0_0 (Int.tmod a1 24)).f1 = true) then ((impl_Arena_handle.f l0_0 a0_1 (Int.tmod a1 24)).bind fun t290 => (if t290 = a1 then (some (Int.tmod a1 24)) else (some (-1)))) else (some (-1))) else (none)) else (none)))
set_option maxHeartbeats 8000000 in
set_option maxRecDepth 100000 in
theorem impl_Arena_place.calls (A0_0 : Option Addr) (c0_0 : Nat) (l0_0 : List (S81)) (a0_1 : Int) (a1 : Int) (r : Int) (w : World) (hr0_0 : Kd.C k81 w A0_0 l0_0.length l0_0) (hc0_0 : l0_0.length ≤ c0_0) (h : impl_Arena_place.f l0_0 a0_1 a1 = some r) :
    Calls Try.prog 103 #[.agg #[.slice A0_0 l0_0.length c0_0, .int .i64 a0_1], .int .i64 a1] w fun e w' => e = .returned (.int .i64 r) ∧ Below w.heap.size w w' := by
  have hu65 := Try.underlying65
  have HR0_0 := Aside0.mk hr0_0
  have HC0_0 := Aside0.mk hc0_0
  clear hr0_0 hc0_0
  have HB := Aside0.mk (Below.refl w.heap.size w)
  have H : (if a1 < 0 then (some (-1)) else (if (Int.tmod a1 24) ≥ (l0_0.length : Int) then (some (-1)) else (if 0 ≤ (Int.tmod a1 24) then (if (Int.tmod a1 24) < (l0_0.length : Int) then (if ((rd_T81 l0_0 (Int.tmod a1 24)).f1 = true) then ((impl_Arena_handle.f l0_0 a0_1 (Int.tmod a1 24)).bind fun t290 => (if t290 = a1 then (some (Int.tmod a1 24)) else (some (-1)))) else (some (-1))) else (none)) else (none)))) = some r := h
  clear h
  by_cases c3 : a1 < 0
  · rw [if_pos c3] at H
    have c3b0 : decide (a1 < 0) = true := decide_eq_true c3
    clear c3
    obtain rfl := Option.some.inj H
    go_enter Try.func103, Try.ntmps103
    go_wp2_with (first|((with_reducible refine gate_dst (N := 2) rfl ?_); refine box_event ?hg (N := 2) ?hd (cs := #[.slice A0_0 l0_0.length c0_0, .int .i64 a0_1]) (t := 65) ?hr ?_; (case hd => rfl); (case hg => rfl); (case hr => first|(go_simp; done)|(go_simp; rfl)); intro gb288 hg w4 hbox hb; have n0_ := Aside0.mk (zN (by repeat (first|(with_reducible first|exact HB.out|apply zI|apply zG|apply zH)|exact HB.out)) hb); have n1_ := Aside0.mk (hbox); have n2_ := Aside0.mk ((by rw [hg]; exact (below_size (by repeat (first|(with_reducible first|exact HB.out|apply zI|apply zG|apply zH)|exact HB.out))) : w.heap.size ≤ gb288)); have n3_ := Aside0.mk ((by rw [hg]; exact (below_size (by repeat (first|(with_reducible first|exact HB.out|apply zI|apply zG|apply zH)|exact HB.out))) : w.heap.size ≤ gb288)); clear HB; have HB := n0_; have BK288 := n1_; have GW288 := n2_; have GE288 := n3_; clear n0_ n1_ n2_ n3_; clear hb hbox hg))
    go_ret
    exact ⟨by first|rfl|(simp [errW_none, errW_some] <;> rfl)|(simp [*, errW_none, errW_some] <;> rfl), by repeat (first|(with_reducible first|exact HB.out|apply zI|apply zG|apply zH|refine zJ ?_ GE288.out)|exact HB.out)⟩
  · rw [if_neg c3] at H
    have c3b0 : decide (a1 < 0) = false := decide_eq_false c3
    clear c3
    by_cases c5 : (Int.tmod a1 24) ≥ (l0_0.length : Int)
    · rw [if_pos c5] at H
      have c5b0 : decide ((l0_0.length : Int) ≤ (Int.tmod a1 24)) = true := decide_eq_true c5
      clear c5
      obtain rfl := Option.some.inj H
      go_enter Try.func103, Try.ntmps103
      go_wp2_with (first|((with_reducible refine gate_dst (N := 2) rfl ?_); refine box_event ?hg (N := 2) ?hd (cs := #[.slice A0_0 l0_0.length c0_0, .int .i64 a0_1]) (t := 65) ?hr ?_; (case hd => rfl); (case hg => rfl); (case hr => first|(go_simp; done)|(go_simp; rfl)); intro gb288 hg w6 hbox hb; have n0_ := Aside0.mk (zN (by repeat (first|(with_reducible first|exact HB.out|apply zI|apply zG|apply zH)|exact HB.out)) hb); have n1_ := Aside0.mk (hbox); have n2_ := Aside0.mk ((by rw [hg]; exact (below_size (by repeat (first|(with_reducible first|exact HB.out|apply zI|apply zG|apply zH)|exact HB.out))) : w.heap.size ≤ gb288)); have n3_ := Aside0.mk ((by rw [hg]; exact (below_size (by repeat (first|(with_reducible first|exact HB.out|apply zI|apply zG|apply zH)|exact HB.out))) : w.heap.size ≤ gb288)); clear HB; have HB := n0_; have BK288 := n1_; have GW288 := n2_; have GE288 := n3_; clear n0_ n1_ n2_ n3_; clear hb hbox hg; obtain ⟨hcz7_0, hcz7_1, hfz7_0, hfz7_1⟩ := zb2 BK288.out))
      go_ret
      exact ⟨by first|rfl|(simp [errW_none, errW_some] <;> rfl)|(simp [*, errW_none, errW_some] <;> rfl), by repeat (first|(with_reducible first|exact HB.out|apply zI|apply zG|apply zH|refine zJ ?_ GE288.out)|exact HB.out)⟩
    · rw [if_neg c5] at H
      have c5b0 : decide ((l0_0.length : Int) ≤ (Int.tmod a1 24)) = false := decide_eq_false c5
      clear c5
      obtain ⟨ji8, hji8⟩ : ∃ j_ : Int, (Int.tmod a1 24) = j_ := ⟨_, rfl⟩
      replace H : (if 0 ≤ (ji8) then (if (ji8) < (l0_0.length : Int) then (if ((rd_T81 l0_0 (ji8)).f1 = true) then ((impl_Arena_handle.f l0_0 a0_1 (ji8)).bind fun t290 => (if t290 = a1 then (some ji8) else (some (-1)))) else (some (-1))) else (none)) else (none)) = some r := by first|(rw [hji8] at H; exact H)|(simp only [hji8] at H ⊢; exact H)
      (try rw [hji8] at c5b0)
      by_cases c9 : 0 ≤ (ji8)
      · rw [if_pos c9] at H
        have c9b0 : decide (0 ≤ (ji8)) = true := decide_eq_true c9
        clear c9
        by_cases c10 : (ji8) < (l0_0.length : Int)
        · rw [if_pos c10] at H
          have c10b0 : decide ((ji8) < (l0_0.length : Int)) = true := decide_eq_true c10
          clear c10
          obtain ⟨bq11, hbq11⟩ : ∃ b_ : Bool, b_ = ((rd_T81 l0_0 (ji8)).f1) := ⟨_, rfl⟩
          replace H : (if (bq11 = true) then ((impl_Arena_handle.f l0_0 a0_1 (ji8)).bind fun t290 => (if t290 = a1 then (some ji8) else (some (-1)))) else (some (-1))) = some r := by rw [← hbq11] at H; exact H
          have Nbq11 := Aside0.mk hbq11
          clear hbq11
          by_cases c12 : (bq11 = true)
          · subst c12
            have H1 : ((impl_Arena_handle.f l0_0 a0_1 (ji8)).bind fun t290 => (if t290 = a1 then (some ji8) else (some (-1)))) = some r := by rw [if_pos rfl] at H; exact H
            clear H
            have H := H1
            clear H1
            replace H := Option.bind_eq_some_iff.mp H
            obtain ⟨t290, A130, H⟩ := H
            replace H : (if t290 = a1 then (some ji8) else (some (-1))) = some r := H
            have A13 := Aside0.mk A130
            clear A130
            go_enter Try.func103, Try.ntmps103
            go_wp2_with (first|((with_reducible refine gate_dst (N := 2) rfl ?_); refine box_event ?hg (N := 2) ?hd (cs := #[.slice A0_0 l0_0.length c0_0, .int .i64 a0_1]) (t := 65) ?hr ?_; (case hd => rfl); (case hg => rfl); (case hr => first|(go_simp; done)|(go_simp; rfl)); intro gb288 hg w15 hbox hb; have n0_ := Aside0.mk (zN (by repeat (first|(with_reducible first|exact HB.out|apply zI|apply zG|apply zH)|exact HB.out)) hb); have n1_ := Aside0.mk (hbox); have n2_ := Aside0.mk ((by rw [hg]; exact (below_size (by repeat (first|(with_reducible first|exact HB.out|apply zI|apply zG|apply zH)|exact HB.out))) : w.heap.size ≤ gb288)); have n3_ := Aside0.mk ((by rw [hg]; exact (below_size (by repeat (first|(with_reducible first|exact HB.out|apply zI|apply zG|apply zH)|exact HB.out))) : w.heap.size ≤ gb288)); clear HB; have HB := n0_; have BK288 := n1_; have GW288 := n2_; have GE288 := n3_; clear n0_ n1_ n2_ n3_; clear hb hbox hg; obtain ⟨hcz16_0, hcz16_1, hfz16_0, hfz16_1⟩ := zb2 BK288.out; have p289 : 0 ≤ ((ji8) : Int) := of_decide_eq_true (by first|(with_reducible assumption)|assumption); have q289 : (ji8) < (l0_0.length : Int) := of_decide_eq_true (by first|(with_reducible assumption)|assumption); obtain ⟨ad289, e289, hx289_0, hx289_1, hx289_2, hx289_3, hx289_4⟩ := at_T81 HR0_0.out (ji8) p289 q289; (try rw [← Nbq11.out] at hx289_1); cases e289; replace hx289_0 := (HB.out.cell (World.block_lt_of_cell? w _ hx289_0)).trans hx289_0; replace hx289_1 := (HB.out.cell (World.block_lt_of_cell? w _ hx289_1)).trans hx289_1; replace hx289_2 := (HB.out.cell (World.block_lt_of_cell? w _ hx289_2)).trans hx289_2; replace hx289_3 := (HB.out.cell (World.block_lt_of_cell? w _ hx289_3)).trans hx289_3; replace hx289_4 := (HB.out.cell (World.block_lt_of_cell? w _ hx289_4)).trans hx289_4; replace p289 := eq_true p289; replace q289 := eq_true q289)|(go_at_call 105; (with_reducible refine (impl_Arena_handle.calls _ _ l0_0 a0_1 ji8 t290 _ ?side1 ?side2 A13.out).mono ?_); (case side1 => repeat (first|exact (Kd.C_below HR0_0.out HB.out)|(with_reducible refine Kd.C_alloc ?_ _)|(with_reducible refine Kd.C_drewN ?_ _)|(with_reducible refine Kd.C_drew ?_))); (case side2 => exact HC0_0.out); rintro e w17 ⟨rfl, hb⟩; have n0_ := Aside0.mk (zK (g := gb288) (o := .cells #[.slice (some ad289) l0_0.length c0_0, .int .i64 a0_1] 65 (0, 0)) (by (with_reducible repeat (first|refine zA ?_ _|refine zC ?_|refine zB ?_ _)); exact BK288.out) hb); have n1_ := Aside0.mk (zN (by repeat (first|(with_reducible first|exact HB.out|apply zI|apply zG|apply zH|refine zJ ?_ GE288.out)|exact HB.out)) hb); clear BK288; clear HB; have BK288 := n0_; have HB := n1_; clear n0_ n1_; (try clear hb); (try clear hb2); (try clear hk); (try clear hi); (refine Classical.byCases (p := (t290 = a1)) (fun c14 => ?zp19) (fun c14 => ?zn19); (case' zn19 => (rw [if_neg c14] at H); (have c14b0 : (t290 == a1) = false := beq_eq_false_iff_ne.mpr c14); (have c14b1 : (t290 != a1) = true := bne_iff_ne.mpr c14); (obtain rfl := Option.some.inj H)); (case' zp19 => (rw [if_pos c14] at H); (have c14b0 : (t290 == a1) = true := beq_iff_eq.mpr c14); (have c14b1 : (t290 != a1) = false := bne_eq_false_iff_eq.mpr c14); (clear c14); (obtain rfl := Option.some.inj H)))))
            · go_ret
              exact ⟨by first|rfl|(simp [errW_none, errW_some] <;> rfl)|(simp only [← hji8]; first|rfl|(simp [errW_none, errW_some] <;> rfl))|(simp [*, errW_none, errW_some] <;> rfl), by repeat (first|(with_reducible first|exact HB.out|apply zI|apply zG|apply zH|refine zJ ?_ GE288.out)|exact HB.out)⟩
            · go_ret
              exact ⟨by first|rfl|(simp [errW_none, errW_some] <;> rfl)|(simp only [← hji8]; first|rfl|(simp [errW_none, errW_some] <;> rfl))|(simp [*, errW_none, errW_some] <;> rfl), by repeat (first|(with_reducible first|exact HB.out|apply zI|apply zG|apply zH|refine zJ ?_ GE288.out)|exact HB.out)⟩
          · replace c12 := Bool.eq_false_iff.mpr c12
            subst c12
            have H1 : (some (-1)) = some r := by rw [if_neg (show ¬ (false = true) by decide)] at H; exact H
            clear H
            have H := H1
            clear H1
            obtain rfl := Option.some.inj H
            go_enter Try.func103, Try.ntmps103
            go_wp2_with (first|((with_reducible refine gate_dst (N := 2) rfl ?_); refine box_event ?hg (N := 2) ?hd (cs := #[.slice A0_0 l0_0.length c0_0, .int .i64 a0_1]) (t := 65) ?hr ?_; (case hd => rfl); (case hg => rfl); (case hr => first|(go_simp; done)|(go_simp; rfl)); intro gb288 hg w21 hbox hb; have n0_ := Aside0.mk (zN (by repeat (first|(with_reducible first|exact HB.out|apply zI|apply zG|apply zH)|exact HB.out)) hb); have n1_ := Aside0.mk (hbox); have n2_ := Aside0.mk ((by rw [hg]; exact (below_size (by repeat (first|(with_reducible first|exact HB.out|apply zI|apply zG|apply zH)|exact HB.out))) : w.heap.size ≤ gb288)); have n3_ := Aside0.mk ((by rw [hg]; exact (below_size (by repeat (first|(with_reducible first|exact HB.out|apply zI|apply zG|apply zH)|exact HB.out))) : w.heap.size ≤ gb288)); clear HB; have HB := n0_; have BK288 := n1_; have GW288 := n2_; have GE288 := n3_; clear n0_ n1_ n2_ n3_; clear hb hbox hg; obtain ⟨hcz22_0, hcz22_1, hfz22_0, hfz22_1⟩ := zb2 BK288.out; have p289 : 0 ≤ ((ji8) : Int) := of_decide_eq_true (by first|(with_reducible assumption)|assumption); have q289 : (ji8) < (l0_0.length : Int) := of_decide_eq_true (by first|(with_reducible assumption)|assumption); obtain ⟨ad289, e289, hx289_0, hx289_1, hx289_2, hx289_3, hx289_4⟩ := at_T81 HR0_0.out (ji8) p289 q289; (try rw [← Nbq11.out] at hx289_1); cases e289; replace hx289_0 := (HB.out.cell (World.block_lt_of_cell? w _ hx289_0)).trans hx289_0; replace hx289_1 := (HB.out.cell (World.block_lt_of_cell? w _ hx289_1)).trans hx289_1; replace hx289_2 := (HB.out.cell (World.block_lt_of_cell? w _ hx289_2)).trans hx289_2; replace hx289_3 := (HB.out.cell (World.block_lt_of_cell? w _ hx289_3)).trans hx289_3; replace hx289_4 := (HB.out.cell (World.block_lt_of_cell? w _ hx289_4)).trans hx289_4; replace p289 := eq_true p289; replace q289 := eq_true q289))
            go_ret
            exact ⟨by first|rfl|(simp [errW_none, errW_some] <;> rfl)|(simp only [← hji8]; first|rfl|(simp [errW_none, errW_some] <;> rfl))|(simp [*, errW_none, errW_some] <;> rfl), by repeat (first|(with_reducible first|exact HB.out|apply zI|apply zG|apply zH|refine zJ ?_ GE288.out)|exact HB.out)⟩
        · rw [if_neg c10] at H
          exact absurd H (by simp)
      · rw [if_neg c9] at H
        exact absurd H (by simp)

-- NOT PRINTED: function 104 (impl_Arena_lift)


set_option maxHeartbeats 4000000 in
set_option maxRecDepth 100000 in
theorem lift_calls (g o gs c t : Nat) (cs : Array Value) (l : List S81) (free at_ : Int) (w0 w : World) (ps : List Part)
    (h : St w0 w (Part.blk g t cs :: Part.row k81 81 (.slice (some ⟨gs, 0, none⟩) l.length c) l :: ps)) (h0 : cs[o]? = some (.slice (some ⟨gs, 0, none⟩) l.length c)) (h1 : cs[o + 1]? = some (.int .i64 free)) (hf0 : 0 ≤ at_) (hf1 : at_ < l.length) :
    Calls Try.prog 104 #[.pointer (some ⟨g, o, none⟩), .int .i64 at_] w fun e w' => e = .returned (.tuple #[]) ∧
      St w0 w' (Part.blk g t (cs.setIfInBounds (o + 1) (.int .i64 at_)) :: Part.row k81 81 (.slice (some ⟨gs, 0, none⟩) l.length c) (l.set at_.toNat ⟨if wrap64 ((rd_T81 l at_).f0 + 1) > 41666665 then 0 else wrap64 ((rd_T81 l at_).f0 + 1), false, ⟨#[]⟩, ⟨#[]⟩, free⟩) :: ps) := by
  have HS := Aside0.mk h
  have hc0 := h.cell o h0
  have hc1 := h.cell (o + 1) h1
  have hz1 := h.frozen (o + 1)
  have hx : l[at_.toNat]? = some (rd_T81 l at_) := by unfold rd_T81; rw [List.getD_eq_getElem?_getD, List.getElem?_eq_getElem (by omega)]; rfl
  obtain ⟨hs0, hy0⟩ := h.tail.flat_cell F81 (j := 0) hx rfl
  obtain ⟨hs1, hy1⟩ := h.tail.flat_cell F81 (j := 1) hx rfl
  obtain ⟨hs2, hy2⟩ := h.tail.flat_cell F81 (j := 2) hx rfl
  obtain ⟨hs3, hy3⟩ := h.tail.flat_cell F81 (j := 3) hx rfl
  obtain ⟨hs4, hy4⟩ := h.tail.flat_cell F81 (j := 4) hx rfl
  replace hs0 : w.cell? ⟨gs, at_.toNat * 5, none⟩ = _ := hs0
  replace hy0 : w.frozen? ⟨gs, at_.toNat * 5, none⟩ = _ := hy0
  replace hs1 : w.cell? ⟨gs, at_.toNat * 5 + 1, none⟩ = _ := hs1
  replace hy1 : w.frozen? ⟨gs, at_.toNat * 5 + 1, none⟩ = _ := hy1
  replace hs2 : w.cell? ⟨gs, at_.toNat * 5 + 2, none⟩ = _ := hs2
  replace hy2 : w.frozen? ⟨gs, at_.toNat * 5 + 2, none⟩ = _ := hy2
  replace hs3 : w.cell? ⟨gs, at_.toNat * 5 + 3, none⟩ = _ := hs3
  replace hy3 : w.frozen? ⟨gs, at_.toNat * 5 + 3, none⟩ = _ := hy3
  replace hs4 : w.cell? ⟨gs, at_.toNat * 5 + 4, none⟩ = _ := hs4
  replace hy4 : w.frozen? ⟨gs, at_.toNat * 5 + 4, none⟩ = _ := hy4
  have hne : gs ≠ g := fun e => h.away (Part.row k81 81 (.slice (some ⟨gs, 0, none⟩) l.length c) l) (by simp) gs e rfl
  have hne' : g ≠ gs := fun e => hne e.symm
  clear h
  go_enter Try.func104, Try.ntmps104
  go_wp2
  all_goals (generalize hb_ : at_.toNat * 5 = b at *)
  all_goals go_region
  all_goals go_wp2
  all_goals subst hb_
  all_goals go_end0
  · exact ⟨rfl, ((HS.out.swap.slot5 hx ⟨0, false, ⟨#[]⟩, ⟨#[]⟩, free⟩).swap.put (o + 1) (.int .i64 at_) rfl).drew⟩
  · exact ⟨rfl, ((HS.out.swap.slot5 hx ⟨wrap64 ((rd_T81 l at_).f0 + 1), false, ⟨#[]⟩, ⟨#[]⟩, free⟩).swap.put (o + 1) (.int .i64 at_) rfl).drew⟩

/-! ### impl_Lift: function 54 -/
set_option maxHeartbeats 4000000 in
set_option maxRecDepth 100000 in
theorem lift_zero1 (k : Nat) (A : Option Addr) (c : Nat) (l : List S81) (fr handle : Int) (w : World) (hr : Kd.C k81 w A l.length l) (hc : l.length ≤ c) (h1 : impl_ArenaOk.f k l fr = some false) :
    Calls Try.prog 54 #[.agg #[.slice A l.length c, .int .i64 fr], .int .i64 handle] w fun e w' => ∃ v0_ : Value, e = .returned (.tuple #[.agg #[v0_, .int .i64 0], .bool false]) ∧ Kd.R k81 81 w' w.heap.size (fun _ => True) v0_ [] ∧ Below w.heap.size w w' := by
  have hu65 := Try.underlying65
  have HS := Aside0.mk (St.start w)
  go_enter Try.func54, Try.ntmps54
  go_wp2_with fail
  have h65 : w.heap.size + 1 = (w.alloc (Obj.cells #[Value.slice A l.length c, Value.int IntKind.i64 fr] 65)).heap.size := by show _ = (w.heap.push _).size; rw [Array.size_push]
  have S := (HS.out.alloc #[Value.slice A l.length c, Value.int IntKind.i64 fr] 65).alloc #[Value.slice none 0 0, Value.int IntKind.i64 0] 65
  rw [← h65] at S
  clear h65 HS
  refine (impl_ArenaOk.calls k A c l fr false _ (Kd.C_below hr S.below) hc h1).mono ?_
  rintro e w1 ⟨rfl, hb⟩
  have S := S.step hb
  clear hb
  have HS := Aside0.mk S
  have hc0 := S.at_cell 1 rfl 0 rfl
  have hc1 := S.at_cell 1 rfl 1 rfl
  have hd0 := S.at_cell 0 rfl 0 rfl
  have hd1 := S.at_cell 0 rfl 1 rfl
  have hz0 := S.at_frozen 0 rfl 0
  have hz1 := S.at_frozen 0 rfl 1
  clear S
  go_wp2_with fail
  have S := (HS.out.put 0 (.slice none 0 0) rfl).put 1 (.int .i64 0) rfl
  clear HS hc0 hc1 hd0 hd1 hz0 hz1
  refine bodyPost_ret (results_ct rfl _ _ _ 65 #[.slice none 0 0, .int .i64 0] (0, 0) _ rfl S.head.2 Try.underlying65 rfl (by kernel_rfl)) rfl ?_
  exact ⟨_, rfl, Kd.R_nil _ _ _ _ _, S.below⟩
set_option maxHeartbeats 4000000 in
set_option maxRecDepth 100000 in
theorem lift_zero2 (k : Nat) (A : Option Addr) (c : Nat) (l : List S81) (fr handle : Int) (w : World) (hr : Kd.C k81 w A l.length l) (hc : l.length ≤ c) (h1 : impl_ArenaOk.f k l fr = some true) (at_ : Int) (h2 : impl_Arena_place.f l fr handle = some at_) (h3 : at_ < 0) :
    Calls Try.prog 54 #[.agg #[.slice A l.length c, .int .i64 fr], .int .i64 handle] w fun e w' => ∃ v0_ : Value, e = .returned (.tuple #[.agg #[v0_, .int .i64 0], .bool false]) ∧ Kd.R k81 81 w' w.heap.size (fun _ => True) v0_ [] ∧ Below w.heap.size w w' := by
  have hu65 := Try.underlying65
  have HS := Aside0.mk (St.start w)
  have h3b : decide (at_ < 0) = true := decide_eq_true h3
  go_enter Try.func54, Try.ntmps54
  go_wp2_with fail
  have h65 : w.heap.size + 1 = (w.alloc (Obj.cells #[Value.slice A l.length c, Value.int IntKind.i64 fr] 65)).heap.size := by show _ = (w.heap.push _).size; rw [Array.size_push]
  have S := (HS.out.alloc #[Value.slice A l.length c, Value.int IntKind.i64 fr] 65).alloc #[Value.slice none 0 0, Value.int IntKind.i64 0] 65
  rw [← h65] at S
  clear h65 HS
  refine (impl_ArenaOk.calls k A c l fr true _ (Kd.C_below hr S.below) hc h1).mono ?_
  rintro e w1 ⟨rfl, hb⟩
  have S := S.step hb
  clear hb
  have HS := Aside0.mk S
  have hc0 := S.at_cell 1 rfl 0 rfl
  have hc1 := S.at_cell 1 rfl 1 rfl
  clear S
  go_wp2_with fail
  refine (impl_Arena_place.calls A c l fr handle at_ _ (Kd.C_below hr HS.out.below) hc h2).mono ?_
  rintro e w2 ⟨rfl, hb⟩
  have S := HS.out.step hb
  clear hb
  clear HS
  have HS := Aside0.mk S
  clear hc0 hc1
  have hc0 := S.at_cell 1 rfl 0 rfl
  have hc1 := S.at_cell 1 rfl 1 rfl
  have hd0 := S.at_cell 0 rfl 0 rfl
  have hd1 := S.at_cell 0 rfl 1 rfl
  have hz0 := S.at_frozen 0 rfl 0
  have hz1 := S.at_frozen 0 rfl 1
  clear S
  go_wp2_with fail
  have S := (HS.out.put 0 (.slice none 0 0) rfl).put 1 (.int .i64 0) rfl
  clear HS hc0 hc1 hd0 hd1 hz0 hz1
  refine bodyPost_ret (results_ct rfl _ _ _ 65 #[.slice none 0 0, .int .i64 0] (0, 0) _ rfl S.head.2 Try.underlying65 rfl (by kernel_rfl)) rfl ?_
  exact ⟨_, rfl, Kd.R_nil _ _ _ _ _, S.below⟩
set_option maxHeartbeats 4000000 in
set_option maxRecDepth 100000 in
theorem lift_main (k : Nat) (A : Option Addr) (c : Nat) (l : List S81) (fr handle : Int) (w : World) (hr : Kd.C k81 w A l.length l) (hc : l.length ≤ c) (h1 : impl_ArenaOk.f k l fr = some true) (at_ : Int) (h2 : impl_Arena_place.f l fr handle = some at_) (h3 : ¬ at_ < 0) (tl : List S81) (tf : Int) (h5 : impl_copyArena.f l fr = some (tl, tf)) (hf1 : at_ < tl.length) (y : S81) (hy : y = ⟨(if wrap64 ((rd_T81 tl at_).f0 + 1) > 41666665 then 0 else wrap64 ((rd_T81 tl at_).f0 + 1)), false, ⟨#[]⟩, ⟨#[]⟩, tf⟩) :
    Calls Try.prog 54 #[.agg #[.slice A l.length c, .int .i64 fr], .int .i64 handle] w fun e w' => ∃ v0_ : Value, e = .returned (.tuple #[.agg #[v0_, .int .i64 at_], .bool true]) ∧ Kd.R k81 81 w' w.heap.size (fun _ => True) v0_ (tl.set at_.toNat y) ∧ Below w.heap.size w w' := by
  have hu65 := Try.underlying65
  have HY := Aside0.mk hy
  clear hy
  have HS := Aside0.mk (St.start w)
  have h3b : decide (at_ < 0) = false := decide_eq_false h3
  go_enter Try.func54, Try.ntmps54
  go_wp2_with fail
  have h65 : w.heap.size + 1 = (w.alloc (Obj.cells #[Value.slice A l.length c, Value.int IntKind.i64 fr] 65)).heap.size := by show _ = (w.heap.push _).size; rw [Array.size_push]
  have S := (HS.out.alloc #[Value.slice A l.length c, Value.int IntKind.i64 fr] 65).alloc #[Value.slice none 0 0, Value.int IntKind.i64 0] 65
  rw [← h65] at S
  clear h65 HS
  refine (impl_ArenaOk.calls k A c l fr true _ (Kd.C_below hr S.below) hc h1).mono ?_
  rintro e w1 ⟨rfl, hb⟩
  have S := S.step hb
  clear hb
  have HS := Aside0.mk S
  have hc0 := S.at_cell 1 rfl 0 rfl
  have hc1 := S.at_cell 1 rfl 1 rfl
  clear S
  go_wp2_with fail
  refine (impl_Arena_place.calls A c l fr handle at_ _ (Kd.C_below hr HS.out.below) hc h2).mono ?_
  rintro e w2 ⟨rfl, hb⟩
  have S := HS.out.step hb
  clear hb
  clear HS
  have HS := Aside0.mk S
  clear hc0 hc1
  have hc0 := S.at_cell 1 rfl 0 rfl
  have hc1 := S.at_cell 1 rfl 1 rfl
  clear S
  go_wp2_with fail
  refine (impl_copyArena.calls A c l fr tl tf _ (Kd.C_below hr HS.out.below) hc h5).mono ?_
  rintro e w3 ⟨v3, rfl, hR, hb⟩
  obtain ⟨g3, c3, rfl, _⟩ := Kd.R_form hR (by omega)
  have S := HS.out.new_row F81.E hb hR
  clear HS hb hR hc0 hc1
  have HS := Aside0.mk S
  clear S
  go_wp2_with fail
  have S := HS.out.alloc #[Value.slice (some ⟨g3, 0, none⟩) tl.length c3, Value.int IntKind.i64 tf] 65
  refine (lift_calls w3.heap.size 0 g3 c3 65 _ tl tf at_ w _ _ S rfl rfl (by omega) hf1).mono ?_
  rintro e w9 ⟨rfl, S⟩
  rw [← HY.out] at S
  clear HS
  have HS := Aside0.mk S
  have hc0 := S.at_cell 0 rfl 0 rfl
  have hc1 := S.at_cell 0 rfl 1 rfl
  have hd0 := S.at_cell 2 rfl 0 rfl
  have hd1 := S.at_cell 2 rfl 1 rfl
  have hz0 := S.at_frozen 2 rfl 0
  have hz1 := S.at_frozen 2 rfl 1
  clear S
  go_wp2_with fail
  have S := ((HS.out.front 2 rfl rfl).put 0 (.slice (some ⟨g3, 0, none⟩) tl.length c3) rfl).put 1 (.int .i64 at_) rfl
  clear HS hc0 hc1 hd0 hd1 hz0 hz1
  refine bodyPost_ret (results_ct rfl _ _ _ 65 #[.slice (some ⟨g3, 0, none⟩) tl.length c3, .int .i64 at_] (0, 0) _ rfl S.head.2 Try.underlying65 rfl (by kernel_rfl)) rfl ?_
  exact ⟨_, rfl, zR (S.at_R 2 rfl) (fun _ _ => trivial), S.below⟩
def impl_Lift.f (k : Nat) (l : List S81) (fr handle : Int) : Option (List S81 × Int × Bool) :=
  (impl_ArenaOk.f k l fr).bind fun a => if a = true then ((impl_Arena_place.f l fr handle).bind fun p => if p < 0 then some ([], 0, false) else ((impl_copyArena.f l fr).bind fun t => if p < (t.1.length : Int) then some (t.1.set p.toNat ⟨(if wrap64 ((rd_T81 t.1 p).f0 + 1) > 41666665 then 0 else wrap64 ((rd_T81 t.1 p).f0 + 1)), false, ⟨#[]⟩, ⟨#[]⟩, t.2⟩, p, true) else none)) else some ([], 0, false)
theorem impl_Lift.mono : ∀ a0 a1 a2 k, LeO (impl_Lift.f k a0 a1 a2) (impl_Lift.f (k + 1) a0 a1 a2) := by
  intro a0 a1 a2 k
  unfold impl_Lift.f
  repeat' first
     |(with_reducible exact impl_ArenaOk.mono _ _ _)
     |(with_reducible exact LeO.refl _)
     |(with_reducible refine LeO.ite ?_ ?_)
     |(with_reducible refine LeO.bind ?_ (fun _ => ?_))
theorem impl_Lift.calls (k : Nat) (A0_0 : Option Addr) (c0_0 : Nat) (l0_0 : List S81) (a0_1 : Int) (a1 : Int) (r1 : List S81) (r2 : Int) (r3 : Bool) (w : World) (hr0_0 : Kd.C k81 w A0_0 l0_0.length l0_0) (hc0_0 : l0_0.length ≤ c0_0) (h : impl_Lift.f k l0_0 a0_1 a1 = some (r1, r2, r3)) :
    Calls Try.prog 54 #[.agg #[.slice A0_0 l0_0.length c0_0, .int .i64 a0_1], .int .i64 a1] w fun e w' => ∃ v0_ : Value, e = .returned (.tuple #[.agg #[v0_, .int .i64 r2], .bool r3]) ∧ Kd.R k81 81 w' w.heap.size (fun _ => True) v0_ r1 ∧ Below w.heap.size w w' := by
  have zz : ∀ {x : Option (List S81 × Int × Bool)} {y1 y2 y3}, x = some (y1, y2, y3) → x = some (r1, r2, r3) → r1 = y1 ∧ r2 = y2 ∧ r3 = y3 := fun e1 e2 => by
    have e := Option.some.inj (e1.symm.trans e2)
    simp only [Prod.mk.injEq] at e
    exact ⟨e.1.symm, e.2.1.symm, e.2.2.symm⟩
  unfold impl_Lift.f at h
  obtain ⟨a, h1, h⟩ := Option.bind_eq_some_iff.mp h
  cases a with
 |false =>
    rw [if_neg (by simp)] at h
    obtain ⟨rfl, rfl, rfl⟩ := zz rfl h
    exact lift_zero1 k A0_0 c0_0 l0_0 a0_1 a1 w hr0_0 hc0_0 h1
 |true =>
    rw [if_pos rfl] at h
    obtain ⟨p, h2, h⟩ := Option.bind_eq_some_iff.mp h
    by_cases h3 : p < 0
    · rw [if_pos h3] at h
      obtain ⟨rfl, rfl, rfl⟩ := zz rfl h
      exact lift_zero2 k A0_0 c0_0 l0_0 a0_1 a1 w hr0_0 hc0_0 h1 _ h2 h3
    rw [if_neg h3] at h
    obtain ⟨⟨tl, tf⟩, h5, h⟩ := Option.bind_eq_some_iff.mp h
    by_cases h6 : p < (tl.length : Int)
    case neg => rw [if_neg h6] at h; cases h
    rw [if_pos h6] at h
    obtain ⟨rfl, rfl, rfl⟩ := zz rfl h
    exact lift_main k A0_0 c0_0 l0_0 a0_1 a1 w hr0_0 hc0_0 h1 _ h2 h3 tl tf h5 h6 _ rfl

/-! ### impl_HandleOf: function 55 -/
def impl_HandleOf.f (k : Nat) (l0_0 : List (S81)) (a0_1 : Int) (a1 : Int) : Option (Int) := (impl_inRange.f a1 0 (wrap64 ((l0_0.length : Int) - 1))).bind fun t293 => (if t293 = true then (if 0 ≤ a1 then (if a1 < (l0_0.length : Int) then (if ((rd_T81 l0_0 a1).f1 = true) then ((impl_ArenaOk.f k l0_0 a0_1).bind fun t295 => (if t295 = true then ((impl_Arena_handle.f l0_0 a0_1 a1).bind fun t296 => (some t296)) else (some (-1)))) else (some (-1))) else (none)) else (none)) else (some (-1)))
theorem impl_HandleOf.mono : ∀ a0 a1 a2 k, LeO (impl_HandleOf.f k a0 a1 a2) (impl_HandleOf.f (k + 1) a0 a1 a2) := by
  intro a0 a1 a2 k
  unfold impl_HandleOf.f
  repeat' first
     |(with_reducible exact impl_ArenaOk.mono _ _ _)
     |(with_reducible exact LeO.refl _)
     |(with_reducible exact LeO.none _)
     |(with_reducible refine LeO.ite ?_ ?_)
     |(with_reducible refine LeO.bind ?_ (fun _ => ?_))
     |exact impl_ArenaOk.mono _ _ _
     |exact LeO.none _
     |refine LeO.ite ?_ ?_
     |refine LeO.bind ?_ (fun _ => ?_)
set_option maxHeartbeats 8000000 in
set_option maxRecDepth 100000 in
theorem impl_HandleOf.calls (k : Nat) (A0_0 : Option Addr) (c0_0 : Nat) (l0_0 : List (S81)) (a0_1 : Int) (a1 : Int) (r : Int) (w : World) (hr0_0 : Kd.C k81 w A0_0 l0_0.length l0_0) (hc0_0 : l0_0.length ≤ c0_0) (h : impl_HandleOf.f k l0_0 a0_1 a1 = some r) :
    Calls Try.prog 55 #[.agg #[.slice A0_0 l0_0.length c0_0, .int .i64 a0_1], .int .i64 a1] w fun e w' => e = .returned (.int .i64 r) ∧ Below w.heap.size w w' := by
  have hu65 := Try.underlying65
  have HR0_0 := Aside0.mk hr0_0
  have HC0_0 := Aside0.mk hc0_0
  clear hr0_0 hc0_0
  have HB := Aside0.mk (Below.refl w.heap.size w)
  have H : ((impl_inRange.f a1 0 (wrap64 ((l0_0.length : Int) - 1))).bind fun t293 => (if t293 = true then (if 0 ≤ a1 then (if a1 < (l0_0.length : Int) then (if ((rd_T81 l0_0 a1).f1 = true) then ((impl_ArenaOk.f k l0_0 a0_1).bind fun t295 => (if t295 = true then ((impl_Arena_handle.f l0_0 a0_1 a1).bind fun t296 => (some t296)) else (some (-1)))) else (some (-1))) else (none)) else (none)) else (some (-1)))) = some r := h
  clear h
  replace H := Option.bind_eq_some_iff.mp H
  obtain ⟨t293, A30, H⟩ := H
  replace H : (if t293 = true then (if 0 ≤ a1 then (if a1 < (l0_0.length : Int) then (if ((rd_T81 l0_0 a1).f1 = true) then ((impl_ArenaOk.f k l0_0 a0_1).bind fun t295 => (if t295 = true then ((impl_Arena_handle.f l0_0 a0_1 a1).bind fun t296 => (some t296)) else (some (-1)))) else (some (-1))) else (none)) else (none)) else (some (-1))) = some r := H
  have A3 := Aside0.mk A30
  clear A30
  go_enter Try.func55, Try.ntmps55
  go_wp2_with (first|((with_reducible refine gate_dst (N := 2) rfl ?_); refine box_event ?hg (N := 2) ?hd (cs := #[.slice A0_0 l0_0.length c0_0, .int .i64 a0_1]) (t := 65) ?hr ?_; (case hd => rfl); (case hg => rfl); (case hr => first|(go_simp; done)|(go_simp; rfl)); intro gb292 hg w12 hbox hb; have n0_ := Aside0.mk (zN (by repeat (first|(with_reducible first|exact HB.out|apply zI|apply zG|apply zH)|exact HB.out)) hb); have n1_ := Aside0.mk (hbox); have n2_ := Aside0.mk ((by rw [hg]; exact (below_size (by repeat (first|(with_reducible first|exact HB.out|apply zI|apply zG|apply zH)|exact HB.out))) : w.heap.size ≤ gb292)); have n3_ := Aside0.mk ((by rw [hg]; exact (below_size (by repeat (first|(with_reducible first|exact HB.out|apply zI|apply zG|apply zH)|exact HB.out))) : w.heap.size ≤ gb292)); clear HB; have HB := n0_; have BK292 := n1_; have GW292 := n2_; have GE292 := n3_; clear n0_ n1_ n2_ n3_; clear hb hbox hg; obtain ⟨hcz13_0, hcz13_1, hfz13_0, hfz13_1⟩ := zb2 BK292.out)|((with_reducible refine gate_callee (f := 76) rfl ?_); refine goesL_ (some 10) rfl rfl Try.func76 (by kernel_rfl) rfl #[.int .i64 a1, .int .i64 0, .int .i64 (wrap64 ((l0_0.length : Int) - 1))] rfl (by (try simp only [List.map_toArray, List.map_cons, List.map_nil]); first|done|rfl|(simp only [List.length_drop, List.length_take]; rfl)) ?_; (with_reducible refine (impl_inRange.calls a1 0 (wrap64 ((l0_0.length : Int) - 1)) t293 _ A3.out).mono ?_); rintro e w' ⟨rfl, ⟨nd, rfl⟩⟩; refine ⟨_, rfl, ?_⟩; (refine Classical.byCases (p := (t293 = true)) (fun c4 => ?zp24) (fun c4 => ?zn24); (case' zn24 => (replace c4 := Bool.eq_false_iff.mpr c4); (subst c4); (have H1 : (some (-1)) = some r := by rw [if_neg (show ¬ (false = true) by decide)] at H; exact H); (clear H); (have H := H1); (clear H1); (obtain rfl := Option.some.inj H)); (case' zp24 => (subst c4); (have H1 : (if 0 ≤ a1 then (if a1 < (l0_0.length : Int) then (if ((rd_T81 l0_0 a1).f1 = true) then ((impl_ArenaOk.f k l0_0 a0_1).bind fun t295 => (if t295 = true then ((impl_Arena_handle.f l0_0 a0_1 a1).bind fun t296 => (some t296)) else (some (-1)))) else (some (-1))) else (none)) else (none)) = some r := by rw [if_pos rfl] at H; exact H); (clear H); (have H := H1); (clear H1); (refine Classical.byCases (p := (0 ≤ a1)) (fun c5 => ?zp23) (fun c5 => ?zn23); (case' zn23 => (rw [if_neg c5] at H); (exact absurd H (by simp))); (case' zp23 => (rw [if_pos c5] at H); (have c5b0 : decide (0 ≤ a1) = true := decide_eq_true c5); (clear c5); (refine Classical.byCases (p := (a1 < (l0_0.length : Int))) (fun c6 => ?zp22) (fun c6 => ?zn22); (case' zn22 => (rw [if_neg c6] at H); (exact absurd H (by simp))); (case' zp22 => (rw [if_pos c6] at H); (have c6b0 : decide (a1 < (l0_0.length : Int)) = true := decide_eq_true c6); (clear c6); (obtain ⟨bq7, hbq7⟩ : ∃ b_ : Bool, b_ = ((rd_T81 l0_0 a1).f1) := ⟨_, rfl⟩); (replace H : (if (bq7 = true) then ((impl_ArenaOk.f k l0_0 a0_1).bind fun t295 => (if t295 = true then ((impl_Arena_handle.f l0_0 a0_1 a1).bind fun t296 => (some t296)) else (some (-1)))) else (some (-1))) = some r := by rw [← hbq7] at H; exact H); (have Nbq7 := Aside0.mk hbq7); (clear hbq7); (refine Classical.byCases (p := ((bq7 = true))) (fun c8 => ?zp21) (fun c8 => ?zn21); (case' zn21 => (replace c8 := Bool.eq_false_iff.mpr c8); (subst c8); (have H1 : (some (-1)) = some r := by rw [if_neg (show ¬ (false = true) by decide)] at H; exact H); (clear H); (have H := H1); (clear H1); (obtain rfl := Option.some.inj H); (have p294 : 0 ≤ (a1 : Int) := of_decide_eq_true (by first|(with_reducible assumption)|assumption)); (have q294 : a1 < (l0_0.length : Int) := of_decide_eq_true (by first|(with_reducible assumption)|assumption)); (obtain ⟨ad294, e294, hx294_0, hx294_1, hx294_2, hx294_3, hx294_4⟩ := at_T81 HR0_0.out a1 p294 q294); ((try rw [← Nbq7.out] at hx294_1)); (cases e294); (replace hx294_0 := (HB.out.cell (World.block_lt_of_cell? w _ hx294_0)).trans hx294_0); (replace hx294_1 := (HB.out.cell (World.block_lt_of_cell? w _ hx294_1)).trans hx294_1); (replace hx294_2 := (HB.out.cell (World.block_lt_of_cell? w _ hx294_2)).trans hx294_2); (replace hx294_3 := (HB.out.cell (World.block_lt_of_cell? w _ hx294_3)).trans hx294_3); (replace hx294_4 := (HB.out.cell (World.block_lt_of_cell? w _ hx294_4)).trans hx294_4); (replace p294 := eq_true p294); (replace q294 := eq_true q294)); (case' zp21 => (subst c8); (have H1 : ((impl_ArenaOk.f k l0_0 a0_1).bind fun t295 => (if t295 = true then ((impl_Arena_handle.f l0_0 a0_1 a1).bind fun t296 => (some t296)) else (some (-1)))) = some r := by rw [if_pos rfl] at H; exact H); (clear H); (have H := H1); (clear H1); (replace H := Option.bind_eq_some_iff.mp H); (obtain ⟨t295, A90, H⟩ := H); (replace H : (if t295 = true then ((impl_Arena_handle.f l0_0 a0_1 a1).bind fun t296 => (some t296)) else (some (-1))) = some r := H); (have A9 := Aside0.mk A90); (clear A90); (have p294 : 0 ≤ (a1 : Int) := of_decide_eq_true (by first|(with_reducible assumption)|assumption); have q294 : a1 < (l0_0.length : Int) := of_decide_eq_true (by first|(with_reducible assumption)|assumption); obtain ⟨ad294, e294, hx294_0, hx294_1, hx294_2, hx294_3, hx294_4⟩ := at_T81 HR0_0.out a1 p294 q294; (try rw [← Nbq7.out] at hx294_1); cases e294; replace hx294_0 := (HB.out.cell (World.block_lt_of_cell? w _ hx294_0)).trans hx294_0; replace hx294_1 := (HB.out.cell (World.block_lt_of_cell? w _ hx294_1)).trans hx294_1; replace hx294_2 := (HB.out.cell (World.block_lt_of_cell? w _ hx294_2)).trans hx294_2; replace hx294_3 := (HB.out.cell (World.block_lt_of_cell? w _ hx294_3)).trans hx294_3; replace hx294_4 := (HB.out.cell (World.block_lt_of_cell? w _ hx294_4)).trans hx294_4; replace p294 := eq_true p294; replace q294 := eq_true q294))))))))))|(go_at_call 52; (with_reducible refine (impl_ArenaOk.calls k _ _ l0_0 a0_1 t295 _ ?side1 ?side2 A9.out).mono ?_); (case side1 => repeat (first|exact (Kd.C_below HR0_0.out (by repeat (first|(with_reducible first|exact HB.out|apply zI|apply zG|apply zH|refine zJ ?_ GE292.out)|exact HB.out)))|(with_reducible refine Kd.C_alloc ?_ _)|(with_reducible refine Kd.C_drewN ?_ _)|(with_reducible refine Kd.C_drew ?_))); (case side2 => exact HC0_0.out); rintro e w14 ⟨rfl, hb⟩; have n0_ := Aside0.mk (zK (g := gb292) (o := .cells #[.slice (some ad294) l0_0.length c0_0, .int .i64 a0_1] 65 (0, 0)) (by (with_reducible repeat (first|refine zA ?_ _|refine zC ?_|refine zB ?_ _)); exact BK292.out) hb); have n1_ := Aside0.mk (zN (by repeat (first|(with_reducible first|exact HB.out|apply zI|apply zG|apply zH|refine zJ ?_ GE292.out)|exact HB.out)) hb); clear BK292; clear HB; have BK292 := n0_; have HB := n1_; clear n0_ n1_; (try clear hb); (try clear hb2); (try clear hk); (try clear hi); obtain ⟨hcz15_0, hcz15_1, hfz15_0, hfz15_1⟩ := zb2 BK292.out; (refine Classical.byCases (p := (t295 = true)) (fun c10 => ?zp20) (fun c10 => ?zn20); (case' zn20 => (replace c10 := Bool.eq_false_iff.mpr c10); (subst c10); (have H1 : (some (-1)) = some r := by rw [if_neg (show ¬ (false = true) by decide)] at H; exact H); (clear H); (have H := H1); (clear H1); (obtain rfl := Option.some.inj H)); (case' zp20 => (subst c10); (have H1 : ((impl_Arena_handle.f l0_0 a0_1 a1).bind fun t296 => (some t296)) = some r := by rw [if_pos rfl] at H; exact H); (clear H); (have H := H1); (clear H1); (replace H := Option.bind_eq_some_iff.mp H); (obtain ⟨t296, A110, H⟩ := H); (replace H : (some t296) = some r := H); (have A11 := Aside0.mk A110); (clear A110); (obtain rfl := Option.some.inj H))))|((with_reducible refine gate_callee (f := 105) rfl ?_); refine goesL_ (some 28) rfl rfl Try.func105 (by kernel_rfl) rfl #[.agg #[.slice (some ad294) l0_0.length c0_0, .int .i64 a0_1], .int .i64 a1] rfl (by (try simp only [List.map_toArray, List.map_cons, List.map_nil]); first|done|rfl|(simp only [List.length_drop, List.length_take]; rfl)) ?_; (with_reducible refine (impl_Arena_handle.calls _ _ l0_0 a0_1 a1 t296 _ ?side1 ?side2 A11.out).mono ?_); (case side1 => repeat (first|exact (Kd.C_below HR0_0.out HB.out)|(with_reducible refine Kd.C_alloc ?_ _)|(with_reducible refine Kd.C_drewN ?_ _)|(with_reducible refine Kd.C_drew ?_))); (case side2 => exact HC0_0.out); rintro e w16 ⟨rfl, hb⟩; refine ⟨_, rfl, ?_⟩; have n0_ := Aside0.mk (zK (g := gb292) (o := .cells #[.slice (some ad294) l0_0.length c0_0, .int .i64 a0_1] 65 (0, 0)) (by (with_reducible repeat (first|refine zA ?_ _|refine zC ?_|refine zB ?_ _)); exact BK292.out) hb); have n1_ := Aside0.mk (zN (by repeat (first|(with_reducible first|exact HB.out|apply zI|apply zG|apply zH|refine zJ ?_ GE292.out)|exact HB.out)) hb); clear BK292; clear HB; have BK292 := n0_; have HB := n1_; clear n0_ n1_; (try clear hb); (try clear hb2); (try clear hk); (try clear hi)))
  · go_ret
    exact ⟨by first|rfl|(simp [errW_none, errW_some] <;> rfl)|(simp [*, errW_none, errW_some] <;> rfl), by repeat (first|(with_reducible first|exact HB.out|apply zI|apply zG|apply zH|refine zJ ?_ GE292.out)|exact HB.out)⟩
  · go_ret
    exact ⟨by first|rfl|(simp [errW_none, errW_some] <;> rfl)|(simp [*, errW_none, errW_some] <;> rfl), by repeat (first|(with_reducible first|exact HB.out|apply zI|apply zG|apply zH|refine zJ ?_ GE292.out)|exact HB.out)⟩
  · go_ret
    exact ⟨by first|rfl|(simp [errW_none, errW_some] <;> rfl)|(simp [*, errW_none, errW_some] <;> rfl), by repeat (first|(with_reducible first|exact HB.out|apply zI|apply zG|apply zH|refine zJ ?_ GE292.out)|exact HB.out)⟩
  · go_ret
    exact ⟨by first|rfl|(simp [errW_none, errW_some] <;> rfl)|(simp [*, errW_none, errW_some] <;> rfl), by repeat (first|(with_reducible first|exact HB.out|apply zI|apply zG|apply zH|refine zJ ?_ GE292.out)|exact HB.out)⟩

/-! ### impl_ArenaNew: function 56 -/
def impl_ArenaNew.l0 : Nat → Int → Int → Int → List (S81) → Int → Option ((List (S81)) × Int × Bool)
 |0, _, _, _, _, _ => none
 |k + 1, x0, x10, x11, x300000, x300001 => if x11 < x10 then (if x300000.length < 2513169434916 then (impl_ArenaNew.l0 k x0 x10 (wrap64 (x11 + 1)) (x300000 ++ [(⟨0, false, (⟨#[]⟩ : ByteArray), (⟨#[]⟩ : ByteArray), wrap64 (x11 + 1)⟩ : S81)]) x300001) else (none)) else (if 0 ≤ (wrap64 (x0 - 1)) then (if (wrap64 (x0 - 1)) < (x300000.length : Int) then (some ((x300000.set ((wrap64 (x0 - 1)) : Int).toNat (⟨(rd_T81 x300000 (wrap64 (x0 - 1))).f0, (rd_T81 x300000 (wrap64 (x0 - 1))).f1, (rd_T81 x300000 (wrap64 (x0 - 1))).f2, (rd_T81 x300000 (wrap64 (x0 - 1))).f3, (-1)⟩ : S81)), x300001, true)) else (none)) else (none))
def impl_ArenaNew.f (k : Nat) (a0 : Int) : Option ((List (S81)) × Int × Bool) := (impl_inRange.f a0 1 24).bind fun t298 => (if t298 = true then (impl_ArenaNew.l0 k a0 a0 0 ([] : List (S81)) 0) else (some (([] : List (S81)), 0, false)))
theorem impl_ArenaNew.mono_l : ∀ k, (∀ y0 y1 y2 y3 y4, LeO (impl_ArenaNew.l0 k y0 y1 y2 y3 y4) (impl_ArenaNew.l0 (k + 1) y0 y1 y2 y3 y4))
 |0 => fun _ _ _ _ _ r h => by simp [impl_ArenaNew.l0] at h
 |k + 1 => by
    have ih0 := impl_ArenaNew.mono_l k
    · intro y0 y1 y2 y3 y4
      unfold impl_ArenaNew.l0
      repeat' first
     |(with_reducible exact ih0 _ _ _ _ _)
     |(with_reducible exact LeO.refl _)
     |(with_reducible exact LeO.none _)
     |(with_reducible refine LeO.ite ?_ ?_)
     |(with_reducible refine LeO.bind ?_ (fun _ => ?_))
     |exact ih0 _ _ _ _ _
     |exact LeO.none _
     |refine LeO.ite ?_ ?_
     |refine LeO.bind ?_ (fun _ => ?_)
theorem impl_ArenaNew.mono : ∀ a0 k, LeO (impl_ArenaNew.f k a0) (impl_ArenaNew.f (k + 1) a0) := by
  intro a0 k
  have ih0 := impl_ArenaNew.mono_l k
  unfold impl_ArenaNew.f
  repeat' first
     |(with_reducible exact ih0 _ _ _ _ _)
     |(with_reducible exact LeO.refl _)
     |(with_reducible exact LeO.none _)
     |(with_reducible refine LeO.ite ?_ ?_)
     |(with_reducible refine LeO.bind ?_ (fun _ => ?_))
     |exact ih0 _ _ _ _ _
     |exact LeO.none _
     |refine LeO.ite ?_ ?_
     |refine LeO.bind ?_ (fun _ => ?_)
set_option maxHeartbeats 8000000 in
set_option maxRecDepth 100000 in
theorem impl_ArenaNew.calls (k : Nat) (a0 : Int) (r1 : List (S81)) (r2 : Int) (r3 : Bool) (w : World) (h : impl_ArenaNew.f k a0 = some (r1, r2, r3)) :
    Calls Try.prog 56 #[.int .i64 a0] w fun e w' => ∃ v0_ : Value, e = .returned (.tuple #[.agg #[v0_, .int .i64 r2], .bool r3]) ∧ Kd.R k81 81 w' w.heap.size (fun _ => True) v0_ r1 ∧ Below w.heap.size w w' := by
  have hu65 := Try.underlying65
  have hu81 := Try.underlying81
  have HB := Aside0.mk (Below.refl w.heap.size w)
  have H : ((impl_inRange.f a0 1 24).bind fun t298 => (if t298 = true then (impl_ArenaNew.l0 k a0 a0 0 ([] : List (S81)) 0) else (some (([] : List (S81)), 0, false)))) = some (r1, r2, r3) := h
  clear h
  replace H := Option.bind_eq_some_iff.mp H
  obtain ⟨t298, A20, H⟩ := H
  replace H : (if t298 = true then (impl_ArenaNew.l0 k a0 a0 0 ([] : List (S81)) 0) else (some (([] : List (S81)), 0, false))) = some (r1, r2, r3) := H
  have A2 := Aside0.mk A20
  clear A20
  by_cases c3 : t298 = true
  · subst c3
    have H1 : (impl_ArenaNew.l0 k a0 a0 0 ([] : List (S81)) 0) = some (r1, r2, r3) := by rw [if_pos rfl] at H; exact H
    clear H
    have H := H1
    clear H1
    have H' := Aside0.mk H
    clear H
    go_enter Try.func56, Try.ntmps56
    go_wp2_with (first|((with_reducible refine gate_dst (N := 2) rfl ?_); refine box_event ?hg (N := 2) ?hd (cs := #[.slice none 0 0, .int .i64 0]) (t := 65) ?hr ?_; (case hd => rfl); (case hg => rfl); (case hr => first|(go_simp; done)|(go_simp; rfl)); intro gb297 hg w4 hbox hb; have n0_ := Aside0.mk (zN (by repeat (first|(with_reducible first|exact HB.out|apply zI|apply zG|apply zH)|exact HB.out)) hb); have n1_ := Aside0.mk (hbox); have n2_ := Aside0.mk ((by rw [hg]; exact (below_size (by repeat (first|(with_reducible first|exact HB.out|apply zI|apply zG|apply zH)|exact HB.out))) : w.heap.size ≤ gb297)); have n3_ := Aside0.mk ((by rw [hg]; exact (below_size (by repeat (first|(with_reducible first|exact HB.out|apply zI|apply zG|apply zH)|exact HB.out))) : w.heap.size ≤ gb297)); clear HB; have HB := n0_; have BK297 := n1_; have GW297 := n2_; have GE297 := n3_; clear n0_ n1_ n2_ n3_; clear hb hbox hg)|((with_reducible refine gate_callee (f := 76) rfl ?_); refine goesL_ (some 7) rfl rfl Try.func76 (by kernel_rfl) rfl #[.int .i64 a0, .int .i64 1, .int .i64 24] rfl (by (try simp only [List.map_toArray, List.map_cons, List.map_nil]); first|done|rfl|(simp only [List.length_drop, List.length_take]; rfl)) ?_; (with_reducible refine (impl_inRange.calls a0 1 24 true _ A2.out).mono ?_); rintro e w' ⟨rfl, ⟨nd, rfl⟩⟩; refine ⟨_, rfl, ?_⟩)|((with_reducible refine gate_dst (N := 4) rfl ?_); refine box_event ?hg (N := 4) ?hd (cs := #[.slice none 0 0, .int .i64 0]) (t := 65) ?hr ?_; (case hd => rfl); (case hg => rfl); (case hr => first|(go_simp; done)|(go_simp; rfl)); intro gb299 hg w5 hbox hb; have n0_ := Aside0.mk (zK (g := gb297) (o := .cells #[.slice none 0 0, .int .i64 0] 65 (0, 0)) (by (with_reducible repeat (first|refine zA ?_ _|refine zC ?_|refine zB ?_ _)); exact BK297.out) hb); have n1_ := Aside0.mk (zN (by repeat (first|(with_reducible first|exact HB.out|apply zI|apply zG|apply zH|refine zJ ?_ GE297.out)|exact HB.out)) hb); have n2_ := Aside0.mk (hbox); have n3_ := Aside0.mk ((by rw [hg]; exact (below_size (by repeat (first|(with_reducible first|exact HB.out|apply zI|apply zG|apply zH|refine zJ ?_ GE297.out)|exact HB.out))) : w.heap.size ≤ gb299)); have n4_ := Aside0.mk ((by rw [hg]; exact (below_size (by repeat (first|(with_reducible first|exact HB.out|apply zI|apply zG|apply zH|refine zJ ?_ GE297.out)|exact HB.out))) : w.heap.size ≤ gb299)); have n5_ := Aside0.mk ((by rw [hg]; exact Nat.ne_of_lt (blk_lt (g := gb297) (o := .cells #[.slice none 0 0, .int .i64 0] 65 (0, 0)) (by (with_reducible repeat (first|refine zA ?_ _|refine zC ?_|refine zB ?_ _)); exact BK297.out)) : gb297 ≠ gb299)); have n6_ := Aside0.mk ((by rw [hg]; exact Nat.ne_of_gt (blk_lt (g := gb297) (o := .cells #[.slice none 0 0, .int .i64 0] 65 (0, 0)) (by (with_reducible repeat (first|refine zA ?_ _|refine zC ?_|refine zB ?_ _)); exact BK297.out)) : gb299 ≠ gb297)); clear BK297; clear HB; have BK297 := n0_; have HB := n1_; have BK299 := n2_; have GW299 := n3_; have GE299 := n4_; have NB297_299 := n5_; have NB299_297 := n6_; clear n0_ n1_ n2_ n3_ n4_ n5_ n6_; clear hb hbox hg))
    go_loopg [11] k (fun kq v11 w' => ∃ (x11_1 : Int) (x300000_1 : List (S81)) (u300000 : Value), v11 = .int .i64 x11_1 ∧ Aside0 (impl_ArenaNew.l0 kq a0 a0 x11_1 x300000_1 0 = some (r1, r2, r3)) ∧ Aside0 (kq ≤ k) ∧ Aside0 (Kd.R k81 81 w' w.heap.size (fun _ => True) u300000 x300000_1) ∧ Aside0 (w'.heap[gb297]? = some (.cells #[(.slice none 0 0), .int .i64 0] 65 (0, 0))) ∧ Aside0 (w'.heap[gb299]? = some (.cells #[u300000, .int .i64 0] 65 (0, 0))) ∧ Aside0 (Below w.heap.size w w'))
    case atStart => exact ⟨(0), (([] : List (S81))), (.slice none 0 0), (by first|rfl|(simp; done)|(simp [*]; done)), H', ⟨Nat.le_refl _⟩, ⟨by first|exact Kd.R_nil _ _ _ _ _|exact Kd.N_nil _ _ _ _ _|exact Kd.V_nil _ _ _ _ _|exact Kd.Q_nil _ _ _ _ _|exact Kd.S_nil _ _ _ _ _⟩, ⟨by (with_reducible repeat (first|refine zA ?_ _|refine zC ?_|refine zB ?_ _)); exact BK297.out⟩, ⟨by (with_reducible repeat (first|refine zA ?_ _|refine zC ?_|refine zB ?_ _)); exact BK299.out⟩, ⟨by repeat (first|(with_reducible first|exact HB.out|apply zI|apply zG|apply zH|refine zJ ?_ GE297.out|refine zJ ?_ GE299.out)|exact HB.out)⟩⟩
    case round =>
      clear H'
      try clear p2
      try clear c3
      try clear c5
      obtain ⟨x11_1, x300000_1, u300000, rfl, HA, HK1, HO_300000, BK297, BK299, HB⟩ := hrel
      cases gk with
     |zero => exact absurd HA.out (by simp [impl_ArenaNew.l0])
     |succ k1 =>
        have H := HA.out
        clear HA
        simp only [impl_ArenaNew.l0] at H
        by_cases c6 : x11_1 < a0
        · rw [if_pos c6] at H
          have c6b0 : decide (x11_1 < a0) = true := decide_eq_true c6
          clear c6
          by_cases c7 : x300000_1.length < 2513169434916
          · rw [if_pos c7] at H
            have LMc7 := Aside0.mk c7
            clear c7
            obtain ⟨y300, hy300⟩ : ∃ y_ : List (S81), y_ = (x300000_1 ++ [(⟨0, false, (⟨#[]⟩ : ByteArray), (⟨#[]⟩ : ByteArray), wrap64 (x11_1 + 1)⟩ : S81)]) := ⟨_, rfl⟩
            replace H : (impl_ArenaNew.l0 k1 a0 a0 (wrap64 (x11_1 + 1)) y300 0) = some (r1, r2, r3) := by first|(rw [hy300]; with_reducible exact H)|(have H2_ := (Option.bind_some _ _).symm.trans H; rw [hy300]; with_reducible exact H2_)|(have H2_ := (Option.bind_some _ _).symm.trans H; with_reducible exact H2_)|with_reducible exact H|(rw [hy300]; exact H)|exact H
            have Ny300 := Aside0.mk hy300
            clear hy300
            have H' := Aside0.mk H
            clear H
            have hnb8 := NB299_297.out
            have hnc8 := NB297_299.out
            obtain ⟨hcz9_0, hcz9_1, hfz9_0, hfz9_1⟩ := zb2 BK299.out
            go_wp2_with (first|((with_reducible refine gate_builtin (b := .append) (xs := #[.tmp 15, .tmp 19]) rfl ?_); at_builtin; refine Kd.R_append k81 (w0 := w) w.heap.size rfl (.tmp 15) (.tmp 19) 63 81 (.agg #[(.int .i64 0), (.bool false), (.string ⟨#[]⟩), (.string ⟨#[]⟩), (.int .i64 0)]) 56 rfl Try.underlying63 info81 rfl (by decide) (by omega) u300000 x300000_1 (⟨0, false, (⟨#[]⟩ : ByteArray), (⟨#[]⟩ : ByteArray), wrap64 (x11_1 + 1)⟩ : S81) [.int .i64 0, .bool false, .string (⟨#[]⟩ : ByteArray), .string (⟨#[]⟩ : ByteArray), .int .i64 (wrap64 (x11_1 + 1))] (fun _ => True) (fun _ => False) rfl rfl ?aP (fun _ hk => hk.elim) ?aF ?aO ?aB ?aS ?aL ?_; (case aP => exact k81_mkM _ _ _ (⟨0, false, (⟨#[]⟩ : ByteArray), (⟨#[]⟩ : ByteArray), wrap64 (x11_1 + 1)⟩ : S81)); (case aB => exact (by repeat (first|(with_reducible first|exact HB.out|apply zI|apply zG|apply zH|refine zJ ?_ GE297.out|refine zJ ?_ GE299.out)|exact HB.out))); (case aF => exact (fun _ _ => trivial)); (case aO => exact (by (with_reducible repeat (first|apply zE|apply zD|apply zF)); exact HO_300000.out)); (case aS => exact (below_size (by repeat (first|(with_reducible first|exact HB.out|apply zI|apply zG|apply zH|refine zJ ?_ GE297.out|refine zJ ?_ GE299.out)|exact HB.out)))); (case aL => have := LMc7.out; omega); intro v301 w10 ho hb hg hat; rw [← Ny300.out] at ho; have n0_ := Aside0.mk (blk_grown (g := gb297) (o := .cells #[.slice none 0 0, .int .i64 0] 65 (0, 0)) (by (with_reducible repeat (first|refine zA ?_ _|refine zC ?_|refine zB ?_ _)); exact BK297.out) hg (Kd.R_ne HO_300000.out BK297.out (by decide))); have n1_ := Aside0.mk (blk_grown (g := gb299) (o := .cells #[u300000, .int .i64 0] 65 (0, 0)) (by (with_reducible repeat (first|refine zA ?_ _|refine zC ?_|refine zB ?_ _)); exact BK299.out) hg (Kd.R_ne HO_300000.out BK299.out (by decide))); have n2_ := Aside0.mk (hb); have n3_ := Aside0.mk (ho); clear BK297; clear BK299; clear HB; clear HO_300000; have BK297 := n0_; have BK299 := n1_; have HB := n2_; have HO302 := n3_; clear n0_ n1_ n2_ n3_; clear ho hb hg hat; obtain ⟨Ao11, co11, eo11⟩ := Kd.R_slice HO302.out; subst eo11; obtain ⟨hcz12_0, hcz12_1, hfz12_0, hfz12_1⟩ := zb2 BK299.out))
            go_roundg k1
            case measure => have := HK1.out; omega
            case rel => exact ⟨(wrap64 (x11_1 + 1)), (y300), (.slice Ao11 y300.length co11), (by first|rfl|(simp; done)|(simp [*]; done)), H', ⟨by have := HK1.out; omega⟩, ⟨by (with_reducible repeat (first|apply zE|apply zD|apply zF)); exact zR (zL (p := ⟨gb299, 0, none⟩) (zQ HO302.out BK299.out (by decide)) (fun _ hk => hk.2) (.slice Ao11 y300.length co11)) (fun _ hk => trivial)⟩, ⟨by (with_reducible repeat (first|refine zA ?_ _|refine zC ?_|refine zB ?_ _)); refine zT ?_ NB297_299.out _; (with_reducible repeat (first|refine zA ?_ _|refine zC ?_|refine zB ?_ _)); exact BK297.out⟩, ⟨by (with_reducible repeat (first|refine zA ?_ _|refine zC ?_|refine zB ?_ _)); refine blk_put (cs := #[u300000, .int .i64 0]) ?_ 0 _ rfl; (with_reducible repeat (first|refine zA ?_ _|refine zC ?_|refine zB ?_ _)); exact BK299.out⟩, ⟨by repeat (first|(with_reducible first|exact HB.out|apply zI|apply zG|apply zH|refine zJ ?_ GE297.out|refine zJ ?_ GE299.out)|exact HB.out)⟩⟩
          · rw [if_neg c7] at H
            exact absurd H (by simp)
        · rw [if_neg c6] at H
          have c6b0 : decide (x11_1 < a0) = false := decide_eq_false c6
          clear c6
          obtain ⟨ji13, hji13⟩ : ∃ j_ : Int, (wrap64 (a0 - 1)) = j_ := ⟨_, rfl⟩
          replace H : (if 0 ≤ (ji13) then (if (ji13) < (x300000_1.length : Int) then (some ((x300000_1.set ((ji13) : Int).toNat (⟨(rd_T81 x300000_1 (ji13)).f0, (rd_T81 x300000_1 (ji13)).f1, (rd_T81 x300000_1 (ji13)).f2, (rd_T81 x300000_1 (ji13)).f3, (-1)⟩ : S81)), 0, true)) else (none)) else (none)) = some (r1, r2, r3) := by first|(rw [hji13] at H; exact H)|(simp only [hji13] at H ⊢; exact H)
          have hji13w : (IntKind.i64.wrap (a0 - 1)) = ji13 := (i64_w _).trans hji13
          by_cases c14 : 0 ≤ (ji13)
          · rw [if_pos c14] at H
            have c14b0 : decide (0 ≤ (ji13)) = true := decide_eq_true c14
            clear c14
            by_cases c15 : (ji13) < (x300000_1.length : Int)
            · rw [if_pos c15] at H
              have c15b0 : decide ((ji13) < (x300000_1.length : Int)) = true := decide_eq_true c15
              clear c15
              obtain ⟨y303, hy303⟩ : ∃ y_ : List (S81), y_ = (x300000_1.set ((ji13) : Int).toNat (⟨(rd_T81 x300000_1 (ji13)).f0, (rd_T81 x300000_1 (ji13)).f1, (rd_T81 x300000_1 (ji13)).f2, (rd_T81 x300000_1 (ji13)).f3, (-1)⟩ : S81)) := ⟨_, rfl⟩
              replace H : (some (y303, 0, true)) = some (r1, r2, r3) := by first|(rw [hy303]; with_reducible exact H)|(have H2_ := (Option.bind_some _ _).symm.trans H; rw [hy303]; with_reducible exact H2_)|(have H2_ := (Option.bind_some _ _).symm.trans H; with_reducible exact H2_)|with_reducible exact H|(rw [hy303]; exact H)|exact H
              have Ny303 := Aside0.mk hy303
              clear hy303
              simp only [Option.some.injEq, Prod.mk.injEq] at H
              obtain ⟨rfl, rfl, rfl⟩ := H
              have hnb17 := NB299_297.out
              have hnc17 := NB297_299.out
              obtain ⟨hcz18_0, hcz18_1, hfz18_0, hfz18_1⟩ := zb2 BK299.out
              have p16 : 0 ≤ ((ji13) : Int) := of_decide_eq_true (by first|(with_reducible assumption)|assumption)
              have q16 : ((ji13) : Int) < ((x300000_1.length : Int) : Int) := of_decide_eq_true (by first|(with_reducible assumption)|assumption)
              obtain ⟨go16, co16, eo16, gb16, gl16, cl16, HG16⟩ := Kd.R_form HO_300000.out (by omega)
              (first|cases eo16|(injection eo16 with ea_ en_ ec_; (first|subst ea_|(injection ea_ with ea_; subst ea_)); subst ec_; clear en_))
              have GB16 := Aside0.mk gb16
              have GG16 := Aside0.mk HG16
              clear gb16 gl16 HG16
              obtain ⟨ce16, hcl16, hM16, hcc16, hfr16⟩ := Kd.R_elem HO_300000.out z81 ((ji13) : Int) p16 q16
              obtain rfl := k81_openM hM16
              have hx16_0 : wr.cell? ⟨go16, ((ji13) : Int).toNat * 5, none⟩ = some (.int .i64 ((rd_T81 x300000_1 (ji13)).f0)) := hcc16 0 _ rfl
              have hx16_1 : wr.cell? ⟨go16, ((ji13) : Int).toNat * 5 + 1, none⟩ = some (.bool ((rd_T81 x300000_1 (ji13)).f1)) := hcc16 1 _ rfl
              have hx16_2 : wr.cell? ⟨go16, ((ji13) : Int).toNat * 5 + 2, none⟩ = some (.string ((rd_T81 x300000_1 (ji13)).f2)) := hcc16 2 _ rfl
              have hx16_3 : wr.cell? ⟨go16, ((ji13) : Int).toNat * 5 + 3, none⟩ = some (.string ((rd_T81 x300000_1 (ji13)).f3)) := hcc16 3 _ rfl
              have hx16_4 : wr.cell? ⟨go16, ((ji13) : Int).toNat * 5 + 4, none⟩ = some (.int .i64 ((rd_T81 x300000_1 (ji13)).f4)) := hcc16 4 _ rfl
              have hf16_0 : wr.frozen? ⟨go16, ((ji13) : Int).toNat * 5, none⟩ = false := hfr16 0
              have hf16_1 : wr.frozen? ⟨go16, ((ji13) : Int).toNat * 5 + 1, none⟩ = false := hfr16 1
              have hf16_2 : wr.frozen? ⟨go16, ((ji13) : Int).toNat * 5 + 2, none⟩ = false := hfr16 2
              have hf16_3 : wr.frozen? ⟨go16, ((ji13) : Int).toNat * 5 + 3, none⟩ = false := hfr16 3
              have hf16_4 : wr.frozen? ⟨go16, ((ji13) : Int).toNat * 5 + 4, none⟩ = false := hfr16 4
              clear hcl16 hcc16 hfr16 hM16
              replace p16 := eq_true p16
              replace q16 := eq_true q16
              have HX19 := Aside0.mk (show Kd.R k81 81 wr w.heap.size (fun _ => True) (.slice (some ⟨go16, 0, none⟩) x300000_1.length co16) x300000_1 from (by (with_reducible repeat (first|apply zE|apply zD|apply zF)); exact HO_300000.out))
              obtain ⟨ce19, hcl19, hM19, hcc19, hfr19⟩ := Kd.R_elem HX19.out z81 ((ji13) : Int) (of_decide_eq_true (by first|(with_reducible assumption)|assumption)) (by have h_ : ((ji13) : Int) < ((x300000_1.length : Int) : Int) := of_decide_eq_true (by first|(with_reducible assumption)|assumption); first|exact h_|(have e_ := (Kd.R_reads' HO_300000.out).1; omega)|simpa using h_)
              obtain rfl := k81_openM hM19
              have HP19 := Kd.R_seg HX19.out ((ji13) : Int) (of_decide_eq_true (by first|(with_reducible assumption)|assumption)) (by have h_ : ((ji13) : Int) < ((x300000_1.length : Int) : Int) := of_decide_eq_true (by first|(with_reducible assumption)|assumption); first|exact h_|(have e_ := (Kd.R_reads' HO_300000.out).1; omega)|simpa using h_) (seg := [.int .i64 (-1)]) (j := 4) hcl19 hcc19 (show 5 ≤ 5 from by decide) (x' := (⟨(rd_T81 x300000_1 (ji13)).f0, (rd_T81 x300000_1 (ji13)).f1, (rd_T81 x300000_1 (ji13)).f2, (rd_T81 x300000_1 (ji13)).f3, (-1)⟩ : S81)) (k81_mkM _ _ _ (⟨(rd_T81 x300000_1 (ji13)).f0, (rd_T81 x300000_1 (ji13)).f1, (rd_T81 x300000_1 (ji13)).f2, (rd_T81 x300000_1 (ji13)).f3, (-1)⟩ : S81) ) (fun _ hk => hk)
              have hx19_4 := hcc19 4 _ rfl
              (try simp only [show (k81).sz = 5 from rfl, Nat.mul_one, Nat.add_zero] at hx19_4)
              have hf19_4 := hfr19 4
              (try simp only [show (k81).sz = 5 from rfl, Nat.mul_one, Nat.add_zero] at hf19_4)
              clear hcl19 hcc19 hfr19 hM19
              go_wp2_with (first|((with_reducible refine gate_store (t := 3) (p := 28) rfl ?_); refine store_event (t := 3) (p := 28) (v := ?vo_w20) (w1 := (wr.setCell ⟨go16, ((ji13) : Int).toNat * 5 + 4, none⟩ (.int .i64 (-1)))) ?hg ?ho ?hn ?hr ?_; (case ho => rfl); (case hg => rfl); (case hn => rfl); (case hr => first|(go_simp; done)|(go_simp; rfl)); intro w20 hw; have hg : wr.grownBy w20 (some go16) := (by rw [hw]; exact HP19.2); have hp_ : Kd.R k81 81 w20 w.heap.size (fun _ => True) (.slice (some ⟨go16, 0, none⟩) x300000_1.length co16) y303 := (by rw [hw, Ny303.out]; exact HP19.1); clear HP19; have n0_ := Aside0.mk (hp_); have n1_ := Aside0.mk (blk_grown (g := gb297) (o := .cells #[.slice none 0 0, .int .i64 0] 65 (0, 0)) (by (with_reducible repeat (first|refine zA ?_ _|refine zC ?_|refine zB ?_ _)); exact BK297.out) hg (Kd.R_ne HO_300000.out BK297.out (by decide))); have n2_ := Aside0.mk (blk_grown (g := gb299) (o := .cells #[.slice (some ⟨go16, 0, none⟩) x300000_1.length co16, .int .i64 0] 65 (0, 0)) (by (with_reducible repeat (first|refine zA ?_ _|refine zC ?_|refine zB ?_ _)); exact BK299.out) hg (Kd.R_ne HO_300000.out BK299.out (by decide))); have n3_ := Aside0.mk ((by rw [hw]; exact zJ (HB.out) GB16.out : Below w.heap.size w w20)); clear HO_300000; clear BK297; clear BK299; clear HB; have HO_300000 := n0_; have BK297 := n1_; have BK299 := n2_; have HB := n3_; clear n0_ n1_ n2_ n3_; clear hg hw hp_; obtain ⟨hcz21_0, hcz21_1, hfz21_0, hfz21_1⟩ := zb2 BK299.out; obtain ⟨hcz22_0, hcz22_1, hfz22_0, hfz22_1⟩ := zb2 BK297.out))
              refine bodyPost_ret (results_ct rfl _ _ gb297 65 #[.slice (some ⟨go16, 0, none⟩) x300000_1.length co16, .int .i64 0] (0, 0) _ rfl (by (with_reducible repeat (first|refine zA ?_ _|refine zC ?_|refine zB ?_ _)); refine blk_put (cs := #[.slice (some ⟨go16, 0, none⟩) x300000_1.length co16, .int .i64 0]) ?_ 1 _ rfl; (with_reducible repeat (first|refine zA ?_ _|refine zC ?_|refine zB ?_ _)); refine blk_put (cs := #[.slice none 0 0, .int .i64 0]) ?_ 0 _ rfl; (with_reducible repeat (first|refine zA ?_ _|refine zC ?_|refine zB ?_ _)); exact BK297.out) Try.underlying65 rfl (by kernel_rfl)) rfl ?_
              exact ⟨_, by first|rfl|(simp [errW_none, errW_some] <;> rfl)|(simp only [← hji13]; first|rfl|(simp [errW_none, errW_some] <;> rfl))|(simp [*, errW_none, errW_some] <;> rfl), by (with_reducible repeat (first|apply zE|apply zD|apply zF)); exact zR (zL (p := ⟨gb297, 1, none⟩) (zL (p := ⟨gb297, 0, none⟩) (zQ HO_300000.out BK297.out (by decide)) (fun _ hk => hk.2) (.slice (some ⟨go16, 0, none⟩) x300000_1.length co16)) (fun _ hk => hk.2) (.int .i64 0)) (fun _ hk => trivial), by repeat (first|(with_reducible first|exact HB.out|apply zI|apply zG|apply zH|refine zJ ?_ GE297.out|refine zJ ?_ GE299.out)|exact HB.out)⟩
            · rw [if_neg c15] at H
              exact absurd H (by simp)
          · rw [if_neg c14] at H
            exact absurd H (by simp)
  · replace c3 := Bool.eq_false_iff.mpr c3
    subst c3
    have H1 : (some (([] : List (S81)), 0, false)) = some (r1, r2, r3) := by rw [if_neg (show ¬ (false = true) by decide)] at H; exact H
    clear H
    have H := H1
    clear H1
    simp only [Option.some.injEq, Prod.mk.injEq] at H
    obtain ⟨rfl, rfl, rfl⟩ := H
    go_enter Try.func56, Try.ntmps56
    go_wp2_with (first|((with_reducible refine gate_dst (N := 2) rfl ?_); refine box_event ?hg (N := 2) ?hd (cs := #[.slice none 0 0, .int .i64 0]) (t := 65) ?hr ?_; (case hd => rfl); (case hg => rfl); (case hr => first|(go_simp; done)|(go_simp; rfl)); intro gb297 hg w23 hbox hb; have n0_ := Aside0.mk (zN (by repeat (first|(with_reducible first|exact HB.out|apply zI|apply zG|apply zH)|exact HB.out)) hb); have n1_ := Aside0.mk (hbox); have n2_ := Aside0.mk ((by rw [hg]; exact (below_size (by repeat (first|(with_reducible first|exact HB.out|apply zI|apply zG|apply zH)|exact HB.out))) : w.heap.size ≤ gb297)); have n3_ := Aside0.mk ((by rw [hg]; exact (below_size (by repeat (first|(with_reducible first|exact HB.out|apply zI|apply zG|apply zH)|exact HB.out))) : w.heap.size ≤ gb297)); clear HB; have HB := n0_; have BK297 := n1_; have GW297 := n2_; have GE297 := n3_; clear n0_ n1_ n2_ n3_; clear hb hbox hg)|((with_reducible refine gate_callee (f := 76) rfl ?_); refine goesL_ (some 7) rfl rfl Try.func76 (by kernel_rfl) rfl #[.int .i64 a0, .int .i64 1, .int .i64 24] rfl (by (try simp only [List.map_toArray, List.map_cons, List.map_nil]); first|done|rfl|(simp only [List.length_drop, List.length_take]; rfl)) ?_; (with_reducible refine (impl_inRange.calls a0 1 24 false _ A2.out).mono ?_); rintro e w' ⟨rfl, ⟨nd, rfl⟩⟩; refine ⟨_, rfl, ?_⟩; (try (rw [drewN_self w23]; generalize hq_ : World.drewN w23 _ = w23; have n0_ : Aside0 (w23.heap[gb297]? = some (.cells #[.slice none 0 0, .int .i64 0] 65 (0, 0))) := ⟨by rw [← hq_]; exact (by (with_reducible repeat (first|refine zA ?_ _|refine zC ?_|refine zB ?_ _)); exact BK297.out)⟩; have n1_ : Aside0 (Below w.heap.size w w23) := ⟨by rw [← hq_]; exact (by repeat (first|(with_reducible first|exact HB.out|apply zI|apply zG|apply zH|refine zJ ?_ GE297.out)|exact HB.out))⟩; clear BK297 HB hq_; have BK297 := n0_; have HB := n1_; clear n0_ n1_)); obtain ⟨hcz24_0, hcz24_1, hfz24_0, hfz24_1⟩ := zb2 BK297.out))
    refine bodyPost_ret (results_ct rfl _ _ gb297 65 #[.slice none 0 0, .int .i64 0] (0, 0) _ rfl (by (with_reducible repeat (first|refine zA ?_ _|refine zC ?_|refine zB ?_ _)); refine blk_put (cs := #[.slice none 0 0, .int .i64 0]) ?_ 1 _ rfl; (with_reducible repeat (first|refine zA ?_ _|refine zC ?_|refine zB ?_ _)); refine blk_put (cs := #[.slice none 0 0, .int .i64 0]) ?_ 0 _ rfl; (with_reducible repeat (first|refine zA ?_ _|refine zC ?_|refine zB ?_ _)); exact BK297.out) Try.underlying65 rfl (by kernel_rfl)) rfl ?_
    exact ⟨_, by first|rfl|(simp [errW_none, errW_some] <;> rfl)|(simp [*, errW_none, errW_some] <;> rfl), by first|exact Kd.R_nil _ _ _ _ _|exact Kd.N_nil _ _ _ _ _|exact Kd.V_nil _ _ _ _ _|exact Kd.Q_nil _ _ _ _ _|exact Kd.S_nil _ _ _ _ _, by repeat (first|(with_reducible first|exact HB.out|apply zI|apply zG|apply zH|refine zJ ?_ GE297.out)|exact HB.out)⟩

end Go.Proofs.Ytjiekmbonmbhlaa.GFnLifts
