/- Walks of the law's callees: over a tool's print, with fewer blanks. -/
import Derived.Test.YtocgakpicmcemaaQFnExactHearNotex0
import Derived.Test.YtocgakpicmcemaaQFnExactHearNotex3
namespace Go.Proofs.Ytocgakpicmcemaa.PFnExactHearNote
open Go.RowKit Go.Proofs.YtocgakpicmcemaaW.PrintWords Go.Proofs.YtocgakpicmcemaaW.PrintLast Go.Proofs.YtocgakpicmcemaaW.PrintMore
attribute [local go_sem] max2_int min2_int max_two min_two max_three min_three max_four min_four   -- for this text's walks alone
set_option linter.unusedVariables false
set_option linter.unusedSimpArgs false

/-! ### impl_HearNote: function 49 -/
mutual
def impl_HearNote.j0 : Nat → Bool → Int → Int → ByteArray → Int → Int → Int → Int → Int → ByteArray → Option (Int × Int × ByteArray × Int × Int × Int × Int × Int × ByteArray × Bool)
 | 0,_,_,_,_,_,_,_,_,_,_ => none
 | k + 1,x22,x124000,x124001,x124002,x125000,x125001,x125002,x125003,x125004,x125005 => if x22 = true then (some (x124000,x124001,x124002,0,0,0,0,0,(⟨#[]⟩ : ByteArray),false)) else (if x125000 = 1 then (impl_HearNote.j1 k (decide (x125003 > x124000)) x124000 x124001 x124002 x125000 x125001 x125002 x125003 x125004 x125005 0 x125002 x125001 x125003 0 (⟨#[]⟩ : ByteArray)) else (impl_HearNote.j1 k false x124000 x124001 x124002 x125000 x125001 x125002 x125003 x125004 x125005 0 x125002 x125001 x125003 0 (⟨#[]⟩ : ByteArray)))
def impl_HearNote.j1 : Nat → Bool → Int → Int → ByteArray → Int → Int → Int → Int → Int → ByteArray → Int → Int → Int → Int → Int → ByteArray → Option (Int × Int × ByteArray × Int × Int × Int × Int × Int × ByteArray × Bool)
 | 0,_,_,_,_,_,_,_,_,_,_,_,_,_,_,_,_ => none
 | k + 1,x34,x124000,x124001,x124002,x125000,x125001,x125002,x125003,x125004,x125005,x130000,x130001,x130002,x130003,x130004,x130005 => if x34 = true then (some (x125003,x124001,x124002,2,x130001,x130002,x130003,x124001,x124002,true)) else (if x125000 = 3 then (if x125003 ≥ x124000 then (some (x125003,x125003,x125005,4,x130001,x130002,x130003,x130004,x125005,true)) else (some (x124000,x124001,x124002,0,0,0,0,0,(⟨#[]⟩ : ByteArray),false))) else (some (x124000,x124001,x124002,0,0,0,0,0,(⟨#[]⟩ : ByteArray),false)))
end
def impl_HearNote.f (k : Nat) (a0_0 : Int) (a0_1 : Int) (a0_2 : ByteArray) (a1_0 : Int) (a1_1 : Int) (a1_2 : Int) (a1_3 : Int) (a1_4 : Int) (a1_5 : ByteArray) : Option (Int × Int × ByteArray × Int × Int × Int × Int × Int × ByteArray × Bool) := (impl_inRange.f a1_3 1 10000).bind fun t127 => (if t127 = true then (if (a1_5.size : Int) > 40 then (impl_HearNote.j0 k true a0_0 a0_1 a0_2 a1_0 a1_1 a1_2 a1_3 a1_4 a1_5) else ((impl_VoiceOk.f a0_0 a0_1 a0_2).bind fun t128 => (impl_HearNote.j0 k (!t128) a0_0 a0_1 a0_2 a1_0 a1_1 a1_2 a1_3 a1_4 a1_5))) else (impl_HearNote.j0 k true a0_0 a0_1 a0_2 a1_0 a1_1 a1_2 a1_3 a1_4 a1_5))
theorem impl_HearNote.mono_l : ∀ k,(∀ y0 y1 y2 y3 y4 y5 y6 y7 y8 y9,LeO (impl_HearNote.j0 k y0 y1 y2 y3 y4 y5 y6 y7 y8 y9) (impl_HearNote.j0 (k + 1) y0 y1 y2 y3 y4 y5 y6 y7 y8 y9)) ∧ (∀ y0 y1 y2 y3 y4 y5 y6 y7 y8 y9 y10 y11 y12 y13 y14 y15,LeO (impl_HearNote.j1 k y0 y1 y2 y3 y4 y5 y6 y7 y8 y9 y10 y11 y12 y13 y14 y15) (impl_HearNote.j1 (k + 1) y0 y1 y2 y3 y4 y5 y6 y7 y8 y9 y10 y11 y12 y13 y14 y15))
 | 0 => ⟨fun _ _ _ _ _ _ _ _ _ _ r h => by simp [impl_HearNote.j0] at h,fun _ _ _ _ _ _ _ _ _ _ _ _ _ _ _ _ r h => by simp [impl_HearNote.j1] at h⟩
 | k + 1 => by
  obtain ⟨ih0,ih1⟩ := impl_HearNote.mono_l k
  refine ⟨?_,?_⟩
  ·intro y0 y1 y2 y3 y4 y5 y6 y7 y8 y9
   unfold impl_HearNote.j0
   repeat' first
   | (with_reducible exact ih0 _ _ _ _ _ _ _ _ _ _)
   | (with_reducible exact ih1 _ _ _ _ _ _ _ _ _ _ _ _ _ _ _ _)
   | (with_reducible exact LeO.refl _)
   | (with_reducible exact LeO.none _)
   | (with_reducible refine LeO.ite ?_ ?_)
   | (with_reducible refine LeO.bind ?_ (fun _ => ?_))
   | exact ih0 _ _ _ _ _ _ _ _ _ _
   | exact ih1 _ _ _ _ _ _ _ _ _ _ _ _ _ _ _ _
   | exact LeO.none _
   | refine LeO.ite ?_ ?_
   | refine LeO.bind ?_ (fun _ => ?_)
  ·intro y0 y1 y2 y3 y4 y5 y6 y7 y8 y9 y10 y11 y12 y13 y14 y15
   unfold impl_HearNote.j1
   repeat' first
   | (with_reducible exact ih0 _ _ _ _ _ _ _ _ _ _)
   | (with_reducible exact ih1 _ _ _ _ _ _ _ _ _ _ _ _ _ _ _ _)
   | (with_reducible exact LeO.refl _)
   | (with_reducible exact LeO.none _)
   | (with_reducible refine LeO.ite ?_ ?_)
   | (with_reducible refine LeO.bind ?_ (fun _ => ?_))
   | exact ih0 _ _ _ _ _ _ _ _ _ _
   | exact ih1 _ _ _ _ _ _ _ _ _ _ _ _ _ _ _ _
   | exact LeO.none _
   | refine LeO.ite ?_ ?_
   | refine LeO.bind ?_ (fun _ => ?_)
theorem impl_HearNote.mono : ∀ a0 a1 a2 a3 a4 a5 a6 a7 a8 k,LeO (impl_HearNote.f k a0 a1 a2 a3 a4 a5 a6 a7 a8) (impl_HearNote.f (k + 1) a0 a1 a2 a3 a4 a5 a6 a7 a8) := by
 intro a0 a1 a2 a3 a4 a5 a6 a7 a8 k
 obtain ⟨ih0,ih1⟩ := impl_HearNote.mono_l k
 unfold impl_HearNote.f
 repeat' first
   | (with_reducible exact ih0 _ _ _ _ _ _ _ _ _ _)
   | (with_reducible exact ih1 _ _ _ _ _ _ _ _ _ _ _ _ _ _ _ _)
   | (with_reducible exact LeO.refl _)
   | (with_reducible exact LeO.none _)
   | (with_reducible refine LeO.ite ?_ ?_)
   | (with_reducible refine LeO.bind ?_ (fun _ => ?_))
   | exact ih0 _ _ _ _ _ _ _ _ _ _
   | exact ih1 _ _ _ _ _ _ _ _ _ _ _ _ _ _ _ _
   | exact LeO.none _
   | refine LeO.ite ?_ ?_
   | refine LeO.bind ?_ (fun _ => ?_)
def impl_HearNote.T6 : Bool × List (List Nat × List Nat) := (true,[([],[]),([0],[0]),([],[]),([2],[2]),([],[]),([4],[4]),([0,1,4,5],[]),([6,1,5,0,1,4,5],[1,6]),([0,1,2,3,4,5,6,7],[]),([8,3,7,0,1,2,3,4,5,6,7],[3,8])])
def impl_HearNote.B6 : List Nat := [0,1,0,4,0,16,51,115,255,511]
theorem impl_HearNote.tab6 : rtab .any (opsOf Try.f49 6) = impl_HearNote.T6 := by kernel_rfl
theorem impl_HearNote.bits6 : waitsOk impl_HearNote.T6.2 impl_HearNote.B6 = true := by kernel_rfl
set_option maxHeartbeats 8000000 in
set_option maxRecDepth 100000 in
theorem impl_HearNote.calls (k : Nat) (a0_0 : Int) (a0_1 : Int) (a0_2 : ByteArray) (a1_0 : Int) (a1_1 : Int) (a1_2 : Int) (a1_3 : Int) (a1_4 : Int) (a1_5 : ByteArray) (r1 : Int) (r2 : Int) (r3 : ByteArray) (r4 : Int) (r5 : Int) (r6 : Int) (r7 : Int) (r8 : Int) (r9 : ByteArray) (r10 : Bool) (w : World) (h : impl_HearNote.f k a0_0 a0_1 a0_2 a1_0 a1_1 a1_2 a1_3 a1_4 a1_5 = some (r1,r2,r3,r4,r5,r6,r7,r8,r9,r10)) :
  Calls Try.prog 49 #[.agg #[.int .i64 a0_0,.int .i64 a0_1,.string a0_2],.agg #[.int .i64 a1_0,.int .i64 a1_1,.int .i64 a1_2,.int .i64 a1_3,.int .i64 a1_4,.string a1_5]] w fun e w' => e = .returned (.tuple #[.agg #[.int .i64 r1,.int .i64 r2,.string r3],.agg #[.int .i64 r4,.int .i64 r5,.int .i64 r6,.int .i64 r7,.int .i64 r8,.string r9],.bool r10]) ∧ Below w.heap.size w w' := by
 have hu67 := Try.underlying67
 have hu61 := Try.underlying61
 have HB := Aside0.mk (Below.refl w.heap.size w)
 have H : ((impl_inRange.f a1_3 1 10000).bind fun t127 => (if t127 = true then (if (a1_5.size : Int) > 40 then (impl_HearNote.j0 k true a0_0 a0_1 a0_2 a1_0 a1_1 a1_2 a1_3 a1_4 a1_5) else ((impl_VoiceOk.f a0_0 a0_1 a0_2).bind fun t128 => (impl_HearNote.j0 k (!t128) a0_0 a0_1 a0_2 a1_0 a1_1 a1_2 a1_3 a1_4 a1_5))) else (impl_HearNote.j0 k true a0_0 a0_1 a0_2 a1_0 a1_1 a1_2 a1_3 a1_4 a1_5))) = some (r1,r2,r3,r4,r5,r6,r7,r8,r9,r10) := h
 clear h
 have HC3 := Aside0.mk H
 clear H
 go_enter Try.func49,Try.ntmps49
 go_upto_region 1 with (first|((with_reducible refine gate_dst (N := 2) rfl ?_);(try (refine gate_guard (by rfl) ?_;dsimp only));refine box_event ?hg (N := 2) ?hd (cs := #[.int .i64 a0_0,.int .i64 a0_1,.string a0_2]) (t := 67) ?hr ?_;(case hd => rfl);(case hg => rfl);(case hr => first|(go_simp;done)|(go_simp;rfl));intro gb123 hg w4 hbox hb;have n0_ := Aside0.mk (below_step (by repeat (first|(with_reducible first|exact HB.out|apply below_alloc|apply pw_below_drewN|apply below_drew1)|exact HB.out)) hb);have n1_ := Aside0.mk (hbox);have n2_ := Aside0.mk ((by rw [hg];exact (below_size (by repeat (first|(with_reducible first|exact HB.out|apply below_alloc|apply pw_below_drewN|apply below_drew1)|exact HB.out))) : w.heap.size ≤ gb123));have n3_ := Aside0.mk ((by rw [hg];exact (below_size (by repeat (first|(with_reducible first|exact HB.out|apply below_alloc|apply pw_below_drewN|apply below_drew1)|exact HB.out))) : w.heap.size ≤ gb123));clear HB;have HB := n0_;have BK123 := n1_;have GW123 := n2_;have GE123 := n3_;clear n0_ n1_ n2_ n3_;clear hb hbox hg)|((with_reducible refine gate_dst (N := 3) rfl ?_);(try (refine gate_guard (by rfl) ?_;dsimp only));refine box_event ?hg (N := 3) ?hd (cs := #[.int .i64 a1_0,.int .i64 a1_1,.int .i64 a1_2,.int .i64 a1_3,.int .i64 a1_4,.string a1_5]) (t := 61) ?hr ?_;(case hd => rfl);(case hg => rfl);(case hr => first|(go_simp;done)|(go_simp;rfl));intro gb124 hg w5 hbox hb;have n0_ := Aside0.mk (blk_below (g := gb123) (o := .cells #[.int .i64 a0_0,.int .i64 a0_1,.string a0_2] 67 (0,0)) (by (with_reducible repeat (first|refine blk_drewN ?_ _|refine blk_drew ?_|refine blk_alloc ?_ _));exact BK123.out) hb);have n1_ := Aside0.mk (below_step (by repeat (first|(with_reducible first|exact HB.out|apply below_alloc|apply pw_below_drewN|apply below_drew1|refine below_set ?_ GE123.out)|exact HB.out)) hb);have n2_ := Aside0.mk (hbox);have n3_ := Aside0.mk ((by rw [hg];exact (below_size (by repeat (first|(with_reducible first|exact HB.out|apply below_alloc|apply pw_below_drewN|apply below_drew1|refine below_set ?_ GE123.out)|exact HB.out))) : w.heap.size ≤ gb124));have n4_ := Aside0.mk ((by rw [hg];exact (below_size (by repeat (first|(with_reducible first|exact HB.out|apply below_alloc|apply pw_below_drewN|apply below_drew1|refine below_set ?_ GE123.out)|exact HB.out))) : w.heap.size ≤ gb124));have n5_ := Aside0.mk ((by rw [hg];exact Nat.ne_of_lt (blk_lt (g := gb123) (o := .cells #[.int .i64 a0_0,.int .i64 a0_1,.string a0_2] 67 (0,0)) (by (with_reducible repeat (first|refine blk_drewN ?_ _|refine blk_drew ?_|refine blk_alloc ?_ _));exact BK123.out)) : gb123 ≠ gb124));have n6_ := Aside0.mk ((by rw [hg];exact Nat.ne_of_gt (blk_lt (g := gb123) (o := .cells #[.int .i64 a0_0,.int .i64 a0_1,.string a0_2] 67 (0,0)) (by (with_reducible repeat (first|refine blk_drewN ?_ _|refine blk_drew ?_|refine blk_alloc ?_ _));exact BK123.out)) : gb124 ≠ gb123));clear BK123;clear HB;have BK123 := n0_;have HB := n1_;have BK124 := n2_;have GW124 := n3_;have GE124 := n4_;have NB123_124 := n5_;have NB124_123 := n6_;clear n0_ n1_ n2_ n3_ n4_ n5_ n6_;clear hb hbox hg)|((with_reducible refine gate_dst (N := 4) rfl ?_);(try (refine gate_guard (by rfl) ?_;dsimp only));refine box_event ?hg (N := 4) ?hd (cs := #[.int .i64 0,.int .i64 0,.string (⟨#[]⟩ : ByteArray)]) (t := 67) ?hr ?_;(case hd => rfl);(case hg => rfl);(case hr => first|(go_simp;done)|(go_simp;rfl));intro gb125 hg w6 hbox hb;have n0_ := Aside0.mk (blk_below (g := gb123) (o := .cells #[.int .i64 a0_0,.int .i64 a0_1,.string a0_2] 67 (0,0)) (by (with_reducible repeat (first|refine blk_drewN ?_ _|refine blk_drew ?_|refine blk_alloc ?_ _));exact BK123.out) hb);have n1_ := Aside0.mk (blk_below (g := gb124) (o := .cells #[.int .i64 a1_0,.int .i64 a1_1,.int .i64 a1_2,.int .i64 a1_3,.int .i64 a1_4,.string a1_5] 61 (0,0)) (by (with_reducible repeat (first|refine blk_drewN ?_ _|refine blk_drew ?_|refine blk_alloc ?_ _));exact BK124.out) hb);have n2_ := Aside0.mk (below_step (by repeat (first|(with_reducible first|exact HB.out|apply below_alloc|apply pw_below_drewN|apply below_drew1|refine below_set ?_ GE123.out|refine below_set ?_ GE124.out)|exact HB.out)) hb);have n3_ := Aside0.mk (hbox);have n4_ := Aside0.mk ((by rw [hg];exact (below_size (by repeat (first|(with_reducible first|exact HB.out|apply below_alloc|apply pw_below_drewN|apply below_drew1|refine below_set ?_ GE123.out|refine below_set ?_ GE124.out)|exact HB.out))) : w.heap.size ≤ gb125));have n5_ := Aside0.mk ((by rw [hg];exact (below_size (by repeat (first|(with_reducible first|exact HB.out|apply below_alloc|apply pw_below_drewN|apply below_drew1|refine below_set ?_ GE123.out|refine below_set ?_ GE124.out)|exact HB.out))) : w.heap.size ≤ gb125));have n6_ := Aside0.mk ((by rw [hg];exact Nat.ne_of_lt (blk_lt (g := gb123) (o := .cells #[.int .i64 a0_0,.int .i64 a0_1,.string a0_2] 67 (0,0)) (by (with_reducible repeat (first|refine blk_drewN ?_ _|refine blk_drew ?_|refine blk_alloc ?_ _));exact BK123.out)) : gb123 ≠ gb125));have n7_ := Aside0.mk ((by rw [hg];exact Nat.ne_of_gt (blk_lt (g := gb123) (o := .cells #[.int .i64 a0_0,.int .i64 a0_1,.string a0_2] 67 (0,0)) (by (with_reducible repeat (first|refine blk_drewN ?_ _|refine blk_drew ?_|refine blk_alloc ?_ _));exact BK123.out)) : gb125 ≠ gb123));have n8_ := Aside0.mk ((by rw [hg];exact Nat.ne_of_lt (blk_lt (g := gb124) (o := .cells #[.int .i64 a1_0,.int .i64 a1_1,.int .i64 a1_2,.int .i64 a1_3,.int .i64 a1_4,.string a1_5] 61 (0,0)) (by (with_reducible repeat (first|refine blk_drewN ?_ _|refine blk_drew ?_|refine blk_alloc ?_ _));exact BK124.out)) : gb124 ≠ gb125));have n9_ := Aside0.mk ((by rw [hg];exact Nat.ne_of_gt (blk_lt (g := gb124) (o := .cells #[.int .i64 a1_0,.int .i64 a1_1,.int .i64 a1_2,.int .i64 a1_3,.int .i64 a1_4,.string a1_5] 61 (0,0)) (by (with_reducible repeat (first|refine blk_drewN ?_ _|refine blk_drew ?_|refine blk_alloc ?_ _));exact BK124.out)) : gb125 ≠ gb124));clear BK123;clear BK124;clear HB;have BK123 := n0_;have BK124 := n1_;have HB := n2_;have BK125 := n3_;have GW125 := n4_;have GE125 := n5_;have NB123_125 := n6_;have NB125_123 := n7_;have NB124_125 := n8_;have NB125_124 := n9_;clear n0_ n1_ n2_ n3_ n4_ n5_ n6_ n7_ n8_ n9_;clear hb hbox hg)|((with_reducible refine gate_dst (N := 5) rfl ?_);(try (refine gate_guard (by rfl) ?_;dsimp only));refine box_event ?hg (N := 5) ?hd (cs := #[.int .i64 0,.int .i64 0,.int .i64 0,.int .i64 0,.int .i64 0,.string (⟨#[]⟩ : ByteArray)]) (t := 61) ?hr ?_;(case hd => rfl);(case hg => rfl);(case hr => first|(go_simp;done)|(go_simp;rfl));intro gb126 hg w7 hbox hb;have n0_ := Aside0.mk (blk_below (g := gb123) (o := .cells #[.int .i64 a0_0,.int .i64 a0_1,.string a0_2] 67 (0,0)) (by (with_reducible repeat (first|refine blk_drewN ?_ _|refine blk_drew ?_|refine blk_alloc ?_ _));exact BK123.out) hb);have n1_ := Aside0.mk (blk_below (g := gb124) (o := .cells #[.int .i64 a1_0,.int .i64 a1_1,.int .i64 a1_2,.int .i64 a1_3,.int .i64 a1_4,.string a1_5] 61 (0,0)) (by (with_reducible repeat (first|refine blk_drewN ?_ _|refine blk_drew ?_|refine blk_alloc ?_ _));exact BK124.out) hb);have n2_ := Aside0.mk (blk_below (g := gb125) (o := .cells #[.int .i64 0,.int .i64 0,.string (⟨#[]⟩ : ByteArray)] 67 (0,0)) (by (with_reducible repeat (first|refine blk_drewN ?_ _|refine blk_drew ?_|refine blk_alloc ?_ _));exact BK125.out) hb);have n3_ := Aside0.mk (below_step (by repeat (first|(with_reducible first|exact HB.out|apply below_alloc|apply pw_below_drewN|apply below_drew1|refine below_set ?_ GE123.out|refine below_set ?_ GE124.out|refine below_set ?_ GE125.out)|exact HB.out)) hb);have n4_ := Aside0.mk (hbox);have n5_ := Aside0.mk ((by rw [hg];exact (below_size (by repeat (first|(with_reducible first|exact HB.out|apply below_alloc|apply pw_below_drewN|apply below_drew1|refine below_set ?_ GE123.out|refine below_set ?_ GE124.out|refine below_set ?_ GE125.out)|exact HB.out))) : w.heap.size ≤ gb126));have n6_ := Aside0.mk ((by rw [hg];exact (below_size (by repeat (first|(with_reducible first|exact HB.out|apply below_alloc|apply pw_below_drewN|apply below_drew1|refine below_set ?_ GE123.out|refine below_set ?_ GE124.out|refine below_set ?_ GE125.out)|exact HB.out))) : w.heap.size ≤ gb126));have n7_ := Aside0.mk ((by rw [hg];exact Nat.ne_of_lt (blk_lt (g := gb123) (o := .cells #[.int .i64 a0_0,.int .i64 a0_1,.string a0_2] 67 (0,0)) (by (with_reducible repeat (first|refine blk_drewN ?_ _|refine blk_drew ?_|refine blk_alloc ?_ _));exact BK123.out)) : gb123 ≠ gb126));have n8_ := Aside0.mk ((by rw [hg];exact Nat.ne_of_gt (blk_lt (g := gb123) (o := .cells #[.int .i64 a0_0,.int .i64 a0_1,.string a0_2] 67 (0,0)) (by (with_reducible repeat (first|refine blk_drewN ?_ _|refine blk_drew ?_|refine blk_alloc ?_ _));exact BK123.out)) : gb126 ≠ gb123));have n9_ := Aside0.mk ((by rw [hg];exact Nat.ne_of_lt (blk_lt (g := gb124) (o := .cells #[.int .i64 a1_0,.int .i64 a1_1,.int .i64 a1_2,.int .i64 a1_3,.int .i64 a1_4,.string a1_5] 61 (0,0)) (by (with_reducible repeat (first|refine blk_drewN ?_ _|refine blk_drew ?_|refine blk_alloc ?_ _));exact BK124.out)) : gb124 ≠ gb126));have n10_ := Aside0.mk ((by rw [hg];exact Nat.ne_of_gt (blk_lt (g := gb124) (o := .cells #[.int .i64 a1_0,.int .i64 a1_1,.int .i64 a1_2,.int .i64 a1_3,.int .i64 a1_4,.string a1_5] 61 (0,0)) (by (with_reducible repeat (first|refine blk_drewN ?_ _|refine blk_drew ?_|refine blk_alloc ?_ _));exact BK124.out)) : gb126 ≠ gb124));have n11_ := Aside0.mk ((by rw [hg];exact Nat.ne_of_lt (blk_lt (g := gb125) (o := .cells #[.int .i64 0,.int .i64 0,.string (⟨#[]⟩ : ByteArray)] 67 (0,0)) (by (with_reducible repeat (first|refine blk_drewN ?_ _|refine blk_drew ?_|refine blk_alloc ?_ _));exact BK125.out)) : gb125 ≠ gb126));have n12_ := Aside0.mk ((by rw [hg];exact Nat.ne_of_gt (blk_lt (g := gb125) (o := .cells #[.int .i64 0,.int .i64 0,.string (⟨#[]⟩ : ByteArray)] 67 (0,0)) (by (with_reducible repeat (first|refine blk_drewN ?_ _|refine blk_drew ?_|refine blk_alloc ?_ _));exact BK125.out)) : gb126 ≠ gb125));clear BK123;clear BK124;clear BK125;clear HB;have BK123 := n0_;have BK124 := n1_;have BK125 := n2_;have HB := n3_;have BK126 := n4_;have GW126 := n5_;have GE126 := n6_;have NB123_126 := n7_;have NB126_123 := n8_;have NB124_126 := n9_;have NB126_124 := n10_;have NB125_126 := n11_;have NB126_125 := n12_;clear n0_ n1_ n2_ n3_ n4_ n5_ n6_ n7_ n8_ n9_ n10_ n11_ n12_;clear hb hbox hg))
 (try simp only [Act.put,List.setIfInBounds_toArray,List.set_cons_zero,List.set_cons_succ])
 go_cut [22] (fun v22 wc => ∃ (kq : Nat) (x22_2 : Bool),v22 = .bool x22_2 ∧ Aside0 (impl_HearNote.j0 kq x22_2 a0_0 a0_1 a0_2 a1_0 a1_1 a1_2 a1_3 a1_4 a1_5 = some (r1,r2,r3,r4,r5,r6,r7,r8,r9,r10)) ∧ Aside0 (kq ≤ k) ∧ Aside0 (wc.heap[gb123]? = some (.cells #[.int .i64 a0_0,.int .i64 a0_1,.string a0_2] 67 (0,0))) ∧ Aside0 (wc.heap[gb124]? = some (.cells #[.int .i64 a1_0,.int .i64 a1_1,.int .i64 a1_2,.int .i64 a1_3,.int .i64 a1_4,.string a1_5] 61 (0,0))) ∧ Aside0 (wc.heap[gb125]? = some (.cells #[.int .i64 0,.int .i64 0,.string (⟨#[]⟩ : ByteArray)] 67 (0,0))) ∧ Aside0 (wc.heap[gb126]? = some (.cells #[.int .i64 0,.int .i64 0,.int .i64 0,.int .i64 0,.int .i64 0,.string (⟨#[]⟩ : ByteArray)] 61 (0,0))) ∧ Aside0 (Below w.heap.size w wc))
 case first =>
  have H := HC3.out
  clear HC3
  replace H := Option.bind_eq_some_iff.mp H
  obtain ⟨t127,A80,H⟩ := H
  replace H : (if t127 = true then (if (a1_5.size : Int) > 40 then (impl_HearNote.j0 k true a0_0 a0_1 a0_2 a1_0 a1_1 a1_2 a1_3 a1_4 a1_5) else ((impl_VoiceOk.f a0_0 a0_1 a0_2).bind fun t128 => (impl_HearNote.j0 k (!t128) a0_0 a0_1 a0_2 a1_0 a1_1 a1_2 a1_3 a1_4 a1_5))) else (impl_HearNote.j0 k true a0_0 a0_1 a0_2 a1_0 a1_1 a1_2 a1_3 a1_4 a1_5)) = some (r1,r2,r3,r4,r5,r6,r7,r8,r9,r10) := H
  have A8 := Aside0.mk A80
  clear A80
  by_cases c9 : t127 = true
  ·subst c9
   have H1 : (if (a1_5.size : Int) > 40 then (impl_HearNote.j0 k true a0_0 a0_1 a0_2 a1_0 a1_1 a1_2 a1_3 a1_4 a1_5) else ((impl_VoiceOk.f a0_0 a0_1 a0_2).bind fun t128 => (impl_HearNote.j0 k (!t128) a0_0 a0_1 a0_2 a1_0 a1_1 a1_2 a1_3 a1_4 a1_5))) = some (r1,r2,r3,r4,r5,r6,r7,r8,r9,r10) := by rw [if_pos rfl] at H;exact H
   clear H
   have H := H1
   clear H1
   by_cases c10 : (a1_5.size : Int) > 40
   ·rw [if_pos c10] at H
    have c10b0 : decide (40 < (a1_5.size : Int)) = true := decide_eq_true c10
    have c10b1 : decide (40 < a1_5.size) = true := decide_eq_true (by omega)
    clear c10
    (first|rw [c10b0]|(simp only [i64_w,i32_w];rw [c10b0])|skip)
    have H' := Aside0.mk H
    clear H
    have hnb11 := NB124_123.out
    have hnc11 := NB123_124.out
    have hnb12 := NB124_125.out
    have hnc12 := NB125_124.out
    have hnb13 := NB124_126.out
    have hnc13 := NB126_124.out
    have hcz14_0 : w7.cell? ⟨gb124,0,none⟩ = some (.int .i64 a1_0) := (blk_cell BK124.out 0).trans rfl
    have hcz14_1 : w7.cell? ⟨gb124,1,none⟩ = some (.int .i64 a1_1) := (blk_cell BK124.out 1).trans rfl
    have hcz14_2 : w7.cell? ⟨gb124,2,none⟩ = some (.int .i64 a1_2) := (blk_cell BK124.out 2).trans rfl
    have hcz14_3 : w7.cell? ⟨gb124,3,none⟩ = some (.int .i64 a1_3) := (blk_cell BK124.out 3).trans rfl
    have hcz14_4 : w7.cell? ⟨gb124,4,none⟩ = some (.int .i64 a1_4) := (blk_cell BK124.out 4).trans rfl
    have hcz14_5 : w7.cell? ⟨gb124,5,none⟩ = some (.string a1_5) := (blk_cell BK124.out 5).trans rfl
    have hfz14_0 := blk_frozen BK124.out 0
    have hfz14_1 := blk_frozen BK124.out 1
    have hfz14_2 := blk_frozen BK124.out 2
    have hfz14_3 := blk_frozen BK124.out 3
    have hfz14_4 := blk_frozen BK124.out 4
    have hfz14_5 := blk_frozen BK124.out 5
    go_wp2_with (first|((with_reducible refine gate_callee (f := 61) rfl ?_);refine goesL_ (some 10) rfl rfl Try.func61 (by kernel_rfl) rfl #[.int .i64 a1_3,.int .i64 1,.int .i64 10000] rfl (by (try simp only [List.map_toArray,List.map_cons,List.map_nil]);first|done|rfl|(simp only [List.length_drop,List.length_take];rfl)) ?_;(with_reducible refine (impl_inRange.calls a1_3 1 10000 true _ A8.out).mono ?_);rintro e w' ⟨rfl,⟨nd,rfl⟩⟩;refine ⟨_,rfl,?_⟩))
    go_meet
    case rel => exact ⟨_,(true),(by first|rfl|(simp;done)|(simp [*];done)),H',⟨by first|omega|exact Nat.le_refl _⟩,⟨by (with_reducible repeat (first|refine blk_drewN ?_ _|refine blk_drew ?_|refine blk_alloc ?_ _));exact BK123.out⟩,⟨by (with_reducible repeat (first|refine blk_drewN ?_ _|refine blk_drew ?_|refine blk_alloc ?_ _));exact BK124.out⟩,⟨by (with_reducible repeat (first|refine blk_drewN ?_ _|refine blk_drew ?_|refine blk_alloc ?_ _));exact BK125.out⟩,⟨by (with_reducible repeat (first|refine blk_drewN ?_ _|refine blk_drew ?_|refine blk_alloc ?_ _));exact BK126.out⟩,⟨by repeat (first|(with_reducible first|exact HB.out|apply below_alloc|apply pw_below_drewN|apply below_drew1|refine below_set ?_ GE123.out|refine below_set ?_ GE124.out|refine below_set ?_ GE125.out|refine below_set ?_ GE126.out)|exact HB.out)⟩⟩
   ·rw [if_neg c10] at H
    have c10b0 : decide (40 < (a1_5.size : Int)) = false := decide_eq_false c10
    have c10b1 : decide (40 < a1_5.size) = false := decide_eq_false (by omega)
    clear c10
    (first|rw [c10b0]|(simp only [i64_w,i32_w];rw [c10b0])|skip)
    replace H := Option.bind_eq_some_iff.mp H
    obtain ⟨t128,A150,H⟩ := H
    replace H : (impl_HearNote.j0 k (!t128) a0_0 a0_1 a0_2 a1_0 a1_1 a1_2 a1_3 a1_4 a1_5) = some (r1,r2,r3,r4,r5,r6,r7,r8,r9,r10) := H
    have A15 := Aside0.mk A150
    clear A150
    have H' := Aside0.mk H
    clear H
    have hnb16 := NB124_123.out
    have hnc16 := NB123_124.out
    have hnb17 := NB124_125.out
    have hnc17 := NB125_124.out
    have hnb18 := NB124_126.out
    have hnc18 := NB126_124.out
    have hcz19_0 : w7.cell? ⟨gb124,0,none⟩ = some (.int .i64 a1_0) := (blk_cell BK124.out 0).trans rfl
    have hcz19_1 : w7.cell? ⟨gb124,1,none⟩ = some (.int .i64 a1_1) := (blk_cell BK124.out 1).trans rfl
    have hcz19_2 : w7.cell? ⟨gb124,2,none⟩ = some (.int .i64 a1_2) := (blk_cell BK124.out 2).trans rfl
    have hcz19_3 : w7.cell? ⟨gb124,3,none⟩ = some (.int .i64 a1_3) := (blk_cell BK124.out 3).trans rfl
    have hcz19_4 : w7.cell? ⟨gb124,4,none⟩ = some (.int .i64 a1_4) := (blk_cell BK124.out 4).trans rfl
    have hcz19_5 : w7.cell? ⟨gb124,5,none⟩ = some (.string a1_5) := (blk_cell BK124.out 5).trans rfl
    have hfz19_0 := blk_frozen BK124.out 0
    have hfz19_1 := blk_frozen BK124.out 1
    have hfz19_2 := blk_frozen BK124.out 2
    have hfz19_3 := blk_frozen BK124.out 3
    have hfz19_4 := blk_frozen BK124.out 4
    have hfz19_5 := blk_frozen BK124.out 5
    go_wp2_with (first|((with_reducible refine gate_callee (f := 61) rfl ?_);refine goesL_ (some 10) rfl rfl Try.func61 (by kernel_rfl) rfl #[.int .i64 a1_3,.int .i64 1,.int .i64 10000] rfl (by (try simp only [List.map_toArray,List.map_cons,List.map_nil]);first|done|rfl|(simp only [List.length_drop,List.length_take];rfl)) ?_;(with_reducible refine (impl_inRange.calls a1_3 1 10000 true _ A8.out).mono ?_);rintro e w' ⟨rfl,⟨nd,rfl⟩⟩;refine ⟨_,rfl,?_⟩;have hnb20 := NB123_125.out;have hnc20 := NB125_123.out;have hnb21 := NB123_126.out;have hnc21 := NB126_123.out;have hcz22_0 : w7.cell? ⟨gb123,0,none⟩ = some (.int .i64 a0_0) := (blk_cell BK123.out 0).trans rfl;have hcz22_1 : w7.cell? ⟨gb123,1,none⟩ = some (.int .i64 a0_1) := (blk_cell BK123.out 1).trans rfl;have hcz22_2 : w7.cell? ⟨gb123,2,none⟩ = some (.string a0_2) := (blk_cell BK123.out 2).trans rfl;have hfz22_0 := blk_frozen BK123.out 0;have hfz22_1 := blk_frozen BK123.out 1;have hfz22_2 := blk_frozen BK123.out 2)|(go_at_call 72;(with_reducible refine (impl_VoiceOk.calls a0_0 a0_1 a0_2 t128 _ A15.out).mono ?_);rintro e w23 ⟨rfl,hb⟩;have n0_ := Aside0.mk (blk_below (g := gb123) (o := .cells #[.int .i64 a0_0,.int .i64 a0_1,.string a0_2] 67 (0,0)) (by (with_reducible repeat (first|refine blk_drewN ?_ _|refine blk_drew ?_|refine blk_alloc ?_ _));exact BK123.out) hb);have n1_ := Aside0.mk (blk_below (g := gb124) (o := .cells #[.int .i64 a1_0,.int .i64 a1_1,.int .i64 a1_2,.int .i64 a1_3,.int .i64 a1_4,.string a1_5] 61 (0,0)) (by (with_reducible repeat (first|refine blk_drewN ?_ _|refine blk_drew ?_|refine blk_alloc ?_ _));exact BK124.out) hb);have n2_ := Aside0.mk (blk_below (g := gb125) (o := .cells #[.int .i64 0,.int .i64 0,.string (⟨#[]⟩ : ByteArray)] 67 (0,0)) (by (with_reducible repeat (first|refine blk_drewN ?_ _|refine blk_drew ?_|refine blk_alloc ?_ _));exact BK125.out) hb);have n3_ := Aside0.mk (blk_below (g := gb126) (o := .cells #[.int .i64 0,.int .i64 0,.int .i64 0,.int .i64 0,.int .i64 0,.string (⟨#[]⟩ : ByteArray)] 61 (0,0)) (by (with_reducible repeat (first|refine blk_drewN ?_ _|refine blk_drew ?_|refine blk_alloc ?_ _));exact BK126.out) hb);have n4_ := Aside0.mk (below_step (by repeat (first|(with_reducible first|exact HB.out|apply below_alloc|apply pw_below_drewN|apply below_drew1|refine below_set ?_ GE123.out|refine below_set ?_ GE124.out|refine below_set ?_ GE125.out|refine below_set ?_ GE126.out)|exact HB.out)) hb);clear BK123;clear BK124;clear BK125;clear BK126;clear HB;have BK123 := n0_;have BK124 := n1_;have BK125 := n2_;have BK126 := n3_;have HB := n4_;clear n0_ n1_ n2_ n3_ n4_;(try clear hb);(try clear hb2);(try clear hk);(try clear hi)))
    go_meet
    case rel => exact ⟨_,(!t128),(by first|rfl|(simp;done)|(simp [*];done)),H',⟨by first|omega|exact Nat.le_refl _⟩,⟨by (with_reducible repeat (first|refine blk_drewN ?_ _|refine blk_drew ?_|refine blk_alloc ?_ _));exact BK123.out⟩,⟨by (with_reducible repeat (first|refine blk_drewN ?_ _|refine blk_drew ?_|refine blk_alloc ?_ _));exact BK124.out⟩,⟨by (with_reducible repeat (first|refine blk_drewN ?_ _|refine blk_drew ?_|refine blk_alloc ?_ _));exact BK125.out⟩,⟨by (with_reducible repeat (first|refine blk_drewN ?_ _|refine blk_drew ?_|refine blk_alloc ?_ _));exact BK126.out⟩,⟨by repeat (first|(with_reducible first|exact HB.out|apply below_alloc|apply pw_below_drewN|apply below_drew1|refine below_set ?_ GE123.out|refine below_set ?_ GE124.out|refine below_set ?_ GE125.out|refine below_set ?_ GE126.out)|exact HB.out)⟩⟩
  ·replace c9 := Bool.eq_false_iff.mpr c9
   subst c9
   have H1 : (impl_HearNote.j0 k true a0_0 a0_1 a0_2 a1_0 a1_1 a1_2 a1_3 a1_4 a1_5) = some (r1,r2,r3,r4,r5,r6,r7,r8,r9,r10) := by rw [if_neg (show ¬ (false = true) by decide)] at H;exact H
   clear H
   have H := H1
   clear H1
   have H' := Aside0.mk H
   clear H
   have hnb24 := NB124_123.out
   have hnc24 := NB123_124.out
   have hnb25 := NB124_125.out
   have hnc25 := NB125_124.out
   have hnb26 := NB124_126.out
   have hnc26 := NB126_124.out
   have hcz27_0 : w7.cell? ⟨gb124,0,none⟩ = some (.int .i64 a1_0) := (blk_cell BK124.out 0).trans rfl
   have hcz27_1 : w7.cell? ⟨gb124,1,none⟩ = some (.int .i64 a1_1) := (blk_cell BK124.out 1).trans rfl
   have hcz27_2 : w7.cell? ⟨gb124,2,none⟩ = some (.int .i64 a1_2) := (blk_cell BK124.out 2).trans rfl
   have hcz27_3 : w7.cell? ⟨gb124,3,none⟩ = some (.int .i64 a1_3) := (blk_cell BK124.out 3).trans rfl
   have hcz27_4 : w7.cell? ⟨gb124,4,none⟩ = some (.int .i64 a1_4) := (blk_cell BK124.out 4).trans rfl
   have hcz27_5 : w7.cell? ⟨gb124,5,none⟩ = some (.string a1_5) := (blk_cell BK124.out 5).trans rfl
   have hfz27_0 := blk_frozen BK124.out 0
   have hfz27_1 := blk_frozen BK124.out 1
   have hfz27_2 := blk_frozen BK124.out 2
   have hfz27_3 := blk_frozen BK124.out 3
   have hfz27_4 := blk_frozen BK124.out 4
   have hfz27_5 := blk_frozen BK124.out 5
   go_wp2_with (first|((with_reducible refine gate_callee (f := 61) rfl ?_);refine goesL_ (some 10) rfl rfl Try.func61 (by kernel_rfl) rfl #[.int .i64 a1_3,.int .i64 1,.int .i64 10000] rfl (by (try simp only [List.map_toArray,List.map_cons,List.map_nil]);first|done|rfl|(simp only [List.length_drop,List.length_take];rfl)) ?_;(with_reducible refine (impl_inRange.calls a1_3 1 10000 false _ A8.out).mono ?_);rintro e w' ⟨rfl,⟨nd,rfl⟩⟩;refine ⟨_,rfl,?_⟩))
   go_meet
   case rel => exact ⟨_,(true),(by first|rfl|(simp;done)|(simp [*];done)),H',⟨by first|omega|exact Nat.le_refl _⟩,⟨by (with_reducible repeat (first|refine blk_drewN ?_ _|refine blk_drew ?_|refine blk_alloc ?_ _));exact BK123.out⟩,⟨by (with_reducible repeat (first|refine blk_drewN ?_ _|refine blk_drew ?_|refine blk_alloc ?_ _));exact BK124.out⟩,⟨by (with_reducible repeat (first|refine blk_drewN ?_ _|refine blk_drew ?_|refine blk_alloc ?_ _));exact BK125.out⟩,⟨by (with_reducible repeat (first|refine blk_drewN ?_ _|refine blk_drew ?_|refine blk_alloc ?_ _));exact BK126.out⟩,⟨by repeat (first|(with_reducible first|exact HB.out|apply below_alloc|apply pw_below_drewN|apply below_drew1|refine below_set ?_ GE123.out|refine below_set ?_ GE124.out|refine below_set ?_ GE125.out|refine below_set ?_ GE126.out)|exact HB.out)⟩⟩
 case rest =>
  clear HC3
  try clear c1
  try clear c2
  try clear p2
  try clear c4
  try clear c6
  try clear c9
  try clear c10
  try clear c10b0
  try clear c10b1
  try clear c11
  try clear c12
  try clear c13
  try clear c16
  try clear c17
  try clear c18
  try clear c20
  try clear c21
  try clear c24
  try clear c25
  try clear c26
  try clear hcz14_0
  try clear hcz14_1
  try clear hcz14_2
  try clear hcz14_3
  try clear hcz14_4
  try clear hcz14_5
  try clear hcz19_0
  try clear hcz19_1
  try clear hcz19_2
  try clear hcz19_3
  try clear hcz19_4
  try clear hcz19_5
  try clear hcz22_0
  try clear hcz22_1
  try clear hcz22_2
  try clear hcz27_0
  try clear hcz27_1
  try clear hcz27_2
  try clear hcz27_3
  try clear hcz27_4
  try clear hcz27_5
  try clear hfz14_0
  try clear hfz14_1
  try clear hfz14_2
  try clear hfz14_3
  try clear hfz14_4
  try clear hfz14_5
  try clear hfz19_0
  try clear hfz19_1
  try clear hfz19_2
  try clear hfz19_3
  try clear hfz19_4
  try clear hfz19_5
  try clear hfz22_0
  try clear hfz22_1
  try clear hfz22_2
  try clear hfz27_0
  try clear hfz27_1
  try clear hfz27_2
  try clear hfz27_3
  try clear hfz27_4
  try clear hfz27_5
  obtain ⟨kq,x22_2,rfl,HA,HJ2,BK123,BK124,BK125,BK126,HB⟩ := hcut
  cases kq with
  | zero => exact absurd HA.out (by simp [impl_HearNote.j0])
  | succ kj2 =>
   have H := HA.out
   clear HA
   simp only [impl_HearNote.j0] at H
   by_cases c28 : x22_2 = true
   ·subst c28
    have H1 : (some (a0_0,a0_1,a0_2,0,0,0,0,0,(⟨#[]⟩ : ByteArray),false)) = some (r1,r2,r3,r4,r5,r6,r7,r8,r9,r10) := by rw [if_pos rfl] at H;exact H
    clear H
    have H := H1
    clear H1
    simp only [Option.some.injEq,Prod.mk.injEq] at H
    obtain ⟨rfl,rfl,rfl,rfl,rfl,rfl,rfl,rfl,rfl,rfl⟩ := H
    have hnb29 := NB123_124.out
    have hnc29 := NB124_123.out
    have hnb30 := NB123_125.out
    have hnc30 := NB125_123.out
    have hnb31 := NB123_126.out
    have hnc31 := NB126_123.out
    have hcz32_0 : wc.cell? ⟨gb123,0,none⟩ = some (.int .i64 a0_0) := (blk_cell BK123.out 0).trans rfl
    have hcz32_1 : wc.cell? ⟨gb123,1,none⟩ = some (.int .i64 a0_1) := (blk_cell BK123.out 1).trans rfl
    have hcz32_2 : wc.cell? ⟨gb123,2,none⟩ = some (.string a0_2) := (blk_cell BK123.out 2).trans rfl
    have hfz32_0 := blk_frozen BK123.out 0
    have hfz32_1 := blk_frozen BK123.out 1
    have hfz32_2 := blk_frozen BK123.out 2
    have hnb33 := NB125_124.out
    have hnc33 := NB124_125.out
    have hnb34 := NB125_126.out
    have hnc34 := NB126_125.out
    have hcz35_0 : wc.cell? ⟨gb125,0,none⟩ = some (.int .i64 0) := (blk_cell BK125.out 0).trans rfl
    have hcz35_1 : wc.cell? ⟨gb125,1,none⟩ = some (.int .i64 0) := (blk_cell BK125.out 1).trans rfl
    have hcz35_2 : wc.cell? ⟨gb125,2,none⟩ = some (.string (⟨#[]⟩ : ByteArray)) := (blk_cell BK125.out 2).trans rfl
    have hfz35_0 := blk_frozen BK125.out 0
    have hfz35_1 := blk_frozen BK125.out 1
    have hfz35_2 := blk_frozen BK125.out 2
    have hnb36 := NB126_124.out
    have hnc36 := NB124_126.out
    have hcz37_0 : wc.cell? ⟨gb126,0,none⟩ = some (.int .i64 0) := (blk_cell BK126.out 0).trans rfl
    have hcz37_1 : wc.cell? ⟨gb126,1,none⟩ = some (.int .i64 0) := (blk_cell BK126.out 1).trans rfl
    have hcz37_2 : wc.cell? ⟨gb126,2,none⟩ = some (.int .i64 0) := (blk_cell BK126.out 2).trans rfl
    have hcz37_3 : wc.cell? ⟨gb126,3,none⟩ = some (.int .i64 0) := (blk_cell BK126.out 3).trans rfl
    have hcz37_4 : wc.cell? ⟨gb126,4,none⟩ = some (.int .i64 0) := (blk_cell BK126.out 4).trans rfl
    have hcz37_5 : wc.cell? ⟨gb126,5,none⟩ = some (.string (⟨#[]⟩ : ByteArray)) := (blk_cell BK126.out 5).trans rfl
    have hfz37_0 := blk_frozen BK126.out 0
    have hfz37_1 := blk_frozen BK126.out 1
    have hfz37_2 := blk_frozen BK126.out 2
    have hfz37_3 := blk_frozen BK126.out 3
    have hfz37_4 := blk_frozen BK126.out 4
    have hfz37_5 := blk_frozen BK126.out 5
    go_wp2
    refine bodyPost_ret (results_list (rs := [.cell 4 67,.cell 5 61,.tmp 6]) rfl (by simp) (.cell gb125 67 #[.int .i64 a0_0,.int .i64 a0_1,.string a0_2] (0,0) _ rfl (by (with_reducible repeat (first|refine blk_drewN ?_ _|refine blk_drew ?_|refine blk_alloc ?_ _));refine blk_far ?_ NB125_126.out _;(with_reducible repeat (first|refine blk_drewN ?_ _|refine blk_drew ?_|refine blk_alloc ?_ _));refine blk_far ?_ NB125_126.out _;(with_reducible repeat (first|refine blk_drewN ?_ _|refine blk_drew ?_|refine blk_alloc ?_ _));refine blk_far ?_ NB125_126.out _;(with_reducible repeat (first|refine blk_drewN ?_ _|refine blk_drew ?_|refine blk_alloc ?_ _));refine blk_far ?_ NB125_126.out _;(with_reducible repeat (first|refine blk_drewN ?_ _|refine blk_drew ?_|refine blk_alloc ?_ _));refine blk_far ?_ NB125_126.out _;(with_reducible repeat (first|refine blk_drewN ?_ _|refine blk_drew ?_|refine blk_alloc ?_ _));refine blk_far ?_ NB125_126.out _;(with_reducible repeat (first|refine blk_drewN ?_ _|refine blk_drew ?_|refine blk_alloc ?_ _));refine blk_put (cs := #[.int .i64 a0_0,.int .i64 a0_1,.string (⟨#[]⟩ : ByteArray)]) ?_ 2 _ rfl;(with_reducible repeat (first|refine blk_drewN ?_ _|refine blk_drew ?_|refine blk_alloc ?_ _));refine blk_put (cs := #[.int .i64 a0_0,.int .i64 0,.string (⟨#[]⟩ : ByteArray)]) ?_ 1 _ rfl;(with_reducible repeat (first|refine blk_drewN ?_ _|refine blk_drew ?_|refine blk_alloc ?_ _));refine blk_put (cs := #[.int .i64 0,.int .i64 0,.string (⟨#[]⟩ : ByteArray)]) ?_ 0 _ rfl;(with_reducible repeat (first|refine blk_drewN ?_ _|refine blk_drew ?_|refine blk_alloc ?_ _));exact BK125.out) Try.underlying67 rfl (by kernel_rfl) (.cell gb126 61 #[.int .i64 0,.int .i64 0,.int .i64 0,.int .i64 0,.int .i64 0,.string (⟨#[]⟩ : ByteArray)] (0,0) _ rfl (by (with_reducible repeat (first|refine blk_drewN ?_ _|refine blk_drew ?_|refine blk_alloc ?_ _));refine blk_put (cs := #[.int .i64 0,.int .i64 0,.int .i64 0,.int .i64 0,.int .i64 0,.string (⟨#[]⟩ : ByteArray)]) ?_ 5 _ rfl;(with_reducible repeat (first|refine blk_drewN ?_ _|refine blk_drew ?_|refine blk_alloc ?_ _));refine blk_put (cs := #[.int .i64 0,.int .i64 0,.int .i64 0,.int .i64 0,.int .i64 0,.string (⟨#[]⟩ : ByteArray)]) ?_ 4 _ rfl;(with_reducible repeat (first|refine blk_drewN ?_ _|refine blk_drew ?_|refine blk_alloc ?_ _));refine blk_put (cs := #[.int .i64 0,.int .i64 0,.int .i64 0,.int .i64 0,.int .i64 0,.string (⟨#[]⟩ : ByteArray)]) ?_ 3 _ rfl;(with_reducible repeat (first|refine blk_drewN ?_ _|refine blk_drew ?_|refine blk_alloc ?_ _));refine blk_put (cs := #[.int .i64 0,.int .i64 0,.int .i64 0,.int .i64 0,.int .i64 0,.string (⟨#[]⟩ : ByteArray)]) ?_ 2 _ rfl;(with_reducible repeat (first|refine blk_drewN ?_ _|refine blk_drew ?_|refine blk_alloc ?_ _));refine blk_put (cs := #[.int .i64 0,.int .i64 0,.int .i64 0,.int .i64 0,.int .i64 0,.string (⟨#[]⟩ : ByteArray)]) ?_ 1 _ rfl;(with_reducible repeat (first|refine blk_drewN ?_ _|refine blk_drew ?_|refine blk_alloc ?_ _));refine blk_put (cs := #[.int .i64 0,.int .i64 0,.int .i64 0,.int .i64 0,.int .i64 0,.string (⟨#[]⟩ : ByteArray)]) ?_ 0 _ rfl;(with_reducible repeat (first|refine blk_drewN ?_ _|refine blk_drew ?_|refine blk_alloc ?_ _));refine blk_far ?_ NB126_125.out _;(with_reducible repeat (first|refine blk_drewN ?_ _|refine blk_drew ?_|refine blk_alloc ?_ _));refine blk_far ?_ NB126_125.out _;(with_reducible repeat (first|refine blk_drewN ?_ _|refine blk_drew ?_|refine blk_alloc ?_ _));refine blk_far ?_ NB126_125.out _;(with_reducible repeat (first|refine blk_drewN ?_ _|refine blk_drew ?_|refine blk_alloc ?_ _));exact BK126.out) Try.underlying61 rfl (by kernel_rfl) (.tmp .nil)))) rfl ?_
    exact ⟨by first|rfl|(simp [errW_none,errW_some] <;> rfl)|(simp [*,errW_none,errW_some] <;> rfl),by repeat (first|(with_reducible first|exact HB.out|apply below_alloc|apply pw_below_drewN|apply below_drew1|refine below_set ?_ GE123.out|refine below_set ?_ GE124.out|refine below_set ?_ GE125.out|refine below_set ?_ GE126.out)|exact HB.out)⟩
   ·replace c28 := Bool.eq_false_iff.mpr c28
    subst c28
    have H1 : (if a1_0 = 1 then (impl_HearNote.j1 kj2 (decide (a1_3 > a0_0)) a0_0 a0_1 a0_2 a1_0 a1_1 a1_2 a1_3 a1_4 a1_5 0 a1_2 a1_1 a1_3 0 (⟨#[]⟩ : ByteArray)) else (impl_HearNote.j1 kj2 false a0_0 a0_1 a0_2 a1_0 a1_1 a1_2 a1_3 a1_4 a1_5 0 a1_2 a1_1 a1_3 0 (⟨#[]⟩ : ByteArray))) = some (r1,r2,r3,r4,r5,r6,r7,r8,r9,r10) := by rw [if_neg (show ¬ (false = true) by decide)] at H;exact H
    clear H
    have H := H1
    clear H1
    have HC38 := Aside0.mk H
    clear H
    have hnb39 := NB124_123.out
    have hnc39 := NB123_124.out
    have hnb40 := NB124_125.out
    have hnc40 := NB125_124.out
    have hnb41 := NB124_126.out
    have hnc41 := NB126_124.out
    have hcz42_0 : wc.cell? ⟨gb124,0,none⟩ = some (.int .i64 a1_0) := (blk_cell BK124.out 0).trans rfl
    have hcz42_1 : wc.cell? ⟨gb124,1,none⟩ = some (.int .i64 a1_1) := (blk_cell BK124.out 1).trans rfl
    have hcz42_2 : wc.cell? ⟨gb124,2,none⟩ = some (.int .i64 a1_2) := (blk_cell BK124.out 2).trans rfl
    have hcz42_3 : wc.cell? ⟨gb124,3,none⟩ = some (.int .i64 a1_3) := (blk_cell BK124.out 3).trans rfl
    have hcz42_4 : wc.cell? ⟨gb124,4,none⟩ = some (.int .i64 a1_4) := (blk_cell BK124.out 4).trans rfl
    have hcz42_5 : wc.cell? ⟨gb124,5,none⟩ = some (.string a1_5) := (blk_cell BK124.out 5).trans rfl
    have hfz42_0 := blk_frozen BK124.out 0
    have hfz42_1 := blk_frozen BK124.out 1
    have hfz42_2 := blk_frozen BK124.out 2
    have hfz42_3 := blk_frozen BK124.out 3
    have hfz42_4 := blk_frozen BK124.out 4
    have hfz42_5 := blk_frozen BK124.out 5
    go_upto_region 5 with (first|((with_reducible refine gate_dst (N := 7) rfl ?_);(try (refine gate_guard (by rfl) ?_;dsimp only));refine box_event ?hg (N := 7) ?hd (cs := #[.int .i64 0,.int .i64 0,.int .i64 0,.int .i64 0,.int .i64 0,.string (⟨#[]⟩ : ByteArray)]) (t := 61) ?hr ?_;(case hd => rfl);(case hg => rfl);(case hr => first|(go_simp;done)|(go_simp;rfl));intro gb129 hg w43 hbox hb;have n0_ := Aside0.mk (blk_below (g := gb123) (o := .cells #[.int .i64 a0_0,.int .i64 a0_1,.string a0_2] 67 (0,0)) (by (with_reducible repeat (first|refine blk_drewN ?_ _|refine blk_drew ?_|refine blk_alloc ?_ _));exact BK123.out) hb);have n1_ := Aside0.mk (blk_below (g := gb124) (o := .cells #[.int .i64 a1_0,.int .i64 a1_1,.int .i64 a1_2,.int .i64 a1_3,.int .i64 a1_4,.string a1_5] 61 (0,0)) (by (with_reducible repeat (first|refine blk_drewN ?_ _|refine blk_drew ?_|refine blk_alloc ?_ _));exact BK124.out) hb);have n2_ := Aside0.mk (blk_below (g := gb125) (o := .cells #[.int .i64 0,.int .i64 0,.string (⟨#[]⟩ : ByteArray)] 67 (0,0)) (by (with_reducible repeat (first|refine blk_drewN ?_ _|refine blk_drew ?_|refine blk_alloc ?_ _));exact BK125.out) hb);have n3_ := Aside0.mk (blk_below (g := gb126) (o := .cells #[.int .i64 0,.int .i64 0,.int .i64 0,.int .i64 0,.int .i64 0,.string (⟨#[]⟩ : ByteArray)] 61 (0,0)) (by (with_reducible repeat (first|refine blk_drewN ?_ _|refine blk_drew ?_|refine blk_alloc ?_ _));exact BK126.out) hb);have n4_ := Aside0.mk (below_step (by repeat (first|(with_reducible first|exact HB.out|apply below_alloc|apply pw_below_drewN|apply below_drew1|refine below_set ?_ GE123.out|refine below_set ?_ GE124.out|refine below_set ?_ GE125.out|refine below_set ?_ GE126.out)|exact HB.out)) hb);have n5_ := Aside0.mk (hbox);have n6_ := Aside0.mk ((by rw [hg];exact (below_size (by repeat (first|(with_reducible first|exact HB.out|apply below_alloc|apply pw_below_drewN|apply below_drew1|refine below_set ?_ GE123.out|refine below_set ?_ GE124.out|refine below_set ?_ GE125.out|refine below_set ?_ GE126.out)|exact HB.out))) : w.heap.size ≤ gb129));have n7_ := Aside0.mk ((by rw [hg];exact (below_size (by repeat (first|(with_reducible first|exact HB.out|apply below_alloc|apply pw_below_drewN|apply below_drew1|refine below_set ?_ GE123.out|refine below_set ?_ GE124.out|refine below_set ?_ GE125.out|refine below_set ?_ GE126.out)|exact HB.out))) : w.heap.size ≤ gb129));have n8_ := Aside0.mk ((by rw [hg];exact Nat.ne_of_lt (blk_lt (g := gb123) (o := .cells #[.int .i64 a0_0,.int .i64 a0_1,.string a0_2] 67 (0,0)) (by (with_reducible repeat (first|refine blk_drewN ?_ _|refine blk_drew ?_|refine blk_alloc ?_ _));exact BK123.out)) : gb123 ≠ gb129));have n9_ := Aside0.mk ((by rw [hg];exact Nat.ne_of_gt (blk_lt (g := gb123) (o := .cells #[.int .i64 a0_0,.int .i64 a0_1,.string a0_2] 67 (0,0)) (by (with_reducible repeat (first|refine blk_drewN ?_ _|refine blk_drew ?_|refine blk_alloc ?_ _));exact BK123.out)) : gb129 ≠ gb123));have n10_ := Aside0.mk ((by rw [hg];exact Nat.ne_of_lt (blk_lt (g := gb124) (o := .cells #[.int .i64 a1_0,.int .i64 a1_1,.int .i64 a1_2,.int .i64 a1_3,.int .i64 a1_4,.string a1_5] 61 (0,0)) (by (with_reducible repeat (first|refine blk_drewN ?_ _|refine blk_drew ?_|refine blk_alloc ?_ _));exact BK124.out)) : gb124 ≠ gb129));have n11_ := Aside0.mk ((by rw [hg];exact Nat.ne_of_gt (blk_lt (g := gb124) (o := .cells #[.int .i64 a1_0,.int .i64 a1_1,.int .i64 a1_2,.int .i64 a1_3,.int .i64 a1_4,.string a1_5] 61 (0,0)) (by (with_reducible repeat (first|refine blk_drewN ?_ _|refine blk_drew ?_|refine blk_alloc ?_ _));exact BK124.out)) : gb129 ≠ gb124));have n12_ := Aside0.mk ((by rw [hg];exact Nat.ne_of_lt (blk_lt (g := gb125) (o := .cells #[.int .i64 0,.int .i64 0,.string (⟨#[]⟩ : ByteArray)] 67 (0,0)) (by (with_reducible repeat (first|refine blk_drewN ?_ _|refine blk_drew ?_|refine blk_alloc ?_ _));exact BK125.out)) : gb125 ≠ gb129));have n13_ := Aside0.mk ((by rw [hg];exact Nat.ne_of_gt (blk_lt (g := gb125) (o := .cells #[.int .i64 0,.int .i64 0,.string (⟨#[]⟩ : ByteArray)] 67 (0,0)) (by (with_reducible repeat (first|refine blk_drewN ?_ _|refine blk_drew ?_|refine blk_alloc ?_ _));exact BK125.out)) : gb129 ≠ gb125));have n14_ := Aside0.mk ((by rw [hg];exact Nat.ne_of_lt (blk_lt (g := gb126) (o := .cells #[.int .i64 0,.int .i64 0,.int .i64 0,.int .i64 0,.int .i64 0,.string (⟨#[]⟩ : ByteArray)] 61 (0,0)) (by (with_reducible repeat (first|refine blk_drewN ?_ _|refine blk_drew ?_|refine blk_alloc ?_ _));exact BK126.out)) : gb126 ≠ gb129));have n15_ := Aside0.mk ((by rw [hg];exact Nat.ne_of_gt (blk_lt (g := gb126) (o := .cells #[.int .i64 0,.int .i64 0,.int .i64 0,.int .i64 0,.int .i64 0,.string (⟨#[]⟩ : ByteArray)] 61 (0,0)) (by (with_reducible repeat (first|refine blk_drewN ?_ _|refine blk_drew ?_|refine blk_alloc ?_ _));exact BK126.out)) : gb129 ≠ gb126));clear BK123;clear BK124;clear BK125;clear BK126;clear HB;have BK123 := n0_;have BK124 := n1_;have BK125 := n2_;have BK126 := n3_;have HB := n4_;have BK129 := n5_;have GW129 := n6_;have GE129 := n7_;have NB123_129 := n8_;have NB129_123 := n9_;have NB124_129 := n10_;have NB129_124 := n11_;have NB125_129 := n12_;have NB129_125 := n13_;have NB126_129 := n14_;have NB129_126 := n15_;clear n0_ n1_ n2_ n3_ n4_ n5_ n6_ n7_ n8_ n9_ n10_ n11_ n12_ n13_ n14_ n15_;clear hb hbox hg;have hnb44 := NB129_123.out;have hnc44 := NB123_129.out;have hnb45 := NB129_124.out;have hnc45 := NB124_129.out;have hnb46 := NB129_125.out;have hnc46 := NB125_129.out;have hnb47 := NB129_126.out;have hnc47 := NB126_129.out;have hcz48_0 : w43.cell? ⟨gb129,0,none⟩ = some (.int .i64 0) := (blk_cell BK129.out 0).trans rfl;have hcz48_1 : w43.cell? ⟨gb129,1,none⟩ = some (.int .i64 0) := (blk_cell BK129.out 1).trans rfl;have hcz48_2 : w43.cell? ⟨gb129,2,none⟩ = some (.int .i64 0) := (blk_cell BK129.out 2).trans rfl;have hcz48_3 : w43.cell? ⟨gb129,3,none⟩ = some (.int .i64 0) := (blk_cell BK129.out 3).trans rfl;have hcz48_4 : w43.cell? ⟨gb129,4,none⟩ = some (.int .i64 0) := (blk_cell BK129.out 4).trans rfl;have hcz48_5 : w43.cell? ⟨gb129,5,none⟩ = some (.string (⟨#[]⟩ : ByteArray)) := (blk_cell BK129.out 5).trans rfl;have hfz48_0 := blk_frozen BK129.out 0;have hfz48_1 := blk_frozen BK129.out 1;have hfz48_2 := blk_frozen BK129.out 2;have hfz48_3 := blk_frozen BK129.out 3;have hfz48_4 := blk_frozen BK129.out 4;have hfz48_5 := blk_frozen BK129.out 5))
    (try simp only [Act.put,List.setIfInBounds_toArray,List.set_cons_zero,List.set_cons_succ])
    go_cut [34] (fun v34 wc => ∃ (kq : Nat) (x34_37 : Bool),v34 = .bool x34_37 ∧ Aside0 (impl_HearNote.j1 kq x34_37 a0_0 a0_1 a0_2 a1_0 a1_1 a1_2 a1_3 a1_4 a1_5 0 a1_2 a1_1 a1_3 0 (⟨#[]⟩ : ByteArray) = some (r1,r2,r3,r4,r5,r6,r7,r8,r9,r10)) ∧ Aside0 (kq ≤ kj2) ∧ Aside0 (wc.heap[gb123]? = some (.cells #[.int .i64 a0_0,.int .i64 a0_1,.string a0_2] 67 (0,0))) ∧ Aside0 (wc.heap[gb124]? = some (.cells #[.int .i64 a1_0,.int .i64 a1_1,.int .i64 a1_2,.int .i64 a1_3,.int .i64 a1_4,.string a1_5] 61 (0,0))) ∧ Aside0 (wc.heap[gb125]? = some (.cells #[.int .i64 0,.int .i64 0,.string (⟨#[]⟩ : ByteArray)] 67 (0,0))) ∧ Aside0 (wc.heap[gb126]? = some (.cells #[.int .i64 0,.int .i64 0,.int .i64 0,.int .i64 0,.int .i64 0,.string (⟨#[]⟩ : ByteArray)] 61 (0,0))) ∧ Aside0 (wc.heap[gb129]? = some (.cells #[.int .i64 0,.int .i64 a1_2,.int .i64 a1_1,.int .i64 a1_3,.int .i64 0,.string (⟨#[]⟩ : ByteArray)] 61 (0,0))) ∧ Aside0 (Below w.heap.size w wc))
    case first =>
     have H := HC38.out
     clear HC38
     by_cases c49 : a1_0 = 1
     ·rw [if_pos c49] at H
      have c49b0 : (a1_0 == 1) = true := beq_iff_eq.mpr c49
      have c49b1 : (a1_0 != 1) = false := bne_eq_false_iff_eq.mpr c49
      clear c49
      (first|rw [c49b0]|(simp only [i64_w,i32_w];rw [c49b0])|skip)
      have H' := Aside0.mk H
      clear H
      have hnb50 := NB124_123.out
      have hnc50 := NB123_124.out
      have hnb51 := NB124_125.out
      have hnc51 := NB125_124.out
      have hnb52 := NB124_126.out
      have hnc52 := NB126_124.out
      have hnb53 := NB124_129.out
      have hnc53 := NB129_124.out
      have hcz54_0 : w43.cell? ⟨gb124,0,none⟩ = some (.int .i64 a1_0) := (blk_cell BK124.out 0).trans rfl
      have hcz54_1 : w43.cell? ⟨gb124,1,none⟩ = some (.int .i64 a1_1) := (blk_cell BK124.out 1).trans rfl
      have hcz54_2 : w43.cell? ⟨gb124,2,none⟩ = some (.int .i64 a1_2) := (blk_cell BK124.out 2).trans rfl
      have hcz54_3 : w43.cell? ⟨gb124,3,none⟩ = some (.int .i64 a1_3) := (blk_cell BK124.out 3).trans rfl
      have hcz54_4 : w43.cell? ⟨gb124,4,none⟩ = some (.int .i64 a1_4) := (blk_cell BK124.out 4).trans rfl
      have hcz54_5 : w43.cell? ⟨gb124,5,none⟩ = some (.string a1_5) := (blk_cell BK124.out 5).trans rfl
      have hfz54_0 := blk_frozen BK124.out 0
      have hfz54_1 := blk_frozen BK124.out 1
      have hfz54_2 := blk_frozen BK124.out 2
      have hfz54_3 := blk_frozen BK124.out 3
      have hfz54_4 := blk_frozen BK124.out 4
      have hfz54_5 := blk_frozen BK124.out 5
      have hnb55 := NB123_125.out
      have hnc55 := NB125_123.out
      have hnb56 := NB123_126.out
      have hnc56 := NB126_123.out
      have hnb57 := NB123_129.out
      have hnc57 := NB129_123.out
      have hcz58_0 : w43.cell? ⟨gb123,0,none⟩ = some (.int .i64 a0_0) := (blk_cell BK123.out 0).trans rfl
      have hcz58_1 : w43.cell? ⟨gb123,1,none⟩ = some (.int .i64 a0_1) := (blk_cell BK123.out 1).trans rfl
      have hcz58_2 : w43.cell? ⟨gb123,2,none⟩ = some (.string a0_2) := (blk_cell BK123.out 2).trans rfl
      have hfz58_0 := blk_frozen BK123.out 0
      have hfz58_1 := blk_frozen BK123.out 1
      have hfz58_2 := blk_frozen BK123.out 2
      go_wp2
      go_meet
      case rel => exact ⟨_,(decide (a1_3 > a0_0)),(by first|rfl|(simp;done)|(simp [*];done)),H',⟨by have := HJ2.out;first|omega|exact Nat.le_refl _⟩,⟨by (with_reducible repeat (first|refine blk_drewN ?_ _|refine blk_drew ?_|refine blk_alloc ?_ _));refine blk_far ?_ NB123_129.out _;(with_reducible repeat (first|refine blk_drewN ?_ _|refine blk_drew ?_|refine blk_alloc ?_ _));refine blk_far ?_ NB123_129.out _;(with_reducible repeat (first|refine blk_drewN ?_ _|refine blk_drew ?_|refine blk_alloc ?_ _));refine blk_far ?_ NB123_129.out _;(with_reducible repeat (first|refine blk_drewN ?_ _|refine blk_drew ?_|refine blk_alloc ?_ _));refine blk_far ?_ NB123_129.out _;(with_reducible repeat (first|refine blk_drewN ?_ _|refine blk_drew ?_|refine blk_alloc ?_ _));refine blk_far ?_ NB123_129.out _;(with_reducible repeat (first|refine blk_drewN ?_ _|refine blk_drew ?_|refine blk_alloc ?_ _));refine blk_far ?_ NB123_129.out _;(with_reducible repeat (first|refine blk_drewN ?_ _|refine blk_drew ?_|refine blk_alloc ?_ _));exact BK123.out⟩,⟨by (with_reducible repeat (first|refine blk_drewN ?_ _|refine blk_drew ?_|refine blk_alloc ?_ _));refine blk_far ?_ NB124_129.out _;(with_reducible repeat (first|refine blk_drewN ?_ _|refine blk_drew ?_|refine blk_alloc ?_ _));refine blk_far ?_ NB124_129.out _;(with_reducible repeat (first|refine blk_drewN ?_ _|refine blk_drew ?_|refine blk_alloc ?_ _));refine blk_far ?_ NB124_129.out _;(with_reducible repeat (first|refine blk_drewN ?_ _|refine blk_drew ?_|refine blk_alloc ?_ _));refine blk_far ?_ NB124_129.out _;(with_reducible repeat (first|refine blk_drewN ?_ _|refine blk_drew ?_|refine blk_alloc ?_ _));refine blk_far ?_ NB124_129.out _;(with_reducible repeat (first|refine blk_drewN ?_ _|refine blk_drew ?_|refine blk_alloc ?_ _));refine blk_far ?_ NB124_129.out _;(with_reducible repeat (first|refine blk_drewN ?_ _|refine blk_drew ?_|refine blk_alloc ?_ _));exact BK124.out⟩,⟨by (with_reducible repeat (first|refine blk_drewN ?_ _|refine blk_drew ?_|refine blk_alloc ?_ _));refine blk_far ?_ NB125_129.out _;(with_reducible repeat (first|refine blk_drewN ?_ _|refine blk_drew ?_|refine blk_alloc ?_ _));refine blk_far ?_ NB125_129.out _;(with_reducible repeat (first|refine blk_drewN ?_ _|refine blk_drew ?_|refine blk_alloc ?_ _));refine blk_far ?_ NB125_129.out _;(with_reducible repeat (first|refine blk_drewN ?_ _|refine blk_drew ?_|refine blk_alloc ?_ _));refine blk_far ?_ NB125_129.out _;(with_reducible repeat (first|refine blk_drewN ?_ _|refine blk_drew ?_|refine blk_alloc ?_ _));refine blk_far ?_ NB125_129.out _;(with_reducible repeat (first|refine blk_drewN ?_ _|refine blk_drew ?_|refine blk_alloc ?_ _));refine blk_far ?_ NB125_129.out _;(with_reducible repeat (first|refine blk_drewN ?_ _|refine blk_drew ?_|refine blk_alloc ?_ _));exact BK125.out⟩,⟨by (with_reducible repeat (first|refine blk_drewN ?_ _|refine blk_drew ?_|refine blk_alloc ?_ _));refine blk_far ?_ NB126_129.out _;(with_reducible repeat (first|refine blk_drewN ?_ _|refine blk_drew ?_|refine blk_alloc ?_ _));refine blk_far ?_ NB126_129.out _;(with_reducible repeat (first|refine blk_drewN ?_ _|refine blk_drew ?_|refine blk_alloc ?_ _));refine blk_far ?_ NB126_129.out _;(with_reducible repeat (first|refine blk_drewN ?_ _|refine blk_drew ?_|refine blk_alloc ?_ _));refine blk_far ?_ NB126_129.out _;(with_reducible repeat (first|refine blk_drewN ?_ _|refine blk_drew ?_|refine blk_alloc ?_ _));refine blk_far ?_ NB126_129.out _;(with_reducible repeat (first|refine blk_drewN ?_ _|refine blk_drew ?_|refine blk_alloc ?_ _));refine blk_far ?_ NB126_129.out _;(with_reducible repeat (first|refine blk_drewN ?_ _|refine blk_drew ?_|refine blk_alloc ?_ _));exact BK126.out⟩,⟨by (with_reducible repeat (first|refine blk_drewN ?_ _|refine blk_drew ?_|refine blk_alloc ?_ _));refine blk_put (cs := #[.int .i64 0,.int .i64 a1_2,.int .i64 a1_1,.int .i64 a1_3,.int .i64 0,.string (⟨#[]⟩ : ByteArray)]) ?_ 5 _ rfl;(with_reducible repeat (first|refine blk_drewN ?_ _|refine blk_drew ?_|refine blk_alloc ?_ _));refine blk_put (cs := #[.int .i64 0,.int .i64 a1_2,.int .i64 a1_1,.int .i64 a1_3,.int .i64 0,.string (⟨#[]⟩ : ByteArray)]) ?_ 4 _ rfl;(with_reducible repeat (first|refine blk_drewN ?_ _|refine blk_drew ?_|refine blk_alloc ?_ _));refine blk_put (cs := #[.int .i64 0,.int .i64 a1_2,.int .i64 a1_1,.int .i64 0,.int .i64 0,.string (⟨#[]⟩ : ByteArray)]) ?_ 3 _ rfl;(with_reducible repeat (first|refine blk_drewN ?_ _|refine blk_drew ?_|refine blk_alloc ?_ _));refine blk_put (cs := #[.int .i64 0,.int .i64 a1_2,.int .i64 0,.int .i64 0,.int .i64 0,.string (⟨#[]⟩ : ByteArray)]) ?_ 2 _ rfl;(with_reducible repeat (first|refine blk_drewN ?_ _|refine blk_drew ?_|refine blk_alloc ?_ _));refine blk_put (cs := #[.int .i64 0,.int .i64 0,.int .i64 0,.int .i64 0,.int .i64 0,.string (⟨#[]⟩ : ByteArray)]) ?_ 1 _ rfl;(with_reducible repeat (first|refine blk_drewN ?_ _|refine blk_drew ?_|refine blk_alloc ?_ _));refine blk_put (cs := #[.int .i64 0,.int .i64 0,.int .i64 0,.int .i64 0,.int .i64 0,.string (⟨#[]⟩ : ByteArray)]) ?_ 0 _ rfl;(with_reducible repeat (first|refine blk_drewN ?_ _|refine blk_drew ?_|refine blk_alloc ?_ _));exact BK129.out⟩,⟨by repeat (first|(with_reducible first|exact HB.out|apply below_alloc|apply pw_below_drewN|apply below_drew1|refine below_set ?_ GE123.out|refine below_set ?_ GE124.out|refine below_set ?_ GE125.out|refine below_set ?_ GE126.out|refine below_set ?_ GE129.out)|exact HB.out)⟩⟩
     ·rw [if_neg c49] at H
      have c49b0 : (a1_0 == 1) = false := beq_eq_false_iff_ne.mpr c49
      have c49b1 : (a1_0 != 1) = true := bne_iff_ne.mpr c49
      (first|rw [c49b0]|(simp only [i64_w,i32_w];rw [c49b0])|skip)
      have H' := Aside0.mk H
      clear H
      have hnb59 := NB124_123.out
      have hnc59 := NB123_124.out
      have hnb60 := NB124_125.out
      have hnc60 := NB125_124.out
      have hnb61 := NB124_126.out
      have hnc61 := NB126_124.out
      have hnb62 := NB124_129.out
      have hnc62 := NB129_124.out
      have hcz63_0 : w43.cell? ⟨gb124,0,none⟩ = some (.int .i64 a1_0) := (blk_cell BK124.out 0).trans rfl
      have hcz63_1 : w43.cell? ⟨gb124,1,none⟩ = some (.int .i64 a1_1) := (blk_cell BK124.out 1).trans rfl
      have hcz63_2 : w43.cell? ⟨gb124,2,none⟩ = some (.int .i64 a1_2) := (blk_cell BK124.out 2).trans rfl
      have hcz63_3 : w43.cell? ⟨gb124,3,none⟩ = some (.int .i64 a1_3) := (blk_cell BK124.out 3).trans rfl
      have hcz63_4 : w43.cell? ⟨gb124,4,none⟩ = some (.int .i64 a1_4) := (blk_cell BK124.out 4).trans rfl
      have hcz63_5 : w43.cell? ⟨gb124,5,none⟩ = some (.string a1_5) := (blk_cell BK124.out 5).trans rfl
      have hfz63_0 := blk_frozen BK124.out 0
      have hfz63_1 := blk_frozen BK124.out 1
      have hfz63_2 := blk_frozen BK124.out 2
      have hfz63_3 := blk_frozen BK124.out 3
      have hfz63_4 := blk_frozen BK124.out 4
      have hfz63_5 := blk_frozen BK124.out 5
      go_wp2
      go_meet
      case rel => exact ⟨_,(false),(by first|rfl|(simp;done)|(simp [*];done)),H',⟨by have := HJ2.out;first|omega|exact Nat.le_refl _⟩,⟨by (with_reducible repeat (first|refine blk_drewN ?_ _|refine blk_drew ?_|refine blk_alloc ?_ _));refine blk_far ?_ NB123_129.out _;(with_reducible repeat (first|refine blk_drewN ?_ _|refine blk_drew ?_|refine blk_alloc ?_ _));refine blk_far ?_ NB123_129.out _;(with_reducible repeat (first|refine blk_drewN ?_ _|refine blk_drew ?_|refine blk_alloc ?_ _));refine blk_far ?_ NB123_129.out _;(with_reducible repeat (first|refine blk_drewN ?_ _|refine blk_drew ?_|refine blk_alloc ?_ _));refine blk_far ?_ NB123_129.out _;(with_reducible repeat (first|refine blk_drewN ?_ _|refine blk_drew ?_|refine blk_alloc ?_ _));refine blk_far ?_ NB123_129.out _;(with_reducible repeat (first|refine blk_drewN ?_ _|refine blk_drew ?_|refine blk_alloc ?_ _));refine blk_far ?_ NB123_129.out _;(with_reducible repeat (first|refine blk_drewN ?_ _|refine blk_drew ?_|refine blk_alloc ?_ _));exact BK123.out⟩,⟨by (with_reducible repeat (first|refine blk_drewN ?_ _|refine blk_drew ?_|refine blk_alloc ?_ _));refine blk_far ?_ NB124_129.out _;(with_reducible repeat (first|refine blk_drewN ?_ _|refine blk_drew ?_|refine blk_alloc ?_ _));refine blk_far ?_ NB124_129.out _;(with_reducible repeat (first|refine blk_drewN ?_ _|refine blk_drew ?_|refine blk_alloc ?_ _));refine blk_far ?_ NB124_129.out _;(with_reducible repeat (first|refine blk_drewN ?_ _|refine blk_drew ?_|refine blk_alloc ?_ _));refine blk_far ?_ NB124_129.out _;(with_reducible repeat (first|refine blk_drewN ?_ _|refine blk_drew ?_|refine blk_alloc ?_ _));refine blk_far ?_ NB124_129.out _;(with_reducible repeat (first|refine blk_drewN ?_ _|refine blk_drew ?_|refine blk_alloc ?_ _));refine blk_far ?_ NB124_129.out _;(with_reducible repeat (first|refine blk_drewN ?_ _|refine blk_drew ?_|refine blk_alloc ?_ _));exact BK124.out⟩,⟨by (with_reducible repeat (first|refine blk_drewN ?_ _|refine blk_drew ?_|refine blk_alloc ?_ _));refine blk_far ?_ NB125_129.out _;(with_reducible repeat (first|refine blk_drewN ?_ _|refine blk_drew ?_|refine blk_alloc ?_ _));refine blk_far ?_ NB125_129.out _;(with_reducible repeat (first|refine blk_drewN ?_ _|refine blk_drew ?_|refine blk_alloc ?_ _));refine blk_far ?_ NB125_129.out _;(with_reducible repeat (first|refine blk_drewN ?_ _|refine blk_drew ?_|refine blk_alloc ?_ _));refine blk_far ?_ NB125_129.out _;(with_reducible repeat (first|refine blk_drewN ?_ _|refine blk_drew ?_|refine blk_alloc ?_ _));refine blk_far ?_ NB125_129.out _;(with_reducible repeat (first|refine blk_drewN ?_ _|refine blk_drew ?_|refine blk_alloc ?_ _));refine blk_far ?_ NB125_129.out _;(with_reducible repeat (first|refine blk_drewN ?_ _|refine blk_drew ?_|refine blk_alloc ?_ _));exact BK125.out⟩,⟨by (with_reducible repeat (first|refine blk_drewN ?_ _|refine blk_drew ?_|refine blk_alloc ?_ _));refine blk_far ?_ NB126_129.out _;(with_reducible repeat (first|refine blk_drewN ?_ _|refine blk_drew ?_|refine blk_alloc ?_ _));refine blk_far ?_ NB126_129.out _;(with_reducible repeat (first|refine blk_drewN ?_ _|refine blk_drew ?_|refine blk_alloc ?_ _));refine blk_far ?_ NB126_129.out _;(with_reducible repeat (first|refine blk_drewN ?_ _|refine blk_drew ?_|refine blk_alloc ?_ _));refine blk_far ?_ NB126_129.out _;(with_reducible repeat (first|refine blk_drewN ?_ _|refine blk_drew ?_|refine blk_alloc ?_ _));refine blk_far ?_ NB126_129.out _;(with_reducible repeat (first|refine blk_drewN ?_ _|refine blk_drew ?_|refine blk_alloc ?_ _));refine blk_far ?_ NB126_129.out _;(with_reducible repeat (first|refine blk_drewN ?_ _|refine blk_drew ?_|refine blk_alloc ?_ _));exact BK126.out⟩,⟨by (with_reducible repeat (first|refine blk_drewN ?_ _|refine blk_drew ?_|refine blk_alloc ?_ _));refine blk_put (cs := #[.int .i64 0,.int .i64 a1_2,.int .i64 a1_1,.int .i64 a1_3,.int .i64 0,.string (⟨#[]⟩ : ByteArray)]) ?_ 5 _ rfl;(with_reducible repeat (first|refine blk_drewN ?_ _|refine blk_drew ?_|refine blk_alloc ?_ _));refine blk_put (cs := #[.int .i64 0,.int .i64 a1_2,.int .i64 a1_1,.int .i64 a1_3,.int .i64 0,.string (⟨#[]⟩ : ByteArray)]) ?_ 4 _ rfl;(with_reducible repeat (first|refine blk_drewN ?_ _|refine blk_drew ?_|refine blk_alloc ?_ _));refine blk_put (cs := #[.int .i64 0,.int .i64 a1_2,.int .i64 a1_1,.int .i64 0,.int .i64 0,.string (⟨#[]⟩ : ByteArray)]) ?_ 3 _ rfl;(with_reducible repeat (first|refine blk_drewN ?_ _|refine blk_drew ?_|refine blk_alloc ?_ _));refine blk_put (cs := #[.int .i64 0,.int .i64 a1_2,.int .i64 0,.int .i64 0,.int .i64 0,.string (⟨#[]⟩ : ByteArray)]) ?_ 2 _ rfl;(with_reducible repeat (first|refine blk_drewN ?_ _|refine blk_drew ?_|refine blk_alloc ?_ _));refine blk_put (cs := #[.int .i64 0,.int .i64 0,.int .i64 0,.int .i64 0,.int .i64 0,.string (⟨#[]⟩ : ByteArray)]) ?_ 1 _ rfl;(with_reducible repeat (first|refine blk_drewN ?_ _|refine blk_drew ?_|refine blk_alloc ?_ _));refine blk_put (cs := #[.int .i64 0,.int .i64 0,.int .i64 0,.int .i64 0,.int .i64 0,.string (⟨#[]⟩ : ByteArray)]) ?_ 0 _ rfl;(with_reducible repeat (first|refine blk_drewN ?_ _|refine blk_drew ?_|refine blk_alloc ?_ _));exact BK129.out⟩,⟨by repeat (first|(with_reducible first|exact HB.out|apply below_alloc|apply pw_below_drewN|apply below_drew1|refine below_set ?_ GE123.out|refine below_set ?_ GE124.out|refine below_set ?_ GE125.out|refine below_set ?_ GE126.out|refine below_set ?_ GE129.out)|exact HB.out)⟩⟩
    case rest =>
     clear HC38
     try clear c1
     try clear c2
     try clear p2
     try clear c3
     try clear c4
     try clear c5
     try clear c6
     try clear c9
     try clear c10
     try clear c10b0
     try clear c10b1
     try clear c11
     try clear c12
     try clear c13
     try clear c16
     try clear c17
     try clear c18
     try clear c20
     try clear c21
     try clear c24
     try clear c25
     try clear c26
     try clear c28
     try clear c29
     try clear c30
     try clear c31
     try clear c33
     try clear c34
     try clear c36
     try clear c39
     try clear c40
     try clear c41
     try clear c44
     try clear c45
     try clear c46
     try clear c47
     try clear c49
     try clear c49b0
     try clear c49b1
     try clear c50
     try clear c51
     try clear c52
     try clear c53
     try clear c55
     try clear c56
     try clear c57
     try clear c59
     try clear c60
     try clear c61
     try clear c62
     try clear hcz14_0
     try clear hcz14_1
     try clear hcz14_2
     try clear hcz14_3
     try clear hcz14_4
     try clear hcz14_5
     try clear hcz19_0
     try clear hcz19_1
     try clear hcz19_2
     try clear hcz19_3
     try clear hcz19_4
     try clear hcz19_5
     try clear hcz22_0
     try clear hcz22_1
     try clear hcz22_2
     try clear hcz27_0
     try clear hcz27_1
     try clear hcz27_2
     try clear hcz27_3
     try clear hcz27_4
     try clear hcz27_5
     try clear hcz32_0
     try clear hcz32_1
     try clear hcz32_2
     try clear hcz35_0
     try clear hcz35_1
     try clear hcz35_2
     try clear hcz37_0
     try clear hcz37_1
     try clear hcz37_2
     try clear hcz37_3
     try clear hcz37_4
     try clear hcz37_5
     try clear hcz42_0
     try clear hcz42_1
     try clear hcz42_2
     try clear hcz42_3
     try clear hcz42_4
     try clear hcz42_5
     try clear hcz48_0
     try clear hcz48_1
     try clear hcz48_2
     try clear hcz48_3
     try clear hcz48_4
     try clear hcz48_5
     try clear hcz54_0
     try clear hcz54_1
     try clear hcz54_2
     try clear hcz54_3
     try clear hcz54_4
     try clear hcz54_5
     try clear hcz58_0
     try clear hcz58_1
     try clear hcz58_2
     try clear hcz63_0
     try clear hcz63_1
     try clear hcz63_2
     try clear hcz63_3
     try clear hcz63_4
     try clear hcz63_5
     try clear hfz14_0
     try clear hfz14_1
     try clear hfz14_2
     try clear hfz14_3
     try clear hfz14_4
     try clear hfz14_5
     try clear hfz19_0
     try clear hfz19_1
     try clear hfz19_2
     try clear hfz19_3
     try clear hfz19_4
     try clear hfz19_5
     try clear hfz22_0
     try clear hfz22_1
     try clear hfz22_2
     try clear hfz27_0
     try clear hfz27_1
     try clear hfz27_2
     try clear hfz27_3
     try clear hfz27_4
     try clear hfz27_5
     try clear hfz32_0
     try clear hfz32_1
     try clear hfz32_2
     try clear hfz35_0
     try clear hfz35_1
     try clear hfz35_2
     try clear hfz37_0
     try clear hfz37_1
     try clear hfz37_2
     try clear hfz37_3
     try clear hfz37_4
     try clear hfz37_5
     try clear hfz42_0
     try clear hfz42_1
     try clear hfz42_2
     try clear hfz42_3
     try clear hfz42_4
     try clear hfz42_5
     try clear hfz48_0
     try clear hfz48_1
     try clear hfz48_2
     try clear hfz48_3
     try clear hfz48_4
     try clear hfz48_5
     try clear hfz54_0
     try clear hfz54_1
     try clear hfz54_2
     try clear hfz54_3
     try clear hfz54_4
     try clear hfz54_5
     try clear hfz58_0
     try clear hfz58_1
     try clear hfz58_2
     try clear hfz63_0
     try clear hfz63_1
     try clear hfz63_2
     try clear hfz63_3
     try clear hfz63_4
     try clear hfz63_5
     try clear p2
     obtain ⟨kq,x34_37,rfl,HA,HJ37,BK123,BK124,BK125,BK126,BK129,HB⟩ := hcut
     cases kq with
     | zero => exact absurd HA.out (by simp [impl_HearNote.j1])
     | succ kj37 =>
      have H := HA.out
      clear HA
      simp only [impl_HearNote.j1] at H
      by_cases c64 : x34_37 = true
      ·subst c64
       have H1 : (some (a1_3,a0_1,a0_2,2,a1_2,a1_1,a1_3,a0_1,a0_2,true)) = some (r1,r2,r3,r4,r5,r6,r7,r8,r9,r10) := by rw [if_pos rfl] at H;exact H
       clear H
       have H := H1
       clear H1
       simp only [Option.some.injEq,Prod.mk.injEq] at H
       obtain ⟨rfl,rfl,rfl,rfl,rfl,rfl,rfl,rfl,rfl,rfl⟩ := H
       try go_wp2
       have n0_ := Aside0.mk (blk_drew BK123.out)
       have n1_ := Aside0.mk (blk_drew BK124.out)
       have n2_ := Aside0.mk (blk_drew BK125.out)
       have n3_ := Aside0.mk (blk_drew BK126.out)
       have n4_ := Aside0.mk (blk_drew BK129.out)
       have n5_ := Aside0.mk (below_drew1 HB.out)
       clear BK123
       clear BK124
       clear BK125
       clear BK126
       clear BK129
       clear HB
       have BK123 := n0_
       have BK124 := n1_
       have BK125 := n2_
       have BK126 := n3_
       have BK129 := n4_
       have HB := n5_
       clear n0_ n1_ n2_ n3_ n4_ n5_
       refine start_ (n := 10) (S := fun w' => w'.cell? ⟨gb123,0,none⟩ = some (.int .i64 a0_0) ∧ w'.cell? ⟨gb123,1,none⟩ = some (.int .i64 a0_1) ∧ w'.cell? ⟨gb123,2,none⟩ = some (.string a0_2)) (ds := []) #[false,false,false,false,false,false,false,false,false,false] (by kernel_rfl) rfl rfl ⟨(blk_cell BK123.out 0).trans rfl,(blk_cell BK123.out 1).trans rfl,(blk_cell BK123.out 2).trans rfl⟩ (fun hHeld => ?_);refine with_tabW impl_HearNote.tab6 impl_HearNote.bits6 (fun HT_ HW_ => ?_)
       generalize wc.drew = w65 at BK123 BK124 BK125 BK126 BK129 HB hHeld ⊢
       refine pure_ (i := 0) (N := some 45) (v := ?_) (a' := ?_) #[true,false,false,false,false,false,false,false,false,false] rfl rfl (any_of HT_.out (by kernel_rfl)) (fun _ _ _ h => h) (Or.inl ⟨by rfl,?_⟩) ?_ ?_
       rotate_left
       ·intro w'
        go_simp
        with_reducible rfl
       rotate_left
       ·simp only [Act.put,List.setIfInBounds_toArray,List.set_cons_zero,List.set_cons_succ,i64_w,i32_w]
        rfl
       refine pure_ (i := 2) (N := some 47) (v := ?_) (a' := ?_) #[true,false,true,false,false,false,false,false,false,false] rfl rfl (any_of HT_.out (by kernel_rfl)) (fun _ _ _ h => h) (Or.inl ⟨by rfl,?_⟩) ?_ ?_
       rotate_left
       ·intro w'
        go_simp
        with_reducible rfl
       rotate_left
       ·simp only [Act.put,List.setIfInBounds_toArray,List.set_cons_zero,List.set_cons_succ,i64_w,i32_w]
        rfl
       refine pure_ (i := 4) (N := some 49) (v := ?_) (a' := ?_) #[true,false,true,false,true,false,false,false,false,false] rfl rfl (any_of HT_.out (by kernel_rfl)) (fun _ _ _ h => h) (Or.inl ⟨by rfl,?_⟩) ?_ ?_
       rotate_left
       ·intro w'
        go_simp
        with_reducible rfl
       rotate_left
       ·simp only [Act.put,List.setIfInBounds_toArray,List.set_cons_zero,List.set_cons_succ,i64_w,i32_w]
        rfl
       refine take_ (i := 1) (N := some 46) (v := ?_) (a' := ?_) #[true,true,true,false,true,false,false,false,false,false] rfl rfl (take_ofW HT_.out HW_.out (by kernel_rfl)) (fun _ _ _ h => h) (Or.inl ⟨by rfl,?_⟩) hHeld ?_ ?_
       rotate_left
       ·rintro w' ⟨s0,s1,s2⟩
        go_simp
        with_reducible rfl
       rotate_left
       ·simp only [Act.put,List.setIfInBounds_toArray,List.set_cons_zero,List.set_cons_succ,i64_w,i32_w]
        rfl
       refine take_ (i := 3) (N := some 48) (v := ?_) (a' := ?_) #[true,true,true,true,true,false,false,false,false,false] rfl rfl (take_ofW HT_.out HW_.out (by kernel_rfl)) (fun _ _ _ h => h) (Or.inl ⟨by rfl,?_⟩) hHeld ?_ ?_
       rotate_left
       ·rintro w' ⟨s0,s1,s2⟩
        go_simp
        with_reducible rfl
       rotate_left
       ·simp only [Act.put,List.setIfInBounds_toArray,List.set_cons_zero,List.set_cons_succ,i64_w,i32_w]
        rfl
       refine one_ (i := 5) (N := none) #[true,true,true,true,true,true,false,false,false,false] rfl rfl (one_of HT_.out (by kernel_rfl)) (by decide) (fun K hK => ?_)
       have hs66 : w65.cell? ⟨gb129,0,none⟩ = some (.int .i64 0) := (blk_cell BK129.out 0).trans rfl
       have hfs66 := blk_frozen BK129.out 0
       have hns66_0 := NB123_129.out
       have hns66_1 := NB124_129.out
       have hns66_2 := NB125_129.out
       have hns66_3 := NB126_129.out
       have hms66_0 := NB129_123.out
       have hms66_1 := NB129_124.out
       have hms66_2 := NB129_125.out
       have hms66_3 := NB129_126.out
       refine skip_ (w1 := ?_) (by rfl) rfl ?_ ?_
       rotate_left
       ·go_simp
        rfl
       refine hK.out _ _ ⟨((cell_far (p := ⟨gb129,_,none⟩) NB123_129.out _).trans (hHeld.1)),((cell_far (p := ⟨gb129,_,none⟩) NB123_129.out _).trans (hHeld.2.1)),((cell_far (p := ⟨gb129,_,none⟩) NB123_129.out _).trans (hHeld.2.2))⟩ (fun hHeld => ?_)
       clear hK K
       refine pure_ (i := 6) (N := some 50) (v := ?_) (a' := ?_) #[true,true,true,true,true,true,true,false,false,false] rfl rfl (any_of HT_.out (by kernel_rfl)) (fun _ _ _ h => h) (Or.inl ⟨by rfl,?_⟩) ?_ ?_
       rotate_left
       ·intro w'
        go_simp
        with_reducible rfl
       rotate_left
       ·simp only [Act.put,List.setIfInBounds_toArray,List.set_cons_zero,List.set_cons_succ,i64_w,i32_w]
        rfl
       refine one_ (i := 7) (N := none) #[true,true,true,true,true,true,true,true,false,false] rfl rfl (one_of HT_.out (by kernel_rfl)) (by decide) (fun K hK => ?_)
       have hs67 : w65.cell? ⟨gb129,4,none⟩ = some (.int .i64 0) := (blk_cell BK129.out 4).trans rfl
       have hfs67 := blk_frozen BK129.out 4
       have hns67_0 := NB123_129.out
       have hns67_1 := NB124_129.out
       have hns67_2 := NB125_129.out
       have hns67_3 := NB126_129.out
       have hms67_0 := NB129_123.out
       have hms67_1 := NB129_124.out
       have hms67_2 := NB129_125.out
       have hms67_3 := NB129_126.out
       refine skip_ (w1 := ?_) (by rfl) rfl ?_ ?_
       rotate_left
       ·go_simp
        rfl
       refine hK.out _ _ ⟨((cell_far (p := ⟨gb129,_,none⟩) NB123_129.out _).trans (hHeld.1)),((cell_far (p := ⟨gb129,_,none⟩) NB123_129.out _).trans (hHeld.2.1)),((cell_far (p := ⟨gb129,_,none⟩) NB123_129.out _).trans (hHeld.2.2))⟩ (fun hHeld => ?_)
       clear hK K
       refine pure_ (i := 8) (N := some 51) (v := ?_) (a' := ?_) #[true,true,true,true,true,true,true,true,true,false] rfl rfl (any_of HT_.out (by kernel_rfl)) (fun _ _ _ h => h) (Or.inl ⟨by rfl,?_⟩) ?_ ?_
       rotate_left
       ·intro w'
        go_simp
        with_reducible rfl
       rotate_left
       ·simp only [Act.put,List.setIfInBounds_toArray,List.set_cons_zero,List.set_cons_succ,i64_w,i32_w]
        rfl
       refine one_ (i := 9) (N := none) #[true,true,true,true,true,true,true,true,true,true] rfl rfl (one_of HT_.out (by kernel_rfl)) (by decide) (fun K hK => ?_)
       have hs68 : w65.cell? ⟨gb129,5,none⟩ = some (.string (⟨#[]⟩ : ByteArray)) := (blk_cell BK129.out 5).trans rfl
       have hfs68 := blk_frozen BK129.out 5
       have hns68_0 := NB123_129.out
       have hns68_1 := NB124_129.out
       have hns68_2 := NB125_129.out
       have hns68_3 := NB126_129.out
       have hms68_0 := NB129_123.out
       have hms68_1 := NB129_124.out
       have hms68_2 := NB129_125.out
       have hms68_3 := NB129_126.out
       refine skip_ (w1 := ?_) (by rfl) rfl ?_ ?_
       rotate_left
       ·go_simp
        rfl
       refine hK.out _ _ ⟨((cell_far (p := ⟨gb129,_,none⟩) NB123_129.out _).trans (hHeld.1)),((cell_far (p := ⟨gb129,_,none⟩) NB123_129.out _).trans (hHeld.2.1)),((cell_far (p := ⟨gb129,_,none⟩) NB123_129.out _).trans (hHeld.2.2))⟩ (fun hHeld => ?_)
       clear hK K
       refine done_ (done_of HT_.out (by kernel_rfl)) ?_
       have hnb69 := NB124_123.out
       have hnc69 := NB123_124.out
       have hnb70 := NB124_125.out
       have hnc70 := NB125_124.out
       have hnb71 := NB124_126.out
       have hnc71 := NB126_124.out
       have hnb72 := NB124_129.out
       have hnc72 := NB129_124.out
       have hcz73_0 : w65.cell? ⟨gb124,0,none⟩ = some (.int .i64 a1_0) := (blk_cell BK124.out 0).trans rfl
       have hcz73_1 : w65.cell? ⟨gb124,1,none⟩ = some (.int .i64 a1_1) := (blk_cell BK124.out 1).trans rfl
       have hcz73_2 : w65.cell? ⟨gb124,2,none⟩ = some (.int .i64 a1_2) := (blk_cell BK124.out 2).trans rfl
       have hcz73_3 : w65.cell? ⟨gb124,3,none⟩ = some (.int .i64 a1_3) := (blk_cell BK124.out 3).trans rfl
       have hcz73_4 : w65.cell? ⟨gb124,4,none⟩ = some (.int .i64 a1_4) := (blk_cell BK124.out 4).trans rfl
       have hcz73_5 : w65.cell? ⟨gb124,5,none⟩ = some (.string a1_5) := (blk_cell BK124.out 5).trans rfl
       have hfz73_0 := blk_frozen BK124.out 0
       have hfz73_1 := blk_frozen BK124.out 1
       have hfz73_2 := blk_frozen BK124.out 2
       have hfz73_3 := blk_frozen BK124.out 3
       have hfz73_4 := blk_frozen BK124.out 4
       have hfz73_5 := blk_frozen BK124.out 5
       have hnb74 := NB123_125.out
       have hnc74 := NB125_123.out
       have hnb75 := NB123_126.out
       have hnc75 := NB126_123.out
       have hnb76 := NB123_129.out
       have hnc76 := NB129_123.out
       have hcz77_0 : w65.cell? ⟨gb123,0,none⟩ = some (.int .i64 a0_0) := (blk_cell BK123.out 0).trans rfl
       have hcz77_1 : w65.cell? ⟨gb123,1,none⟩ = some (.int .i64 a0_1) := (blk_cell BK123.out 1).trans rfl
       have hcz77_2 : w65.cell? ⟨gb123,2,none⟩ = some (.string a0_2) := (blk_cell BK123.out 2).trans rfl
       have hfz77_0 := blk_frozen BK123.out 0
       have hfz77_1 := blk_frozen BK123.out 1
       have hfz77_2 := blk_frozen BK123.out 2
       try go_wp2
       have n0_ : Aside0 (((((w65.setCell ⟨gb129,0,none⟩ (.int .i64 2)).setCell ⟨gb129,4,none⟩ (.int .i64 a0_1)).setCell ⟨gb129,5,none⟩ (.string a0_2)).setCell ⟨gb123,0,none⟩ (.int .i64 a1_3)).heap[gb123]? = some (.cells #[.int .i64 a1_3,.int .i64 a0_1,.string a0_2] 67 (0,0))) := ⟨by (with_reducible repeat (first|refine blk_drewN ?_ _|refine blk_drew ?_|refine blk_alloc ?_ _));refine blk_put (cs := #[.int .i64 a0_0,.int .i64 a0_1,.string a0_2]) ?_ 0 _ rfl;(with_reducible repeat (first|refine blk_drewN ?_ _|refine blk_drew ?_|refine blk_alloc ?_ _));refine blk_far ?_ NB123_129.out _;(with_reducible repeat (first|refine blk_drewN ?_ _|refine blk_drew ?_|refine blk_alloc ?_ _));refine blk_far ?_ NB123_129.out _;(with_reducible repeat (first|refine blk_drewN ?_ _|refine blk_drew ?_|refine blk_alloc ?_ _));refine blk_far ?_ NB123_129.out _;(with_reducible repeat (first|refine blk_drewN ?_ _|refine blk_drew ?_|refine blk_alloc ?_ _));exact BK123.out⟩
       have n1_ : Aside0 (((((w65.setCell ⟨gb129,0,none⟩ (.int .i64 2)).setCell ⟨gb129,4,none⟩ (.int .i64 a0_1)).setCell ⟨gb129,5,none⟩ (.string a0_2)).setCell ⟨gb123,0,none⟩ (.int .i64 a1_3)).heap[gb124]? = some (.cells #[.int .i64 a1_0,.int .i64 a1_1,.int .i64 a1_2,.int .i64 a1_3,.int .i64 a1_4,.string a1_5] 61 (0,0))) := ⟨by (with_reducible repeat (first|refine blk_drewN ?_ _|refine blk_drew ?_|refine blk_alloc ?_ _));refine blk_far ?_ NB124_123.out _;(with_reducible repeat (first|refine blk_drewN ?_ _|refine blk_drew ?_|refine blk_alloc ?_ _));refine blk_far ?_ NB124_129.out _;(with_reducible repeat (first|refine blk_drewN ?_ _|refine blk_drew ?_|refine blk_alloc ?_ _));refine blk_far ?_ NB124_129.out _;(with_reducible repeat (first|refine blk_drewN ?_ _|refine blk_drew ?_|refine blk_alloc ?_ _));refine blk_far ?_ NB124_129.out _;(with_reducible repeat (first|refine blk_drewN ?_ _|refine blk_drew ?_|refine blk_alloc ?_ _));exact BK124.out⟩
       have n2_ : Aside0 (((((w65.setCell ⟨gb129,0,none⟩ (.int .i64 2)).setCell ⟨gb129,4,none⟩ (.int .i64 a0_1)).setCell ⟨gb129,5,none⟩ (.string a0_2)).setCell ⟨gb123,0,none⟩ (.int .i64 a1_3)).heap[gb125]? = some (.cells #[.int .i64 0,.int .i64 0,.string (⟨#[]⟩ : ByteArray)] 67 (0,0))) := ⟨by (with_reducible repeat (first|refine blk_drewN ?_ _|refine blk_drew ?_|refine blk_alloc ?_ _));refine blk_far ?_ NB125_123.out _;(with_reducible repeat (first|refine blk_drewN ?_ _|refine blk_drew ?_|refine blk_alloc ?_ _));refine blk_far ?_ NB125_129.out _;(with_reducible repeat (first|refine blk_drewN ?_ _|refine blk_drew ?_|refine blk_alloc ?_ _));refine blk_far ?_ NB125_129.out _;(with_reducible repeat (first|refine blk_drewN ?_ _|refine blk_drew ?_|refine blk_alloc ?_ _));refine blk_far ?_ NB125_129.out _;(with_reducible repeat (first|refine blk_drewN ?_ _|refine blk_drew ?_|refine blk_alloc ?_ _));exact BK125.out⟩
       have n3_ : Aside0 (((((w65.setCell ⟨gb129,0,none⟩ (.int .i64 2)).setCell ⟨gb129,4,none⟩ (.int .i64 a0_1)).setCell ⟨gb129,5,none⟩ (.string a0_2)).setCell ⟨gb123,0,none⟩ (.int .i64 a1_3)).heap[gb126]? = some (.cells #[.int .i64 0,.int .i64 0,.int .i64 0,.int .i64 0,.int .i64 0,.string (⟨#[]⟩ : ByteArray)] 61 (0,0))) := ⟨by (with_reducible repeat (first|refine blk_drewN ?_ _|refine blk_drew ?_|refine blk_alloc ?_ _));refine blk_far ?_ NB126_123.out _;(with_reducible repeat (first|refine blk_drewN ?_ _|refine blk_drew ?_|refine blk_alloc ?_ _));refine blk_far ?_ NB126_129.out _;(with_reducible repeat (first|refine blk_drewN ?_ _|refine blk_drew ?_|refine blk_alloc ?_ _));refine blk_far ?_ NB126_129.out _;(with_reducible repeat (first|refine blk_drewN ?_ _|refine blk_drew ?_|refine blk_alloc ?_ _));refine blk_far ?_ NB126_129.out _;(with_reducible repeat (first|refine blk_drewN ?_ _|refine blk_drew ?_|refine blk_alloc ?_ _));exact BK126.out⟩
       have n4_ : Aside0 (((((w65.setCell ⟨gb129,0,none⟩ (.int .i64 2)).setCell ⟨gb129,4,none⟩ (.int .i64 a0_1)).setCell ⟨gb129,5,none⟩ (.string a0_2)).setCell ⟨gb123,0,none⟩ (.int .i64 a1_3)).heap[gb129]? = some (.cells #[.int .i64 2,.int .i64 a1_2,.int .i64 a1_1,.int .i64 a1_3,.int .i64 a0_1,.string a0_2] 61 (0,0))) := ⟨by (with_reducible repeat (first|refine blk_drewN ?_ _|refine blk_drew ?_|refine blk_alloc ?_ _));refine blk_far ?_ NB129_123.out _;(with_reducible repeat (first|refine blk_drewN ?_ _|refine blk_drew ?_|refine blk_alloc ?_ _));refine blk_put (cs := #[.int .i64 2,.int .i64 a1_2,.int .i64 a1_1,.int .i64 a1_3,.int .i64 a0_1,.string (⟨#[]⟩ : ByteArray)]) ?_ 5 _ rfl;(with_reducible repeat (first|refine blk_drewN ?_ _|refine blk_drew ?_|refine blk_alloc ?_ _));refine blk_put (cs := #[.int .i64 2,.int .i64 a1_2,.int .i64 a1_1,.int .i64 a1_3,.int .i64 0,.string (⟨#[]⟩ : ByteArray)]) ?_ 4 _ rfl;(with_reducible repeat (first|refine blk_drewN ?_ _|refine blk_drew ?_|refine blk_alloc ?_ _));refine blk_put (cs := #[.int .i64 0,.int .i64 a1_2,.int .i64 a1_1,.int .i64 a1_3,.int .i64 0,.string (⟨#[]⟩ : ByteArray)]) ?_ 0 _ rfl;(with_reducible repeat (first|refine blk_drewN ?_ _|refine blk_drew ?_|refine blk_alloc ?_ _));exact BK129.out⟩
       have n5_ : Aside0 (Below w.heap.size w ((((w65.setCell ⟨gb129,0,none⟩ (.int .i64 2)).setCell ⟨gb129,4,none⟩ (.int .i64 a0_1)).setCell ⟨gb129,5,none⟩ (.string a0_2)).setCell ⟨gb123,0,none⟩ (.int .i64 a1_3))) := ⟨by repeat (first|(with_reducible first|exact HB.out|apply below_alloc|apply pw_below_drewN|apply below_drew1|refine below_set ?_ GE123.out|refine below_set ?_ GE124.out|refine below_set ?_ GE125.out|refine below_set ?_ GE126.out|refine below_set ?_ GE129.out)|exact HB.out)⟩
       (try clear BK123)
       (try clear BK124)
       (try clear BK125)
       (try clear BK126)
       (try clear BK129)
       (try clear HB)
       generalize ((((w65.setCell ⟨gb129,0,none⟩ (.int .i64 2)).setCell ⟨gb129,4,none⟩ (.int .i64 a0_1)).setCell ⟨gb129,5,none⟩ (.string a0_2)).setCell ⟨gb123,0,none⟩ (.int .i64 a1_3)) = w78 at n0_ n1_ n2_ n3_ n4_ n5_ ⊢
       have BK123 := n0_
       have BK124 := n1_
       have BK125 := n2_
       have BK126 := n3_
       have BK129 := n4_
       have HB := n5_
       clear n0_ n1_ n2_ n3_ n4_ n5_
       have n0_ := Aside0.mk (blk_drew BK123.out)
       have n1_ := Aside0.mk (blk_drew BK124.out)
       have n2_ := Aside0.mk (blk_drew BK125.out)
       have n3_ := Aside0.mk (blk_drew BK126.out)
       have n4_ := Aside0.mk (blk_drew BK129.out)
       have n5_ := Aside0.mk (below_drew1 HB.out)
       clear BK123
       clear BK124
       clear BK125
       clear BK126
       clear BK129
       clear HB
       have BK123 := n0_
       have BK124 := n1_
       have BK125 := n2_
       have BK126 := n3_
       have BK129 := n4_
       have HB := n5_
       clear n0_ n1_ n2_ n3_ n4_ n5_
       refine start_ (n := 5) (S := fun w' => w'.cell? ⟨gb123,0,none⟩ = some (.int .i64 a1_3) ∧ w'.cell? ⟨gb123,1,none⟩ = some (.int .i64 a0_1) ∧ w'.cell? ⟨gb123,2,none⟩ = some (.string a0_2) ∧ w'.cell? ⟨gb129,0,none⟩ = some (.int .i64 2) ∧ w'.cell? ⟨gb129,1,none⟩ = some (.int .i64 a1_2) ∧ w'.cell? ⟨gb129,2,none⟩ = some (.int .i64 a1_1) ∧ w'.cell? ⟨gb129,3,none⟩ = some (.int .i64 a1_3) ∧ w'.cell? ⟨gb129,4,none⟩ = some (.int .i64 a0_1) ∧ w'.cell? ⟨gb129,5,none⟩ = some (.string a0_2)) (ds := []) #[false,false,false,false,false] (by kernel_rfl) rfl rfl ⟨(blk_cell BK123.out 0).trans rfl,(blk_cell BK123.out 1).trans rfl,(blk_cell BK123.out 2).trans rfl,(blk_cell BK129.out 0).trans rfl,(blk_cell BK129.out 1).trans rfl,(blk_cell BK129.out 2).trans rfl,(blk_cell BK129.out 3).trans rfl,(blk_cell BK129.out 4).trans rfl,(blk_cell BK129.out 5).trans rfl⟩ (fun hHeld => ?_)
       generalize w78.drew = w79 at BK123 BK124 BK125 BK126 BK129 HB hHeld ⊢
       refine take_ (i := 0) (N := some 77) (v := ?_) (a' := ?_) #[true,false,false,false,false] rfl rfl (by kernel_rfl) (fun _ _ _ h => h) (Or.inl ⟨by rfl,?_⟩) hHeld ?_ ?_
       rotate_left
       ·rintro w' ⟨s0,s1,s2,s3,s4,s5,s6,s7,s8⟩
        go_simp
        with_reducible rfl
       rotate_left
       ·simp only [Act.put,List.setIfInBounds_toArray,List.set_cons_zero,List.set_cons_succ,i64_w,i32_w]
        rfl
       refine take_ (i := 1) (N := some 78) (v := ?_) (a' := ?_) #[true,true,false,false,false] rfl rfl (by kernel_rfl) (fun _ _ _ h => h) (Or.inl ⟨by rfl,?_⟩) hHeld ?_ ?_
       rotate_left
       ·rintro w' ⟨s0,s1,s2,s3,s4,s5,s6,s7,s8⟩
        go_simp
        with_reducible rfl
       rotate_left
       ·simp only [Act.put,List.setIfInBounds_toArray,List.set_cons_zero,List.set_cons_succ,i64_w,i32_w]
        rfl
       refine one_ (i := 2) (N := none) #[true,true,true,false,false] rfl rfl (by kernel_rfl) (by decide) (fun K hK => ?_)
       have hs80 : w79.cell? ⟨gb125,0,none⟩ = some (.int .i64 0) := (blk_cell BK125.out 0).trans rfl
       have hfs80 := blk_frozen BK125.out 0
       have hns80_0 := NB123_125.out
       have hns80_1 := NB124_125.out
       have hns80_3 := NB126_125.out
       have hns80_4 := NB129_125.out
       have hms80_0 := NB125_123.out
       have hms80_1 := NB125_124.out
       have hms80_3 := NB125_126.out
       have hms80_4 := NB125_129.out
       have hs81 : w79.cell? ⟨gb125,1,none⟩ = some (.int .i64 0) := (blk_cell BK125.out 1).trans rfl
       have hfs81 := blk_frozen BK125.out 1
       have hns81_0 := NB123_125.out
       have hns81_1 := NB124_125.out
       have hns81_3 := NB126_125.out
       have hns81_4 := NB129_125.out
       have hms81_0 := NB125_123.out
       have hms81_1 := NB125_124.out
       have hms81_3 := NB125_126.out
       have hms81_4 := NB125_129.out
       have hs82 : w79.cell? ⟨gb125,2,none⟩ = some (.string (⟨#[]⟩ : ByteArray)) := (blk_cell BK125.out 2).trans rfl
       have hfs82 := blk_frozen BK125.out 2
       have hns82_0 := NB123_125.out
       have hns82_1 := NB124_125.out
       have hns82_3 := NB126_125.out
       have hns82_4 := NB129_125.out
       have hms82_0 := NB125_123.out
       have hms82_1 := NB125_124.out
       have hms82_3 := NB125_126.out
       have hms82_4 := NB125_129.out
       refine skip_ (w1 := ?_) (by rfl) rfl ?_ ?_
       rotate_left
       ·go_simp
        rfl
       refine hK.out _ _ ⟨((cell_far (p := ⟨gb125,_,none⟩) NB123_125.out _).trans (((cell_far (p := ⟨gb125,_,none⟩) NB123_125.out _).trans (((cell_far (p := ⟨gb125,_,none⟩) NB123_125.out _).trans (hHeld.1)))))),((cell_far (p := ⟨gb125,_,none⟩) NB123_125.out _).trans (((cell_far (p := ⟨gb125,_,none⟩) NB123_125.out _).trans (((cell_far (p := ⟨gb125,_,none⟩) NB123_125.out _).trans (hHeld.2.1)))))),((cell_far (p := ⟨gb125,_,none⟩) NB123_125.out _).trans (((cell_far (p := ⟨gb125,_,none⟩) NB123_125.out _).trans (((cell_far (p := ⟨gb125,_,none⟩) NB123_125.out _).trans (hHeld.2.2.1)))))),((cell_far (p := ⟨gb125,_,none⟩) NB129_125.out _).trans (((cell_far (p := ⟨gb125,_,none⟩) NB129_125.out _).trans (((cell_far (p := ⟨gb125,_,none⟩) NB129_125.out _).trans (hHeld.2.2.2.1)))))),((cell_far (p := ⟨gb125,_,none⟩) NB129_125.out _).trans (((cell_far (p := ⟨gb125,_,none⟩) NB129_125.out _).trans (((cell_far (p := ⟨gb125,_,none⟩) NB129_125.out _).trans (hHeld.2.2.2.2.1)))))),((cell_far (p := ⟨gb125,_,none⟩) NB129_125.out _).trans (((cell_far (p := ⟨gb125,_,none⟩) NB129_125.out _).trans (((cell_far (p := ⟨gb125,_,none⟩) NB129_125.out _).trans (hHeld.2.2.2.2.2.1)))))),((cell_far (p := ⟨gb125,_,none⟩) NB129_125.out _).trans (((cell_far (p := ⟨gb125,_,none⟩) NB129_125.out _).trans (((cell_far (p := ⟨gb125,_,none⟩) NB129_125.out _).trans (hHeld.2.2.2.2.2.2.1)))))),((cell_far (p := ⟨gb125,_,none⟩) NB129_125.out _).trans (((cell_far (p := ⟨gb125,_,none⟩) NB129_125.out _).trans (((cell_far (p := ⟨gb125,_,none⟩) NB129_125.out _).trans (hHeld.2.2.2.2.2.2.2.1)))))),((cell_far (p := ⟨gb125,_,none⟩) NB129_125.out _).trans (((cell_far (p := ⟨gb125,_,none⟩) NB129_125.out _).trans (((cell_far (p := ⟨gb125,_,none⟩) NB129_125.out _).trans (hHeld.2.2.2.2.2.2.2.2))))))⟩ (fun hHeld => ?_)
       clear hK K
       refine one_ (i := 3) (N := none) #[true,true,true,true,false] rfl rfl (by kernel_rfl) (by decide) (fun K hK => ?_)
       have hs83 : w79.cell? ⟨gb126,0,none⟩ = some (.int .i64 0) := (blk_cell BK126.out 0).trans rfl
       have hfs83 := blk_frozen BK126.out 0
       have hns83_0 := NB123_126.out
       have hns83_1 := NB124_126.out
       have hns83_2 := NB125_126.out
       have hns83_4 := NB129_126.out
       have hms83_0 := NB126_123.out
       have hms83_1 := NB126_124.out
       have hms83_2 := NB126_125.out
       have hms83_4 := NB126_129.out
       have hs84 : w79.cell? ⟨gb126,1,none⟩ = some (.int .i64 0) := (blk_cell BK126.out 1).trans rfl
       have hfs84 := blk_frozen BK126.out 1
       have hns84_0 := NB123_126.out
       have hns84_1 := NB124_126.out
       have hns84_2 := NB125_126.out
       have hns84_4 := NB129_126.out
       have hms84_0 := NB126_123.out
       have hms84_1 := NB126_124.out
       have hms84_2 := NB126_125.out
       have hms84_4 := NB126_129.out
       have hs85 : w79.cell? ⟨gb126,2,none⟩ = some (.int .i64 0) := (blk_cell BK126.out 2).trans rfl
       have hfs85 := blk_frozen BK126.out 2
       have hns85_0 := NB123_126.out
       have hns85_1 := NB124_126.out
       have hns85_2 := NB125_126.out
       have hns85_4 := NB129_126.out
       have hms85_0 := NB126_123.out
       have hms85_1 := NB126_124.out
       have hms85_2 := NB126_125.out
       have hms85_4 := NB126_129.out
       have hs86 : w79.cell? ⟨gb126,3,none⟩ = some (.int .i64 0) := (blk_cell BK126.out 3).trans rfl
       have hfs86 := blk_frozen BK126.out 3
       have hns86_0 := NB123_126.out
       have hns86_1 := NB124_126.out
       have hns86_2 := NB125_126.out
       have hns86_4 := NB129_126.out
       have hms86_0 := NB126_123.out
       have hms86_1 := NB126_124.out
       have hms86_2 := NB126_125.out
       have hms86_4 := NB126_129.out
       have hs87 : w79.cell? ⟨gb126,4,none⟩ = some (.int .i64 0) := (blk_cell BK126.out 4).trans rfl
       have hfs87 := blk_frozen BK126.out 4
       have hns87_0 := NB123_126.out
       have hns87_1 := NB124_126.out
       have hns87_2 := NB125_126.out
       have hns87_4 := NB129_126.out
       have hms87_0 := NB126_123.out
       have hms87_1 := NB126_124.out
       have hms87_2 := NB126_125.out
       have hms87_4 := NB126_129.out
       have hs88 : w79.cell? ⟨gb126,5,none⟩ = some (.string (⟨#[]⟩ : ByteArray)) := (blk_cell BK126.out 5).trans rfl
       have hfs88 := blk_frozen BK126.out 5
       have hns88_0 := NB123_126.out
       have hns88_1 := NB124_126.out
       have hns88_2 := NB125_126.out
       have hns88_4 := NB129_126.out
       have hms88_0 := NB126_123.out
       have hms88_1 := NB126_124.out
       have hms88_2 := NB126_125.out
       have hms88_4 := NB126_129.out
       refine skip_ (w1 := ?_) (by rfl) rfl ?_ ?_
       rotate_left
       ·go_simp
        rfl
       refine hK.out _ _ ⟨((cell_far (p := ⟨gb126,_,none⟩) NB123_126.out _).trans (((cell_far (p := ⟨gb126,_,none⟩) NB123_126.out _).trans (((cell_far (p := ⟨gb126,_,none⟩) NB123_126.out _).trans (((cell_far (p := ⟨gb126,_,none⟩) NB123_126.out _).trans (((cell_far (p := ⟨gb126,_,none⟩) NB123_126.out _).trans (((cell_far (p := ⟨gb126,_,none⟩) NB123_126.out _).trans (hHeld.1)))))))))))),((cell_far (p := ⟨gb126,_,none⟩) NB123_126.out _).trans (((cell_far (p := ⟨gb126,_,none⟩) NB123_126.out _).trans (((cell_far (p := ⟨gb126,_,none⟩) NB123_126.out _).trans (((cell_far (p := ⟨gb126,_,none⟩) NB123_126.out _).trans (((cell_far (p := ⟨gb126,_,none⟩) NB123_126.out _).trans (((cell_far (p := ⟨gb126,_,none⟩) NB123_126.out _).trans (hHeld.2.1)))))))))))),((cell_far (p := ⟨gb126,_,none⟩) NB123_126.out _).trans (((cell_far (p := ⟨gb126,_,none⟩) NB123_126.out _).trans (((cell_far (p := ⟨gb126,_,none⟩) NB123_126.out _).trans (((cell_far (p := ⟨gb126,_,none⟩) NB123_126.out _).trans (((cell_far (p := ⟨gb126,_,none⟩) NB123_126.out _).trans (((cell_far (p := ⟨gb126,_,none⟩) NB123_126.out _).trans (hHeld.2.2.1)))))))))))),((cell_far (p := ⟨gb126,_,none⟩) NB129_126.out _).trans (((cell_far (p := ⟨gb126,_,none⟩) NB129_126.out _).trans (((cell_far (p := ⟨gb126,_,none⟩) NB129_126.out _).trans (((cell_far (p := ⟨gb126,_,none⟩) NB129_126.out _).trans (((cell_far (p := ⟨gb126,_,none⟩) NB129_126.out _).trans (((cell_far (p := ⟨gb126,_,none⟩) NB129_126.out _).trans (hHeld.2.2.2.1)))))))))))),((cell_far (p := ⟨gb126,_,none⟩) NB129_126.out _).trans (((cell_far (p := ⟨gb126,_,none⟩) NB129_126.out _).trans (((cell_far (p := ⟨gb126,_,none⟩) NB129_126.out _).trans (((cell_far (p := ⟨gb126,_,none⟩) NB129_126.out _).trans (((cell_far (p := ⟨gb126,_,none⟩) NB129_126.out _).trans (((cell_far (p := ⟨gb126,_,none⟩) NB129_126.out _).trans (hHeld.2.2.2.2.1)))))))))))),((cell_far (p := ⟨gb126,_,none⟩) NB129_126.out _).trans (((cell_far (p := ⟨gb126,_,none⟩) NB129_126.out _).trans (((cell_far (p := ⟨gb126,_,none⟩) NB129_126.out _).trans (((cell_far (p := ⟨gb126,_,none⟩) NB129_126.out _).trans (((cell_far (p := ⟨gb126,_,none⟩) NB129_126.out _).trans (((cell_far (p := ⟨gb126,_,none⟩) NB129_126.out _).trans (hHeld.2.2.2.2.2.1)))))))))))),((cell_far (p := ⟨gb126,_,none⟩) NB129_126.out _).trans (((cell_far (p := ⟨gb126,_,none⟩) NB129_126.out _).trans (((cell_far (p := ⟨gb126,_,none⟩) NB129_126.out _).trans (((cell_far (p := ⟨gb126,_,none⟩) NB129_126.out _).trans (((cell_far (p := ⟨gb126,_,none⟩) NB129_126.out _).trans (((cell_far (p := ⟨gb126,_,none⟩) NB129_126.out _).trans (hHeld.2.2.2.2.2.2.1)))))))))))),((cell_far (p := ⟨gb126,_,none⟩) NB129_126.out _).trans (((cell_far (p := ⟨gb126,_,none⟩) NB129_126.out _).trans (((cell_far (p := ⟨gb126,_,none⟩) NB129_126.out _).trans (((cell_far (p := ⟨gb126,_,none⟩) NB129_126.out _).trans (((cell_far (p := ⟨gb126,_,none⟩) NB129_126.out _).trans (((cell_far (p := ⟨gb126,_,none⟩) NB129_126.out _).trans (hHeld.2.2.2.2.2.2.2.1)))))))))))),((cell_far (p := ⟨gb126,_,none⟩) NB129_126.out _).trans (((cell_far (p := ⟨gb126,_,none⟩) NB129_126.out _).trans (((cell_far (p := ⟨gb126,_,none⟩) NB129_126.out _).trans (((cell_far (p := ⟨gb126,_,none⟩) NB129_126.out _).trans (((cell_far (p := ⟨gb126,_,none⟩) NB129_126.out _).trans (((cell_far (p := ⟨gb126,_,none⟩) NB129_126.out _).trans (hHeld.2.2.2.2.2.2.2.2))))))))))))⟩ (fun hHeld => ?_)
       clear hK K
       refine pure_ (i := 4) (N := some 6) (v := ?_) (a' := ?_) #[true,true,true,true,true] rfl rfl (by kernel_rfl) (fun _ _ _ h => h) (Or.inl ⟨by rfl,?_⟩) ?_ ?_
       rotate_left
       ·intro w'
        go_simp
        with_reducible rfl
       rotate_left
       ·simp only [Act.put,List.setIfInBounds_toArray,List.set_cons_zero,List.set_cons_succ,i64_w,i32_w]
        rfl
       refine done_ (by kernel_rfl) ?_
       try go_wp2
       refine bodyPost_ret (results_list (rs := [.cell 4 67,.cell 5 61,.tmp 6]) rfl (by simp) (.cell gb125 67 #[.int .i64 a1_3,.int .i64 a0_1,.string a0_2] (0,0) _ rfl (by (with_reducible repeat (first|refine blk_drewN ?_ _|refine blk_drew ?_|refine blk_alloc ?_ _));refine blk_far ?_ NB125_126.out _;(with_reducible repeat (first|refine blk_drewN ?_ _|refine blk_drew ?_|refine blk_alloc ?_ _));refine blk_far ?_ NB125_126.out _;(with_reducible repeat (first|refine blk_drewN ?_ _|refine blk_drew ?_|refine blk_alloc ?_ _));refine blk_far ?_ NB125_126.out _;(with_reducible repeat (first|refine blk_drewN ?_ _|refine blk_drew ?_|refine blk_alloc ?_ _));refine blk_far ?_ NB125_126.out _;(with_reducible repeat (first|refine blk_drewN ?_ _|refine blk_drew ?_|refine blk_alloc ?_ _));refine blk_far ?_ NB125_126.out _;(with_reducible repeat (first|refine blk_drewN ?_ _|refine blk_drew ?_|refine blk_alloc ?_ _));refine blk_far ?_ NB125_126.out _;(with_reducible repeat (first|refine blk_drewN ?_ _|refine blk_drew ?_|refine blk_alloc ?_ _));refine blk_put (cs := #[.int .i64 a1_3,.int .i64 a0_1,.string (⟨#[]⟩ : ByteArray)]) ?_ 2 _ rfl;(with_reducible repeat (first|refine blk_drewN ?_ _|refine blk_drew ?_|refine blk_alloc ?_ _));refine blk_put (cs := #[.int .i64 a1_3,.int .i64 0,.string (⟨#[]⟩ : ByteArray)]) ?_ 1 _ rfl;(with_reducible repeat (first|refine blk_drewN ?_ _|refine blk_drew ?_|refine blk_alloc ?_ _));refine blk_put (cs := #[.int .i64 0,.int .i64 0,.string (⟨#[]⟩ : ByteArray)]) ?_ 0 _ rfl;(with_reducible repeat (first|refine blk_drewN ?_ _|refine blk_drew ?_|refine blk_alloc ?_ _));exact BK125.out) Try.underlying67 rfl (by kernel_rfl) (.cell gb126 61 #[.int .i64 2,.int .i64 a1_2,.int .i64 a1_1,.int .i64 a1_3,.int .i64 a0_1,.string a0_2] (0,0) _ rfl (by (with_reducible repeat (first|refine blk_drewN ?_ _|refine blk_drew ?_|refine blk_alloc ?_ _));refine blk_put (cs := #[.int .i64 2,.int .i64 a1_2,.int .i64 a1_1,.int .i64 a1_3,.int .i64 a0_1,.string (⟨#[]⟩ : ByteArray)]) ?_ 5 _ rfl;(with_reducible repeat (first|refine blk_drewN ?_ _|refine blk_drew ?_|refine blk_alloc ?_ _));refine blk_put (cs := #[.int .i64 2,.int .i64 a1_2,.int .i64 a1_1,.int .i64 a1_3,.int .i64 0,.string (⟨#[]⟩ : ByteArray)]) ?_ 4 _ rfl;(with_reducible repeat (first|refine blk_drewN ?_ _|refine blk_drew ?_|refine blk_alloc ?_ _));refine blk_put (cs := #[.int .i64 2,.int .i64 a1_2,.int .i64 a1_1,.int .i64 0,.int .i64 0,.string (⟨#[]⟩ : ByteArray)]) ?_ 3 _ rfl;(with_reducible repeat (first|refine blk_drewN ?_ _|refine blk_drew ?_|refine blk_alloc ?_ _));refine blk_put (cs := #[.int .i64 2,.int .i64 a1_2,.int .i64 0,.int .i64 0,.int .i64 0,.string (⟨#[]⟩ : ByteArray)]) ?_ 2 _ rfl;(with_reducible repeat (first|refine blk_drewN ?_ _|refine blk_drew ?_|refine blk_alloc ?_ _));refine blk_put (cs := #[.int .i64 2,.int .i64 0,.int .i64 0,.int .i64 0,.int .i64 0,.string (⟨#[]⟩ : ByteArray)]) ?_ 1 _ rfl;(with_reducible repeat (first|refine blk_drewN ?_ _|refine blk_drew ?_|refine blk_alloc ?_ _));refine blk_put (cs := #[.int .i64 0,.int .i64 0,.int .i64 0,.int .i64 0,.int .i64 0,.string (⟨#[]⟩ : ByteArray)]) ?_ 0 _ rfl;(with_reducible repeat (first|refine blk_drewN ?_ _|refine blk_drew ?_|refine blk_alloc ?_ _));refine blk_far ?_ NB126_125.out _;(with_reducible repeat (first|refine blk_drewN ?_ _|refine blk_drew ?_|refine blk_alloc ?_ _));refine blk_far ?_ NB126_125.out _;(with_reducible repeat (first|refine blk_drewN ?_ _|refine blk_drew ?_|refine blk_alloc ?_ _));refine blk_far ?_ NB126_125.out _;(with_reducible repeat (first|refine blk_drewN ?_ _|refine blk_drew ?_|refine blk_alloc ?_ _));exact BK126.out) Try.underlying61 rfl (by kernel_rfl) (.tmp .nil)))) rfl ?_
       exact ⟨by first|rfl|(simp [errW_none,errW_some] <;> rfl)|(simp [*,errW_none,errW_some] <;> rfl),by repeat (first|(with_reducible first|exact HB.out|apply below_alloc|apply pw_below_drewN|apply below_drew1|refine below_set ?_ GE123.out|refine below_set ?_ GE124.out|refine below_set ?_ GE125.out|refine below_set ?_ GE126.out|refine below_set ?_ GE129.out)|exact HB.out)⟩
      ·replace c64 := Bool.eq_false_iff.mpr c64
       subst c64
       have H1 : (if a1_0 = 3 then (if a1_3 ≥ a0_0 then (some (a1_3,a1_3,a1_5,4,a1_2,a1_1,a1_3,0,a1_5,true)) else (some (a0_0,a0_1,a0_2,0,0,0,0,0,(⟨#[]⟩ : ByteArray),false))) else (some (a0_0,a0_1,a0_2,0,0,0,0,0,(⟨#[]⟩ : ByteArray),false))) = some (r1,r2,r3,r4,r5,r6,r7,r8,r9,r10) := by rw [if_neg (show ¬ (false = true) by decide)] at H;exact H
       clear H
       have H := H1
       clear H1
       by_cases c89 : a1_0 = 3
       ·rw [if_pos c89] at H
        have c89b0 : (a1_0 == 3) = true := beq_iff_eq.mpr c89
        have c89b1 : (a1_0 != 3) = false := bne_eq_false_iff_eq.mpr c89
        clear c89
        by_cases c90 : a1_3 ≥ a0_0
        ·rw [if_pos c90] at H
         have c90b0 : decide (a0_0 ≤ a1_3) = true := decide_eq_true c90
         clear c90
         simp only [Option.some.injEq,Prod.mk.injEq] at H
         obtain ⟨rfl,rfl,rfl,rfl,rfl,rfl,rfl,rfl,rfl,rfl⟩ := H
         have hnb91 := NB124_123.out
         have hnc91 := NB123_124.out
         have hnb92 := NB124_125.out
         have hnc92 := NB125_124.out
         have hnb93 := NB124_126.out
         have hnc93 := NB126_124.out
         have hnb94 := NB124_129.out
         have hnc94 := NB129_124.out
         have hcz95_0 : wc.cell? ⟨gb124,0,none⟩ = some (.int .i64 a1_0) := (blk_cell BK124.out 0).trans rfl
         have hcz95_1 : wc.cell? ⟨gb124,1,none⟩ = some (.int .i64 a1_1) := (blk_cell BK124.out 1).trans rfl
         have hcz95_2 : wc.cell? ⟨gb124,2,none⟩ = some (.int .i64 a1_2) := (blk_cell BK124.out 2).trans rfl
         have hcz95_3 : wc.cell? ⟨gb124,3,none⟩ = some (.int .i64 a1_3) := (blk_cell BK124.out 3).trans rfl
         have hcz95_4 : wc.cell? ⟨gb124,4,none⟩ = some (.int .i64 a1_4) := (blk_cell BK124.out 4).trans rfl
         have hcz95_5 : wc.cell? ⟨gb124,5,none⟩ = some (.string a1_5) := (blk_cell BK124.out 5).trans rfl
         have hfz95_0 := blk_frozen BK124.out 0
         have hfz95_1 := blk_frozen BK124.out 1
         have hfz95_2 := blk_frozen BK124.out 2
         have hfz95_3 := blk_frozen BK124.out 3
         have hfz95_4 := blk_frozen BK124.out 4
         have hfz95_5 := blk_frozen BK124.out 5
         have hnb96 := NB123_125.out
         have hnc96 := NB125_123.out
         have hnb97 := NB123_126.out
         have hnc97 := NB126_123.out
         have hnb98 := NB123_129.out
         have hnc98 := NB129_123.out
         have hcz99_0 : wc.cell? ⟨gb123,0,none⟩ = some (.int .i64 a0_0) := (blk_cell BK123.out 0).trans rfl
         have hcz99_1 : wc.cell? ⟨gb123,1,none⟩ = some (.int .i64 a0_1) := (blk_cell BK123.out 1).trans rfl
         have hcz99_2 : wc.cell? ⟨gb123,2,none⟩ = some (.string a0_2) := (blk_cell BK123.out 2).trans rfl
         have hfz99_0 := blk_frozen BK123.out 0
         have hfz99_1 := blk_frozen BK123.out 1
         have hfz99_2 := blk_frozen BK123.out 2
         try go_wp2
         have n0_ := Aside0.mk (blk_drew BK123.out)
         have n1_ := Aside0.mk (blk_drew BK124.out)
         have n2_ := Aside0.mk (blk_drew BK125.out)
         have n3_ := Aside0.mk (blk_drew BK126.out)
         have n4_ := Aside0.mk (blk_drew BK129.out)
         have n5_ := Aside0.mk (below_drew1 HB.out)
         clear BK123
         clear BK124
         clear BK125
         clear BK126
         clear BK129
         clear HB
         have BK123 := n0_
         have BK124 := n1_
         have BK125 := n2_
         have BK126 := n3_
         have BK129 := n4_
         have HB := n5_
         clear n0_ n1_ n2_ n3_ n4_ n5_
         refine start_ (n := 6) (S := fun w' => w'.cell? ⟨gb124,0,none⟩ = some (.int .i64 a1_0) ∧ w'.cell? ⟨gb124,1,none⟩ = some (.int .i64 a1_1) ∧ w'.cell? ⟨gb124,2,none⟩ = some (.int .i64 a1_2) ∧ w'.cell? ⟨gb124,3,none⟩ = some (.int .i64 a1_3) ∧ w'.cell? ⟨gb124,4,none⟩ = some (.int .i64 a1_4) ∧ w'.cell? ⟨gb124,5,none⟩ = some (.string a1_5)) (ds := []) #[false,false,false,false,false,false] (by kernel_rfl) rfl rfl ⟨(blk_cell BK124.out 0).trans rfl,(blk_cell BK124.out 1).trans rfl,(blk_cell BK124.out 2).trans rfl,(blk_cell BK124.out 3).trans rfl,(blk_cell BK124.out 4).trans rfl,(blk_cell BK124.out 5).trans rfl⟩ (fun hHeld => ?_)
         generalize wc.drew = w100 at BK123 BK124 BK125 BK126 BK129 HB hHeld ⊢
         refine pure_ (i := 0) (N := some 66) (v := ?_) (a' := ?_) #[true,false,false,false,false,false] rfl rfl (by kernel_rfl) (fun _ _ _ h => h) (Or.inl ⟨by rfl,?_⟩) ?_ ?_
         rotate_left
         ·intro w'
          go_simp
          with_reducible rfl
         rotate_left
         ·simp only [Act.put,List.setIfInBounds_toArray,List.set_cons_zero,List.set_cons_succ,i64_w,i32_w]
          rfl
         refine pure_ (i := 2) (N := some 68) (v := ?_) (a' := ?_) #[true,false,true,false,false,false] rfl rfl (by kernel_rfl) (fun _ _ _ h => h) (Or.inl ⟨by rfl,?_⟩) ?_ ?_
         rotate_left
         ·intro w'
          go_simp
          with_reducible rfl
         rotate_left
         ·simp only [Act.put,List.setIfInBounds_toArray,List.set_cons_zero,List.set_cons_succ,i64_w,i32_w]
          rfl
         refine take_ (i := 1) (N := some 67) (v := ?_) (a' := ?_) #[true,true,true,false,false,false] rfl rfl (by kernel_rfl) (fun _ _ _ h => h) (Or.inl ⟨by rfl,?_⟩) hHeld ?_ ?_
         rotate_left
         ·rintro w' ⟨s0,s1,s2,s3,s4,s5⟩
          go_simp
          with_reducible rfl
         rotate_left
         ·simp only [Act.put,List.setIfInBounds_toArray,List.set_cons_zero,List.set_cons_succ,i64_w,i32_w]
          rfl
         refine one_ (i := 3) (N := none) #[true,true,true,true,false,false] rfl rfl (by kernel_rfl) (by decide) (fun K hK => ?_)
         have hs101 : w100.cell? ⟨gb129,0,none⟩ = some (.int .i64 0) := (blk_cell BK129.out 0).trans rfl
         have hfs101 := blk_frozen BK129.out 0
         have hns101_0 := NB123_129.out
         have hns101_1 := NB124_129.out
         have hns101_2 := NB125_129.out
         have hns101_3 := NB126_129.out
         have hms101_0 := NB129_123.out
         have hms101_1 := NB129_124.out
         have hms101_2 := NB129_125.out
         have hms101_3 := NB129_126.out
         refine skip_ (w1 := ?_) (by rfl) rfl ?_ ?_
         rotate_left
         ·go_simp
          rfl
         refine hK.out _ _ ⟨((cell_far (p := ⟨gb129,_,none⟩) NB124_129.out _).trans (hHeld.1)),((cell_far (p := ⟨gb129,_,none⟩) NB124_129.out _).trans (hHeld.2.1)),((cell_far (p := ⟨gb129,_,none⟩) NB124_129.out _).trans (hHeld.2.2.1)),((cell_far (p := ⟨gb129,_,none⟩) NB124_129.out _).trans (hHeld.2.2.2.1)),((cell_far (p := ⟨gb129,_,none⟩) NB124_129.out _).trans (hHeld.2.2.2.2.1)),((cell_far (p := ⟨gb129,_,none⟩) NB124_129.out _).trans (hHeld.2.2.2.2.2))⟩ (fun hHeld => ?_)
         clear hK K
         refine pure_ (i := 4) (N := some 69) (v := ?_) (a' := ?_) #[true,true,true,true,true,false] rfl rfl (by kernel_rfl) (fun _ _ _ h => h) (Or.inl ⟨by rfl,?_⟩) ?_ ?_
         rotate_left
         ·intro w'
          go_simp
          with_reducible rfl
         rotate_left
         ·simp only [Act.put,List.setIfInBounds_toArray,List.set_cons_zero,List.set_cons_succ,i64_w,i32_w]
          rfl
         refine one_ (i := 5) (N := none) #[true,true,true,true,true,true] rfl rfl (by kernel_rfl) (by decide) (fun K hK => ?_)
         have hs102 : w100.cell? ⟨gb129,5,none⟩ = some (.string (⟨#[]⟩ : ByteArray)) := (blk_cell BK129.out 5).trans rfl
         have hfs102 := blk_frozen BK129.out 5
         have hns102_0 := NB123_129.out
         have hns102_1 := NB124_129.out
         have hns102_2 := NB125_129.out
         have hns102_3 := NB126_129.out
         have hms102_0 := NB129_123.out
         have hms102_1 := NB129_124.out
         have hms102_2 := NB129_125.out
         have hms102_3 := NB129_126.out
         refine skip_ (w1 := ?_) (by rfl) rfl ?_ ?_
         rotate_left
         ·go_simp
          rfl
         refine hK.out _ _ ⟨((cell_far (p := ⟨gb129,_,none⟩) NB124_129.out _).trans (hHeld.1)),((cell_far (p := ⟨gb129,_,none⟩) NB124_129.out _).trans (hHeld.2.1)),((cell_far (p := ⟨gb129,_,none⟩) NB124_129.out _).trans (hHeld.2.2.1)),((cell_far (p := ⟨gb129,_,none⟩) NB124_129.out _).trans (hHeld.2.2.2.1)),((cell_far (p := ⟨gb129,_,none⟩) NB124_129.out _).trans (hHeld.2.2.2.2.1)),((cell_far (p := ⟨gb129,_,none⟩) NB124_129.out _).trans (hHeld.2.2.2.2.2))⟩ (fun hHeld => ?_)
         clear hK K
         refine done_ (by kernel_rfl) ?_
         have hcz103_0 : w100.cell? ⟨gb124,0,none⟩ = some (.int .i64 a1_0) := (blk_cell BK124.out 0).trans rfl
         have hcz103_1 : w100.cell? ⟨gb124,1,none⟩ = some (.int .i64 a1_1) := (blk_cell BK124.out 1).trans rfl
         have hcz103_2 : w100.cell? ⟨gb124,2,none⟩ = some (.int .i64 a1_2) := (blk_cell BK124.out 2).trans rfl
         have hcz103_3 : w100.cell? ⟨gb124,3,none⟩ = some (.int .i64 a1_3) := (blk_cell BK124.out 3).trans rfl
         have hcz103_4 : w100.cell? ⟨gb124,4,none⟩ = some (.int .i64 a1_4) := (blk_cell BK124.out 4).trans rfl
         have hcz103_5 : w100.cell? ⟨gb124,5,none⟩ = some (.string a1_5) := (blk_cell BK124.out 5).trans rfl
         have hfz103_0 := blk_frozen BK124.out 0
         have hfz103_1 := blk_frozen BK124.out 1
         have hfz103_2 := blk_frozen BK124.out 2
         have hfz103_3 := blk_frozen BK124.out 3
         have hfz103_4 := blk_frozen BK124.out 4
         have hfz103_5 := blk_frozen BK124.out 5
         have hcz104_0 : w100.cell? ⟨gb123,0,none⟩ = some (.int .i64 a0_0) := (blk_cell BK123.out 0).trans rfl
         have hcz104_1 : w100.cell? ⟨gb123,1,none⟩ = some (.int .i64 a0_1) := (blk_cell BK123.out 1).trans rfl
         have hcz104_2 : w100.cell? ⟨gb123,2,none⟩ = some (.string a0_2) := (blk_cell BK123.out 2).trans rfl
         have hfz104_0 := blk_frozen BK123.out 0
         have hfz104_1 := blk_frozen BK123.out 1
         have hfz104_2 := blk_frozen BK123.out 2
         try go_wp2
         have n0_ : Aside0 ((((((w100.setCell ⟨gb129,0,none⟩ (.int .i64 4)).setCell ⟨gb129,5,none⟩ (.string a1_5)).setCell ⟨gb123,0,none⟩ (.int .i64 a1_3)).setCell ⟨gb123,1,none⟩ (.int .i64 a1_3)).setCell ⟨gb123,2,none⟩ (.string a1_5)).heap[gb123]? = some (.cells #[.int .i64 a1_3,.int .i64 a1_3,.string a1_5] 67 (0,0))) := ⟨by (with_reducible repeat (first|refine blk_drewN ?_ _|refine blk_drew ?_|refine blk_alloc ?_ _));refine blk_put (cs := #[.int .i64 a1_3,.int .i64 a1_3,.string a0_2]) ?_ 2 _ rfl;(with_reducible repeat (first|refine blk_drewN ?_ _|refine blk_drew ?_|refine blk_alloc ?_ _));refine blk_put (cs := #[.int .i64 a1_3,.int .i64 a0_1,.string a0_2]) ?_ 1 _ rfl;(with_reducible repeat (first|refine blk_drewN ?_ _|refine blk_drew ?_|refine blk_alloc ?_ _));refine blk_put (cs := #[.int .i64 a0_0,.int .i64 a0_1,.string a0_2]) ?_ 0 _ rfl;(with_reducible repeat (first|refine blk_drewN ?_ _|refine blk_drew ?_|refine blk_alloc ?_ _));refine blk_far ?_ NB123_129.out _;(with_reducible repeat (first|refine blk_drewN ?_ _|refine blk_drew ?_|refine blk_alloc ?_ _));refine blk_far ?_ NB123_129.out _;(with_reducible repeat (first|refine blk_drewN ?_ _|refine blk_drew ?_|refine blk_alloc ?_ _));exact BK123.out⟩
         have n1_ : Aside0 ((((((w100.setCell ⟨gb129,0,none⟩ (.int .i64 4)).setCell ⟨gb129,5,none⟩ (.string a1_5)).setCell ⟨gb123,0,none⟩ (.int .i64 a1_3)).setCell ⟨gb123,1,none⟩ (.int .i64 a1_3)).setCell ⟨gb123,2,none⟩ (.string a1_5)).heap[gb124]? = some (.cells #[.int .i64 a1_0,.int .i64 a1_1,.int .i64 a1_2,.int .i64 a1_3,.int .i64 a1_4,.string a1_5] 61 (0,0))) := ⟨by (with_reducible repeat (first|refine blk_drewN ?_ _|refine blk_drew ?_|refine blk_alloc ?_ _));refine blk_far ?_ NB124_123.out _;(with_reducible repeat (first|refine blk_drewN ?_ _|refine blk_drew ?_|refine blk_alloc ?_ _));refine blk_far ?_ NB124_123.out _;(with_reducible repeat (first|refine blk_drewN ?_ _|refine blk_drew ?_|refine blk_alloc ?_ _));refine blk_far ?_ NB124_123.out _;(with_reducible repeat (first|refine blk_drewN ?_ _|refine blk_drew ?_|refine blk_alloc ?_ _));refine blk_far ?_ NB124_129.out _;(with_reducible repeat (first|refine blk_drewN ?_ _|refine blk_drew ?_|refine blk_alloc ?_ _));refine blk_far ?_ NB124_129.out _;(with_reducible repeat (first|refine blk_drewN ?_ _|refine blk_drew ?_|refine blk_alloc ?_ _));exact BK124.out⟩
         have n2_ : Aside0 ((((((w100.setCell ⟨gb129,0,none⟩ (.int .i64 4)).setCell ⟨gb129,5,none⟩ (.string a1_5)).setCell ⟨gb123,0,none⟩ (.int .i64 a1_3)).setCell ⟨gb123,1,none⟩ (.int .i64 a1_3)).setCell ⟨gb123,2,none⟩ (.string a1_5)).heap[gb125]? = some (.cells #[.int .i64 0,.int .i64 0,.string (⟨#[]⟩ : ByteArray)] 67 (0,0))) := ⟨by (with_reducible repeat (first|refine blk_drewN ?_ _|refine blk_drew ?_|refine blk_alloc ?_ _));refine blk_far ?_ NB125_123.out _;(with_reducible repeat (first|refine blk_drewN ?_ _|refine blk_drew ?_|refine blk_alloc ?_ _));refine blk_far ?_ NB125_123.out _;(with_reducible repeat (first|refine blk_drewN ?_ _|refine blk_drew ?_|refine blk_alloc ?_ _));refine blk_far ?_ NB125_123.out _;(with_reducible repeat (first|refine blk_drewN ?_ _|refine blk_drew ?_|refine blk_alloc ?_ _));refine blk_far ?_ NB125_129.out _;(with_reducible repeat (first|refine blk_drewN ?_ _|refine blk_drew ?_|refine blk_alloc ?_ _));refine blk_far ?_ NB125_129.out _;(with_reducible repeat (first|refine blk_drewN ?_ _|refine blk_drew ?_|refine blk_alloc ?_ _));exact BK125.out⟩
         have n3_ : Aside0 ((((((w100.setCell ⟨gb129,0,none⟩ (.int .i64 4)).setCell ⟨gb129,5,none⟩ (.string a1_5)).setCell ⟨gb123,0,none⟩ (.int .i64 a1_3)).setCell ⟨gb123,1,none⟩ (.int .i64 a1_3)).setCell ⟨gb123,2,none⟩ (.string a1_5)).heap[gb126]? = some (.cells #[.int .i64 0,.int .i64 0,.int .i64 0,.int .i64 0,.int .i64 0,.string (⟨#[]⟩ : ByteArray)] 61 (0,0))) := ⟨by (with_reducible repeat (first|refine blk_drewN ?_ _|refine blk_drew ?_|refine blk_alloc ?_ _));refine blk_far ?_ NB126_123.out _;(with_reducible repeat (first|refine blk_drewN ?_ _|refine blk_drew ?_|refine blk_alloc ?_ _));refine blk_far ?_ NB126_123.out _;(with_reducible repeat (first|refine blk_drewN ?_ _|refine blk_drew ?_|refine blk_alloc ?_ _));refine blk_far ?_ NB126_123.out _;(with_reducible repeat (first|refine blk_drewN ?_ _|refine blk_drew ?_|refine blk_alloc ?_ _));refine blk_far ?_ NB126_129.out _;(with_reducible repeat (first|refine blk_drewN ?_ _|refine blk_drew ?_|refine blk_alloc ?_ _));refine blk_far ?_ NB126_129.out _;(with_reducible repeat (first|refine blk_drewN ?_ _|refine blk_drew ?_|refine blk_alloc ?_ _));exact BK126.out⟩
         have n4_ : Aside0 ((((((w100.setCell ⟨gb129,0,none⟩ (.int .i64 4)).setCell ⟨gb129,5,none⟩ (.string a1_5)).setCell ⟨gb123,0,none⟩ (.int .i64 a1_3)).setCell ⟨gb123,1,none⟩ (.int .i64 a1_3)).setCell ⟨gb123,2,none⟩ (.string a1_5)).heap[gb129]? = some (.cells #[.int .i64 4,.int .i64 a1_2,.int .i64 a1_1,.int .i64 a1_3,.int .i64 0,.string a1_5] 61 (0,0))) := ⟨by (with_reducible repeat (first|refine blk_drewN ?_ _|refine blk_drew ?_|refine blk_alloc ?_ _));refine blk_far ?_ NB129_123.out _;(with_reducible repeat (first|refine blk_drewN ?_ _|refine blk_drew ?_|refine blk_alloc ?_ _));refine blk_far ?_ NB129_123.out _;(with_reducible repeat (first|refine blk_drewN ?_ _|refine blk_drew ?_|refine blk_alloc ?_ _));refine blk_far ?_ NB129_123.out _;(with_reducible repeat (first|refine blk_drewN ?_ _|refine blk_drew ?_|refine blk_alloc ?_ _));refine blk_put (cs := #[.int .i64 4,.int .i64 a1_2,.int .i64 a1_1,.int .i64 a1_3,.int .i64 0,.string (⟨#[]⟩ : ByteArray)]) ?_ 5 _ rfl;(with_reducible repeat (first|refine blk_drewN ?_ _|refine blk_drew ?_|refine blk_alloc ?_ _));refine blk_put (cs := #[.int .i64 0,.int .i64 a1_2,.int .i64 a1_1,.int .i64 a1_3,.int .i64 0,.string (⟨#[]⟩ : ByteArray)]) ?_ 0 _ rfl;(with_reducible repeat (first|refine blk_drewN ?_ _|refine blk_drew ?_|refine blk_alloc ?_ _));exact BK129.out⟩
         have n5_ : Aside0 (Below w.heap.size w (((((w100.setCell ⟨gb129,0,none⟩ (.int .i64 4)).setCell ⟨gb129,5,none⟩ (.string a1_5)).setCell ⟨gb123,0,none⟩ (.int .i64 a1_3)).setCell ⟨gb123,1,none⟩ (.int .i64 a1_3)).setCell ⟨gb123,2,none⟩ (.string a1_5))) := ⟨by repeat (first|(with_reducible first|exact HB.out|apply below_alloc|apply pw_below_drewN|apply below_drew1|refine below_set ?_ GE123.out|refine below_set ?_ GE124.out|refine below_set ?_ GE125.out|refine below_set ?_ GE126.out|refine below_set ?_ GE129.out)|exact HB.out)⟩
         (try clear BK123)
         (try clear BK124)
         (try clear BK125)
         (try clear BK126)
         (try clear BK129)
         (try clear HB)
         generalize (((((w100.setCell ⟨gb129,0,none⟩ (.int .i64 4)).setCell ⟨gb129,5,none⟩ (.string a1_5)).setCell ⟨gb123,0,none⟩ (.int .i64 a1_3)).setCell ⟨gb123,1,none⟩ (.int .i64 a1_3)).setCell ⟨gb123,2,none⟩ (.string a1_5)) = w105 at n0_ n1_ n2_ n3_ n4_ n5_ ⊢
         have BK123 := n0_
         have BK124 := n1_
         have BK125 := n2_
         have BK126 := n3_
         have BK129 := n4_
         have HB := n5_
         clear n0_ n1_ n2_ n3_ n4_ n5_
         have n0_ := Aside0.mk (blk_drew BK123.out)
         have n1_ := Aside0.mk (blk_drew BK124.out)
         have n2_ := Aside0.mk (blk_drew BK125.out)
         have n3_ := Aside0.mk (blk_drew BK126.out)
         have n4_ := Aside0.mk (blk_drew BK129.out)
         have n5_ := Aside0.mk (below_drew1 HB.out)
         clear BK123
         clear BK124
         clear BK125
         clear BK126
         clear BK129
         clear HB
         have BK123 := n0_
         have BK124 := n1_
         have BK125 := n2_
         have BK126 := n3_
         have BK129 := n4_
         have HB := n5_
         clear n0_ n1_ n2_ n3_ n4_ n5_
         refine start_ (n := 5) (S := fun w' => w'.cell? ⟨gb123,0,none⟩ = some (.int .i64 a1_3) ∧ w'.cell? ⟨gb123,1,none⟩ = some (.int .i64 a1_3) ∧ w'.cell? ⟨gb123,2,none⟩ = some (.string a1_5) ∧ w'.cell? ⟨gb129,0,none⟩ = some (.int .i64 4) ∧ w'.cell? ⟨gb129,1,none⟩ = some (.int .i64 a1_2) ∧ w'.cell? ⟨gb129,2,none⟩ = some (.int .i64 a1_1) ∧ w'.cell? ⟨gb129,3,none⟩ = some (.int .i64 a1_3) ∧ w'.cell? ⟨gb129,4,none⟩ = some (.int .i64 0) ∧ w'.cell? ⟨gb129,5,none⟩ = some (.string a1_5)) (ds := []) #[false,false,false,false,false] (by kernel_rfl) rfl rfl ⟨(blk_cell BK123.out 0).trans rfl,(blk_cell BK123.out 1).trans rfl,(blk_cell BK123.out 2).trans rfl,(blk_cell BK129.out 0).trans rfl,(blk_cell BK129.out 1).trans rfl,(blk_cell BK129.out 2).trans rfl,(blk_cell BK129.out 3).trans rfl,(blk_cell BK129.out 4).trans rfl,(blk_cell BK129.out 5).trans rfl⟩ (fun hHeld => ?_)
         generalize w105.drew = w106 at BK123 BK124 BK125 BK126 BK129 HB hHeld ⊢
         refine take_ (i := 0) (N := some 77) (v := ?_) (a' := ?_) #[true,false,false,false,false] rfl rfl (by kernel_rfl) (fun _ _ _ h => h) (Or.inl ⟨by rfl,?_⟩) hHeld ?_ ?_
         rotate_left
         ·rintro w' ⟨s0,s1,s2,s3,s4,s5,s6,s7,s8⟩
          go_simp
          with_reducible rfl
         rotate_left
         ·simp only [Act.put,List.setIfInBounds_toArray,List.set_cons_zero,List.set_cons_succ,i64_w,i32_w]
          rfl
         refine take_ (i := 1) (N := some 78) (v := ?_) (a' := ?_) #[true,true,false,false,false] rfl rfl (by kernel_rfl) (fun _ _ _ h => h) (Or.inl ⟨by rfl,?_⟩) hHeld ?_ ?_
         rotate_left
         ·rintro w' ⟨s0,s1,s2,s3,s4,s5,s6,s7,s8⟩
          go_simp
          with_reducible rfl
         rotate_left
         ·simp only [Act.put,List.setIfInBounds_toArray,List.set_cons_zero,List.set_cons_succ,i64_w,i32_w]
          rfl
         refine one_ (i := 2) (N := none) #[true,true,true,false,false] rfl rfl (by kernel_rfl) (by decide) (fun K hK => ?_)
         have hs107 : w106.cell? ⟨gb125,0,none⟩ = some (.int .i64 0) := (blk_cell BK125.out 0).trans rfl
         have hfs107 := blk_frozen BK125.out 0
         have hns107_0 := NB123_125.out
         have hns107_1 := NB124_125.out
         have hns107_3 := NB126_125.out
         have hns107_4 := NB129_125.out
         have hms107_0 := NB125_123.out
         have hms107_1 := NB125_124.out
         have hms107_3 := NB125_126.out
         have hms107_4 := NB125_129.out
         have hs108 : w106.cell? ⟨gb125,1,none⟩ = some (.int .i64 0) := (blk_cell BK125.out 1).trans rfl
         have hfs108 := blk_frozen BK125.out 1
         have hns108_0 := NB123_125.out
         have hns108_1 := NB124_125.out
         have hns108_3 := NB126_125.out
         have hns108_4 := NB129_125.out
         have hms108_0 := NB125_123.out
         have hms108_1 := NB125_124.out
         have hms108_3 := NB125_126.out
         have hms108_4 := NB125_129.out
         have hs109 : w106.cell? ⟨gb125,2,none⟩ = some (.string (⟨#[]⟩ : ByteArray)) := (blk_cell BK125.out 2).trans rfl
         have hfs109 := blk_frozen BK125.out 2
         have hns109_0 := NB123_125.out
         have hns109_1 := NB124_125.out
         have hns109_3 := NB126_125.out
         have hns109_4 := NB129_125.out
         have hms109_0 := NB125_123.out
         have hms109_1 := NB125_124.out
         have hms109_3 := NB125_126.out
         have hms109_4 := NB125_129.out
         refine skip_ (w1 := ?_) (by rfl) rfl ?_ ?_
         rotate_left
         ·go_simp
          rfl
         refine hK.out _ _ ⟨((cell_far (p := ⟨gb125,_,none⟩) NB123_125.out _).trans (((cell_far (p := ⟨gb125,_,none⟩) NB123_125.out _).trans (((cell_far (p := ⟨gb125,_,none⟩) NB123_125.out _).trans (hHeld.1)))))),((cell_far (p := ⟨gb125,_,none⟩) NB123_125.out _).trans (((cell_far (p := ⟨gb125,_,none⟩) NB123_125.out _).trans (((cell_far (p := ⟨gb125,_,none⟩) NB123_125.out _).trans (hHeld.2.1)))))),((cell_far (p := ⟨gb125,_,none⟩) NB123_125.out _).trans (((cell_far (p := ⟨gb125,_,none⟩) NB123_125.out _).trans (((cell_far (p := ⟨gb125,_,none⟩) NB123_125.out _).trans (hHeld.2.2.1)))))),((cell_far (p := ⟨gb125,_,none⟩) NB129_125.out _).trans (((cell_far (p := ⟨gb125,_,none⟩) NB129_125.out _).trans (((cell_far (p := ⟨gb125,_,none⟩) NB129_125.out _).trans (hHeld.2.2.2.1)))))),((cell_far (p := ⟨gb125,_,none⟩) NB129_125.out _).trans (((cell_far (p := ⟨gb125,_,none⟩) NB129_125.out _).trans (((cell_far (p := ⟨gb125,_,none⟩) NB129_125.out _).trans (hHeld.2.2.2.2.1)))))),((cell_far (p := ⟨gb125,_,none⟩) NB129_125.out _).trans (((cell_far (p := ⟨gb125,_,none⟩) NB129_125.out _).trans (((cell_far (p := ⟨gb125,_,none⟩) NB129_125.out _).trans (hHeld.2.2.2.2.2.1)))))),((cell_far (p := ⟨gb125,_,none⟩) NB129_125.out _).trans (((cell_far (p := ⟨gb125,_,none⟩) NB129_125.out _).trans (((cell_far (p := ⟨gb125,_,none⟩) NB129_125.out _).trans (hHeld.2.2.2.2.2.2.1)))))),((cell_far (p := ⟨gb125,_,none⟩) NB129_125.out _).trans (((cell_far (p := ⟨gb125,_,none⟩) NB129_125.out _).trans (((cell_far (p := ⟨gb125,_,none⟩) NB129_125.out _).trans (hHeld.2.2.2.2.2.2.2.1)))))),((cell_far (p := ⟨gb125,_,none⟩) NB129_125.out _).trans (((cell_far (p := ⟨gb125,_,none⟩) NB129_125.out _).trans (((cell_far (p := ⟨gb125,_,none⟩) NB129_125.out _).trans (hHeld.2.2.2.2.2.2.2.2))))))⟩ (fun hHeld => ?_)
         clear hK K
         refine one_ (i := 3) (N := none) #[true,true,true,true,false] rfl rfl (by kernel_rfl) (by decide) (fun K hK => ?_)
         have hs110 : w106.cell? ⟨gb126,0,none⟩ = some (.int .i64 0) := (blk_cell BK126.out 0).trans rfl
         have hfs110 := blk_frozen BK126.out 0
         have hns110_0 := NB123_126.out
         have hns110_1 := NB124_126.out
         have hns110_2 := NB125_126.out
         have hns110_4 := NB129_126.out
         have hms110_0 := NB126_123.out
         have hms110_1 := NB126_124.out
         have hms110_2 := NB126_125.out
         have hms110_4 := NB126_129.out
         have hs111 : w106.cell? ⟨gb126,1,none⟩ = some (.int .i64 0) := (blk_cell BK126.out 1).trans rfl
         have hfs111 := blk_frozen BK126.out 1
         have hns111_0 := NB123_126.out
         have hns111_1 := NB124_126.out
         have hns111_2 := NB125_126.out
         have hns111_4 := NB129_126.out
         have hms111_0 := NB126_123.out
         have hms111_1 := NB126_124.out
         have hms111_2 := NB126_125.out
         have hms111_4 := NB126_129.out
         have hs112 : w106.cell? ⟨gb126,2,none⟩ = some (.int .i64 0) := (blk_cell BK126.out 2).trans rfl
         have hfs112 := blk_frozen BK126.out 2
         have hns112_0 := NB123_126.out
         have hns112_1 := NB124_126.out
         have hns112_2 := NB125_126.out
         have hns112_4 := NB129_126.out
         have hms112_0 := NB126_123.out
         have hms112_1 := NB126_124.out
         have hms112_2 := NB126_125.out
         have hms112_4 := NB126_129.out
         have hs113 : w106.cell? ⟨gb126,3,none⟩ = some (.int .i64 0) := (blk_cell BK126.out 3).trans rfl
         have hfs113 := blk_frozen BK126.out 3
         have hns113_0 := NB123_126.out
         have hns113_1 := NB124_126.out
         have hns113_2 := NB125_126.out
         have hns113_4 := NB129_126.out
         have hms113_0 := NB126_123.out
         have hms113_1 := NB126_124.out
         have hms113_2 := NB126_125.out
         have hms113_4 := NB126_129.out
         have hs114 : w106.cell? ⟨gb126,4,none⟩ = some (.int .i64 0) := (blk_cell BK126.out 4).trans rfl
         have hfs114 := blk_frozen BK126.out 4
         have hns114_0 := NB123_126.out
         have hns114_1 := NB124_126.out
         have hns114_2 := NB125_126.out
         have hns114_4 := NB129_126.out
         have hms114_0 := NB126_123.out
         have hms114_1 := NB126_124.out
         have hms114_2 := NB126_125.out
         have hms114_4 := NB126_129.out
         have hs115 : w106.cell? ⟨gb126,5,none⟩ = some (.string (⟨#[]⟩ : ByteArray)) := (blk_cell BK126.out 5).trans rfl
         have hfs115 := blk_frozen BK126.out 5
         have hns115_0 := NB123_126.out
         have hns115_1 := NB124_126.out
         have hns115_2 := NB125_126.out
         have hns115_4 := NB129_126.out
         have hms115_0 := NB126_123.out
         have hms115_1 := NB126_124.out
         have hms115_2 := NB126_125.out
         have hms115_4 := NB126_129.out
         refine skip_ (w1 := ?_) (by rfl) rfl ?_ ?_
         rotate_left
         ·go_simp
          rfl
         refine hK.out _ _ ⟨((cell_far (p := ⟨gb126,_,none⟩) NB123_126.out _).trans (((cell_far (p := ⟨gb126,_,none⟩) NB123_126.out _).trans (((cell_far (p := ⟨gb126,_,none⟩) NB123_126.out _).trans (((cell_far (p := ⟨gb126,_,none⟩) NB123_126.out _).trans (((cell_far (p := ⟨gb126,_,none⟩) NB123_126.out _).trans (((cell_far (p := ⟨gb126,_,none⟩) NB123_126.out _).trans (hHeld.1)))))))))))),((cell_far (p := ⟨gb126,_,none⟩) NB123_126.out _).trans (((cell_far (p := ⟨gb126,_,none⟩) NB123_126.out _).trans (((cell_far (p := ⟨gb126,_,none⟩) NB123_126.out _).trans (((cell_far (p := ⟨gb126,_,none⟩) NB123_126.out _).trans (((cell_far (p := ⟨gb126,_,none⟩) NB123_126.out _).trans (((cell_far (p := ⟨gb126,_,none⟩) NB123_126.out _).trans (hHeld.2.1)))))))))))),((cell_far (p := ⟨gb126,_,none⟩) NB123_126.out _).trans (((cell_far (p := ⟨gb126,_,none⟩) NB123_126.out _).trans (((cell_far (p := ⟨gb126,_,none⟩) NB123_126.out _).trans (((cell_far (p := ⟨gb126,_,none⟩) NB123_126.out _).trans (((cell_far (p := ⟨gb126,_,none⟩) NB123_126.out _).trans (((cell_far (p := ⟨gb126,_,none⟩) NB123_126.out _).trans (hHeld.2.2.1)))))))))))),((cell_far (p := ⟨gb126,_,none⟩) NB129_126.out _).trans (((cell_far (p := ⟨gb126,_,none⟩) NB129_126.out _).trans (((cell_far (p := ⟨gb126,_,none⟩) NB129_126.out _).trans (((cell_far (p := ⟨gb126,_,none⟩) NB129_126.out _).trans (((cell_far (p := ⟨gb126,_,none⟩) NB129_126.out _).trans (((cell_far (p := ⟨gb126,_,none⟩) NB129_126.out _).trans (hHeld.2.2.2.1)))))))))))),((cell_far (p := ⟨gb126,_,none⟩) NB129_126.out _).trans (((cell_far (p := ⟨gb126,_,none⟩) NB129_126.out _).trans (((cell_far (p := ⟨gb126,_,none⟩) NB129_126.out _).trans (((cell_far (p := ⟨gb126,_,none⟩) NB129_126.out _).trans (((cell_far (p := ⟨gb126,_,none⟩) NB129_126.out _).trans (((cell_far (p := ⟨gb126,_,none⟩) NB129_126.out _).trans (hHeld.2.2.2.2.1)))))))))))),((cell_far (p := ⟨gb126,_,none⟩) NB129_126.out _).trans (((cell_far (p := ⟨gb126,_,none⟩) NB129_126.out _).trans (((cell_far (p := ⟨gb126,_,none⟩) NB129_126.out _).trans (((cell_far (p := ⟨gb126,_,none⟩) NB129_126.out _).trans (((cell_far (p := ⟨gb126,_,none⟩) NB129_126.out _).trans (((cell_far (p := ⟨gb126,_,none⟩) NB129_126.out _).trans (hHeld.2.2.2.2.2.1)))))))))))),((cell_far (p := ⟨gb126,_,none⟩) NB129_126.out _).trans (((cell_far (p := ⟨gb126,_,none⟩) NB129_126.out _).trans (((cell_far (p := ⟨gb126,_,none⟩) NB129_126.out _).trans (((cell_far (p := ⟨gb126,_,none⟩) NB129_126.out _).trans (((cell_far (p := ⟨gb126,_,none⟩) NB129_126.out _).trans (((cell_far (p := ⟨gb126,_,none⟩) NB129_126.out _).trans (hHeld.2.2.2.2.2.2.1)))))))))))),((cell_far (p := ⟨gb126,_,none⟩) NB129_126.out _).trans (((cell_far (p := ⟨gb126,_,none⟩) NB129_126.out _).trans (((cell_far (p := ⟨gb126,_,none⟩) NB129_126.out _).trans (((cell_far (p := ⟨gb126,_,none⟩) NB129_126.out _).trans (((cell_far (p := ⟨gb126,_,none⟩) NB129_126.out _).trans (((cell_far (p := ⟨gb126,_,none⟩) NB129_126.out _).trans (hHeld.2.2.2.2.2.2.2.1)))))))))))),((cell_far (p := ⟨gb126,_,none⟩) NB129_126.out _).trans (((cell_far (p := ⟨gb126,_,none⟩) NB129_126.out _).trans (((cell_far (p := ⟨gb126,_,none⟩) NB129_126.out _).trans (((cell_far (p := ⟨gb126,_,none⟩) NB129_126.out _).trans (((cell_far (p := ⟨gb126,_,none⟩) NB129_126.out _).trans (((cell_far (p := ⟨gb126,_,none⟩) NB129_126.out _).trans (hHeld.2.2.2.2.2.2.2.2))))))))))))⟩ (fun hHeld => ?_)
         clear hK K
         refine pure_ (i := 4) (N := some 6) (v := ?_) (a' := ?_) #[true,true,true,true,true] rfl rfl (by kernel_rfl) (fun _ _ _ h => h) (Or.inl ⟨by rfl,?_⟩) ?_ ?_
         rotate_left
         ·intro w'
          go_simp
          with_reducible rfl
         rotate_left
         ·simp only [Act.put,List.setIfInBounds_toArray,List.set_cons_zero,List.set_cons_succ,i64_w,i32_w]
          rfl
         refine done_ (by kernel_rfl) ?_
         try go_wp2
         refine bodyPost_ret (results_list (rs := [.cell 4 67,.cell 5 61,.tmp 6]) rfl (by simp) (.cell gb125 67 #[.int .i64 a1_3,.int .i64 a1_3,.string a1_5] (0,0) _ rfl (by (with_reducible repeat (first|refine blk_drewN ?_ _|refine blk_drew ?_|refine blk_alloc ?_ _));refine blk_far ?_ NB125_126.out _;(with_reducible repeat (first|refine blk_drewN ?_ _|refine blk_drew ?_|refine blk_alloc ?_ _));refine blk_far ?_ NB125_126.out _;(with_reducible repeat (first|refine blk_drewN ?_ _|refine blk_drew ?_|refine blk_alloc ?_ _));refine blk_far ?_ NB125_126.out _;(with_reducible repeat (first|refine blk_drewN ?_ _|refine blk_drew ?_|refine blk_alloc ?_ _));refine blk_far ?_ NB125_126.out _;(with_reducible repeat (first|refine blk_drewN ?_ _|refine blk_drew ?_|refine blk_alloc ?_ _));refine blk_far ?_ NB125_126.out _;(with_reducible repeat (first|refine blk_drewN ?_ _|refine blk_drew ?_|refine blk_alloc ?_ _));refine blk_far ?_ NB125_126.out _;(with_reducible repeat (first|refine blk_drewN ?_ _|refine blk_drew ?_|refine blk_alloc ?_ _));refine blk_put (cs := #[.int .i64 a1_3,.int .i64 a1_3,.string (⟨#[]⟩ : ByteArray)]) ?_ 2 _ rfl;(with_reducible repeat (first|refine blk_drewN ?_ _|refine blk_drew ?_|refine blk_alloc ?_ _));refine blk_put (cs := #[.int .i64 a1_3,.int .i64 0,.string (⟨#[]⟩ : ByteArray)]) ?_ 1 _ rfl;(with_reducible repeat (first|refine blk_drewN ?_ _|refine blk_drew ?_|refine blk_alloc ?_ _));refine blk_put (cs := #[.int .i64 0,.int .i64 0,.string (⟨#[]⟩ : ByteArray)]) ?_ 0 _ rfl;(with_reducible repeat (first|refine blk_drewN ?_ _|refine blk_drew ?_|refine blk_alloc ?_ _));exact BK125.out) Try.underlying67 rfl (by kernel_rfl) (.cell gb126 61 #[.int .i64 4,.int .i64 a1_2,.int .i64 a1_1,.int .i64 a1_3,.int .i64 0,.string a1_5] (0,0) _ rfl (by (with_reducible repeat (first|refine blk_drewN ?_ _|refine blk_drew ?_|refine blk_alloc ?_ _));refine blk_put (cs := #[.int .i64 4,.int .i64 a1_2,.int .i64 a1_1,.int .i64 a1_3,.int .i64 0,.string (⟨#[]⟩ : ByteArray)]) ?_ 5 _ rfl;(with_reducible repeat (first|refine blk_drewN ?_ _|refine blk_drew ?_|refine blk_alloc ?_ _));refine blk_put (cs := #[.int .i64 4,.int .i64 a1_2,.int .i64 a1_1,.int .i64 a1_3,.int .i64 0,.string (⟨#[]⟩ : ByteArray)]) ?_ 4 _ rfl;(with_reducible repeat (first|refine blk_drewN ?_ _|refine blk_drew ?_|refine blk_alloc ?_ _));refine blk_put (cs := #[.int .i64 4,.int .i64 a1_2,.int .i64 a1_1,.int .i64 0,.int .i64 0,.string (⟨#[]⟩ : ByteArray)]) ?_ 3 _ rfl;(with_reducible repeat (first|refine blk_drewN ?_ _|refine blk_drew ?_|refine blk_alloc ?_ _));refine blk_put (cs := #[.int .i64 4,.int .i64 a1_2,.int .i64 0,.int .i64 0,.int .i64 0,.string (⟨#[]⟩ : ByteArray)]) ?_ 2 _ rfl;(with_reducible repeat (first|refine blk_drewN ?_ _|refine blk_drew ?_|refine blk_alloc ?_ _));refine blk_put (cs := #[.int .i64 4,.int .i64 0,.int .i64 0,.int .i64 0,.int .i64 0,.string (⟨#[]⟩ : ByteArray)]) ?_ 1 _ rfl;(with_reducible repeat (first|refine blk_drewN ?_ _|refine blk_drew ?_|refine blk_alloc ?_ _));refine blk_put (cs := #[.int .i64 0,.int .i64 0,.int .i64 0,.int .i64 0,.int .i64 0,.string (⟨#[]⟩ : ByteArray)]) ?_ 0 _ rfl;(with_reducible repeat (first|refine blk_drewN ?_ _|refine blk_drew ?_|refine blk_alloc ?_ _));refine blk_far ?_ NB126_125.out _;(with_reducible repeat (first|refine blk_drewN ?_ _|refine blk_drew ?_|refine blk_alloc ?_ _));refine blk_far ?_ NB126_125.out _;(with_reducible repeat (first|refine blk_drewN ?_ _|refine blk_drew ?_|refine blk_alloc ?_ _));refine blk_far ?_ NB126_125.out _;(with_reducible repeat (first|refine blk_drewN ?_ _|refine blk_drew ?_|refine blk_alloc ?_ _));exact BK126.out) Try.underlying61 rfl (by kernel_rfl) (.tmp .nil)))) rfl ?_
         exact ⟨by first|rfl|(simp [errW_none,errW_some] <;> rfl)|(simp [*,errW_none,errW_some] <;> rfl),by repeat (first|(with_reducible first|exact HB.out|apply below_alloc|apply pw_below_drewN|apply below_drew1|refine below_set ?_ GE123.out|refine below_set ?_ GE124.out|refine below_set ?_ GE125.out|refine below_set ?_ GE126.out|refine below_set ?_ GE129.out)|exact HB.out)⟩
        ·rw [if_neg c90] at H
         have c90b0 : decide (a0_0 ≤ a1_3) = false := decide_eq_false c90
         clear c90
         simp only [Option.some.injEq,Prod.mk.injEq] at H
         obtain ⟨rfl,rfl,rfl,rfl,rfl,rfl,rfl,rfl,rfl,rfl⟩ := H
         have hnb116 := NB124_123.out
         have hnc116 := NB123_124.out
         have hnb117 := NB124_125.out
         have hnc117 := NB125_124.out
         have hnb118 := NB124_126.out
         have hnc118 := NB126_124.out
         have hnb119 := NB124_129.out
         have hnc119 := NB129_124.out
         have hcz120_0 : wc.cell? ⟨gb124,0,none⟩ = some (.int .i64 a1_0) := (blk_cell BK124.out 0).trans rfl
         have hcz120_1 : wc.cell? ⟨gb124,1,none⟩ = some (.int .i64 a1_1) := (blk_cell BK124.out 1).trans rfl
         have hcz120_2 : wc.cell? ⟨gb124,2,none⟩ = some (.int .i64 a1_2) := (blk_cell BK124.out 2).trans rfl
         have hcz120_3 : wc.cell? ⟨gb124,3,none⟩ = some (.int .i64 a1_3) := (blk_cell BK124.out 3).trans rfl
         have hcz120_4 : wc.cell? ⟨gb124,4,none⟩ = some (.int .i64 a1_4) := (blk_cell BK124.out 4).trans rfl
         have hcz120_5 : wc.cell? ⟨gb124,5,none⟩ = some (.string a1_5) := (blk_cell BK124.out 5).trans rfl
         have hfz120_0 := blk_frozen BK124.out 0
         have hfz120_1 := blk_frozen BK124.out 1
         have hfz120_2 := blk_frozen BK124.out 2
         have hfz120_3 := blk_frozen BK124.out 3
         have hfz120_4 := blk_frozen BK124.out 4
         have hfz120_5 := blk_frozen BK124.out 5
         have hnb121 := NB123_125.out
         have hnc121 := NB125_123.out
         have hnb122 := NB123_126.out
         have hnc122 := NB126_123.out
         have hnb123 := NB123_129.out
         have hnc123 := NB129_123.out
         have hcz124_0 : wc.cell? ⟨gb123,0,none⟩ = some (.int .i64 a0_0) := (blk_cell BK123.out 0).trans rfl
         have hcz124_1 : wc.cell? ⟨gb123,1,none⟩ = some (.int .i64 a0_1) := (blk_cell BK123.out 1).trans rfl
         have hcz124_2 : wc.cell? ⟨gb123,2,none⟩ = some (.string a0_2) := (blk_cell BK123.out 2).trans rfl
         have hfz124_0 := blk_frozen BK123.out 0
         have hfz124_1 := blk_frozen BK123.out 1
         have hfz124_2 := blk_frozen BK123.out 2
         have hnb125 := NB125_126.out
         have hnc125 := NB126_125.out
         have hnb126 := NB125_129.out
         have hnc126 := NB129_125.out
         have hcz127_0 : wc.cell? ⟨gb125,0,none⟩ = some (.int .i64 0) := (blk_cell BK125.out 0).trans rfl
         have hcz127_1 : wc.cell? ⟨gb125,1,none⟩ = some (.int .i64 0) := (blk_cell BK125.out 1).trans rfl
         have hcz127_2 : wc.cell? ⟨gb125,2,none⟩ = some (.string (⟨#[]⟩ : ByteArray)) := (blk_cell BK125.out 2).trans rfl
         have hfz127_0 := blk_frozen BK125.out 0
         have hfz127_1 := blk_frozen BK125.out 1
         have hfz127_2 := blk_frozen BK125.out 2
         have hnb128 := NB126_129.out
         have hnc128 := NB129_126.out
         have hcz129_0 : wc.cell? ⟨gb126,0,none⟩ = some (.int .i64 0) := (blk_cell BK126.out 0).trans rfl
         have hcz129_1 : wc.cell? ⟨gb126,1,none⟩ = some (.int .i64 0) := (blk_cell BK126.out 1).trans rfl
         have hcz129_2 : wc.cell? ⟨gb126,2,none⟩ = some (.int .i64 0) := (blk_cell BK126.out 2).trans rfl
         have hcz129_3 : wc.cell? ⟨gb126,3,none⟩ = some (.int .i64 0) := (blk_cell BK126.out 3).trans rfl
         have hcz129_4 : wc.cell? ⟨gb126,4,none⟩ = some (.int .i64 0) := (blk_cell BK126.out 4).trans rfl
         have hcz129_5 : wc.cell? ⟨gb126,5,none⟩ = some (.string (⟨#[]⟩ : ByteArray)) := (blk_cell BK126.out 5).trans rfl
         have hfz129_0 := blk_frozen BK126.out 0
         have hfz129_1 := blk_frozen BK126.out 1
         have hfz129_2 := blk_frozen BK126.out 2
         have hfz129_3 := blk_frozen BK126.out 3
         have hfz129_4 := blk_frozen BK126.out 4
         have hfz129_5 := blk_frozen BK126.out 5
         go_wp2
         refine bodyPost_ret (results_list (rs := [.cell 4 67,.cell 5 61,.tmp 6]) rfl (by simp) (.cell gb125 67 #[.int .i64 a0_0,.int .i64 a0_1,.string a0_2] (0,0) _ rfl (by (with_reducible repeat (first|refine blk_drewN ?_ _|refine blk_drew ?_|refine blk_alloc ?_ _));refine blk_far ?_ NB125_126.out _;(with_reducible repeat (first|refine blk_drewN ?_ _|refine blk_drew ?_|refine blk_alloc ?_ _));refine blk_far ?_ NB125_126.out _;(with_reducible repeat (first|refine blk_drewN ?_ _|refine blk_drew ?_|refine blk_alloc ?_ _));refine blk_far ?_ NB125_126.out _;(with_reducible repeat (first|refine blk_drewN ?_ _|refine blk_drew ?_|refine blk_alloc ?_ _));refine blk_far ?_ NB125_126.out _;(with_reducible repeat (first|refine blk_drewN ?_ _|refine blk_drew ?_|refine blk_alloc ?_ _));refine blk_far ?_ NB125_126.out _;(with_reducible repeat (first|refine blk_drewN ?_ _|refine blk_drew ?_|refine blk_alloc ?_ _));refine blk_far ?_ NB125_126.out _;(with_reducible repeat (first|refine blk_drewN ?_ _|refine blk_drew ?_|refine blk_alloc ?_ _));refine blk_put (cs := #[.int .i64 a0_0,.int .i64 a0_1,.string (⟨#[]⟩ : ByteArray)]) ?_ 2 _ rfl;(with_reducible repeat (first|refine blk_drewN ?_ _|refine blk_drew ?_|refine blk_alloc ?_ _));refine blk_put (cs := #[.int .i64 a0_0,.int .i64 0,.string (⟨#[]⟩ : ByteArray)]) ?_ 1 _ rfl;(with_reducible repeat (first|refine blk_drewN ?_ _|refine blk_drew ?_|refine blk_alloc ?_ _));refine blk_put (cs := #[.int .i64 0,.int .i64 0,.string (⟨#[]⟩ : ByteArray)]) ?_ 0 _ rfl;(with_reducible repeat (first|refine blk_drewN ?_ _|refine blk_drew ?_|refine blk_alloc ?_ _));exact BK125.out) Try.underlying67 rfl (by kernel_rfl) (.cell gb126 61 #[.int .i64 0,.int .i64 0,.int .i64 0,.int .i64 0,.int .i64 0,.string (⟨#[]⟩ : ByteArray)] (0,0) _ rfl (by (with_reducible repeat (first|refine blk_drewN ?_ _|refine blk_drew ?_|refine blk_alloc ?_ _));refine blk_put (cs := #[.int .i64 0,.int .i64 0,.int .i64 0,.int .i64 0,.int .i64 0,.string (⟨#[]⟩ : ByteArray)]) ?_ 5 _ rfl;(with_reducible repeat (first|refine blk_drewN ?_ _|refine blk_drew ?_|refine blk_alloc ?_ _));refine blk_put (cs := #[.int .i64 0,.int .i64 0,.int .i64 0,.int .i64 0,.int .i64 0,.string (⟨#[]⟩ : ByteArray)]) ?_ 4 _ rfl;(with_reducible repeat (first|refine blk_drewN ?_ _|refine blk_drew ?_|refine blk_alloc ?_ _));refine blk_put (cs := #[.int .i64 0,.int .i64 0,.int .i64 0,.int .i64 0,.int .i64 0,.string (⟨#[]⟩ : ByteArray)]) ?_ 3 _ rfl;(with_reducible repeat (first|refine blk_drewN ?_ _|refine blk_drew ?_|refine blk_alloc ?_ _));refine blk_put (cs := #[.int .i64 0,.int .i64 0,.int .i64 0,.int .i64 0,.int .i64 0,.string (⟨#[]⟩ : ByteArray)]) ?_ 2 _ rfl;(with_reducible repeat (first|refine blk_drewN ?_ _|refine blk_drew ?_|refine blk_alloc ?_ _));refine blk_put (cs := #[.int .i64 0,.int .i64 0,.int .i64 0,.int .i64 0,.int .i64 0,.string (⟨#[]⟩ : ByteArray)]) ?_ 1 _ rfl;(with_reducible repeat (first|refine blk_drewN ?_ _|refine blk_drew ?_|refine blk_alloc ?_ _));refine blk_put (cs := #[.int .i64 0,.int .i64 0,.int .i64 0,.int .i64 0,.int .i64 0,.string (⟨#[]⟩ : ByteArray)]) ?_ 0 _ rfl;(with_reducible repeat (first|refine blk_drewN ?_ _|refine blk_drew ?_|refine blk_alloc ?_ _));refine blk_far ?_ NB126_125.out _;(with_reducible repeat (first|refine blk_drewN ?_ _|refine blk_drew ?_|refine blk_alloc ?_ _));refine blk_far ?_ NB126_125.out _;(with_reducible repeat (first|refine blk_drewN ?_ _|refine blk_drew ?_|refine blk_alloc ?_ _));refine blk_far ?_ NB126_125.out _;(with_reducible repeat (first|refine blk_drewN ?_ _|refine blk_drew ?_|refine blk_alloc ?_ _));exact BK126.out) Try.underlying61 rfl (by kernel_rfl) (.tmp .nil)))) rfl ?_
         exact ⟨by first|rfl|(simp [errW_none,errW_some] <;> rfl)|(simp [*,errW_none,errW_some] <;> rfl),by repeat (first|(with_reducible first|exact HB.out|apply below_alloc|apply pw_below_drewN|apply below_drew1|refine below_set ?_ GE123.out|refine below_set ?_ GE124.out|refine below_set ?_ GE125.out|refine below_set ?_ GE126.out|refine below_set ?_ GE129.out)|exact HB.out)⟩
       ·rw [if_neg c89] at H
        have c89b0 : (a1_0 == 3) = false := beq_eq_false_iff_ne.mpr c89
        have c89b1 : (a1_0 != 3) = true := bne_iff_ne.mpr c89
        simp only [Option.some.injEq,Prod.mk.injEq] at H
        obtain ⟨rfl,rfl,rfl,rfl,rfl,rfl,rfl,rfl,rfl,rfl⟩ := H
        have hnb130 := NB124_123.out
        have hnc130 := NB123_124.out
        have hnb131 := NB124_125.out
        have hnc131 := NB125_124.out
        have hnb132 := NB124_126.out
        have hnc132 := NB126_124.out
        have hnb133 := NB124_129.out
        have hnc133 := NB129_124.out
        have hcz134_0 : wc.cell? ⟨gb124,0,none⟩ = some (.int .i64 a1_0) := (blk_cell BK124.out 0).trans rfl
        have hcz134_1 : wc.cell? ⟨gb124,1,none⟩ = some (.int .i64 a1_1) := (blk_cell BK124.out 1).trans rfl
        have hcz134_2 : wc.cell? ⟨gb124,2,none⟩ = some (.int .i64 a1_2) := (blk_cell BK124.out 2).trans rfl
        have hcz134_3 : wc.cell? ⟨gb124,3,none⟩ = some (.int .i64 a1_3) := (blk_cell BK124.out 3).trans rfl
        have hcz134_4 : wc.cell? ⟨gb124,4,none⟩ = some (.int .i64 a1_4) := (blk_cell BK124.out 4).trans rfl
        have hcz134_5 : wc.cell? ⟨gb124,5,none⟩ = some (.string a1_5) := (blk_cell BK124.out 5).trans rfl
        have hfz134_0 := blk_frozen BK124.out 0
        have hfz134_1 := blk_frozen BK124.out 1
        have hfz134_2 := blk_frozen BK124.out 2
        have hfz134_3 := blk_frozen BK124.out 3
        have hfz134_4 := blk_frozen BK124.out 4
        have hfz134_5 := blk_frozen BK124.out 5
        have hnb135 := NB123_125.out
        have hnc135 := NB125_123.out
        have hnb136 := NB123_126.out
        have hnc136 := NB126_123.out
        have hnb137 := NB123_129.out
        have hnc137 := NB129_123.out
        have hcz138_0 : wc.cell? ⟨gb123,0,none⟩ = some (.int .i64 a0_0) := (blk_cell BK123.out 0).trans rfl
        have hcz138_1 : wc.cell? ⟨gb123,1,none⟩ = some (.int .i64 a0_1) := (blk_cell BK123.out 1).trans rfl
        have hcz138_2 : wc.cell? ⟨gb123,2,none⟩ = some (.string a0_2) := (blk_cell BK123.out 2).trans rfl
        have hfz138_0 := blk_frozen BK123.out 0
        have hfz138_1 := blk_frozen BK123.out 1
        have hfz138_2 := blk_frozen BK123.out 2
        have hnb139 := NB125_126.out
        have hnc139 := NB126_125.out
        have hnb140 := NB125_129.out
        have hnc140 := NB129_125.out
        have hcz141_0 : wc.cell? ⟨gb125,0,none⟩ = some (.int .i64 0) := (blk_cell BK125.out 0).trans rfl
        have hcz141_1 : wc.cell? ⟨gb125,1,none⟩ = some (.int .i64 0) := (blk_cell BK125.out 1).trans rfl
        have hcz141_2 : wc.cell? ⟨gb125,2,none⟩ = some (.string (⟨#[]⟩ : ByteArray)) := (blk_cell BK125.out 2).trans rfl
        have hfz141_0 := blk_frozen BK125.out 0
        have hfz141_1 := blk_frozen BK125.out 1
        have hfz141_2 := blk_frozen BK125.out 2
        have hnb142 := NB126_129.out
        have hnc142 := NB129_126.out
        have hcz143_0 : wc.cell? ⟨gb126,0,none⟩ = some (.int .i64 0) := (blk_cell BK126.out 0).trans rfl
        have hcz143_1 : wc.cell? ⟨gb126,1,none⟩ = some (.int .i64 0) := (blk_cell BK126.out 1).trans rfl
        have hcz143_2 : wc.cell? ⟨gb126,2,none⟩ = some (.int .i64 0) := (blk_cell BK126.out 2).trans rfl
        have hcz143_3 : wc.cell? ⟨gb126,3,none⟩ = some (.int .i64 0) := (blk_cell BK126.out 3).trans rfl
        have hcz143_4 : wc.cell? ⟨gb126,4,none⟩ = some (.int .i64 0) := (blk_cell BK126.out 4).trans rfl
        have hcz143_5 : wc.cell? ⟨gb126,5,none⟩ = some (.string (⟨#[]⟩ : ByteArray)) := (blk_cell BK126.out 5).trans rfl
        have hfz143_0 := blk_frozen BK126.out 0
        have hfz143_1 := blk_frozen BK126.out 1
        have hfz143_2 := blk_frozen BK126.out 2
        have hfz143_3 := blk_frozen BK126.out 3
        have hfz143_4 := blk_frozen BK126.out 4
        have hfz143_5 := blk_frozen BK126.out 5
        go_wp2
        refine bodyPost_ret (results_list (rs := [.cell 4 67,.cell 5 61,.tmp 6]) rfl (by simp) (.cell gb125 67 #[.int .i64 a0_0,.int .i64 a0_1,.string a0_2] (0,0) _ rfl (by (with_reducible repeat (first|refine blk_drewN ?_ _|refine blk_drew ?_|refine blk_alloc ?_ _));refine blk_far ?_ NB125_126.out _;(with_reducible repeat (first|refine blk_drewN ?_ _|refine blk_drew ?_|refine blk_alloc ?_ _));refine blk_far ?_ NB125_126.out _;(with_reducible repeat (first|refine blk_drewN ?_ _|refine blk_drew ?_|refine blk_alloc ?_ _));refine blk_far ?_ NB125_126.out _;(with_reducible repeat (first|refine blk_drewN ?_ _|refine blk_drew ?_|refine blk_alloc ?_ _));refine blk_far ?_ NB125_126.out _;(with_reducible repeat (first|refine blk_drewN ?_ _|refine blk_drew ?_|refine blk_alloc ?_ _));refine blk_far ?_ NB125_126.out _;(with_reducible repeat (first|refine blk_drewN ?_ _|refine blk_drew ?_|refine blk_alloc ?_ _));refine blk_far ?_ NB125_126.out _;(with_reducible repeat (first|refine blk_drewN ?_ _|refine blk_drew ?_|refine blk_alloc ?_ _));refine blk_put (cs := #[.int .i64 a0_0,.int .i64 a0_1,.string (⟨#[]⟩ : ByteArray)]) ?_ 2 _ rfl;(with_reducible repeat (first|refine blk_drewN ?_ _|refine blk_drew ?_|refine blk_alloc ?_ _));refine blk_put (cs := #[.int .i64 a0_0,.int .i64 0,.string (⟨#[]⟩ : ByteArray)]) ?_ 1 _ rfl;(with_reducible repeat (first|refine blk_drewN ?_ _|refine blk_drew ?_|refine blk_alloc ?_ _));refine blk_put (cs := #[.int .i64 0,.int .i64 0,.string (⟨#[]⟩ : ByteArray)]) ?_ 0 _ rfl;(with_reducible repeat (first|refine blk_drewN ?_ _|refine blk_drew ?_|refine blk_alloc ?_ _));exact BK125.out) Try.underlying67 rfl (by kernel_rfl) (.cell gb126 61 #[.int .i64 0,.int .i64 0,.int .i64 0,.int .i64 0,.int .i64 0,.string (⟨#[]⟩ : ByteArray)] (0,0) _ rfl (by (with_reducible repeat (first|refine blk_drewN ?_ _|refine blk_drew ?_|refine blk_alloc ?_ _));refine blk_put (cs := #[.int .i64 0,.int .i64 0,.int .i64 0,.int .i64 0,.int .i64 0,.string (⟨#[]⟩ : ByteArray)]) ?_ 5 _ rfl;(with_reducible repeat (first|refine blk_drewN ?_ _|refine blk_drew ?_|refine blk_alloc ?_ _));refine blk_put (cs := #[.int .i64 0,.int .i64 0,.int .i64 0,.int .i64 0,.int .i64 0,.string (⟨#[]⟩ : ByteArray)]) ?_ 4 _ rfl;(with_reducible repeat (first|refine blk_drewN ?_ _|refine blk_drew ?_|refine blk_alloc ?_ _));refine blk_put (cs := #[.int .i64 0,.int .i64 0,.int .i64 0,.int .i64 0,.int .i64 0,.string (⟨#[]⟩ : ByteArray)]) ?_ 3 _ rfl;(with_reducible repeat (first|refine blk_drewN ?_ _|refine blk_drew ?_|refine blk_alloc ?_ _));refine blk_put (cs := #[.int .i64 0,.int .i64 0,.int .i64 0,.int .i64 0,.int .i64 0,.string (⟨#[]⟩ : ByteArray)]) ?_ 2 _ rfl;(with_reducible repeat (first|refine blk_drewN ?_ _|refine blk_drew ?_|refine blk_alloc ?_ _));refine blk_put (cs := #[.int .i64 0,.int .i64 0,.int .i64 0,.int .i64 0,.int .i64 0,.string (⟨#[]⟩ : ByteArray)]) ?_ 1 _ rfl;(with_reducible repeat (first|refine blk_drewN ?_ _|refine blk_drew ?_|refine blk_alloc ?_ _));refine blk_put (cs := #[.int .i64 0,.int .i64 0,.int .i64 0,.int .i64 0,.int .i64 0,.string (⟨#[]⟩ : ByteArray)]) ?_ 0 _ rfl;(with_reducible repeat (first|refine blk_drewN ?_ _|refine blk_drew ?_|refine blk_alloc ?_ _));refine blk_far ?_ NB126_125.out _;(with_reducible repeat (first|refine blk_drewN ?_ _|refine blk_drew ?_|refine blk_alloc ?_ _));refine blk_far ?_ NB126_125.out _;(with_reducible repeat (first|refine blk_drewN ?_ _|refine blk_drew ?_|refine blk_alloc ?_ _));refine blk_far ?_ NB126_125.out _;(with_reducible repeat (first|refine blk_drewN ?_ _|refine blk_drew ?_|refine blk_alloc ?_ _));exact BK126.out) Try.underlying61 rfl (by kernel_rfl) (.tmp .nil)))) rfl ?_
        exact ⟨by first|rfl|(simp [errW_none,errW_some] <;> rfl)|(simp [*,errW_none,errW_some] <;> rfl),by repeat (first|(with_reducible first|exact HB.out|apply below_alloc|apply pw_below_drewN|apply below_drew1|refine below_set ?_ GE123.out|refine below_set ?_ GE124.out|refine below_set ?_ GE125.out|refine below_set ?_ GE126.out|refine below_set ?_ GE129.out)|exact HB.out)⟩

end Go.Proofs.Ytocgakpicmcemaa.PFnExactHearNote
