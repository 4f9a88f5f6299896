/- Walks of the law's callees: over a tool's print, with fewer blanks. -/
import Derived.Test.YtocgakpicmcemaaQFnExactHearNotex0
import Derived.Test.YtocgakpicmcemaaQFnExactHearNotex1
namespace Go.Proofs.Ytocgakpicmcemaa.PFnExactHearNote
open Go.RowKit Go.Proofs.YtocgakpicmcemaaW.PrintWords Go.Proofs.YtocgakpicmcemaaW.PrintLast Go.Proofs.YtocgakpicmcemaaW.PrintMore
attribute [local go_sem] max2_int min2_int max_two min_two max_three min_three max_four min_four   -- for this text's walks alone
set_option linter.unusedVariables false
set_option linter.unusedSimpArgs false

/-! ### spec_HearNote: function 46 -/
mutual
def spec_HearNote.j0 : Nat → Bool → Int → Int → ByteArray → Int → Int → Int → Int → Int → ByteArray → Option (Int × Int × ByteArray × Int × Int × Int × Int × Int × ByteArray × Bool)
 | 0,_,_,_,_,_,_,_,_,_,_ => none
 | k + 1,x23,x107000,x107001,x107002,x108000,x108001,x108002,x108003,x108004,x108005 => if x23 = true then (some (x107000,x107001,x107002,0,0,0,0,0,(⟨#[]⟩ : ByteArray),false)) else (if x108000 = 1 then (spec_HearNote.j1 k (decide (x108003 > x107000)) x107000 x107001 x107002 x108000 x108001 x108002 x108003 x108004 x108005) else (spec_HearNote.j1 k false x107000 x107001 x107002 x108000 x108001 x108002 x108003 x108004 x108005))
def spec_HearNote.j1 : Nat → Bool → Int → Int → ByteArray → Int → Int → Int → Int → Int → ByteArray → Option (Int × Int × ByteArray × Int × Int × Int × Int × Int × ByteArray × Bool)
 | 0,_,_,_,_,_,_,_,_,_,_ => none
 | k + 1,x35,x107000,x107001,x107002,x108000,x108001,x108002,x108003,x108004,x108005 => if x35 = true then (some (x108003,x107001,x107002,2,x108002,x108001,x108003,x107001,x107002,true)) else (if x108000 = 3 then (if x108003 ≥ x107000 then (some (x108003,x108003,x108005,4,x108002,x108001,x108003,0,x108005,true)) else (some (x107000,x107001,x107002,0,0,0,0,0,(⟨#[]⟩ : ByteArray),false))) else (some (x107000,x107001,x107002,0,0,0,0,0,(⟨#[]⟩ : ByteArray),false)))
end
def spec_HearNote.f (k : Nat) (a0_0 : Int) (a0_1 : Int) (a0_2 : ByteArray) (a1_0 : Int) (a1_1 : Int) (a1_2 : Int) (a1_3 : Int) (a1_4 : Int) (a1_5 : ByteArray) : Option (Int × Int × ByteArray × Int × Int × Int × Int × Int × ByteArray × Bool) := (spec_VoiceOk.f a0_0 a0_1 a0_2).bind fun t110 => (if t110 = true then ((spec_l01In.f a1_3 1 10000).bind fun t111 => (if t111 = true then (spec_HearNote.j0 k (decide ((a1_5.size : Int) > 40)) a0_0 a0_1 a0_2 a1_0 a1_1 a1_2 a1_3 a1_4 a1_5) else (spec_HearNote.j0 k true a0_0 a0_1 a0_2 a1_0 a1_1 a1_2 a1_3 a1_4 a1_5))) else (spec_HearNote.j0 k true a0_0 a0_1 a0_2 a1_0 a1_1 a1_2 a1_3 a1_4 a1_5))
theorem spec_HearNote.mono_l : ∀ k,(∀ y0 y1 y2 y3 y4 y5 y6 y7 y8 y9,LeO (spec_HearNote.j0 k y0 y1 y2 y3 y4 y5 y6 y7 y8 y9) (spec_HearNote.j0 (k + 1) y0 y1 y2 y3 y4 y5 y6 y7 y8 y9)) ∧ (∀ y0 y1 y2 y3 y4 y5 y6 y7 y8 y9,LeO (spec_HearNote.j1 k y0 y1 y2 y3 y4 y5 y6 y7 y8 y9) (spec_HearNote.j1 (k + 1) y0 y1 y2 y3 y4 y5 y6 y7 y8 y9))
 | 0 => ⟨fun _ _ _ _ _ _ _ _ _ _ r h => by simp [spec_HearNote.j0] at h,fun _ _ _ _ _ _ _ _ _ _ r h => by simp [spec_HearNote.j1] at h⟩
 | k + 1 => by
  obtain ⟨ih0,ih1⟩ := spec_HearNote.mono_l k
  refine ⟨?_,?_⟩
  ·intro y0 y1 y2 y3 y4 y5 y6 y7 y8 y9
   unfold spec_HearNote.j0
   repeat' first
   | (with_reducible exact ih0 _ _ _ _ _ _ _ _ _ _)
   | (with_reducible exact ih1 _ _ _ _ _ _ _ _ _ _)
   | (with_reducible exact LeO.refl _)
   | (with_reducible exact LeO.none _)
   | (with_reducible refine LeO.ite ?_ ?_)
   | (with_reducible refine LeO.bind ?_ (fun _ => ?_))
   | exact ih0 _ _ _ _ _ _ _ _ _ _
   | exact ih1 _ _ _ _ _ _ _ _ _ _
   | exact LeO.none _
   | refine LeO.ite ?_ ?_
   | refine LeO.bind ?_ (fun _ => ?_)
  ·intro y0 y1 y2 y3 y4 y5 y6 y7 y8 y9
   unfold spec_HearNote.j1
   repeat' first
   | (with_reducible exact ih0 _ _ _ _ _ _ _ _ _ _)
   | (with_reducible exact ih1 _ _ _ _ _ _ _ _ _ _)
   | (with_reducible exact LeO.refl _)
   | (with_reducible exact LeO.none _)
   | (with_reducible refine LeO.ite ?_ ?_)
   | (with_reducible refine LeO.bind ?_ (fun _ => ?_))
   | exact ih0 _ _ _ _ _ _ _ _ _ _
   | exact ih1 _ _ _ _ _ _ _ _ _ _
   | exact LeO.none _
   | refine LeO.ite ?_ ?_
   | refine LeO.bind ?_ (fun _ => ?_)
theorem spec_HearNote.mono : ∀ a0 a1 a2 a3 a4 a5 a6 a7 a8 k,LeO (spec_HearNote.f k a0 a1 a2 a3 a4 a5 a6 a7 a8) (spec_HearNote.f (k + 1) a0 a1 a2 a3 a4 a5 a6 a7 a8) := by
 intro a0 a1 a2 a3 a4 a5 a6 a7 a8 k
 obtain ⟨ih0,ih1⟩ := spec_HearNote.mono_l k
 unfold spec_HearNote.f
 repeat' first
   | (with_reducible exact ih0 _ _ _ _ _ _ _ _ _ _)
   | (with_reducible exact ih1 _ _ _ _ _ _ _ _ _ _)
   | (with_reducible exact LeO.refl _)
   | (with_reducible exact LeO.none _)
   | (with_reducible refine LeO.ite ?_ ?_)
   | (with_reducible refine LeO.bind ?_ (fun _ => ?_))
   | exact ih0 _ _ _ _ _ _ _ _ _ _
   | exact ih1 _ _ _ _ _ _ _ _ _ _
   | exact LeO.none _
   | refine LeO.ite ?_ ?_
   | refine LeO.bind ?_ (fun _ => ?_)
def spec_HearNote.T5 : Bool × List (List Nat × List Nat) := (true,[([],[]),([],[]),([1],[1]),([],[]),([3],[3]),([],[]),([5],[5]),([],[]),([7],[7]),([],[]),([9],[9]),([2,4,6,8,10],[2,4,6,8,10]),([0,0],[0]),([11,12,0,1,2,3,4,5,6,7,8,9,10,11,12],[11]),([13,0,1,2,3,4,5,6,7,8,9,10,11,12,13],[])])
def spec_HearNote.B5 : List Nat := [0,0,2,0,8,0,32,0,128,0,512,2046,1,8191,16383]
theorem spec_HearNote.tab5 : rtab .any (opsOf Try.f46 5) = spec_HearNote.T5 := by kernel_rfl
theorem spec_HearNote.bits5 : waitsOk spec_HearNote.T5.2 spec_HearNote.B5 = true := by kernel_rfl
def spec_HearNote.T8 : Bool × List (List Nat × List Nat) := (true,[([],[]),([],[]),([1],[1]),([],[]),([3],[3]),([],[]),([5],[5]),([],[]),([7],[7]),([2,4,6,8],[2,4,6,8]),([0,0],[0]),([9,10,0,1,2,3,4,5,6,7,8,9,10],[9]),([11,0,1,2,3,4,5,6,7,8,9,10,11],[])])
def spec_HearNote.B8 : List Nat := [0,0,2,0,8,0,32,0,128,510,1,2047,4095]
theorem spec_HearNote.tab8 : rtab .any (opsOf Try.f46 8) = spec_HearNote.T8 := by kernel_rfl
theorem spec_HearNote.bits8 : waitsOk spec_HearNote.T8.2 spec_HearNote.B8 = true := by kernel_rfl
set_option maxHeartbeats 8000000 in
set_option maxRecDepth 100000 in
theorem spec_HearNote.calls (k : Nat) (a0_0 : Int) (a0_1 : Int) (a0_2 : ByteArray) (a1_0 : Int) (a1_1 : Int) (a1_2 : Int) (a1_3 : Int) (a1_4 : Int) (a1_5 : ByteArray) (r1 : Int) (r2 : Int) (r3 : ByteArray) (r4 : Int) (r5 : Int) (r6 : Int) (r7 : Int) (r8 : Int) (r9 : ByteArray) (r10 : Bool) (w : World) (h : spec_HearNote.f k a0_0 a0_1 a0_2 a1_0 a1_1 a1_2 a1_3 a1_4 a1_5 = some (r1,r2,r3,r4,r5,r6,r7,r8,r9,r10)) :
  Calls Try.prog 46 #[.agg #[.int .i64 a0_0,.int .i64 a0_1,.string a0_2],.agg #[.int .i64 a1_0,.int .i64 a1_1,.int .i64 a1_2,.int .i64 a1_3,.int .i64 a1_4,.string a1_5]] w fun e w' => e = .returned (.tuple #[.agg #[.int .i64 r1,.int .i64 r2,.string r3],.agg #[.int .i64 r4,.int .i64 r5,.int .i64 r6,.int .i64 r7,.int .i64 r8,.string r9],.bool r10]) ∧ Below w.heap.size w w' := by
 have hu67 := Try.underlying67
 have hu61 := Try.underlying61
 have HB := Aside0.mk (Below.refl w.heap.size w)
 have H : ((spec_VoiceOk.f a0_0 a0_1 a0_2).bind fun t110 => (if t110 = true then ((spec_l01In.f a1_3 1 10000).bind fun t111 => (if t111 = true then (spec_HearNote.j0 k (decide ((a1_5.size : Int) > 40)) a0_0 a0_1 a0_2 a1_0 a1_1 a1_2 a1_3 a1_4 a1_5) else (spec_HearNote.j0 k true a0_0 a0_1 a0_2 a1_0 a1_1 a1_2 a1_3 a1_4 a1_5))) else (spec_HearNote.j0 k true a0_0 a0_1 a0_2 a1_0 a1_1 a1_2 a1_3 a1_4 a1_5))) = some (r1,r2,r3,r4,r5,r6,r7,r8,r9,r10) := h
 clear h
 have HC3 := Aside0.mk H
 clear H
 go_enter Try.func46,Try.ntmps46
 go_upto_region 1 with (first|((with_reducible refine gate_dst (N := 2) rfl ?_);(try (refine gate_guard (by rfl) ?_;dsimp only));refine box_event ?hg (N := 2) ?hd (cs := #[.int .i64 a0_0,.int .i64 a0_1,.string a0_2]) (t := 67) ?hr ?_;(case hd => rfl);(case hg => rfl);(case hr => first|(go_simp;done)|(go_simp;rfl));intro gb106 hg w4 hbox hb;have n0_ := Aside0.mk (below_step (by repeat (first|(with_reducible first|exact HB.out|apply below_alloc|apply pw_below_drewN|apply below_drew1)|exact HB.out)) hb);have n1_ := Aside0.mk (hbox);have n2_ := Aside0.mk ((by rw [hg];exact (below_size (by repeat (first|(with_reducible first|exact HB.out|apply below_alloc|apply pw_below_drewN|apply below_drew1)|exact HB.out))) : w.heap.size ≤ gb106));have n3_ := Aside0.mk ((by rw [hg];exact (below_size (by repeat (first|(with_reducible first|exact HB.out|apply below_alloc|apply pw_below_drewN|apply below_drew1)|exact HB.out))) : w.heap.size ≤ gb106));clear HB;have HB := n0_;have BK106 := n1_;have GW106 := n2_;have GE106 := n3_;clear n0_ n1_ n2_ n3_;clear hb hbox hg)|((with_reducible refine gate_dst (N := 3) rfl ?_);(try (refine gate_guard (by rfl) ?_;dsimp only));refine box_event ?hg (N := 3) ?hd (cs := #[.int .i64 a1_0,.int .i64 a1_1,.int .i64 a1_2,.int .i64 a1_3,.int .i64 a1_4,.string a1_5]) (t := 61) ?hr ?_;(case hd => rfl);(case hg => rfl);(case hr => first|(go_simp;done)|(go_simp;rfl));intro gb107 hg w5 hbox hb;have n0_ := Aside0.mk (blk_below (g := gb106) (o := .cells #[.int .i64 a0_0,.int .i64 a0_1,.string a0_2] 67 (0,0)) (by (with_reducible repeat (first|refine blk_drewN ?_ _|refine blk_drew ?_|refine blk_alloc ?_ _));exact BK106.out) hb);have n1_ := Aside0.mk (below_step (by repeat (first|(with_reducible first|exact HB.out|apply below_alloc|apply pw_below_drewN|apply below_drew1|refine below_set ?_ GE106.out)|exact HB.out)) hb);have n2_ := Aside0.mk (hbox);have n3_ := Aside0.mk ((by rw [hg];exact (below_size (by repeat (first|(with_reducible first|exact HB.out|apply below_alloc|apply pw_below_drewN|apply below_drew1|refine below_set ?_ GE106.out)|exact HB.out))) : w.heap.size ≤ gb107));have n4_ := Aside0.mk ((by rw [hg];exact (below_size (by repeat (first|(with_reducible first|exact HB.out|apply below_alloc|apply pw_below_drewN|apply below_drew1|refine below_set ?_ GE106.out)|exact HB.out))) : w.heap.size ≤ gb107));have n5_ := Aside0.mk ((by rw [hg];exact Nat.ne_of_lt (blk_lt (g := gb106) (o := .cells #[.int .i64 a0_0,.int .i64 a0_1,.string a0_2] 67 (0,0)) (by (with_reducible repeat (first|refine blk_drewN ?_ _|refine blk_drew ?_|refine blk_alloc ?_ _));exact BK106.out)) : gb106 ≠ gb107));have n6_ := Aside0.mk ((by rw [hg];exact Nat.ne_of_gt (blk_lt (g := gb106) (o := .cells #[.int .i64 a0_0,.int .i64 a0_1,.string a0_2] 67 (0,0)) (by (with_reducible repeat (first|refine blk_drewN ?_ _|refine blk_drew ?_|refine blk_alloc ?_ _));exact BK106.out)) : gb107 ≠ gb106));clear BK106;clear HB;have BK106 := n0_;have HB := n1_;have BK107 := n2_;have GW107 := n3_;have GE107 := n4_;have NB106_107 := n5_;have NB107_106 := n6_;clear n0_ n1_ n2_ n3_ n4_ n5_ n6_;clear hb hbox hg)|((with_reducible refine gate_dst (N := 4) rfl ?_);(try (refine gate_guard (by rfl) ?_;dsimp only));refine box_event ?hg (N := 4) ?hd (cs := #[.int .i64 0,.int .i64 0,.string (⟨#[]⟩ : ByteArray)]) (t := 67) ?hr ?_;(case hd => rfl);(case hg => rfl);(case hr => first|(go_simp;done)|(go_simp;rfl));intro gb108 hg w6 hbox hb;have n0_ := Aside0.mk (blk_below (g := gb106) (o := .cells #[.int .i64 a0_0,.int .i64 a0_1,.string a0_2] 67 (0,0)) (by (with_reducible repeat (first|refine blk_drewN ?_ _|refine blk_drew ?_|refine blk_alloc ?_ _));exact BK106.out) hb);have n1_ := Aside0.mk (blk_below (g := gb107) (o := .cells #[.int .i64 a1_0,.int .i64 a1_1,.int .i64 a1_2,.int .i64 a1_3,.int .i64 a1_4,.string a1_5] 61 (0,0)) (by (with_reducible repeat (first|refine blk_drewN ?_ _|refine blk_drew ?_|refine blk_alloc ?_ _));exact BK107.out) hb);have n2_ := Aside0.mk (below_step (by repeat (first|(with_reducible first|exact HB.out|apply below_alloc|apply pw_below_drewN|apply below_drew1|refine below_set ?_ GE106.out|refine below_set ?_ GE107.out)|exact HB.out)) hb);have n3_ := Aside0.mk (hbox);have n4_ := Aside0.mk ((by rw [hg];exact (below_size (by repeat (first|(with_reducible first|exact HB.out|apply below_alloc|apply pw_below_drewN|apply below_drew1|refine below_set ?_ GE106.out|refine below_set ?_ GE107.out)|exact HB.out))) : w.heap.size ≤ gb108));have n5_ := Aside0.mk ((by rw [hg];exact (below_size (by repeat (first|(with_reducible first|exact HB.out|apply below_alloc|apply pw_below_drewN|apply below_drew1|refine below_set ?_ GE106.out|refine below_set ?_ GE107.out)|exact HB.out))) : w.heap.size ≤ gb108));have n6_ := Aside0.mk ((by rw [hg];exact Nat.ne_of_lt (blk_lt (g := gb106) (o := .cells #[.int .i64 a0_0,.int .i64 a0_1,.string a0_2] 67 (0,0)) (by (with_reducible repeat (first|refine blk_drewN ?_ _|refine blk_drew ?_|refine blk_alloc ?_ _));exact BK106.out)) : gb106 ≠ gb108));have n7_ := Aside0.mk ((by rw [hg];exact Nat.ne_of_gt (blk_lt (g := gb106) (o := .cells #[.int .i64 a0_0,.int .i64 a0_1,.string a0_2] 67 (0,0)) (by (with_reducible repeat (first|refine blk_drewN ?_ _|refine blk_drew ?_|refine blk_alloc ?_ _));exact BK106.out)) : gb108 ≠ gb106));have n8_ := Aside0.mk ((by rw [hg];exact Nat.ne_of_lt (blk_lt (g := gb107) (o := .cells #[.int .i64 a1_0,.int .i64 a1_1,.int .i64 a1_2,.int .i64 a1_3,.int .i64 a1_4,.string a1_5] 61 (0,0)) (by (with_reducible repeat (first|refine blk_drewN ?_ _|refine blk_drew ?_|refine blk_alloc ?_ _));exact BK107.out)) : gb107 ≠ gb108));have n9_ := Aside0.mk ((by rw [hg];exact Nat.ne_of_gt (blk_lt (g := gb107) (o := .cells #[.int .i64 a1_0,.int .i64 a1_1,.int .i64 a1_2,.int .i64 a1_3,.int .i64 a1_4,.string a1_5] 61 (0,0)) (by (with_reducible repeat (first|refine blk_drewN ?_ _|refine blk_drew ?_|refine blk_alloc ?_ _));exact BK107.out)) : gb108 ≠ gb107));clear BK106;clear BK107;clear HB;have BK106 := n0_;have BK107 := n1_;have HB := n2_;have BK108 := n3_;have GW108 := n4_;have GE108 := n5_;have NB106_108 := n6_;have NB108_106 := n7_;have NB107_108 := n8_;have NB108_107 := n9_;clear n0_ n1_ n2_ n3_ n4_ n5_ n6_ n7_ n8_ n9_;clear hb hbox hg)|((with_reducible refine gate_dst (N := 5) rfl ?_);(try (refine gate_guard (by rfl) ?_;dsimp only));refine box_event ?hg (N := 5) ?hd (cs := #[.int .i64 0,.int .i64 0,.int .i64 0,.int .i64 0,.int .i64 0,.string (⟨#[]⟩ : ByteArray)]) (t := 61) ?hr ?_;(case hd => rfl);(case hg => rfl);(case hr => first|(go_simp;done)|(go_simp;rfl));intro gb109 hg w7 hbox hb;have n0_ := Aside0.mk (blk_below (g := gb106) (o := .cells #[.int .i64 a0_0,.int .i64 a0_1,.string a0_2] 67 (0,0)) (by (with_reducible repeat (first|refine blk_drewN ?_ _|refine blk_drew ?_|refine blk_alloc ?_ _));exact BK106.out) hb);have n1_ := Aside0.mk (blk_below (g := gb107) (o := .cells #[.int .i64 a1_0,.int .i64 a1_1,.int .i64 a1_2,.int .i64 a1_3,.int .i64 a1_4,.string a1_5] 61 (0,0)) (by (with_reducible repeat (first|refine blk_drewN ?_ _|refine blk_drew ?_|refine blk_alloc ?_ _));exact BK107.out) hb);have n2_ := Aside0.mk (blk_below (g := gb108) (o := .cells #[.int .i64 0,.int .i64 0,.string (⟨#[]⟩ : ByteArray)] 67 (0,0)) (by (with_reducible repeat (first|refine blk_drewN ?_ _|refine blk_drew ?_|refine blk_alloc ?_ _));exact BK108.out) hb);have n3_ := Aside0.mk (below_step (by repeat (first|(with_reducible first|exact HB.out|apply below_alloc|apply pw_below_drewN|apply below_drew1|refine below_set ?_ GE106.out|refine below_set ?_ GE107.out|refine below_set ?_ GE108.out)|exact HB.out)) hb);have n4_ := Aside0.mk (hbox);have n5_ := Aside0.mk ((by rw [hg];exact (below_size (by repeat (first|(with_reducible first|exact HB.out|apply below_alloc|apply pw_below_drewN|apply below_drew1|refine below_set ?_ GE106.out|refine below_set ?_ GE107.out|refine below_set ?_ GE108.out)|exact HB.out))) : w.heap.size ≤ gb109));have n6_ := Aside0.mk ((by rw [hg];exact (below_size (by repeat (first|(with_reducible first|exact HB.out|apply below_alloc|apply pw_below_drewN|apply below_drew1|refine below_set ?_ GE106.out|refine below_set ?_ GE107.out|refine below_set ?_ GE108.out)|exact HB.out))) : w.heap.size ≤ gb109));have n7_ := Aside0.mk ((by rw [hg];exact Nat.ne_of_lt (blk_lt (g := gb106) (o := .cells #[.int .i64 a0_0,.int .i64 a0_1,.string a0_2] 67 (0,0)) (by (with_reducible repeat (first|refine blk_drewN ?_ _|refine blk_drew ?_|refine blk_alloc ?_ _));exact BK106.out)) : gb106 ≠ gb109));have n8_ := Aside0.mk ((by rw [hg];exact Nat.ne_of_gt (blk_lt (g := gb106) (o := .cells #[.int .i64 a0_0,.int .i64 a0_1,.string a0_2] 67 (0,0)) (by (with_reducible repeat (first|refine blk_drewN ?_ _|refine blk_drew ?_|refine blk_alloc ?_ _));exact BK106.out)) : gb109 ≠ gb106));have n9_ := Aside0.mk ((by rw [hg];exact Nat.ne_of_lt (blk_lt (g := gb107) (o := .cells #[.int .i64 a1_0,.int .i64 a1_1,.int .i64 a1_2,.int .i64 a1_3,.int .i64 a1_4,.string a1_5] 61 (0,0)) (by (with_reducible repeat (first|refine blk_drewN ?_ _|refine blk_drew ?_|refine blk_alloc ?_ _));exact BK107.out)) : gb107 ≠ gb109));have n10_ := Aside0.mk ((by rw [hg];exact Nat.ne_of_gt (blk_lt (g := gb107) (o := .cells #[.int .i64 a1_0,.int .i64 a1_1,.int .i64 a1_2,.int .i64 a1_3,.int .i64 a1_4,.string a1_5] 61 (0,0)) (by (with_reducible repeat (first|refine blk_drewN ?_ _|refine blk_drew ?_|refine blk_alloc ?_ _));exact BK107.out)) : gb109 ≠ gb107));have n11_ := Aside0.mk ((by rw [hg];exact Nat.ne_of_lt (blk_lt (g := gb108) (o := .cells #[.int .i64 0,.int .i64 0,.string (⟨#[]⟩ : ByteArray)] 67 (0,0)) (by (with_reducible repeat (first|refine blk_drewN ?_ _|refine blk_drew ?_|refine blk_alloc ?_ _));exact BK108.out)) : gb108 ≠ gb109));have n12_ := Aside0.mk ((by rw [hg];exact Nat.ne_of_gt (blk_lt (g := gb108) (o := .cells #[.int .i64 0,.int .i64 0,.string (⟨#[]⟩ : ByteArray)] 67 (0,0)) (by (with_reducible repeat (first|refine blk_drewN ?_ _|refine blk_drew ?_|refine blk_alloc ?_ _));exact BK108.out)) : gb109 ≠ gb108));clear BK106;clear BK107;clear BK108;clear HB;have BK106 := n0_;have BK107 := n1_;have BK108 := n2_;have HB := n3_;have BK109 := n4_;have GW109 := n5_;have GE109 := n6_;have NB106_109 := n7_;have NB109_106 := n8_;have NB107_109 := n9_;have NB109_107 := n10_;have NB108_109 := n11_;have NB109_108 := n12_;clear n0_ n1_ n2_ n3_ n4_ n5_ n6_ n7_ n8_ n9_ n10_ n11_ n12_;clear hb hbox hg))
 (try simp only [Act.put,List.setIfInBounds_toArray,List.set_cons_zero,List.set_cons_succ])
 go_cut [23] (fun v23 wc => ∃ (kq : Nat) (x23_2 : Bool),v23 = .bool x23_2 ∧ Aside0 (spec_HearNote.j0 kq x23_2 a0_0 a0_1 a0_2 a1_0 a1_1 a1_2 a1_3 a1_4 a1_5 = some (r1,r2,r3,r4,r5,r6,r7,r8,r9,r10)) ∧ Aside0 (kq ≤ k) ∧ Aside0 (wc.heap[gb106]? = some (.cells #[.int .i64 a0_0,.int .i64 a0_1,.string a0_2] 67 (0,0))) ∧ Aside0 (wc.heap[gb107]? = some (.cells #[.int .i64 a1_0,.int .i64 a1_1,.int .i64 a1_2,.int .i64 a1_3,.int .i64 a1_4,.string a1_5] 61 (0,0))) ∧ Aside0 (wc.heap[gb108]? = some (.cells #[.int .i64 0,.int .i64 0,.string (⟨#[]⟩ : ByteArray)] 67 (0,0))) ∧ Aside0 (wc.heap[gb109]? = some (.cells #[.int .i64 0,.int .i64 0,.int .i64 0,.int .i64 0,.int .i64 0,.string (⟨#[]⟩ : ByteArray)] 61 (0,0))) ∧ Aside0 (Below w.heap.size w wc))
 case first =>
  have H := HC3.out
  clear HC3
  replace H := Option.bind_eq_some_iff.mp H
  obtain ⟨t110,A80,H⟩ := H
  replace H : (if t110 = true then ((spec_l01In.f a1_3 1 10000).bind fun t111 => (if t111 = true then (spec_HearNote.j0 k (decide ((a1_5.size : Int) > 40)) a0_0 a0_1 a0_2 a1_0 a1_1 a1_2 a1_3 a1_4 a1_5) else (spec_HearNote.j0 k true a0_0 a0_1 a0_2 a1_0 a1_1 a1_2 a1_3 a1_4 a1_5))) else (spec_HearNote.j0 k true a0_0 a0_1 a0_2 a1_0 a1_1 a1_2 a1_3 a1_4 a1_5)) = some (r1,r2,r3,r4,r5,r6,r7,r8,r9,r10) := H
  have A8 := Aside0.mk A80
  clear A80
  by_cases c9 : t110 = true
  ·subst c9
   have H1 : ((spec_l01In.f a1_3 1 10000).bind fun t111 => (if t111 = true then (spec_HearNote.j0 k (decide ((a1_5.size : Int) > 40)) a0_0 a0_1 a0_2 a1_0 a1_1 a1_2 a1_3 a1_4 a1_5) else (spec_HearNote.j0 k true a0_0 a0_1 a0_2 a1_0 a1_1 a1_2 a1_3 a1_4 a1_5))) = some (r1,r2,r3,r4,r5,r6,r7,r8,r9,r10) := by rw [if_pos rfl] at H;exact H
   clear H
   have H := H1
   clear H1
   replace H := Option.bind_eq_some_iff.mp H
   obtain ⟨t111,A100,H⟩ := H
   replace H : (if t111 = true then (spec_HearNote.j0 k (decide ((a1_5.size : Int) > 40)) a0_0 a0_1 a0_2 a1_0 a1_1 a1_2 a1_3 a1_4 a1_5) else (spec_HearNote.j0 k true a0_0 a0_1 a0_2 a1_0 a1_1 a1_2 a1_3 a1_4 a1_5)) = some (r1,r2,r3,r4,r5,r6,r7,r8,r9,r10) := H
   have A10 := Aside0.mk A100
   clear A100
   by_cases c11 : t111 = true
   ·subst c11
    have H1 : (spec_HearNote.j0 k (decide ((a1_5.size : Int) > 40)) a0_0 a0_1 a0_2 a1_0 a1_1 a1_2 a1_3 a1_4 a1_5) = some (r1,r2,r3,r4,r5,r6,r7,r8,r9,r10) := by rw [if_pos rfl] at H;exact H
    clear H
    have H := H1
    clear H1
    have H' := Aside0.mk H
    clear H
    have hnb12 := NB106_107.out
    have hnc12 := NB107_106.out
    have hnb13 := NB106_108.out
    have hnc13 := NB108_106.out
    have hnb14 := NB106_109.out
    have hnc14 := NB109_106.out
    have hcz15_0 : w7.cell? ⟨gb106,0,none⟩ = some (.int .i64 a0_0) := (blk_cell BK106.out 0).trans rfl
    have hcz15_1 : w7.cell? ⟨gb106,1,none⟩ = some (.int .i64 a0_1) := (blk_cell BK106.out 1).trans rfl
    have hcz15_2 : w7.cell? ⟨gb106,2,none⟩ = some (.string a0_2) := (blk_cell BK106.out 2).trans rfl
    have hfz15_0 := blk_frozen BK106.out 0
    have hfz15_1 := blk_frozen BK106.out 1
    have hfz15_2 := blk_frozen BK106.out 2
    go_wp2_with (first|((with_reducible refine gate_callee (f := 71) rfl ?_);refine goesL_ (some 10) rfl rfl Try.func71 (by kernel_rfl) rfl #[.agg #[.int .i64 a0_0,.int .i64 a0_1,.string a0_2]] rfl (by (try simp only [List.map_toArray,List.map_cons,List.map_nil]);first|done|rfl|(simp only [List.length_drop,List.length_take];rfl)) ?_;(with_reducible refine (spec_VoiceOk.calls a0_0 a0_1 a0_2 true _ A8.out).mono ?_);rintro e w16 ⟨rfl,hb⟩;refine ⟨_,rfl,?_⟩;have n0_ := Aside0.mk (blk_below (g := gb106) (o := .cells #[.int .i64 a0_0,.int .i64 a0_1,.string a0_2] 67 (0,0)) (by (with_reducible repeat (first|refine blk_drewN ?_ _|refine blk_drew ?_|refine blk_alloc ?_ _));exact BK106.out) hb);have n1_ := Aside0.mk (blk_below (g := gb107) (o := .cells #[.int .i64 a1_0,.int .i64 a1_1,.int .i64 a1_2,.int .i64 a1_3,.int .i64 a1_4,.string a1_5] 61 (0,0)) (by (with_reducible repeat (first|refine blk_drewN ?_ _|refine blk_drew ?_|refine blk_alloc ?_ _));exact BK107.out) hb);have n2_ := Aside0.mk (blk_below (g := gb108) (o := .cells #[.int .i64 0,.int .i64 0,.string (⟨#[]⟩ : ByteArray)] 67 (0,0)) (by (with_reducible repeat (first|refine blk_drewN ?_ _|refine blk_drew ?_|refine blk_alloc ?_ _));exact BK108.out) hb);have n3_ := Aside0.mk (blk_below (g := gb109) (o := .cells #[.int .i64 0,.int .i64 0,.int .i64 0,.int .i64 0,.int .i64 0,.string (⟨#[]⟩ : ByteArray)] 61 (0,0)) (by (with_reducible repeat (first|refine blk_drewN ?_ _|refine blk_drew ?_|refine blk_alloc ?_ _));exact BK109.out) hb);have n4_ := Aside0.mk (below_step (by repeat (first|(with_reducible first|exact HB.out|apply below_alloc|apply pw_below_drewN|apply below_drew1|refine below_set ?_ GE106.out|refine below_set ?_ GE107.out|refine below_set ?_ GE108.out|refine below_set ?_ GE109.out)|exact HB.out)) hb);clear BK106;clear BK107;clear BK108;clear BK109;clear HB;have BK106 := n0_;have BK107 := n1_;have BK108 := n2_;have BK109 := n3_;have HB := n4_;clear n0_ n1_ n2_ n3_ n4_;(try clear hb);(try clear hb2);(try clear hk);(try clear hi);have hnb17 := NB107_108.out;have hnc17 := NB108_107.out;have hnb18 := NB107_109.out;have hnc18 := NB109_107.out;have hcz19_0 : w16.cell? ⟨gb107,0,none⟩ = some (.int .i64 a1_0) := (blk_cell BK107.out 0).trans rfl;have hcz19_1 : w16.cell? ⟨gb107,1,none⟩ = some (.int .i64 a1_1) := (blk_cell BK107.out 1).trans rfl;have hcz19_2 : w16.cell? ⟨gb107,2,none⟩ = some (.int .i64 a1_2) := (blk_cell BK107.out 2).trans rfl;have hcz19_3 : w16.cell? ⟨gb107,3,none⟩ = some (.int .i64 a1_3) := (blk_cell BK107.out 3).trans rfl;have hcz19_4 : w16.cell? ⟨gb107,4,none⟩ = some (.int .i64 a1_4) := (blk_cell BK107.out 4).trans rfl;have hcz19_5 : w16.cell? ⟨gb107,5,none⟩ = some (.string a1_5) := (blk_cell BK107.out 5).trans rfl;have hfz19_0 := blk_frozen BK107.out 0;have hfz19_1 := blk_frozen BK107.out 1;have hfz19_2 := blk_frozen BK107.out 2;have hfz19_3 := blk_frozen BK107.out 3;have hfz19_4 := blk_frozen BK107.out 4;have hfz19_5 := blk_frozen BK107.out 5)|(go_at_call 66;(with_reducible refine (spec_l01In.calls a1_3 1 10000 true _ A10.out).mono ?_);rintro e w' ⟨rfl,⟨nd,rfl⟩⟩))
    go_meet
    case rel => exact ⟨_,(decide ((a1_5.size : Int) > 40)),(by first|rfl|(simp;done)|(simp [*];done)),H',⟨by first|omega|exact Nat.le_refl _⟩,⟨by (with_reducible repeat (first|refine blk_drewN ?_ _|refine blk_drew ?_|refine blk_alloc ?_ _));exact BK106.out⟩,⟨by (with_reducible repeat (first|refine blk_drewN ?_ _|refine blk_drew ?_|refine blk_alloc ?_ _));exact BK107.out⟩,⟨by (with_reducible repeat (first|refine blk_drewN ?_ _|refine blk_drew ?_|refine blk_alloc ?_ _));exact BK108.out⟩,⟨by (with_reducible repeat (first|refine blk_drewN ?_ _|refine blk_drew ?_|refine blk_alloc ?_ _));exact BK109.out⟩,⟨by repeat (first|(with_reducible first|exact HB.out|apply below_alloc|apply pw_below_drewN|apply below_drew1|refine below_set ?_ GE106.out|refine below_set ?_ GE107.out|refine below_set ?_ GE108.out|refine below_set ?_ GE109.out)|exact HB.out)⟩⟩
   ·replace c11 := Bool.eq_false_iff.mpr c11
    subst c11
    have H1 : (spec_HearNote.j0 k true a0_0 a0_1 a0_2 a1_0 a1_1 a1_2 a1_3 a1_4 a1_5) = some (r1,r2,r3,r4,r5,r6,r7,r8,r9,r10) := by rw [if_neg (show ¬ (false = true) by decide)] at H;exact H
    clear H
    have H := H1
    clear H1
    have H' := Aside0.mk H
    clear H
    have hnb20 := NB106_107.out
    have hnc20 := NB107_106.out
    have hnb21 := NB106_108.out
    have hnc21 := NB108_106.out
    have hnb22 := NB106_109.out
    have hnc22 := NB109_106.out
    have hcz23_0 : w7.cell? ⟨gb106,0,none⟩ = some (.int .i64 a0_0) := (blk_cell BK106.out 0).trans rfl
    have hcz23_1 : w7.cell? ⟨gb106,1,none⟩ = some (.int .i64 a0_1) := (blk_cell BK106.out 1).trans rfl
    have hcz23_2 : w7.cell? ⟨gb106,2,none⟩ = some (.string a0_2) := (blk_cell BK106.out 2).trans rfl
    have hfz23_0 := blk_frozen BK106.out 0
    have hfz23_1 := blk_frozen BK106.out 1
    have hfz23_2 := blk_frozen BK106.out 2
    go_wp2_with (first|((with_reducible refine gate_callee (f := 71) rfl ?_);refine goesL_ (some 10) rfl rfl Try.func71 (by kernel_rfl) rfl #[.agg #[.int .i64 a0_0,.int .i64 a0_1,.string a0_2]] rfl (by (try simp only [List.map_toArray,List.map_cons,List.map_nil]);first|done|rfl|(simp only [List.length_drop,List.length_take];rfl)) ?_;(with_reducible refine (spec_VoiceOk.calls a0_0 a0_1 a0_2 true _ A8.out).mono ?_);rintro e w24 ⟨rfl,hb⟩;refine ⟨_,rfl,?_⟩;have n0_ := Aside0.mk (blk_below (g := gb106) (o := .cells #[.int .i64 a0_0,.int .i64 a0_1,.string a0_2] 67 (0,0)) (by (with_reducible repeat (first|refine blk_drewN ?_ _|refine blk_drew ?_|refine blk_alloc ?_ _));exact BK106.out) hb);have n1_ := Aside0.mk (blk_below (g := gb107) (o := .cells #[.int .i64 a1_0,.int .i64 a1_1,.int .i64 a1_2,.int .i64 a1_3,.int .i64 a1_4,.string a1_5] 61 (0,0)) (by (with_reducible repeat (first|refine blk_drewN ?_ _|refine blk_drew ?_|refine blk_alloc ?_ _));exact BK107.out) hb);have n2_ := Aside0.mk (blk_below (g := gb108) (o := .cells #[.int .i64 0,.int .i64 0,.string (⟨#[]⟩ : ByteArray)] 67 (0,0)) (by (with_reducible repeat (first|refine blk_drewN ?_ _|refine blk_drew ?_|refine blk_alloc ?_ _));exact BK108.out) hb);have n3_ := Aside0.mk (blk_below (g := gb109) (o := .cells #[.int .i64 0,.int .i64 0,.int .i64 0,.int .i64 0,.int .i64 0,.string (⟨#[]⟩ : ByteArray)] 61 (0,0)) (by (with_reducible repeat (first|refine blk_drewN ?_ _|refine blk_drew ?_|refine blk_alloc ?_ _));exact BK109.out) hb);have n4_ := Aside0.mk (below_step (by repeat (first|(with_reducible first|exact HB.out|apply below_alloc|apply pw_below_drewN|apply below_drew1|refine below_set ?_ GE106.out|refine below_set ?_ GE107.out|refine below_set ?_ GE108.out|refine below_set ?_ GE109.out)|exact HB.out)) hb);clear BK106;clear BK107;clear BK108;clear BK109;clear HB;have BK106 := n0_;have BK107 := n1_;have BK108 := n2_;have BK109 := n3_;have HB := n4_;clear n0_ n1_ n2_ n3_ n4_;(try clear hb);(try clear hb2);(try clear hk);(try clear hi);have hnb25 := NB107_108.out;have hnc25 := NB108_107.out;have hnb26 := NB107_109.out;have hnc26 := NB109_107.out;have hcz27_0 : w24.cell? ⟨gb107,0,none⟩ = some (.int .i64 a1_0) := (blk_cell BK107.out 0).trans rfl;have hcz27_1 : w24.cell? ⟨gb107,1,none⟩ = some (.int .i64 a1_1) := (blk_cell BK107.out 1).trans rfl;have hcz27_2 : w24.cell? ⟨gb107,2,none⟩ = some (.int .i64 a1_2) := (blk_cell BK107.out 2).trans rfl;have hcz27_3 : w24.cell? ⟨gb107,3,none⟩ = some (.int .i64 a1_3) := (blk_cell BK107.out 3).trans rfl;have hcz27_4 : w24.cell? ⟨gb107,4,none⟩ = some (.int .i64 a1_4) := (blk_cell BK107.out 4).trans rfl;have hcz27_5 : w24.cell? ⟨gb107,5,none⟩ = some (.string a1_5) := (blk_cell BK107.out 5).trans rfl;have hfz27_0 := blk_frozen BK107.out 0;have hfz27_1 := blk_frozen BK107.out 1;have hfz27_2 := blk_frozen BK107.out 2;have hfz27_3 := blk_frozen BK107.out 3;have hfz27_4 := blk_frozen BK107.out 4;have hfz27_5 := blk_frozen BK107.out 5)|(go_at_call 66;(with_reducible refine (spec_l01In.calls a1_3 1 10000 false _ A10.out).mono ?_);rintro e w' ⟨rfl,⟨nd,rfl⟩⟩))
    go_meet
    case rel => exact ⟨_,(true),(by first|rfl|(simp;done)|(simp [*];done)),H',⟨by first|omega|exact Nat.le_refl _⟩,⟨by (with_reducible repeat (first|refine blk_drewN ?_ _|refine blk_drew ?_|refine blk_alloc ?_ _));exact BK106.out⟩,⟨by (with_reducible repeat (first|refine blk_drewN ?_ _|refine blk_drew ?_|refine blk_alloc ?_ _));exact BK107.out⟩,⟨by (with_reducible repeat (first|refine blk_drewN ?_ _|refine blk_drew ?_|refine blk_alloc ?_ _));exact BK108.out⟩,⟨by (with_reducible repeat (first|refine blk_drewN ?_ _|refine blk_drew ?_|refine blk_alloc ?_ _));exact BK109.out⟩,⟨by repeat (first|(with_reducible first|exact HB.out|apply below_alloc|apply pw_below_drewN|apply below_drew1|refine below_set ?_ GE106.out|refine below_set ?_ GE107.out|refine below_set ?_ GE108.out|refine below_set ?_ GE109.out)|exact HB.out)⟩⟩
  ·replace c9 := Bool.eq_false_iff.mpr c9
   subst c9
   have H1 : (spec_HearNote.j0 k true a0_0 a0_1 a0_2 a1_0 a1_1 a1_2 a1_3 a1_4 a1_5) = some (r1,r2,r3,r4,r5,r6,r7,r8,r9,r10) := by rw [if_neg (show ¬ (false = true) by decide)] at H;exact H
   clear H
   have H := H1
   clear H1
   have H' := Aside0.mk H
   clear H
   have hnb28 := NB106_107.out
   have hnc28 := NB107_106.out
   have hnb29 := NB106_108.out
   have hnc29 := NB108_106.out
   have hnb30 := NB106_109.out
   have hnc30 := NB109_106.out
   have hcz31_0 : w7.cell? ⟨gb106,0,none⟩ = some (.int .i64 a0_0) := (blk_cell BK106.out 0).trans rfl
   have hcz31_1 : w7.cell? ⟨gb106,1,none⟩ = some (.int .i64 a0_1) := (blk_cell BK106.out 1).trans rfl
   have hcz31_2 : w7.cell? ⟨gb106,2,none⟩ = some (.string a0_2) := (blk_cell BK106.out 2).trans rfl
   have hfz31_0 := blk_frozen BK106.out 0
   have hfz31_1 := blk_frozen BK106.out 1
   have hfz31_2 := blk_frozen BK106.out 2
   go_wp2_with (first|((with_reducible refine gate_callee (f := 71) rfl ?_);refine goesL_ (some 10) rfl rfl Try.func71 (by kernel_rfl) rfl #[.agg #[.int .i64 a0_0,.int .i64 a0_1,.string a0_2]] rfl (by (try simp only [List.map_toArray,List.map_cons,List.map_nil]);first|done|rfl|(simp only [List.length_drop,List.length_take];rfl)) ?_;(with_reducible refine (spec_VoiceOk.calls a0_0 a0_1 a0_2 false _ A8.out).mono ?_);rintro e w32 ⟨rfl,hb⟩;refine ⟨_,rfl,?_⟩;have n0_ := Aside0.mk (blk_below (g := gb106) (o := .cells #[.int .i64 a0_0,.int .i64 a0_1,.string a0_2] 67 (0,0)) (by (with_reducible repeat (first|refine blk_drewN ?_ _|refine blk_drew ?_|refine blk_alloc ?_ _));exact BK106.out) hb);have n1_ := Aside0.mk (blk_below (g := gb107) (o := .cells #[.int .i64 a1_0,.int .i64 a1_1,.int .i64 a1_2,.int .i64 a1_3,.int .i64 a1_4,.string a1_5] 61 (0,0)) (by (with_reducible repeat (first|refine blk_drewN ?_ _|refine blk_drew ?_|refine blk_alloc ?_ _));exact BK107.out) hb);have n2_ := Aside0.mk (blk_below (g := gb108) (o := .cells #[.int .i64 0,.int .i64 0,.string (⟨#[]⟩ : ByteArray)] 67 (0,0)) (by (with_reducible repeat (first|refine blk_drewN ?_ _|refine blk_drew ?_|refine blk_alloc ?_ _));exact BK108.out) hb);have n3_ := Aside0.mk (blk_below (g := gb109) (o := .cells #[.int .i64 0,.int .i64 0,.int .i64 0,.int .i64 0,.int .i64 0,.string (⟨#[]⟩ : ByteArray)] 61 (0,0)) (by (with_reducible repeat (first|refine blk_drewN ?_ _|refine blk_drew ?_|refine blk_alloc ?_ _));exact BK109.out) hb);have n4_ := Aside0.mk (below_step (by repeat (first|(with_reducible first|exact HB.out|apply below_alloc|apply pw_below_drewN|apply below_drew1|refine below_set ?_ GE106.out|refine below_set ?_ GE107.out|refine below_set ?_ GE108.out|refine below_set ?_ GE109.out)|exact HB.out)) hb);clear BK106;clear BK107;clear BK108;clear BK109;clear HB;have BK106 := n0_;have BK107 := n1_;have BK108 := n2_;have BK109 := n3_;have HB := n4_;clear n0_ n1_ n2_ n3_ n4_;(try clear hb);(try clear hb2);(try clear hk);(try clear hi)))
   go_meet
   case rel => exact ⟨_,(true),(by first|rfl|(simp;done)|(simp [*];done)),H',⟨by first|omega|exact Nat.le_refl _⟩,⟨by (with_reducible repeat (first|refine blk_drewN ?_ _|refine blk_drew ?_|refine blk_alloc ?_ _));exact BK106.out⟩,⟨by (with_reducible repeat (first|refine blk_drewN ?_ _|refine blk_drew ?_|refine blk_alloc ?_ _));exact BK107.out⟩,⟨by (with_reducible repeat (first|refine blk_drewN ?_ _|refine blk_drew ?_|refine blk_alloc ?_ _));exact BK108.out⟩,⟨by (with_reducible repeat (first|refine blk_drewN ?_ _|refine blk_drew ?_|refine blk_alloc ?_ _));exact BK109.out⟩,⟨by repeat (first|(with_reducible first|exact HB.out|apply below_alloc|apply pw_below_drewN|apply below_drew1|refine below_set ?_ GE106.out|refine below_set ?_ GE107.out|refine below_set ?_ GE108.out|refine below_set ?_ GE109.out)|exact HB.out)⟩⟩
 case rest =>
  clear HC3
  try clear c1
  try clear c2
  try clear p2
  try clear c3
  try clear c4
  try clear c7
  try clear c9
  try clear c11
  try clear c12
  try clear c13
  try clear c14
  try clear c17
  try clear c18
  try clear c20
  try clear c21
  try clear c22
  try clear c25
  try clear c26
  try clear c28
  try clear c29
  try clear c30
  try clear hcz15_0
  try clear hcz15_1
  try clear hcz15_2
  try clear hcz19_0
  try clear hcz19_1
  try clear hcz19_2
  try clear hcz19_3
  try clear hcz19_4
  try clear hcz19_5
  try clear hcz23_0
  try clear hcz23_1
  try clear hcz23_2
  try clear hcz27_0
  try clear hcz27_1
  try clear hcz27_2
  try clear hcz27_3
  try clear hcz27_4
  try clear hcz27_5
  try clear hcz31_0
  try clear hcz31_1
  try clear hcz31_2
  try clear hfz15_0
  try clear hfz15_1
  try clear hfz15_2
  try clear hfz19_0
  try clear hfz19_1
  try clear hfz19_2
  try clear hfz19_3
  try clear hfz19_4
  try clear hfz19_5
  try clear hfz23_0
  try clear hfz23_1
  try clear hfz23_2
  try clear hfz27_0
  try clear hfz27_1
  try clear hfz27_2
  try clear hfz27_3
  try clear hfz27_4
  try clear hfz27_5
  try clear hfz31_0
  try clear hfz31_1
  try clear hfz31_2
  obtain ⟨kq,x23_2,rfl,HA,HJ2,BK106,BK107,BK108,BK109,HB⟩ := hcut
  cases kq with
  | zero => exact absurd HA.out (by simp [spec_HearNote.j0])
  | succ kj2 =>
   have H := HA.out
   clear HA
   simp only [spec_HearNote.j0] at H
   by_cases c33 : x23_2 = true
   ·subst c33
    have H1 : (some (a0_0,a0_1,a0_2,0,0,0,0,0,(⟨#[]⟩ : ByteArray),false)) = some (r1,r2,r3,r4,r5,r6,r7,r8,r9,r10) := by rw [if_pos rfl] at H;exact H
    clear H
    have H := H1
    clear H1
    simp only [Option.some.injEq,Prod.mk.injEq] at H
    obtain ⟨rfl,rfl,rfl,rfl,rfl,rfl,rfl,rfl,rfl,rfl⟩ := H
    have hnb34 := NB106_107.out
    have hnc34 := NB107_106.out
    have hnb35 := NB106_108.out
    have hnc35 := NB108_106.out
    have hnb36 := NB106_109.out
    have hnc36 := NB109_106.out
    have hcz37_0 : wc.cell? ⟨gb106,0,none⟩ = some (.int .i64 a0_0) := (blk_cell BK106.out 0).trans rfl
    have hcz37_1 : wc.cell? ⟨gb106,1,none⟩ = some (.int .i64 a0_1) := (blk_cell BK106.out 1).trans rfl
    have hcz37_2 : wc.cell? ⟨gb106,2,none⟩ = some (.string a0_2) := (blk_cell BK106.out 2).trans rfl
    have hfz37_0 := blk_frozen BK106.out 0
    have hfz37_1 := blk_frozen BK106.out 1
    have hfz37_2 := blk_frozen BK106.out 2
    have hnb38 := NB108_107.out
    have hnc38 := NB107_108.out
    have hnb39 := NB108_109.out
    have hnc39 := NB109_108.out
    have hcz40_0 : wc.cell? ⟨gb108,0,none⟩ = some (.int .i64 0) := (blk_cell BK108.out 0).trans rfl
    have hcz40_1 : wc.cell? ⟨gb108,1,none⟩ = some (.int .i64 0) := (blk_cell BK108.out 1).trans rfl
    have hcz40_2 : wc.cell? ⟨gb108,2,none⟩ = some (.string (⟨#[]⟩ : ByteArray)) := (blk_cell BK108.out 2).trans rfl
    have hfz40_0 := blk_frozen BK108.out 0
    have hfz40_1 := blk_frozen BK108.out 1
    have hfz40_2 := blk_frozen BK108.out 2
    have hnb41 := NB109_107.out
    have hnc41 := NB107_109.out
    have hcz42_0 : wc.cell? ⟨gb109,0,none⟩ = some (.int .i64 0) := (blk_cell BK109.out 0).trans rfl
    have hcz42_1 : wc.cell? ⟨gb109,1,none⟩ = some (.int .i64 0) := (blk_cell BK109.out 1).trans rfl
    have hcz42_2 : wc.cell? ⟨gb109,2,none⟩ = some (.int .i64 0) := (blk_cell BK109.out 2).trans rfl
    have hcz42_3 : wc.cell? ⟨gb109,3,none⟩ = some (.int .i64 0) := (blk_cell BK109.out 3).trans rfl
    have hcz42_4 : wc.cell? ⟨gb109,4,none⟩ = some (.int .i64 0) := (blk_cell BK109.out 4).trans rfl
    have hcz42_5 : wc.cell? ⟨gb109,5,none⟩ = some (.string (⟨#[]⟩ : ByteArray)) := (blk_cell BK109.out 5).trans rfl
    have hfz42_0 := blk_frozen BK109.out 0
    have hfz42_1 := blk_frozen BK109.out 1
    have hfz42_2 := blk_frozen BK109.out 2
    have hfz42_3 := blk_frozen BK109.out 3
    have hfz42_4 := blk_frozen BK109.out 4
    have hfz42_5 := blk_frozen BK109.out 5
    go_wp2
    refine bodyPost_ret (results_list (rs := [.cell 4 67,.cell 5 61,.tmp 6]) rfl (by simp) (.cell gb108 67 #[.int .i64 a0_0,.int .i64 a0_1,.string a0_2] (0,0) _ rfl (by (with_reducible repeat (first|refine blk_drewN ?_ _|refine blk_drew ?_|refine blk_alloc ?_ _));refine blk_far ?_ NB108_109.out _;(with_reducible repeat (first|refine blk_drewN ?_ _|refine blk_drew ?_|refine blk_alloc ?_ _));refine blk_far ?_ NB108_109.out _;(with_reducible repeat (first|refine blk_drewN ?_ _|refine blk_drew ?_|refine blk_alloc ?_ _));refine blk_far ?_ NB108_109.out _;(with_reducible repeat (first|refine blk_drewN ?_ _|refine blk_drew ?_|refine blk_alloc ?_ _));refine blk_far ?_ NB108_109.out _;(with_reducible repeat (first|refine blk_drewN ?_ _|refine blk_drew ?_|refine blk_alloc ?_ _));refine blk_far ?_ NB108_109.out _;(with_reducible repeat (first|refine blk_drewN ?_ _|refine blk_drew ?_|refine blk_alloc ?_ _));refine blk_far ?_ NB108_109.out _;(with_reducible repeat (first|refine blk_drewN ?_ _|refine blk_drew ?_|refine blk_alloc ?_ _));refine blk_put (cs := #[.int .i64 a0_0,.int .i64 a0_1,.string (⟨#[]⟩ : ByteArray)]) ?_ 2 _ rfl;(with_reducible repeat (first|refine blk_drewN ?_ _|refine blk_drew ?_|refine blk_alloc ?_ _));refine blk_put (cs := #[.int .i64 a0_0,.int .i64 0,.string (⟨#[]⟩ : ByteArray)]) ?_ 1 _ rfl;(with_reducible repeat (first|refine blk_drewN ?_ _|refine blk_drew ?_|refine blk_alloc ?_ _));refine blk_put (cs := #[.int .i64 0,.int .i64 0,.string (⟨#[]⟩ : ByteArray)]) ?_ 0 _ rfl;(with_reducible repeat (first|refine blk_drewN ?_ _|refine blk_drew ?_|refine blk_alloc ?_ _));exact BK108.out) Try.underlying67 rfl (by kernel_rfl) (.cell gb109 61 #[.int .i64 0,.int .i64 0,.int .i64 0,.int .i64 0,.int .i64 0,.string (⟨#[]⟩ : ByteArray)] (0,0) _ rfl (by (with_reducible repeat (first|refine blk_drewN ?_ _|refine blk_drew ?_|refine blk_alloc ?_ _));refine blk_put (cs := #[.int .i64 0,.int .i64 0,.int .i64 0,.int .i64 0,.int .i64 0,.string (⟨#[]⟩ : ByteArray)]) ?_ 5 _ rfl;(with_reducible repeat (first|refine blk_drewN ?_ _|refine blk_drew ?_|refine blk_alloc ?_ _));refine blk_put (cs := #[.int .i64 0,.int .i64 0,.int .i64 0,.int .i64 0,.int .i64 0,.string (⟨#[]⟩ : ByteArray)]) ?_ 4 _ rfl;(with_reducible repeat (first|refine blk_drewN ?_ _|refine blk_drew ?_|refine blk_alloc ?_ _));refine blk_put (cs := #[.int .i64 0,.int .i64 0,.int .i64 0,.int .i64 0,.int .i64 0,.string (⟨#[]⟩ : ByteArray)]) ?_ 3 _ rfl;(with_reducible repeat (first|refine blk_drewN ?_ _|refine blk_drew ?_|refine blk_alloc ?_ _));refine blk_put (cs := #[.int .i64 0,.int .i64 0,.int .i64 0,.int .i64 0,.int .i64 0,.string (⟨#[]⟩ : ByteArray)]) ?_ 2 _ rfl;(with_reducible repeat (first|refine blk_drewN ?_ _|refine blk_drew ?_|refine blk_alloc ?_ _));refine blk_put (cs := #[.int .i64 0,.int .i64 0,.int .i64 0,.int .i64 0,.int .i64 0,.string (⟨#[]⟩ : ByteArray)]) ?_ 1 _ rfl;(with_reducible repeat (first|refine blk_drewN ?_ _|refine blk_drew ?_|refine blk_alloc ?_ _));refine blk_put (cs := #[.int .i64 0,.int .i64 0,.int .i64 0,.int .i64 0,.int .i64 0,.string (⟨#[]⟩ : ByteArray)]) ?_ 0 _ rfl;(with_reducible repeat (first|refine blk_drewN ?_ _|refine blk_drew ?_|refine blk_alloc ?_ _));refine blk_far ?_ NB109_108.out _;(with_reducible repeat (first|refine blk_drewN ?_ _|refine blk_drew ?_|refine blk_alloc ?_ _));refine blk_far ?_ NB109_108.out _;(with_reducible repeat (first|refine blk_drewN ?_ _|refine blk_drew ?_|refine blk_alloc ?_ _));refine blk_far ?_ NB109_108.out _;(with_reducible repeat (first|refine blk_drewN ?_ _|refine blk_drew ?_|refine blk_alloc ?_ _));exact BK109.out) Try.underlying61 rfl (by kernel_rfl) (.tmp .nil)))) rfl ?_
    exact ⟨by first|rfl|(simp [errW_none,errW_some] <;> rfl)|(simp [*,errW_none,errW_some] <;> rfl),by repeat (first|(with_reducible first|exact HB.out|apply below_alloc|apply pw_below_drewN|apply below_drew1|refine below_set ?_ GE106.out|refine below_set ?_ GE107.out|refine below_set ?_ GE108.out|refine below_set ?_ GE109.out)|exact HB.out)⟩
   ·replace c33 := Bool.eq_false_iff.mpr c33
    subst c33
    have H1 : (if a1_0 = 1 then (spec_HearNote.j1 kj2 (decide (a1_3 > a0_0)) a0_0 a0_1 a0_2 a1_0 a1_1 a1_2 a1_3 a1_4 a1_5) else (spec_HearNote.j1 kj2 false a0_0 a0_1 a0_2 a1_0 a1_1 a1_2 a1_3 a1_4 a1_5)) = some (r1,r2,r3,r4,r5,r6,r7,r8,r9,r10) := by rw [if_neg (show ¬ (false = true) by decide)] at H;exact H
    clear H
    have H := H1
    clear H1
    have HC43 := Aside0.mk H
    clear H
    go_upto_region 3 with (fail)
    go_cut [35] (fun v35 wc => ∃ (kq : Nat) (x35_42 : Bool),v35 = .bool x35_42 ∧ Aside0 (spec_HearNote.j1 kq x35_42 a0_0 a0_1 a0_2 a1_0 a1_1 a1_2 a1_3 a1_4 a1_5 = some (r1,r2,r3,r4,r5,r6,r7,r8,r9,r10)) ∧ Aside0 (kq ≤ kj2) ∧ Aside0 (wc.heap[gb106]? = some (.cells #[.int .i64 a0_0,.int .i64 a0_1,.string a0_2] 67 (0,0))) ∧ Aside0 (wc.heap[gb107]? = some (.cells #[.int .i64 a1_0,.int .i64 a1_1,.int .i64 a1_2,.int .i64 a1_3,.int .i64 a1_4,.string a1_5] 61 (0,0))) ∧ Aside0 (wc.heap[gb108]? = some (.cells #[.int .i64 0,.int .i64 0,.string (⟨#[]⟩ : ByteArray)] 67 (0,0))) ∧ Aside0 (wc.heap[gb109]? = some (.cells #[.int .i64 0,.int .i64 0,.int .i64 0,.int .i64 0,.int .i64 0,.string (⟨#[]⟩ : ByteArray)] 61 (0,0))) ∧ Aside0 (Below w.heap.size w wc))
    case first =>
     have H := HC43.out
     clear HC43
     by_cases c44 : a1_0 = 1
     ·rw [if_pos c44] at H
      have c44b0 : (a1_0 == 1) = true := beq_iff_eq.mpr c44
      have c44b1 : (a1_0 != 1) = false := bne_eq_false_iff_eq.mpr c44
      clear c44
      (first|rw [c44b0]|(simp only [i64_w,i32_w];rw [c44b0])|skip)
      have H' := Aside0.mk H
      clear H
      have hnb45 := NB107_106.out
      have hnc45 := NB106_107.out
      have hnb46 := NB107_108.out
      have hnc46 := NB108_107.out
      have hnb47 := NB107_109.out
      have hnc47 := NB109_107.out
      have hcz48_0 : wc.cell? ⟨gb107,0,none⟩ = some (.int .i64 a1_0) := (blk_cell BK107.out 0).trans rfl
      have hcz48_1 : wc.cell? ⟨gb107,1,none⟩ = some (.int .i64 a1_1) := (blk_cell BK107.out 1).trans rfl
      have hcz48_2 : wc.cell? ⟨gb107,2,none⟩ = some (.int .i64 a1_2) := (blk_cell BK107.out 2).trans rfl
      have hcz48_3 : wc.cell? ⟨gb107,3,none⟩ = some (.int .i64 a1_3) := (blk_cell BK107.out 3).trans rfl
      have hcz48_4 : wc.cell? ⟨gb107,4,none⟩ = some (.int .i64 a1_4) := (blk_cell BK107.out 4).trans rfl
      have hcz48_5 : wc.cell? ⟨gb107,5,none⟩ = some (.string a1_5) := (blk_cell BK107.out 5).trans rfl
      have hfz48_0 := blk_frozen BK107.out 0
      have hfz48_1 := blk_frozen BK107.out 1
      have hfz48_2 := blk_frozen BK107.out 2
      have hfz48_3 := blk_frozen BK107.out 3
      have hfz48_4 := blk_frozen BK107.out 4
      have hfz48_5 := blk_frozen BK107.out 5
      have hnb49 := NB106_108.out
      have hnc49 := NB108_106.out
      have hnb50 := NB106_109.out
      have hnc50 := NB109_106.out
      have hcz51_0 : wc.cell? ⟨gb106,0,none⟩ = some (.int .i64 a0_0) := (blk_cell BK106.out 0).trans rfl
      have hcz51_1 : wc.cell? ⟨gb106,1,none⟩ = some (.int .i64 a0_1) := (blk_cell BK106.out 1).trans rfl
      have hcz51_2 : wc.cell? ⟨gb106,2,none⟩ = some (.string a0_2) := (blk_cell BK106.out 2).trans rfl
      have hfz51_0 := blk_frozen BK106.out 0
      have hfz51_1 := blk_frozen BK106.out 1
      have hfz51_2 := blk_frozen BK106.out 2
      go_wp2
      go_meet
      case rel => exact ⟨_,(decide (a1_3 > a0_0)),(by first|rfl|(simp;done)|(simp [*];done)),H',⟨by have := HJ2.out;first|omega|exact Nat.le_refl _⟩,⟨by (with_reducible repeat (first|refine blk_drewN ?_ _|refine blk_drew ?_|refine blk_alloc ?_ _));exact BK106.out⟩,⟨by (with_reducible repeat (first|refine blk_drewN ?_ _|refine blk_drew ?_|refine blk_alloc ?_ _));exact BK107.out⟩,⟨by (with_reducible repeat (first|refine blk_drewN ?_ _|refine blk_drew ?_|refine blk_alloc ?_ _));exact BK108.out⟩,⟨by (with_reducible repeat (first|refine blk_drewN ?_ _|refine blk_drew ?_|refine blk_alloc ?_ _));exact BK109.out⟩,⟨by repeat (first|(with_reducible first|exact HB.out|apply below_alloc|apply pw_below_drewN|apply below_drew1|refine below_set ?_ GE106.out|refine below_set ?_ GE107.out|refine below_set ?_ GE108.out|refine below_set ?_ GE109.out)|exact HB.out)⟩⟩
     ·rw [if_neg c44] at H
      have c44b0 : (a1_0 == 1) = false := beq_eq_false_iff_ne.mpr c44
      have c44b1 : (a1_0 != 1) = true := bne_iff_ne.mpr c44
      (first|rw [c44b0]|(simp only [i64_w,i32_w];rw [c44b0])|skip)
      have H' := Aside0.mk H
      clear H
      have hnb52 := NB107_106.out
      have hnc52 := NB106_107.out
      have hnb53 := NB107_108.out
      have hnc53 := NB108_107.out
      have hnb54 := NB107_109.out
      have hnc54 := NB109_107.out
      have hcz55_0 : wc.cell? ⟨gb107,0,none⟩ = some (.int .i64 a1_0) := (blk_cell BK107.out 0).trans rfl
      have hcz55_1 : wc.cell? ⟨gb107,1,none⟩ = some (.int .i64 a1_1) := (blk_cell BK107.out 1).trans rfl
      have hcz55_2 : wc.cell? ⟨gb107,2,none⟩ = some (.int .i64 a1_2) := (blk_cell BK107.out 2).trans rfl
      have hcz55_3 : wc.cell? ⟨gb107,3,none⟩ = some (.int .i64 a1_3) := (blk_cell BK107.out 3).trans rfl
      have hcz55_4 : wc.cell? ⟨gb107,4,none⟩ = some (.int .i64 a1_4) := (blk_cell BK107.out 4).trans rfl
      have hcz55_5 : wc.cell? ⟨gb107,5,none⟩ = some (.string a1_5) := (blk_cell BK107.out 5).trans rfl
      have hfz55_0 := blk_frozen BK107.out 0
      have hfz55_1 := blk_frozen BK107.out 1
      have hfz55_2 := blk_frozen BK107.out 2
      have hfz55_3 := blk_frozen BK107.out 3
      have hfz55_4 := blk_frozen BK107.out 4
      have hfz55_5 := blk_frozen BK107.out 5
      go_wp2
      go_meet
      case rel => exact ⟨_,(false),(by first|rfl|(simp;done)|(simp [*];done)),H',⟨by have := HJ2.out;first|omega|exact Nat.le_refl _⟩,⟨by (with_reducible repeat (first|refine blk_drewN ?_ _|refine blk_drew ?_|refine blk_alloc ?_ _));exact BK106.out⟩,⟨by (with_reducible repeat (first|refine blk_drewN ?_ _|refine blk_drew ?_|refine blk_alloc ?_ _));exact BK107.out⟩,⟨by (with_reducible repeat (first|refine blk_drewN ?_ _|refine blk_drew ?_|refine blk_alloc ?_ _));exact BK108.out⟩,⟨by (with_reducible repeat (first|refine blk_drewN ?_ _|refine blk_drew ?_|refine blk_alloc ?_ _));exact BK109.out⟩,⟨by repeat (first|(with_reducible first|exact HB.out|apply below_alloc|apply pw_below_drewN|apply below_drew1|refine below_set ?_ GE106.out|refine below_set ?_ GE107.out|refine below_set ?_ GE108.out|refine below_set ?_ GE109.out)|exact HB.out)⟩⟩
    case rest =>
     clear HC43
     try clear c1
     try clear c2
     try clear p2
     try clear c3
     try clear c4
     try clear c5
     try clear c7
     try clear c9
     try clear c11
     try clear c12
     try clear c13
     try clear c14
     try clear c17
     try clear c18
     try clear c20
     try clear c21
     try clear c22
     try clear c25
     try clear c26
     try clear c28
     try clear c29
     try clear c30
     try clear c33
     try clear c34
     try clear c35
     try clear c36
     try clear c38
     try clear c39
     try clear c41
     try clear c44
     try clear c44b0
     try clear c44b1
     try clear c45
     try clear c46
     try clear c47
     try clear c49
     try clear c50
     try clear c52
     try clear c53
     try clear c54
     try clear hcz15_0
     try clear hcz15_1
     try clear hcz15_2
     try clear hcz19_0
     try clear hcz19_1
     try clear hcz19_2
     try clear hcz19_3
     try clear hcz19_4
     try clear hcz19_5
     try clear hcz23_0
     try clear hcz23_1
     try clear hcz23_2
     try clear hcz27_0
     try clear hcz27_1
     try clear hcz27_2
     try clear hcz27_3
     try clear hcz27_4
     try clear hcz27_5
     try clear hcz31_0
     try clear hcz31_1
     try clear hcz31_2
     try clear hcz37_0
     try clear hcz37_1
     try clear hcz37_2
     try clear hcz40_0
     try clear hcz40_1
     try clear hcz40_2
     try clear hcz42_0
     try clear hcz42_1
     try clear hcz42_2
     try clear hcz42_3
     try clear hcz42_4
     try clear hcz42_5
     try clear hcz48_0
     try clear hcz48_1
     try clear hcz48_2
     try clear hcz48_3
     try clear hcz48_4
     try clear hcz48_5
     try clear hcz51_0
     try clear hcz51_1
     try clear hcz51_2
     try clear hcz55_0
     try clear hcz55_1
     try clear hcz55_2
     try clear hcz55_3
     try clear hcz55_4
     try clear hcz55_5
     try clear hfz15_0
     try clear hfz15_1
     try clear hfz15_2
     try clear hfz19_0
     try clear hfz19_1
     try clear hfz19_2
     try clear hfz19_3
     try clear hfz19_4
     try clear hfz19_5
     try clear hfz23_0
     try clear hfz23_1
     try clear hfz23_2
     try clear hfz27_0
     try clear hfz27_1
     try clear hfz27_2
     try clear hfz27_3
     try clear hfz27_4
     try clear hfz27_5
     try clear hfz31_0
     try clear hfz31_1
     try clear hfz31_2
     try clear hfz37_0
     try clear hfz37_1
     try clear hfz37_2
     try clear hfz40_0
     try clear hfz40_1
     try clear hfz40_2
     try clear hfz42_0
     try clear hfz42_1
     try clear hfz42_2
     try clear hfz42_3
     try clear hfz42_4
     try clear hfz42_5
     try clear hfz48_0
     try clear hfz48_1
     try clear hfz48_2
     try clear hfz48_3
     try clear hfz48_4
     try clear hfz48_5
     try clear hfz51_0
     try clear hfz51_1
     try clear hfz51_2
     try clear hfz55_0
     try clear hfz55_1
     try clear hfz55_2
     try clear hfz55_3
     try clear hfz55_4
     try clear hfz55_5
     try clear p2
     obtain ⟨kq,x35_42,rfl,HA,HJ42,BK106,BK107,BK108,BK109,HB⟩ := hcut
     cases kq with
     | zero => exact absurd HA.out (by simp [spec_HearNote.j1])
     | succ kj42 =>
      have H := HA.out
      clear HA
      simp only [spec_HearNote.j1] at H
      by_cases c56 : x35_42 = true
      ·subst c56
       have H1 : (some (a1_3,a0_1,a0_2,2,a1_2,a1_1,a1_3,a0_1,a0_2,true)) = some (r1,r2,r3,r4,r5,r6,r7,r8,r9,r10) := by rw [if_pos rfl] at H;exact H
       clear H
       have H := H1
       clear H1
       simp only [Option.some.injEq,Prod.mk.injEq] at H
       obtain ⟨rfl,rfl,rfl,rfl,rfl,rfl,rfl,rfl,rfl,rfl⟩ := H
       have hnb57 := NB107_106.out
       have hnc57 := NB106_107.out
       have hnb58 := NB107_108.out
       have hnc58 := NB108_107.out
       have hnb59 := NB107_109.out
       have hnc59 := NB109_107.out
       have hcz60_0 : wc.cell? ⟨gb107,0,none⟩ = some (.int .i64 a1_0) := (blk_cell BK107.out 0).trans rfl
       have hcz60_1 : wc.cell? ⟨gb107,1,none⟩ = some (.int .i64 a1_1) := (blk_cell BK107.out 1).trans rfl
       have hcz60_2 : wc.cell? ⟨gb107,2,none⟩ = some (.int .i64 a1_2) := (blk_cell BK107.out 2).trans rfl
       have hcz60_3 : wc.cell? ⟨gb107,3,none⟩ = some (.int .i64 a1_3) := (blk_cell BK107.out 3).trans rfl
       have hcz60_4 : wc.cell? ⟨gb107,4,none⟩ = some (.int .i64 a1_4) := (blk_cell BK107.out 4).trans rfl
       have hcz60_5 : wc.cell? ⟨gb107,5,none⟩ = some (.string a1_5) := (blk_cell BK107.out 5).trans rfl
       have hfz60_0 := blk_frozen BK107.out 0
       have hfz60_1 := blk_frozen BK107.out 1
       have hfz60_2 := blk_frozen BK107.out 2
       have hfz60_3 := blk_frozen BK107.out 3
       have hfz60_4 := blk_frozen BK107.out 4
       have hfz60_5 := blk_frozen BK107.out 5
       have hnb61 := NB106_108.out
       have hnc61 := NB108_106.out
       have hnb62 := NB106_109.out
       have hnc62 := NB109_106.out
       have hcz63_0 : wc.cell? ⟨gb106,0,none⟩ = some (.int .i64 a0_0) := (blk_cell BK106.out 0).trans rfl
       have hcz63_1 : wc.cell? ⟨gb106,1,none⟩ = some (.int .i64 a0_1) := (blk_cell BK106.out 1).trans rfl
       have hcz63_2 : wc.cell? ⟨gb106,2,none⟩ = some (.string a0_2) := (blk_cell BK106.out 2).trans rfl
       have hfz63_0 := blk_frozen BK106.out 0
       have hfz63_1 := blk_frozen BK106.out 1
       have hfz63_2 := blk_frozen BK106.out 2
       try go_wp2_with (first|((with_reducible refine gate_dst (N := 7) rfl ?_);(try (refine gate_guard (by rfl) ?_;dsimp only));refine box_event ?hg (N := 7) ?hd (cs := #[.int .i64 0,.int .i64 0,.string (⟨#[]⟩ : ByteArray)]) (t := 67) ?hr ?_;(case hd => rfl);(case hg => rfl);(case hr => first|(go_simp;done)|(go_simp;rfl));intro gb112 hg w64 hbox hb;have n0_ := Aside0.mk (blk_below (g := gb106) (o := .cells #[.int .i64 a0_0,.int .i64 a0_1,.string a0_2] 67 (0,0)) (by (with_reducible repeat (first|refine blk_drewN ?_ _|refine blk_drew ?_|refine blk_alloc ?_ _));exact BK106.out) hb);have n1_ := Aside0.mk (blk_below (g := gb107) (o := .cells #[.int .i64 a1_0,.int .i64 a1_1,.int .i64 a1_2,.int .i64 a1_3,.int .i64 a1_4,.string a1_5] 61 (0,0)) (by (with_reducible repeat (first|refine blk_drewN ?_ _|refine blk_drew ?_|refine blk_alloc ?_ _));exact BK107.out) hb);have n2_ := Aside0.mk (blk_below (g := gb108) (o := .cells #[.int .i64 0,.int .i64 0,.string (⟨#[]⟩ : ByteArray)] 67 (0,0)) (by (with_reducible repeat (first|refine blk_drewN ?_ _|refine blk_drew ?_|refine blk_alloc ?_ _));exact BK108.out) hb);have n3_ := Aside0.mk (blk_below (g := gb109) (o := .cells #[.int .i64 0,.int .i64 0,.int .i64 0,.int .i64 0,.int .i64 0,.string (⟨#[]⟩ : ByteArray)] 61 (0,0)) (by (with_reducible repeat (first|refine blk_drewN ?_ _|refine blk_drew ?_|refine blk_alloc ?_ _));exact BK109.out) hb);have n4_ := Aside0.mk (below_step (by repeat (first|(with_reducible first|exact HB.out|apply below_alloc|apply pw_below_drewN|apply below_drew1|refine below_set ?_ GE106.out|refine below_set ?_ GE107.out|refine below_set ?_ GE108.out|refine below_set ?_ GE109.out)|exact HB.out)) hb);have n5_ := Aside0.mk (hbox);have n6_ := Aside0.mk ((by rw [hg];exact (below_size (by repeat (first|(with_reducible first|exact HB.out|apply below_alloc|apply pw_below_drewN|apply below_drew1|refine below_set ?_ GE106.out|refine below_set ?_ GE107.out|refine below_set ?_ GE108.out|refine below_set ?_ GE109.out)|exact HB.out))) : w.heap.size ≤ gb112));have n7_ := Aside0.mk ((by rw [hg];exact (below_size (by repeat (first|(with_reducible first|exact HB.out|apply below_alloc|apply pw_below_drewN|apply below_drew1|refine below_set ?_ GE106.out|refine below_set ?_ GE107.out|refine below_set ?_ GE108.out|refine below_set ?_ GE109.out)|exact HB.out))) : w.heap.size ≤ gb112));have n8_ := Aside0.mk ((by rw [hg];exact Nat.ne_of_lt (blk_lt (g := gb106) (o := .cells #[.int .i64 a0_0,.int .i64 a0_1,.string a0_2] 67 (0,0)) (by (with_reducible repeat (first|refine blk_drewN ?_ _|refine blk_drew ?_|refine blk_alloc ?_ _));exact BK106.out)) : gb106 ≠ gb112));have n9_ := Aside0.mk ((by rw [hg];exact Nat.ne_of_gt (blk_lt (g := gb106) (o := .cells #[.int .i64 a0_0,.int .i64 a0_1,.string a0_2] 67 (0,0)) (by (with_reducible repeat (first|refine blk_drewN ?_ _|refine blk_drew ?_|refine blk_alloc ?_ _));exact BK106.out)) : gb112 ≠ gb106));have n10_ := Aside0.mk ((by rw [hg];exact Nat.ne_of_lt (blk_lt (g := gb107) (o := .cells #[.int .i64 a1_0,.int .i64 a1_1,.int .i64 a1_2,.int .i64 a1_3,.int .i64 a1_4,.string a1_5] 61 (0,0)) (by (with_reducible repeat (first|refine blk_drewN ?_ _|refine blk_drew ?_|refine blk_alloc ?_ _));exact BK107.out)) : gb107 ≠ gb112));have n11_ := Aside0.mk ((by rw [hg];exact Nat.ne_of_gt (blk_lt (g := gb107) (o := .cells #[.int .i64 a1_0,.int .i64 a1_1,.int .i64 a1_2,.int .i64 a1_3,.int .i64 a1_4,.string a1_5] 61 (0,0)) (by (with_reducible repeat (first|refine blk_drewN ?_ _|refine blk_drew ?_|refine blk_alloc ?_ _));exact BK107.out)) : gb112 ≠ gb107));have n12_ := Aside0.mk ((by rw [hg];exact Nat.ne_of_lt (blk_lt (g := gb108) (o := .cells #[.int .i64 0,.int .i64 0,.string (⟨#[]⟩ : ByteArray)] 67 (0,0)) (by (with_reducible repeat (first|refine blk_drewN ?_ _|refine blk_drew ?_|refine blk_alloc ?_ _));exact BK108.out)) : gb108 ≠ gb112));have n13_ := Aside0.mk ((by rw [hg];exact Nat.ne_of_gt (blk_lt (g := gb108) (o := .cells #[.int .i64 0,.int .i64 0,.string (⟨#[]⟩ : ByteArray)] 67 (0,0)) (by (with_reducible repeat (first|refine blk_drewN ?_ _|refine blk_drew ?_|refine blk_alloc ?_ _));exact BK108.out)) : gb112 ≠ gb108));have n14_ := Aside0.mk ((by rw [hg];exact Nat.ne_of_lt (blk_lt (g := gb109) (o := .cells #[.int .i64 0,.int .i64 0,.int .i64 0,.int .i64 0,.int .i64 0,.string (⟨#[]⟩ : ByteArray)] 61 (0,0)) (by (with_reducible repeat (first|refine blk_drewN ?_ _|refine blk_drew ?_|refine blk_alloc ?_ _));exact BK109.out)) : gb109 ≠ gb112));have n15_ := Aside0.mk ((by rw [hg];exact Nat.ne_of_gt (blk_lt (g := gb109) (o := .cells #[.int .i64 0,.int .i64 0,.int .i64 0,.int .i64 0,.int .i64 0,.string (⟨#[]⟩ : ByteArray)] 61 (0,0)) (by (with_reducible repeat (first|refine blk_drewN ?_ _|refine blk_drew ?_|refine blk_alloc ?_ _));exact BK109.out)) : gb112 ≠ gb109));clear BK106;clear BK107;clear BK108;clear BK109;clear HB;have BK106 := n0_;have BK107 := n1_;have BK108 := n2_;have BK109 := n3_;have HB := n4_;have BK112 := n5_;have GW112 := n6_;have GE112 := n7_;have NB106_112 := n8_;have NB112_106 := n9_;have NB107_112 := n10_;have NB112_107 := n11_;have NB108_112 := n12_;have NB112_108 := n13_;have NB109_112 := n14_;have NB112_109 := n15_;clear n0_ n1_ n2_ n3_ n4_ n5_ n6_ n7_ n8_ n9_ n10_ n11_ n12_ n13_ n14_ n15_;clear hb hbox hg;have hnb65 := NB112_106.out;have hnc65 := NB106_112.out;have hnb66 := NB112_107.out;have hnc66 := NB107_112.out;have hnb67 := NB112_108.out;have hnc67 := NB108_112.out;have hnb68 := NB112_109.out;have hnc68 := NB109_112.out;have hcz69_0 : w64.cell? ⟨gb112,0,none⟩ = some (.int .i64 0) := (blk_cell BK112.out 0).trans rfl;have hcz69_1 : w64.cell? ⟨gb112,1,none⟩ = some (.int .i64 0) := (blk_cell BK112.out 1).trans rfl;have hcz69_2 : w64.cell? ⟨gb112,2,none⟩ = some (.string (⟨#[]⟩ : ByteArray)) := (blk_cell BK112.out 2).trans rfl;have hfz69_0 := blk_frozen BK112.out 0;have hfz69_1 := blk_frozen BK112.out 1;have hfz69_2 := blk_frozen BK112.out 2))
       have n0_ : Aside0 ((((w64.setCell ⟨gb112,0,none⟩ (.int .i64 a1_3)).setCell ⟨gb112,1,none⟩ (.int .i64 a0_1)).setCell ⟨gb112,2,none⟩ (.string a0_2)).heap[gb106]? = some (.cells #[.int .i64 a0_0,.int .i64 a0_1,.string a0_2] 67 (0,0))) := ⟨by (with_reducible repeat (first|refine blk_drewN ?_ _|refine blk_drew ?_|refine blk_alloc ?_ _));refine blk_far ?_ NB106_112.out _;(with_reducible repeat (first|refine blk_drewN ?_ _|refine blk_drew ?_|refine blk_alloc ?_ _));refine blk_far ?_ NB106_112.out _;(with_reducible repeat (first|refine blk_drewN ?_ _|refine blk_drew ?_|refine blk_alloc ?_ _));refine blk_far ?_ NB106_112.out _;(with_reducible repeat (first|refine blk_drewN ?_ _|refine blk_drew ?_|refine blk_alloc ?_ _));exact BK106.out⟩
       have n1_ : Aside0 ((((w64.setCell ⟨gb112,0,none⟩ (.int .i64 a1_3)).setCell ⟨gb112,1,none⟩ (.int .i64 a0_1)).setCell ⟨gb112,2,none⟩ (.string a0_2)).heap[gb107]? = some (.cells #[.int .i64 a1_0,.int .i64 a1_1,.int .i64 a1_2,.int .i64 a1_3,.int .i64 a1_4,.string a1_5] 61 (0,0))) := ⟨by (with_reducible repeat (first|refine blk_drewN ?_ _|refine blk_drew ?_|refine blk_alloc ?_ _));refine blk_far ?_ NB107_112.out _;(with_reducible repeat (first|refine blk_drewN ?_ _|refine blk_drew ?_|refine blk_alloc ?_ _));refine blk_far ?_ NB107_112.out _;(with_reducible repeat (first|refine blk_drewN ?_ _|refine blk_drew ?_|refine blk_alloc ?_ _));refine blk_far ?_ NB107_112.out _;(with_reducible repeat (first|refine blk_drewN ?_ _|refine blk_drew ?_|refine blk_alloc ?_ _));exact BK107.out⟩
       have n2_ : Aside0 ((((w64.setCell ⟨gb112,0,none⟩ (.int .i64 a1_3)).setCell ⟨gb112,1,none⟩ (.int .i64 a0_1)).setCell ⟨gb112,2,none⟩ (.string a0_2)).heap[gb108]? = some (.cells #[.int .i64 0,.int .i64 0,.string (⟨#[]⟩ : ByteArray)] 67 (0,0))) := ⟨by (with_reducible repeat (first|refine blk_drewN ?_ _|refine blk_drew ?_|refine blk_alloc ?_ _));refine blk_far ?_ NB108_112.out _;(with_reducible repeat (first|refine blk_drewN ?_ _|refine blk_drew ?_|refine blk_alloc ?_ _));refine blk_far ?_ NB108_112.out _;(with_reducible repeat (first|refine blk_drewN ?_ _|refine blk_drew ?_|refine blk_alloc ?_ _));refine blk_far ?_ NB108_112.out _;(with_reducible repeat (first|refine blk_drewN ?_ _|refine blk_drew ?_|refine blk_alloc ?_ _));exact BK108.out⟩
       have n3_ : Aside0 ((((w64.setCell ⟨gb112,0,none⟩ (.int .i64 a1_3)).setCell ⟨gb112,1,none⟩ (.int .i64 a0_1)).setCell ⟨gb112,2,none⟩ (.string a0_2)).heap[gb109]? = some (.cells #[.int .i64 0,.int .i64 0,.int .i64 0,.int .i64 0,.int .i64 0,.string (⟨#[]⟩ : ByteArray)] 61 (0,0))) := ⟨by (with_reducible repeat (first|refine blk_drewN ?_ _|refine blk_drew ?_|refine blk_alloc ?_ _));refine blk_far ?_ NB109_112.out _;(with_reducible repeat (first|refine blk_drewN ?_ _|refine blk_drew ?_|refine blk_alloc ?_ _));refine blk_far ?_ NB109_112.out _;(with_reducible repeat (first|refine blk_drewN ?_ _|refine blk_drew ?_|refine blk_alloc ?_ _));refine blk_far ?_ NB109_112.out _;(with_reducible repeat (first|refine blk_drewN ?_ _|refine blk_drew ?_|refine blk_alloc ?_ _));exact BK109.out⟩
       have n4_ : Aside0 ((((w64.setCell ⟨gb112,0,none⟩ (.int .i64 a1_3)).setCell ⟨gb112,1,none⟩ (.int .i64 a0_1)).setCell ⟨gb112,2,none⟩ (.string a0_2)).heap[gb112]? = some (.cells #[.int .i64 a1_3,.int .i64 a0_1,.string a0_2] 67 (0,0))) := ⟨by (with_reducible repeat (first|refine blk_drewN ?_ _|refine blk_drew ?_|refine blk_alloc ?_ _));refine blk_put (cs := #[.int .i64 a1_3,.int .i64 a0_1,.string (⟨#[]⟩ : ByteArray)]) ?_ 2 _ rfl;(with_reducible repeat (first|refine blk_drewN ?_ _|refine blk_drew ?_|refine blk_alloc ?_ _));refine blk_put (cs := #[.int .i64 a1_3,.int .i64 0,.string (⟨#[]⟩ : ByteArray)]) ?_ 1 _ rfl;(with_reducible repeat (first|refine blk_drewN ?_ _|refine blk_drew ?_|refine blk_alloc ?_ _));refine blk_put (cs := #[.int .i64 0,.int .i64 0,.string (⟨#[]⟩ : ByteArray)]) ?_ 0 _ rfl;(with_reducible repeat (first|refine blk_drewN ?_ _|refine blk_drew ?_|refine blk_alloc ?_ _));exact BK112.out⟩
       have n5_ : Aside0 (Below w.heap.size w (((w64.setCell ⟨gb112,0,none⟩ (.int .i64 a1_3)).setCell ⟨gb112,1,none⟩ (.int .i64 a0_1)).setCell ⟨gb112,2,none⟩ (.string a0_2))) := ⟨by repeat (first|(with_reducible first|exact HB.out|apply below_alloc|apply pw_below_drewN|apply below_drew1|refine below_set ?_ GE106.out|refine below_set ?_ GE107.out|refine below_set ?_ GE108.out|refine below_set ?_ GE109.out|refine below_set ?_ GE112.out)|exact HB.out)⟩
       (try clear BK106)
       (try clear BK107)
       (try clear BK108)
       (try clear BK109)
       (try clear BK112)
       (try clear HB)
       generalize (((w64.setCell ⟨gb112,0,none⟩ (.int .i64 a1_3)).setCell ⟨gb112,1,none⟩ (.int .i64 a0_1)).setCell ⟨gb112,2,none⟩ (.string a0_2)) = w70 at n0_ n1_ n2_ n3_ n4_ n5_ ⊢
       have BK106 := n0_
       have BK107 := n1_
       have BK108 := n2_
       have BK109 := n3_
       have BK112 := n4_
       have HB := n5_
       clear n0_ n1_ n2_ n3_ n4_ n5_
       have n0_ := Aside0.mk (blk_drew BK106.out)
       have n1_ := Aside0.mk (blk_drew BK107.out)
       have n2_ := Aside0.mk (blk_drew BK108.out)
       have n3_ := Aside0.mk (blk_drew BK109.out)
       have n4_ := Aside0.mk (blk_drew BK112.out)
       have n5_ := Aside0.mk (below_drew1 HB.out)
       clear BK106
       clear BK107
       clear BK108
       clear BK109
       clear BK112
       clear HB
       have BK106 := n0_
       have BK107 := n1_
       have BK108 := n2_
       have BK109 := n3_
       have BK112 := n4_
       have HB := n5_
       clear n0_ n1_ n2_ n3_ n4_ n5_
       refine start_ (n := 15) (S := fun w' => w'.cell? ⟨gb112,0,none⟩ = some (.int .i64 a1_3) ∧ w'.cell? ⟨gb112,1,none⟩ = some (.int .i64 a0_1) ∧ w'.cell? ⟨gb112,2,none⟩ = some (.string a0_2) ∧ w'.cell? ⟨gb107,0,none⟩ = some (.int .i64 a1_0) ∧ w'.cell? ⟨gb107,1,none⟩ = some (.int .i64 a1_1) ∧ w'.cell? ⟨gb107,2,none⟩ = some (.int .i64 a1_2) ∧ w'.cell? ⟨gb107,3,none⟩ = some (.int .i64 a1_3) ∧ w'.cell? ⟨gb107,4,none⟩ = some (.int .i64 a1_4) ∧ w'.cell? ⟨gb107,5,none⟩ = some (.string a1_5) ∧ w'.cell? ⟨gb106,0,none⟩ = some (.int .i64 a0_0) ∧ w'.cell? ⟨gb106,1,none⟩ = some (.int .i64 a0_1) ∧ w'.cell? ⟨gb106,2,none⟩ = some (.string a0_2)) (ds := []) #[false,false,false,false,false,false,false,false,false,false,false,false,false,false,false] (by kernel_rfl) rfl rfl ⟨(blk_cell BK112.out 0).trans rfl,(blk_cell BK112.out 1).trans rfl,(blk_cell BK112.out 2).trans rfl,(blk_cell BK107.out 0).trans rfl,(blk_cell BK107.out 1).trans rfl,(blk_cell BK107.out 2).trans rfl,(blk_cell BK107.out 3).trans rfl,(blk_cell BK107.out 4).trans rfl,(blk_cell BK107.out 5).trans rfl,(blk_cell BK106.out 0).trans rfl,(blk_cell BK106.out 1).trans rfl,(blk_cell BK106.out 2).trans rfl⟩ (fun hHeld => ?_);refine with_tabW spec_HearNote.tab5 spec_HearNote.bits5 (fun HT_ HW_ => ?_)
       generalize w70.drew = w71 at BK106 BK107 BK108 BK109 BK112 HB hHeld ⊢
       refine pure_ (i := 1) (N := some 44) (v := ?_) (a' := ?_) #[false,true,false,false,false,false,false,false,false,false,false,false,false,false,false] rfl rfl (any_of HT_.out (by kernel_rfl)) (fun _ _ _ h => h) (Or.inl ⟨by rfl,?_⟩) ?_ ?_
       rotate_left
       ·intro w'
        go_simp
        with_reducible rfl
       rotate_left
       ·simp only [Act.put,List.setIfInBounds_toArray,List.set_cons_zero,List.set_cons_succ,i64_w,i32_w]
        rfl
       refine pure_ (i := 3) (N := some 46) (v := ?_) (a' := ?_) #[false,true,false,true,false,false,false,false,false,false,false,false,false,false,false] rfl rfl (any_of HT_.out (by kernel_rfl)) (fun _ _ _ h => h) (Or.inl ⟨by rfl,?_⟩) ?_ ?_
       rotate_left
       ·intro w'
        go_simp
        with_reducible rfl
       rotate_left
       ·simp only [Act.put,List.setIfInBounds_toArray,List.set_cons_zero,List.set_cons_succ,i64_w,i32_w]
        rfl
       refine pure_ (i := 5) (N := some 48) (v := ?_) (a' := ?_) #[false,true,false,true,false,true,false,false,false,false,false,false,false,false,false] rfl rfl (any_of HT_.out (by kernel_rfl)) (fun _ _ _ h => h) (Or.inl ⟨by rfl,?_⟩) ?_ ?_
       rotate_left
       ·intro w'
        go_simp
        with_reducible rfl
       rotate_left
       ·simp only [Act.put,List.setIfInBounds_toArray,List.set_cons_zero,List.set_cons_succ,i64_w,i32_w]
        rfl
       refine pure_ (i := 7) (N := some 50) (v := ?_) (a' := ?_) #[false,true,false,true,false,true,false,true,false,false,false,false,false,false,false] rfl rfl (any_of HT_.out (by kernel_rfl)) (fun _ _ _ h => h) (Or.inl ⟨by rfl,?_⟩) ?_ ?_
       rotate_left
       ·intro w'
        go_simp
        with_reducible rfl
       rotate_left
       ·simp only [Act.put,List.setIfInBounds_toArray,List.set_cons_zero,List.set_cons_succ,i64_w,i32_w]
        rfl
       refine pure_ (i := 9) (N := some 52) (v := ?_) (a' := ?_) #[false,true,false,true,false,true,false,true,false,true,false,false,false,false,false] rfl rfl (any_of HT_.out (by kernel_rfl)) (fun _ _ _ h => h) (Or.inl ⟨by rfl,?_⟩) ?_ ?_
       rotate_left
       ·intro w'
        go_simp
        with_reducible rfl
       rotate_left
       ·simp only [Act.put,List.setIfInBounds_toArray,List.set_cons_zero,List.set_cons_succ,i64_w,i32_w]
        rfl
       refine take_ (i := 0) (N := some 43) (v := ?_) (a' := ?_) #[true,true,false,true,false,true,false,true,false,true,false,false,false,false,false] rfl rfl (take_ofW HT_.out HW_.out (by kernel_rfl)) (fun _ _ _ h => h) (Or.inl ⟨by rfl,?_⟩) hHeld ?_ ?_
       rotate_left
       ·rintro w' ⟨s0,s1,s2,s3,s4,s5,s6,s7,s8,s9,s10,s11⟩
        go_simp
        with_reducible rfl
       rotate_left
       ·simp only [Act.put,List.setIfInBounds_toArray,List.set_cons_zero,List.set_cons_succ,i64_w,i32_w]
        rfl
       refine take_ (i := 2) (N := some 45) (v := ?_) (a' := ?_) #[true,true,true,true,false,true,false,true,false,true,false,false,false,false,false] rfl rfl (take_ofW HT_.out HW_.out (by kernel_rfl)) (fun _ _ _ h => h) (Or.inl ⟨by rfl,?_⟩) hHeld ?_ ?_
       rotate_left
       ·rintro w' ⟨s0,s1,s2,s3,s4,s5,s6,s7,s8,s9,s10,s11⟩
        go_simp
        with_reducible rfl
       rotate_left
       ·simp only [Act.put,List.setIfInBounds_toArray,List.set_cons_zero,List.set_cons_succ,i64_w,i32_w]
        rfl
       refine take_ (i := 4) (N := some 47) (v := ?_) (a' := ?_) #[true,true,true,true,true,true,false,true,false,true,false,false,false,false,false] rfl rfl (take_ofW HT_.out HW_.out (by kernel_rfl)) (fun _ _ _ h => h) (Or.inl ⟨by rfl,?_⟩) hHeld ?_ ?_
       rotate_left
       ·rintro w' ⟨s0,s1,s2,s3,s4,s5,s6,s7,s8,s9,s10,s11⟩
        go_simp
        with_reducible rfl
       rotate_left
       ·simp only [Act.put,List.setIfInBounds_toArray,List.set_cons_zero,List.set_cons_succ,i64_w,i32_w]
        rfl
       refine take_ (i := 6) (N := some 49) (v := ?_) (a' := ?_) #[true,true,true,true,true,true,true,true,false,true,false,false,false,false,false] rfl rfl (take_ofW HT_.out HW_.out (by kernel_rfl)) (fun _ _ _ h => h) (Or.inl ⟨by rfl,?_⟩) hHeld ?_ ?_
       rotate_left
       ·rintro w' ⟨s0,s1,s2,s3,s4,s5,s6,s7,s8,s9,s10,s11⟩
        go_simp
        with_reducible rfl
       rotate_left
       ·simp only [Act.put,List.setIfInBounds_toArray,List.set_cons_zero,List.set_cons_succ,i64_w,i32_w]
        rfl
       refine take_ (i := 8) (N := some 51) (v := ?_) (a' := ?_) #[true,true,true,true,true,true,true,true,true,true,false,false,false,false,false] rfl rfl (take_ofW HT_.out HW_.out (by kernel_rfl)) (fun _ _ _ h => h) (Or.inl ⟨by rfl,?_⟩) hHeld ?_ ?_
       rotate_left
       ·rintro w' ⟨s0,s1,s2,s3,s4,s5,s6,s7,s8,s9,s10,s11⟩
        go_simp
        with_reducible rfl
       rotate_left
       ·simp only [Act.put,List.setIfInBounds_toArray,List.set_cons_zero,List.set_cons_succ,i64_w,i32_w]
        rfl
       refine take_ (i := 10) (N := some 53) (v := ?_) (a' := ?_) #[true,true,true,true,true,true,true,true,true,true,true,false,false,false,false] rfl rfl (take_ofW HT_.out HW_.out (by kernel_rfl)) (fun _ _ _ h => h) (Or.inl ⟨by rfl,?_⟩) hHeld ?_ ?_
       rotate_left
       ·rintro w' ⟨s0,s1,s2,s3,s4,s5,s6,s7,s8,s9,s10,s11⟩
        go_simp
        with_reducible rfl
       rotate_left
       ·simp only [Act.put,List.setIfInBounds_toArray,List.set_cons_zero,List.set_cons_succ,i64_w,i32_w]
        rfl
       refine pure_ (i := 11) (N := some 54) (v := ?_) (a' := ?_) #[true,true,true,true,true,true,true,true,true,true,true,true,false,false,false] rfl rfl (any_of HT_.out (by kernel_rfl)) (fun _ _ _ h => h) (Or.inl ⟨by rfl,?_⟩) ?_ ?_
       rotate_left
       ·intro w'
        go_simp
        with_reducible rfl
       rotate_left
       ·simp only [Act.put,List.setIfInBounds_toArray,List.set_cons_zero,List.set_cons_succ,i64_w,i32_w]
        rfl
       refine one_ (i := 12) (N := none) #[true,true,true,true,true,true,true,true,true,true,true,true,true,false,false] rfl rfl (one_of HT_.out (by kernel_rfl)) (by decide) (fun K hK => ?_)
       have hs72 : w71.cell? ⟨gb108,0,none⟩ = some (.int .i64 0) := (blk_cell BK108.out 0).trans rfl
       have hfs72 := blk_frozen BK108.out 0
       have hns72_0 := NB106_108.out
       have hns72_1 := NB107_108.out
       have hns72_3 := NB109_108.out
       have hns72_4 := NB112_108.out
       have hms72_0 := NB108_106.out
       have hms72_1 := NB108_107.out
       have hms72_3 := NB108_109.out
       have hms72_4 := NB108_112.out
       have hs73 : w71.cell? ⟨gb108,1,none⟩ = some (.int .i64 0) := (blk_cell BK108.out 1).trans rfl
       have hfs73 := blk_frozen BK108.out 1
       have hns73_0 := NB106_108.out
       have hns73_1 := NB107_108.out
       have hns73_3 := NB109_108.out
       have hns73_4 := NB112_108.out
       have hms73_0 := NB108_106.out
       have hms73_1 := NB108_107.out
       have hms73_3 := NB108_109.out
       have hms73_4 := NB108_112.out
       have hs74 : w71.cell? ⟨gb108,2,none⟩ = some (.string (⟨#[]⟩ : ByteArray)) := (blk_cell BK108.out 2).trans rfl
       have hfs74 := blk_frozen BK108.out 2
       have hns74_0 := NB106_108.out
       have hns74_1 := NB107_108.out
       have hns74_3 := NB109_108.out
       have hns74_4 := NB112_108.out
       have hms74_0 := NB108_106.out
       have hms74_1 := NB108_107.out
       have hms74_3 := NB108_109.out
       have hms74_4 := NB108_112.out
       refine skip_ (w1 := ?_) (by rfl) rfl ?_ ?_
       rotate_left
       ·go_simp
        rfl
       refine hK.out _ _ ⟨((cell_far (p := ⟨gb108,_,none⟩) NB112_108.out _).trans (((cell_far (p := ⟨gb108,_,none⟩) NB112_108.out _).trans (((cell_far (p := ⟨gb108,_,none⟩) NB112_108.out _).trans (hHeld.1)))))),((cell_far (p := ⟨gb108,_,none⟩) NB112_108.out _).trans (((cell_far (p := ⟨gb108,_,none⟩) NB112_108.out _).trans (((cell_far (p := ⟨gb108,_,none⟩) NB112_108.out _).trans (hHeld.2.1)))))),((cell_far (p := ⟨gb108,_,none⟩) NB112_108.out _).trans (((cell_far (p := ⟨gb108,_,none⟩) NB112_108.out _).trans (((cell_far (p := ⟨gb108,_,none⟩) NB112_108.out _).trans (hHeld.2.2.1)))))),((cell_far (p := ⟨gb108,_,none⟩) NB107_108.out _).trans (((cell_far (p := ⟨gb108,_,none⟩) NB107_108.out _).trans (((cell_far (p := ⟨gb108,_,none⟩) NB107_108.out _).trans (hHeld.2.2.2.1)))))),((cell_far (p := ⟨gb108,_,none⟩) NB107_108.out _).trans (((cell_far (p := ⟨gb108,_,none⟩) NB107_108.out _).trans (((cell_far (p := ⟨gb108,_,none⟩) NB107_108.out _).trans (hHeld.2.2.2.2.1)))))),((cell_far (p := ⟨gb108,_,none⟩) NB107_108.out _).trans (((cell_far (p := ⟨gb108,_,none⟩) NB107_108.out _).trans (((cell_far (p := ⟨gb108,_,none⟩) NB107_108.out _).trans (hHeld.2.2.2.2.2.1)))))),((cell_far (p := ⟨gb108,_,none⟩) NB107_108.out _).trans (((cell_far (p := ⟨gb108,_,none⟩) NB107_108.out _).trans (((cell_far (p := ⟨gb108,_,none⟩) NB107_108.out _).trans (hHeld.2.2.2.2.2.2.1)))))),((cell_far (p := ⟨gb108,_,none⟩) NB107_108.out _).trans (((cell_far (p := ⟨gb108,_,none⟩) NB107_108.out _).trans (((cell_far (p := ⟨gb108,_,none⟩) NB107_108.out _).trans (hHeld.2.2.2.2.2.2.2.1)))))),((cell_far (p := ⟨gb108,_,none⟩) NB107_108.out _).trans (((cell_far (p := ⟨gb108,_,none⟩) NB107_108.out _).trans (((cell_far (p := ⟨gb108,_,none⟩) NB107_108.out _).trans (hHeld.2.2.2.2.2.2.2.2.1)))))),((cell_far (p := ⟨gb108,_,none⟩) NB106_108.out _).trans (((cell_far (p := ⟨gb108,_,none⟩) NB106_108.out _).trans (((cell_far (p := ⟨gb108,_,none⟩) NB106_108.out _).trans (hHeld.2.2.2.2.2.2.2.2.2.1)))))),((cell_far (p := ⟨gb108,_,none⟩) NB106_108.out _).trans (((cell_far (p := ⟨gb108,_,none⟩) NB106_108.out _).trans (((cell_far (p := ⟨gb108,_,none⟩) NB106_108.out _).trans (hHeld.2.2.2.2.2.2.2.2.2.2.1)))))),((cell_far (p := ⟨gb108,_,none⟩) NB106_108.out _).trans (((cell_far (p := ⟨gb108,_,none⟩) NB106_108.out _).trans (((cell_far (p := ⟨gb108,_,none⟩) NB106_108.out _).trans (hHeld.2.2.2.2.2.2.2.2.2.2.2))))))⟩ (fun hHeld => ?_)
       clear hK K
       refine one_ (i := 13) (N := none) #[true,true,true,true,true,true,true,true,true,true,true,true,true,true,false] rfl rfl (one_of HT_.out (by kernel_rfl)) (by decide) (fun K hK => ?_)
       have hs75 : w71.cell? ⟨gb109,0,none⟩ = some (.int .i64 0) := (blk_cell BK109.out 0).trans rfl
       have hfs75 := blk_frozen BK109.out 0
       have hns75_0 := NB106_109.out
       have hns75_1 := NB107_109.out
       have hns75_2 := NB108_109.out
       have hns75_4 := NB112_109.out
       have hms75_0 := NB109_106.out
       have hms75_1 := NB109_107.out
       have hms75_2 := NB109_108.out
       have hms75_4 := NB109_112.out
       have hs76 : w71.cell? ⟨gb109,1,none⟩ = some (.int .i64 0) := (blk_cell BK109.out 1).trans rfl
       have hfs76 := blk_frozen BK109.out 1
       have hns76_0 := NB106_109.out
       have hns76_1 := NB107_109.out
       have hns76_2 := NB108_109.out
       have hns76_4 := NB112_109.out
       have hms76_0 := NB109_106.out
       have hms76_1 := NB109_107.out
       have hms76_2 := NB109_108.out
       have hms76_4 := NB109_112.out
       have hs77 : w71.cell? ⟨gb109,2,none⟩ = some (.int .i64 0) := (blk_cell BK109.out 2).trans rfl
       have hfs77 := blk_frozen BK109.out 2
       have hns77_0 := NB106_109.out
       have hns77_1 := NB107_109.out
       have hns77_2 := NB108_109.out
       have hns77_4 := NB112_109.out
       have hms77_0 := NB109_106.out
       have hms77_1 := NB109_107.out
       have hms77_2 := NB109_108.out
       have hms77_4 := NB109_112.out
       have hs78 : w71.cell? ⟨gb109,3,none⟩ = some (.int .i64 0) := (blk_cell BK109.out 3).trans rfl
       have hfs78 := blk_frozen BK109.out 3
       have hns78_0 := NB106_109.out
       have hns78_1 := NB107_109.out
       have hns78_2 := NB108_109.out
       have hns78_4 := NB112_109.out
       have hms78_0 := NB109_106.out
       have hms78_1 := NB109_107.out
       have hms78_2 := NB109_108.out
       have hms78_4 := NB109_112.out
       have hs79 : w71.cell? ⟨gb109,4,none⟩ = some (.int .i64 0) := (blk_cell BK109.out 4).trans rfl
       have hfs79 := blk_frozen BK109.out 4
       have hns79_0 := NB106_109.out
       have hns79_1 := NB107_109.out
       have hns79_2 := NB108_109.out
       have hns79_4 := NB112_109.out
       have hms79_0 := NB109_106.out
       have hms79_1 := NB109_107.out
       have hms79_2 := NB109_108.out
       have hms79_4 := NB109_112.out
       have hs80 : w71.cell? ⟨gb109,5,none⟩ = some (.string (⟨#[]⟩ : ByteArray)) := (blk_cell BK109.out 5).trans rfl
       have hfs80 := blk_frozen BK109.out 5
       have hns80_0 := NB106_109.out
       have hns80_1 := NB107_109.out
       have hns80_2 := NB108_109.out
       have hns80_4 := NB112_109.out
       have hms80_0 := NB109_106.out
       have hms80_1 := NB109_107.out
       have hms80_2 := NB109_108.out
       have hms80_4 := NB109_112.out
       refine skip_ (w1 := ?_) (by rfl) rfl ?_ ?_
       rotate_left
       ·go_simp
        rfl
       refine hK.out _ _ ⟨((cell_far (p := ⟨gb109,_,none⟩) NB112_109.out _).trans (((cell_far (p := ⟨gb109,_,none⟩) NB112_109.out _).trans (((cell_far (p := ⟨gb109,_,none⟩) NB112_109.out _).trans (((cell_far (p := ⟨gb109,_,none⟩) NB112_109.out _).trans (((cell_far (p := ⟨gb109,_,none⟩) NB112_109.out _).trans (((cell_far (p := ⟨gb109,_,none⟩) NB112_109.out _).trans (hHeld.1)))))))))))),((cell_far (p := ⟨gb109,_,none⟩) NB112_109.out _).trans (((cell_far (p := ⟨gb109,_,none⟩) NB112_109.out _).trans (((cell_far (p := ⟨gb109,_,none⟩) NB112_109.out _).trans (((cell_far (p := ⟨gb109,_,none⟩) NB112_109.out _).trans (((cell_far (p := ⟨gb109,_,none⟩) NB112_109.out _).trans (((cell_far (p := ⟨gb109,_,none⟩) NB112_109.out _).trans (hHeld.2.1)))))))))))),((cell_far (p := ⟨gb109,_,none⟩) NB112_109.out _).trans (((cell_far (p := ⟨gb109,_,none⟩) NB112_109.out _).trans (((cell_far (p := ⟨gb109,_,none⟩) NB112_109.out _).trans (((cell_far (p := ⟨gb109,_,none⟩) NB112_109.out _).trans (((cell_far (p := ⟨gb109,_,none⟩) NB112_109.out _).trans (((cell_far (p := ⟨gb109,_,none⟩) NB112_109.out _).trans (hHeld.2.2.1)))))))))))),((cell_far (p := ⟨gb109,_,none⟩) NB107_109.out _).trans (((cell_far (p := ⟨gb109,_,none⟩) NB107_109.out _).trans (((cell_far (p := ⟨gb109,_,none⟩) NB107_109.out _).trans (((cell_far (p := ⟨gb109,_,none⟩) NB107_109.out _).trans (((cell_far (p := ⟨gb109,_,none⟩) NB107_109.out _).trans (((cell_far (p := ⟨gb109,_,none⟩) NB107_109.out _).trans (hHeld.2.2.2.1)))))))))))),((cell_far (p := ⟨gb109,_,none⟩) NB107_109.out _).trans (((cell_far (p := ⟨gb109,_,none⟩) NB107_109.out _).trans (((cell_far (p := ⟨gb109,_,none⟩) NB107_109.out _).trans (((cell_far (p := ⟨gb109,_,none⟩) NB107_109.out _).trans (((cell_far (p := ⟨gb109,_,none⟩) NB107_109.out _).trans (((cell_far (p := ⟨gb109,_,none⟩) NB107_109.out _).trans (hHeld.2.2.2.2.1)))))))))))),((cell_far (p := ⟨gb109,_,none⟩) NB107_109.out _).trans (((cell_far (p := ⟨gb109,_,none⟩) NB107_109.out _).trans (((cell_far (p := ⟨gb109,_,none⟩) NB107_109.out _).trans (((cell_far (p := ⟨gb109,_,none⟩) NB107_109.out _).trans (((cell_far (p := ⟨gb109,_,none⟩) NB107_109.out _).trans (((cell_far (p := ⟨gb109,_,none⟩) NB107_109.out _).trans (hHeld.2.2.2.2.2.1)))))))))))),((cell_far (p := ⟨gb109,_,none⟩) NB107_109.out _).trans (((cell_far (p := ⟨gb109,_,none⟩) NB107_109.out _).trans (((cell_far (p := ⟨gb109,_,none⟩) NB107_109.out _).trans (((cell_far (p := ⟨gb109,_,none⟩) NB107_109.out _).trans (((cell_far (p := ⟨gb109,_,none⟩) NB107_109.out _).trans (((cell_far (p := ⟨gb109,_,none⟩) NB107_109.out _).trans (hHeld.2.2.2.2.2.2.1)))))))))))),((cell_far (p := ⟨gb109,_,none⟩) NB107_109.out _).trans (((cell_far (p := ⟨gb109,_,none⟩) NB107_109.out _).trans (((cell_far (p := ⟨gb109,_,none⟩) NB107_109.out _).trans (((cell_far (p := ⟨gb109,_,none⟩) NB107_109.out _).trans (((cell_far (p := ⟨gb109,_,none⟩) NB107_109.out _).trans (((cell_far (p := ⟨gb109,_,none⟩) NB107_109.out _).trans (hHeld.2.2.2.2.2.2.2.1)))))))))))),((cell_far (p := ⟨gb109,_,none⟩) NB107_109.out _).trans (((cell_far (p := ⟨gb109,_,none⟩) NB107_109.out _).trans (((cell_far (p := ⟨gb109,_,none⟩) NB107_109.out _).trans (((cell_far (p := ⟨gb109,_,none⟩) NB107_109.out _).trans (((cell_far (p := ⟨gb109,_,none⟩) NB107_109.out _).trans (((cell_far (p := ⟨gb109,_,none⟩) NB107_109.out _).trans (hHeld.2.2.2.2.2.2.2.2.1)))))))))))),((cell_far (p := ⟨gb109,_,none⟩) NB106_109.out _).trans (((cell_far (p := ⟨gb109,_,none⟩) NB106_109.out _).trans (((cell_far (p := ⟨gb109,_,none⟩) NB106_109.out _).trans (((cell_far (p := ⟨gb109,_,none⟩) NB106_109.out _).trans (((cell_far (p := ⟨gb109,_,none⟩) NB106_109.out _).trans (((cell_far (p := ⟨gb109,_,none⟩) NB106_109.out _).trans (hHeld.2.2.2.2.2.2.2.2.2.1)))))))))))),((cell_far (p := ⟨gb109,_,none⟩) NB106_109.out _).trans (((cell_far (p := ⟨gb109,_,none⟩) NB106_109.out _).trans (((cell_far (p := ⟨gb109,_,none⟩) NB106_109.out _).trans (((cell_far (p := ⟨gb109,_,none⟩) NB106_109.out _).trans (((cell_far (p := ⟨gb109,_,none⟩) NB106_109.out _).trans (((cell_far (p := ⟨gb109,_,none⟩) NB106_109.out _).trans (hHeld.2.2.2.2.2.2.2.2.2.2.1)))))))))))),((cell_far (p := ⟨gb109,_,none⟩) NB106_109.out _).trans (((cell_far (p := ⟨gb109,_,none⟩) NB106_109.out _).trans (((cell_far (p := ⟨gb109,_,none⟩) NB106_109.out _).trans (((cell_far (p := ⟨gb109,_,none⟩) NB106_109.out _).trans (((cell_far (p := ⟨gb109,_,none⟩) NB106_109.out _).trans (((cell_far (p := ⟨gb109,_,none⟩) NB106_109.out _).trans (hHeld.2.2.2.2.2.2.2.2.2.2.2))))))))))))⟩ (fun hHeld => ?_)
       clear hK K
       refine pure_ (i := 14) (N := some 6) (v := ?_) (a' := ?_) #[true,true,true,true,true,true,true,true,true,true,true,true,true,true,true] rfl rfl (any_of HT_.out (by kernel_rfl)) (fun _ _ _ h => h) (Or.inl ⟨by rfl,?_⟩) ?_ ?_
       rotate_left
       ·intro w'
        go_simp
        with_reducible rfl
       rotate_left
       ·simp only [Act.put,List.setIfInBounds_toArray,List.set_cons_zero,List.set_cons_succ,i64_w,i32_w]
        rfl
       refine done_ (done_of HT_.out (by kernel_rfl)) ?_
       try go_wp2
       refine bodyPost_ret (results_list (rs := [.cell 4 67,.cell 5 61,.tmp 6]) rfl (by simp) (.cell gb108 67 #[.int .i64 a1_3,.int .i64 a0_1,.string a0_2] (0,0) _ rfl (by (with_reducible repeat (first|refine blk_drewN ?_ _|refine blk_drew ?_|refine blk_alloc ?_ _));refine blk_far ?_ NB108_109.out _;(with_reducible repeat (first|refine blk_drewN ?_ _|refine blk_drew ?_|refine blk_alloc ?_ _));refine blk_far ?_ NB108_109.out _;(with_reducible repeat (first|refine blk_drewN ?_ _|refine blk_drew ?_|refine blk_alloc ?_ _));refine blk_far ?_ NB108_109.out _;(with_reducible repeat (first|refine blk_drewN ?_ _|refine blk_drew ?_|refine blk_alloc ?_ _));refine blk_far ?_ NB108_109.out _;(with_reducible repeat (first|refine blk_drewN ?_ _|refine blk_drew ?_|refine blk_alloc ?_ _));refine blk_far ?_ NB108_109.out _;(with_reducible repeat (first|refine blk_drewN ?_ _|refine blk_drew ?_|refine blk_alloc ?_ _));refine blk_far ?_ NB108_109.out _;(with_reducible repeat (first|refine blk_drewN ?_ _|refine blk_drew ?_|refine blk_alloc ?_ _));refine blk_put (cs := #[.int .i64 a1_3,.int .i64 a0_1,.string (⟨#[]⟩ : ByteArray)]) ?_ 2 _ rfl;(with_reducible repeat (first|refine blk_drewN ?_ _|refine blk_drew ?_|refine blk_alloc ?_ _));refine blk_put (cs := #[.int .i64 a1_3,.int .i64 0,.string (⟨#[]⟩ : ByteArray)]) ?_ 1 _ rfl;(with_reducible repeat (first|refine blk_drewN ?_ _|refine blk_drew ?_|refine blk_alloc ?_ _));refine blk_put (cs := #[.int .i64 0,.int .i64 0,.string (⟨#[]⟩ : ByteArray)]) ?_ 0 _ rfl;(with_reducible repeat (first|refine blk_drewN ?_ _|refine blk_drew ?_|refine blk_alloc ?_ _));exact BK108.out) Try.underlying67 rfl (by kernel_rfl) (.cell gb109 61 #[.int .i64 2,.int .i64 a1_2,.int .i64 a1_1,.int .i64 a1_3,.int .i64 a0_1,.string a0_2] (0,0) _ rfl (by (with_reducible repeat (first|refine blk_drewN ?_ _|refine blk_drew ?_|refine blk_alloc ?_ _));refine blk_put (cs := #[.int .i64 2,.int .i64 a1_2,.int .i64 a1_1,.int .i64 a1_3,.int .i64 a0_1,.string (⟨#[]⟩ : ByteArray)]) ?_ 5 _ rfl;(with_reducible repeat (first|refine blk_drewN ?_ _|refine blk_drew ?_|refine blk_alloc ?_ _));refine blk_put (cs := #[.int .i64 2,.int .i64 a1_2,.int .i64 a1_1,.int .i64 a1_3,.int .i64 0,.string (⟨#[]⟩ : ByteArray)]) ?_ 4 _ rfl;(with_reducible repeat (first|refine blk_drewN ?_ _|refine blk_drew ?_|refine blk_alloc ?_ _));refine blk_put (cs := #[.int .i64 2,.int .i64 a1_2,.int .i64 a1_1,.int .i64 0,.int .i64 0,.string (⟨#[]⟩ : ByteArray)]) ?_ 3 _ rfl;(with_reducible repeat (first|refine blk_drewN ?_ _|refine blk_drew ?_|refine blk_alloc ?_ _));refine blk_put (cs := #[.int .i64 2,.int .i64 a1_2,.int .i64 0,.int .i64 0,.int .i64 0,.string (⟨#[]⟩ : ByteArray)]) ?_ 2 _ rfl;(with_reducible repeat (first|refine blk_drewN ?_ _|refine blk_drew ?_|refine blk_alloc ?_ _));refine blk_put (cs := #[.int .i64 2,.int .i64 0,.int .i64 0,.int .i64 0,.int .i64 0,.string (⟨#[]⟩ : ByteArray)]) ?_ 1 _ rfl;(with_reducible repeat (first|refine blk_drewN ?_ _|refine blk_drew ?_|refine blk_alloc ?_ _));refine blk_put (cs := #[.int .i64 0,.int .i64 0,.int .i64 0,.int .i64 0,.int .i64 0,.string (⟨#[]⟩ : ByteArray)]) ?_ 0 _ rfl;(with_reducible repeat (first|refine blk_drewN ?_ _|refine blk_drew ?_|refine blk_alloc ?_ _));refine blk_far ?_ NB109_108.out _;(with_reducible repeat (first|refine blk_drewN ?_ _|refine blk_drew ?_|refine blk_alloc ?_ _));refine blk_far ?_ NB109_108.out _;(with_reducible repeat (first|refine blk_drewN ?_ _|refine blk_drew ?_|refine blk_alloc ?_ _));refine blk_far ?_ NB109_108.out _;(with_reducible repeat (first|refine blk_drewN ?_ _|refine blk_drew ?_|refine blk_alloc ?_ _));exact BK109.out) Try.underlying61 rfl (by kernel_rfl) (.tmp .nil)))) rfl ?_
       exact ⟨by first|rfl|(simp [errW_none,errW_some] <;> rfl)|(simp [*,errW_none,errW_some] <;> rfl),by repeat (first|(with_reducible first|exact HB.out|apply below_alloc|apply pw_below_drewN|apply below_drew1|refine below_set ?_ GE106.out|refine below_set ?_ GE107.out|refine below_set ?_ GE108.out|refine below_set ?_ GE109.out|refine below_set ?_ GE112.out)|exact HB.out)⟩
      ·replace c56 := Bool.eq_false_iff.mpr c56
       subst c56
       have H1 : (if a1_0 = 3 then (if a1_3 ≥ a0_0 then (some (a1_3,a1_3,a1_5,4,a1_2,a1_1,a1_3,0,a1_5,true)) else (some (a0_0,a0_1,a0_2,0,0,0,0,0,(⟨#[]⟩ : ByteArray),false))) else (some (a0_0,a0_1,a0_2,0,0,0,0,0,(⟨#[]⟩ : ByteArray),false))) = some (r1,r2,r3,r4,r5,r6,r7,r8,r9,r10) := by rw [if_neg (show ¬ (false = true) by decide)] at H;exact H
       clear H
       have H := H1
       clear H1
       by_cases c81 : a1_0 = 3
       ·rw [if_pos c81] at H
        have c81b0 : (a1_0 == 3) = true := beq_iff_eq.mpr c81
        have c81b1 : (a1_0 != 3) = false := bne_eq_false_iff_eq.mpr c81
        clear c81
        by_cases c82 : a1_3 ≥ a0_0
        ·rw [if_pos c82] at H
         have c82b0 : decide (a0_0 ≤ a1_3) = true := decide_eq_true c82
         clear c82
         simp only [Option.some.injEq,Prod.mk.injEq] at H
         obtain ⟨rfl,rfl,rfl,rfl,rfl,rfl,rfl,rfl,rfl,rfl⟩ := H
         have hnb83 := NB107_106.out
         have hnc83 := NB106_107.out
         have hnb84 := NB107_108.out
         have hnc84 := NB108_107.out
         have hnb85 := NB107_109.out
         have hnc85 := NB109_107.out
         have hcz86_0 : wc.cell? ⟨gb107,0,none⟩ = some (.int .i64 a1_0) := (blk_cell BK107.out 0).trans rfl
         have hcz86_1 : wc.cell? ⟨gb107,1,none⟩ = some (.int .i64 a1_1) := (blk_cell BK107.out 1).trans rfl
         have hcz86_2 : wc.cell? ⟨gb107,2,none⟩ = some (.int .i64 a1_2) := (blk_cell BK107.out 2).trans rfl
         have hcz86_3 : wc.cell? ⟨gb107,3,none⟩ = some (.int .i64 a1_3) := (blk_cell BK107.out 3).trans rfl
         have hcz86_4 : wc.cell? ⟨gb107,4,none⟩ = some (.int .i64 a1_4) := (blk_cell BK107.out 4).trans rfl
         have hcz86_5 : wc.cell? ⟨gb107,5,none⟩ = some (.string a1_5) := (blk_cell BK107.out 5).trans rfl
         have hfz86_0 := blk_frozen BK107.out 0
         have hfz86_1 := blk_frozen BK107.out 1
         have hfz86_2 := blk_frozen BK107.out 2
         have hfz86_3 := blk_frozen BK107.out 3
         have hfz86_4 := blk_frozen BK107.out 4
         have hfz86_5 := blk_frozen BK107.out 5
         have hnb87 := NB106_108.out
         have hnc87 := NB108_106.out
         have hnb88 := NB106_109.out
         have hnc88 := NB109_106.out
         have hcz89_0 : wc.cell? ⟨gb106,0,none⟩ = some (.int .i64 a0_0) := (blk_cell BK106.out 0).trans rfl
         have hcz89_1 : wc.cell? ⟨gb106,1,none⟩ = some (.int .i64 a0_1) := (blk_cell BK106.out 1).trans rfl
         have hcz89_2 : wc.cell? ⟨gb106,2,none⟩ = some (.string a0_2) := (blk_cell BK106.out 2).trans rfl
         have hfz89_0 := blk_frozen BK106.out 0
         have hfz89_1 := blk_frozen BK106.out 1
         have hfz89_2 := blk_frozen BK106.out 2
         try go_wp2_with (first|((with_reducible refine gate_dst (N := 8) rfl ?_);(try (refine gate_guard (by rfl) ?_;dsimp only));refine box_event ?hg (N := 8) ?hd (cs := #[.int .i64 0,.int .i64 0,.string (⟨#[]⟩ : ByteArray)]) (t := 67) ?hr ?_;(case hd => rfl);(case hg => rfl);(case hr => first|(go_simp;done)|(go_simp;rfl));intro gb113 hg w90 hbox hb;have n0_ := Aside0.mk (blk_below (g := gb106) (o := .cells #[.int .i64 a0_0,.int .i64 a0_1,.string a0_2] 67 (0,0)) (by (with_reducible repeat (first|refine blk_drewN ?_ _|refine blk_drew ?_|refine blk_alloc ?_ _));exact BK106.out) hb);have n1_ := Aside0.mk (blk_below (g := gb107) (o := .cells #[.int .i64 a1_0,.int .i64 a1_1,.int .i64 a1_2,.int .i64 a1_3,.int .i64 a1_4,.string a1_5] 61 (0,0)) (by (with_reducible repeat (first|refine blk_drewN ?_ _|refine blk_drew ?_|refine blk_alloc ?_ _));exact BK107.out) hb);have n2_ := Aside0.mk (blk_below (g := gb108) (o := .cells #[.int .i64 0,.int .i64 0,.string (⟨#[]⟩ : ByteArray)] 67 (0,0)) (by (with_reducible repeat (first|refine blk_drewN ?_ _|refine blk_drew ?_|refine blk_alloc ?_ _));exact BK108.out) hb);have n3_ := Aside0.mk (blk_below (g := gb109) (o := .cells #[.int .i64 0,.int .i64 0,.int .i64 0,.int .i64 0,.int .i64 0,.string (⟨#[]⟩ : ByteArray)] 61 (0,0)) (by (with_reducible repeat (first|refine blk_drewN ?_ _|refine blk_drew ?_|refine blk_alloc ?_ _));exact BK109.out) hb);have n4_ := Aside0.mk (below_step (by repeat (first|(with_reducible first|exact HB.out|apply below_alloc|apply pw_below_drewN|apply below_drew1|refine below_set ?_ GE106.out|refine below_set ?_ GE107.out|refine below_set ?_ GE108.out|refine below_set ?_ GE109.out)|exact HB.out)) hb);have n5_ := Aside0.mk (hbox);have n6_ := Aside0.mk ((by rw [hg];exact (below_size (by repeat (first|(with_reducible first|exact HB.out|apply below_alloc|apply pw_below_drewN|apply below_drew1|refine below_set ?_ GE106.out|refine below_set ?_ GE107.out|refine below_set ?_ GE108.out|refine below_set ?_ GE109.out)|exact HB.out))) : w.heap.size ≤ gb113));have n7_ := Aside0.mk ((by rw [hg];exact (below_size (by repeat (first|(with_reducible first|exact HB.out|apply below_alloc|apply pw_below_drewN|apply below_drew1|refine below_set ?_ GE106.out|refine below_set ?_ GE107.out|refine below_set ?_ GE108.out|refine below_set ?_ GE109.out)|exact HB.out))) : w.heap.size ≤ gb113));have n8_ := Aside0.mk ((by rw [hg];exact Nat.ne_of_lt (blk_lt (g := gb106) (o := .cells #[.int .i64 a0_0,.int .i64 a0_1,.string a0_2] 67 (0,0)) (by (with_reducible repeat (first|refine blk_drewN ?_ _|refine blk_drew ?_|refine blk_alloc ?_ _));exact BK106.out)) : gb106 ≠ gb113));have n9_ := Aside0.mk ((by rw [hg];exact Nat.ne_of_gt (blk_lt (g := gb106) (o := .cells #[.int .i64 a0_0,.int .i64 a0_1,.string a0_2] 67 (0,0)) (by (with_reducible repeat (first|refine blk_drewN ?_ _|refine blk_drew ?_|refine blk_alloc ?_ _));exact BK106.out)) : gb113 ≠ gb106));have n10_ := Aside0.mk ((by rw [hg];exact Nat.ne_of_lt (blk_lt (g := gb107) (o := .cells #[.int .i64 a1_0,.int .i64 a1_1,.int .i64 a1_2,.int .i64 a1_3,.int .i64 a1_4,.string a1_5] 61 (0,0)) (by (with_reducible repeat (first|refine blk_drewN ?_ _|refine blk_drew ?_|refine blk_alloc ?_ _));exact BK107.out)) : gb107 ≠ gb113));have n11_ := Aside0.mk ((by rw [hg];exact Nat.ne_of_gt (blk_lt (g := gb107) (o := .cells #[.int .i64 a1_0,.int .i64 a1_1,.int .i64 a1_2,.int .i64 a1_3,.int .i64 a1_4,.string a1_5] 61 (0,0)) (by (with_reducible repeat (first|refine blk_drewN ?_ _|refine blk_drew ?_|refine blk_alloc ?_ _));exact BK107.out)) : gb113 ≠ gb107));have n12_ := Aside0.mk ((by rw [hg];exact Nat.ne_of_lt (blk_lt (g := gb108) (o := .cells #[.int .i64 0,.int .i64 0,.string (⟨#[]⟩ : ByteArray)] 67 (0,0)) (by (with_reducible repeat (first|refine blk_drewN ?_ _|refine blk_drew ?_|refine blk_alloc ?_ _));exact BK108.out)) : gb108 ≠ gb113));have n13_ := Aside0.mk ((by rw [hg];exact Nat.ne_of_gt (blk_lt (g := gb108) (o := .cells #[.int .i64 0,.int .i64 0,.string (⟨#[]⟩ : ByteArray)] 67 (0,0)) (by (with_reducible repeat (first|refine blk_drewN ?_ _|refine blk_drew ?_|refine blk_alloc ?_ _));exact BK108.out)) : gb113 ≠ gb108));have n14_ := Aside0.mk ((by rw [hg];exact Nat.ne_of_lt (blk_lt (g := gb109) (o := .cells #[.int .i64 0,.int .i64 0,.int .i64 0,.int .i64 0,.int .i64 0,.string (⟨#[]⟩ : ByteArray)] 61 (0,0)) (by (with_reducible repeat (first|refine blk_drewN ?_ _|refine blk_drew ?_|refine blk_alloc ?_ _));exact BK109.out)) : gb109 ≠ gb113));have n15_ := Aside0.mk ((by rw [hg];exact Nat.ne_of_gt (blk_lt (g := gb109) (o := .cells #[.int .i64 0,.int .i64 0,.int .i64 0,.int .i64 0,.int .i64 0,.string (⟨#[]⟩ : ByteArray)] 61 (0,0)) (by (with_reducible repeat (first|refine blk_drewN ?_ _|refine blk_drew ?_|refine blk_alloc ?_ _));exact BK109.out)) : gb113 ≠ gb109));clear BK106;clear BK107;clear BK108;clear BK109;clear HB;have BK106 := n0_;have BK107 := n1_;have BK108 := n2_;have BK109 := n3_;have HB := n4_;have BK113 := n5_;have GW113 := n6_;have GE113 := n7_;have NB106_113 := n8_;have NB113_106 := n9_;have NB107_113 := n10_;have NB113_107 := n11_;have NB108_113 := n12_;have NB113_108 := n13_;have NB109_113 := n14_;have NB113_109 := n15_;clear n0_ n1_ n2_ n3_ n4_ n5_ n6_ n7_ n8_ n9_ n10_ n11_ n12_ n13_ n14_ n15_;clear hb hbox hg;have hnb91 := NB113_106.out;have hnc91 := NB106_113.out;have hnb92 := NB113_107.out;have hnc92 := NB107_113.out;have hnb93 := NB113_108.out;have hnc93 := NB108_113.out;have hnb94 := NB113_109.out;have hnc94 := NB109_113.out;have hcz95_0 : w90.cell? ⟨gb113,0,none⟩ = some (.int .i64 0) := (blk_cell BK113.out 0).trans rfl;have hcz95_1 : w90.cell? ⟨gb113,1,none⟩ = some (.int .i64 0) := (blk_cell BK113.out 1).trans rfl;have hcz95_2 : w90.cell? ⟨gb113,2,none⟩ = some (.string (⟨#[]⟩ : ByteArray)) := (blk_cell BK113.out 2).trans rfl;have hfz95_0 := blk_frozen BK113.out 0;have hfz95_1 := blk_frozen BK113.out 1;have hfz95_2 := blk_frozen BK113.out 2))
         have n0_ : Aside0 ((((w90.setCell ⟨gb113,0,none⟩ (.int .i64 a1_3)).setCell ⟨gb113,1,none⟩ (.int .i64 a1_3)).setCell ⟨gb113,2,none⟩ (.string a1_5)).heap[gb106]? = some (.cells #[.int .i64 a0_0,.int .i64 a0_1,.string a0_2] 67 (0,0))) := ⟨by (with_reducible repeat (first|refine blk_drewN ?_ _|refine blk_drew ?_|refine blk_alloc ?_ _));refine blk_far ?_ NB106_113.out _;(with_reducible repeat (first|refine blk_drewN ?_ _|refine blk_drew ?_|refine blk_alloc ?_ _));refine blk_far ?_ NB106_113.out _;(with_reducible repeat (first|refine blk_drewN ?_ _|refine blk_drew ?_|refine blk_alloc ?_ _));refine blk_far ?_ NB106_113.out _;(with_reducible repeat (first|refine blk_drewN ?_ _|refine blk_drew ?_|refine blk_alloc ?_ _));exact BK106.out⟩
         have n1_ : Aside0 ((((w90.setCell ⟨gb113,0,none⟩ (.int .i64 a1_3)).setCell ⟨gb113,1,none⟩ (.int .i64 a1_3)).setCell ⟨gb113,2,none⟩ (.string a1_5)).heap[gb107]? = some (.cells #[.int .i64 a1_0,.int .i64 a1_1,.int .i64 a1_2,.int .i64 a1_3,.int .i64 a1_4,.string a1_5] 61 (0,0))) := ⟨by (with_reducible repeat (first|refine blk_drewN ?_ _|refine blk_drew ?_|refine blk_alloc ?_ _));refine blk_far ?_ NB107_113.out _;(with_reducible repeat (first|refine blk_drewN ?_ _|refine blk_drew ?_|refine blk_alloc ?_ _));refine blk_far ?_ NB107_113.out _;(with_reducible repeat (first|refine blk_drewN ?_ _|refine blk_drew ?_|refine blk_alloc ?_ _));refine blk_far ?_ NB107_113.out _;(with_reducible repeat (first|refine blk_drewN ?_ _|refine blk_drew ?_|refine blk_alloc ?_ _));exact BK107.out⟩
         have n2_ : Aside0 ((((w90.setCell ⟨gb113,0,none⟩ (.int .i64 a1_3)).setCell ⟨gb113,1,none⟩ (.int .i64 a1_3)).setCell ⟨gb113,2,none⟩ (.string a1_5)).heap[gb108]? = some (.cells #[.int .i64 0,.int .i64 0,.string (⟨#[]⟩ : ByteArray)] 67 (0,0))) := ⟨by (with_reducible repeat (first|refine blk_drewN ?_ _|refine blk_drew ?_|refine blk_alloc ?_ _));refine blk_far ?_ NB108_113.out _;(with_reducible repeat (first|refine blk_drewN ?_ _|refine blk_drew ?_|refine blk_alloc ?_ _));refine blk_far ?_ NB108_113.out _;(with_reducible repeat (first|refine blk_drewN ?_ _|refine blk_drew ?_|refine blk_alloc ?_ _));refine blk_far ?_ NB108_113.out _;(with_reducible repeat (first|refine blk_drewN ?_ _|refine blk_drew ?_|refine blk_alloc ?_ _));exact BK108.out⟩
         have n3_ : Aside0 ((((w90.setCell ⟨gb113,0,none⟩ (.int .i64 a1_3)).setCell ⟨gb113,1,none⟩ (.int .i64 a1_3)).setCell ⟨gb113,2,none⟩ (.string a1_5)).heap[gb109]? = some (.cells #[.int .i64 0,.int .i64 0,.int .i64 0,.int .i64 0,.int .i64 0,.string (⟨#[]⟩ : ByteArray)] 61 (0,0))) := ⟨by (with_reducible repeat (first|refine blk_drewN ?_ _|refine blk_drew ?_|refine blk_alloc ?_ _));refine blk_far ?_ NB109_113.out _;(with_reducible repeat (first|refine blk_drewN ?_ _|refine blk_drew ?_|refine blk_alloc ?_ _));refine blk_far ?_ NB109_113.out _;(with_reducible repeat (first|refine blk_drewN ?_ _|refine blk_drew ?_|refine blk_alloc ?_ _));refine blk_far ?_ NB109_113.out _;(with_reducible repeat (first|refine blk_drewN ?_ _|refine blk_drew ?_|refine blk_alloc ?_ _));exact BK109.out⟩
         have n4_ : Aside0 ((((w90.setCell ⟨gb113,0,none⟩ (.int .i64 a1_3)).setCell ⟨gb113,1,none⟩ (.int .i64 a1_3)).setCell ⟨gb113,2,none⟩ (.string a1_5)).heap[gb113]? = some (.cells #[.int .i64 a1_3,.int .i64 a1_3,.string a1_5] 67 (0,0))) := ⟨by (with_reducible repeat (first|refine blk_drewN ?_ _|refine blk_drew ?_|refine blk_alloc ?_ _));refine blk_put (cs := #[.int .i64 a1_3,.int .i64 a1_3,.string (⟨#[]⟩ : ByteArray)]) ?_ 2 _ rfl;(with_reducible repeat (first|refine blk_drewN ?_ _|refine blk_drew ?_|refine blk_alloc ?_ _));refine blk_put (cs := #[.int .i64 a1_3,.int .i64 0,.string (⟨#[]⟩ : ByteArray)]) ?_ 1 _ rfl;(with_reducible repeat (first|refine blk_drewN ?_ _|refine blk_drew ?_|refine blk_alloc ?_ _));refine blk_put (cs := #[.int .i64 0,.int .i64 0,.string (⟨#[]⟩ : ByteArray)]) ?_ 0 _ rfl;(with_reducible repeat (first|refine blk_drewN ?_ _|refine blk_drew ?_|refine blk_alloc ?_ _));exact BK113.out⟩
         have n5_ : Aside0 (Below w.heap.size w (((w90.setCell ⟨gb113,0,none⟩ (.int .i64 a1_3)).setCell ⟨gb113,1,none⟩ (.int .i64 a1_3)).setCell ⟨gb113,2,none⟩ (.string a1_5))) := ⟨by repeat (first|(with_reducible first|exact HB.out|apply below_alloc|apply pw_below_drewN|apply below_drew1|refine below_set ?_ GE106.out|refine below_set ?_ GE107.out|refine below_set ?_ GE108.out|refine below_set ?_ GE109.out|refine below_set ?_ GE113.out)|exact HB.out)⟩
         (try clear BK106)
         (try clear BK107)
         (try clear BK108)
         (try clear BK109)
         (try clear BK113)
         (try clear HB)
         generalize (((w90.setCell ⟨gb113,0,none⟩ (.int .i64 a1_3)).setCell ⟨gb113,1,none⟩ (.int .i64 a1_3)).setCell ⟨gb113,2,none⟩ (.string a1_5)) = w96 at n0_ n1_ n2_ n3_ n4_ n5_ ⊢
         have BK106 := n0_
         have BK107 := n1_
         have BK108 := n2_
         have BK109 := n3_
         have BK113 := n4_
         have HB := n5_
         clear n0_ n1_ n2_ n3_ n4_ n5_
         have n0_ := Aside0.mk (blk_drew BK106.out)
         have n1_ := Aside0.mk (blk_drew BK107.out)
         have n2_ := Aside0.mk (blk_drew BK108.out)
         have n3_ := Aside0.mk (blk_drew BK109.out)
         have n4_ := Aside0.mk (blk_drew BK113.out)
         have n5_ := Aside0.mk (below_drew1 HB.out)
         clear BK106
         clear BK107
         clear BK108
         clear BK109
         clear BK113
         clear HB
         have BK106 := n0_
         have BK107 := n1_
         have BK108 := n2_
         have BK109 := n3_
         have BK113 := n4_
         have HB := n5_
         clear n0_ n1_ n2_ n3_ n4_ n5_
         refine start_ (n := 13) (S := fun w' => w'.cell? ⟨gb113,0,none⟩ = some (.int .i64 a1_3) ∧ w'.cell? ⟨gb113,1,none⟩ = some (.int .i64 a1_3) ∧ w'.cell? ⟨gb113,2,none⟩ = some (.string a1_5) ∧ w'.cell? ⟨gb107,0,none⟩ = some (.int .i64 a1_0) ∧ w'.cell? ⟨gb107,1,none⟩ = some (.int .i64 a1_1) ∧ w'.cell? ⟨gb107,2,none⟩ = some (.int .i64 a1_2) ∧ w'.cell? ⟨gb107,3,none⟩ = some (.int .i64 a1_3) ∧ w'.cell? ⟨gb107,4,none⟩ = some (.int .i64 a1_4) ∧ w'.cell? ⟨gb107,5,none⟩ = some (.string a1_5)) (ds := []) #[false,false,false,false,false,false,false,false,false,false,false,false,false] (by kernel_rfl) rfl rfl ⟨(blk_cell BK113.out 0).trans rfl,(blk_cell BK113.out 1).trans rfl,(blk_cell BK113.out 2).trans rfl,(blk_cell BK107.out 0).trans rfl,(blk_cell BK107.out 1).trans rfl,(blk_cell BK107.out 2).trans rfl,(blk_cell BK107.out 3).trans rfl,(blk_cell BK107.out 4).trans rfl,(blk_cell BK107.out 5).trans rfl⟩ (fun hHeld => ?_);refine with_tabW spec_HearNote.tab8 spec_HearNote.bits8 (fun HT_ HW_ => ?_)
         generalize w96.drew = w97 at BK106 BK107 BK108 BK109 BK113 HB hHeld ⊢
         refine pure_ (i := 1) (N := some 73) (v := ?_) (a' := ?_) #[false,true,false,false,false,false,false,false,false,false,false,false,false] rfl rfl (any_of HT_.out (by kernel_rfl)) (fun _ _ _ h => h) (Or.inl ⟨by rfl,?_⟩) ?_ ?_
         rotate_left
         ·intro w'
          go_simp
          with_reducible rfl
         rotate_left
         ·simp only [Act.put,List.setIfInBounds_toArray,List.set_cons_zero,List.set_cons_succ,i64_w,i32_w]
          rfl
         refine pure_ (i := 3) (N := some 75) (v := ?_) (a' := ?_) #[false,true,false,true,false,false,false,false,false,false,false,false,false] rfl rfl (any_of HT_.out (by kernel_rfl)) (fun _ _ _ h => h) (Or.inl ⟨by rfl,?_⟩) ?_ ?_
         rotate_left
         ·intro w'
          go_simp
          with_reducible rfl
         rotate_left
         ·simp only [Act.put,List.setIfInBounds_toArray,List.set_cons_zero,List.set_cons_succ,i64_w,i32_w]
          rfl
         refine pure_ (i := 5) (N := some 77) (v := ?_) (a' := ?_) #[false,true,false,true,false,true,false,false,false,false,false,false,false] rfl rfl (any_of HT_.out (by kernel_rfl)) (fun _ _ _ h => h) (Or.inl ⟨by rfl,?_⟩) ?_ ?_
         rotate_left
         ·intro w'
          go_simp
          with_reducible rfl
         rotate_left
         ·simp only [Act.put,List.setIfInBounds_toArray,List.set_cons_zero,List.set_cons_succ,i64_w,i32_w]
          rfl
         refine pure_ (i := 7) (N := some 79) (v := ?_) (a' := ?_) #[false,true,false,true,false,true,false,true,false,false,false,false,false] rfl rfl (any_of HT_.out (by kernel_rfl)) (fun _ _ _ h => h) (Or.inl ⟨by rfl,?_⟩) ?_ ?_
         rotate_left
         ·intro w'
          go_simp
          with_reducible rfl
         rotate_left
         ·simp only [Act.put,List.setIfInBounds_toArray,List.set_cons_zero,List.set_cons_succ,i64_w,i32_w]
          rfl
         refine take_ (i := 0) (N := some 72) (v := ?_) (a' := ?_) #[true,true,false,true,false,true,false,true,false,false,false,false,false] rfl rfl (take_ofW HT_.out HW_.out (by kernel_rfl)) (fun _ _ _ h => h) (Or.inl ⟨by rfl,?_⟩) hHeld ?_ ?_
         rotate_left
         ·rintro w' ⟨s0,s1,s2,s3,s4,s5,s6,s7,s8⟩
          go_simp
          with_reducible rfl
         rotate_left
         ·simp only [Act.put,List.setIfInBounds_toArray,List.set_cons_zero,List.set_cons_succ,i64_w,i32_w]
          rfl
         refine take_ (i := 2) (N := some 74) (v := ?_) (a' := ?_) #[true,true,true,true,false,true,false,true,false,false,false,false,false] rfl rfl (take_ofW HT_.out HW_.out (by kernel_rfl)) (fun _ _ _ h => h) (Or.inl ⟨by rfl,?_⟩) hHeld ?_ ?_
         rotate_left
         ·rintro w' ⟨s0,s1,s2,s3,s4,s5,s6,s7,s8⟩
          go_simp
          with_reducible rfl
         rotate_left
         ·simp only [Act.put,List.setIfInBounds_toArray,List.set_cons_zero,List.set_cons_succ,i64_w,i32_w]
          rfl
         refine take_ (i := 4) (N := some 76) (v := ?_) (a' := ?_) #[true,true,true,true,true,true,false,true,false,false,false,false,false] rfl rfl (take_ofW HT_.out HW_.out (by kernel_rfl)) (fun _ _ _ h => h) (Or.inl ⟨by rfl,?_⟩) hHeld ?_ ?_
         rotate_left
         ·rintro w' ⟨s0,s1,s2,s3,s4,s5,s6,s7,s8⟩
          go_simp
          with_reducible rfl
         rotate_left
         ·simp only [Act.put,List.setIfInBounds_toArray,List.set_cons_zero,List.set_cons_succ,i64_w,i32_w]
          rfl
         refine take_ (i := 6) (N := some 78) (v := ?_) (a' := ?_) #[true,true,true,true,true,true,true,true,false,false,false,false,false] rfl rfl (take_ofW HT_.out HW_.out (by kernel_rfl)) (fun _ _ _ h => h) (Or.inl ⟨by rfl,?_⟩) hHeld ?_ ?_
         rotate_left
         ·rintro w' ⟨s0,s1,s2,s3,s4,s5,s6,s7,s8⟩
          go_simp
          with_reducible rfl
         rotate_left
         ·simp only [Act.put,List.setIfInBounds_toArray,List.set_cons_zero,List.set_cons_succ,i64_w,i32_w]
          rfl
         refine take_ (i := 8) (N := some 80) (v := ?_) (a' := ?_) #[true,true,true,true,true,true,true,true,true,false,false,false,false] rfl rfl (take_ofW HT_.out HW_.out (by kernel_rfl)) (fun _ _ _ h => h) (Or.inl ⟨by rfl,?_⟩) hHeld ?_ ?_
         rotate_left
         ·rintro w' ⟨s0,s1,s2,s3,s4,s5,s6,s7,s8⟩
          go_simp
          with_reducible rfl
         rotate_left
         ·simp only [Act.put,List.setIfInBounds_toArray,List.set_cons_zero,List.set_cons_succ,i64_w,i32_w]
          rfl
         refine pure_ (i := 9) (N := some 81) (v := ?_) (a' := ?_) #[true,true,true,true,true,true,true,true,true,true,false,false,false] rfl rfl (any_of HT_.out (by kernel_rfl)) (fun _ _ _ h => h) (Or.inl ⟨by rfl,?_⟩) ?_ ?_
         rotate_left
         ·intro w'
          go_simp
          with_reducible rfl
         rotate_left
         ·simp only [Act.put,List.setIfInBounds_toArray,List.set_cons_zero,List.set_cons_succ,i64_w,i32_w]
          rfl
         refine one_ (i := 10) (N := none) #[true,true,true,true,true,true,true,true,true,true,true,false,false] rfl rfl (one_of HT_.out (by kernel_rfl)) (by decide) (fun K hK => ?_)
         have hs98 : w97.cell? ⟨gb108,0,none⟩ = some (.int .i64 0) := (blk_cell BK108.out 0).trans rfl
         have hfs98 := blk_frozen BK108.out 0
         have hns98_0 := NB106_108.out
         have hns98_1 := NB107_108.out
         have hns98_3 := NB109_108.out
         have hns98_4 := NB113_108.out
         have hms98_0 := NB108_106.out
         have hms98_1 := NB108_107.out
         have hms98_3 := NB108_109.out
         have hms98_4 := NB108_113.out
         have hs99 : w97.cell? ⟨gb108,1,none⟩ = some (.int .i64 0) := (blk_cell BK108.out 1).trans rfl
         have hfs99 := blk_frozen BK108.out 1
         have hns99_0 := NB106_108.out
         have hns99_1 := NB107_108.out
         have hns99_3 := NB109_108.out
         have hns99_4 := NB113_108.out
         have hms99_0 := NB108_106.out
         have hms99_1 := NB108_107.out
         have hms99_3 := NB108_109.out
         have hms99_4 := NB108_113.out
         have hs100 : w97.cell? ⟨gb108,2,none⟩ = some (.string (⟨#[]⟩ : ByteArray)) := (blk_cell BK108.out 2).trans rfl
         have hfs100 := blk_frozen BK108.out 2
         have hns100_0 := NB106_108.out
         have hns100_1 := NB107_108.out
         have hns100_3 := NB109_108.out
         have hns100_4 := NB113_108.out
         have hms100_0 := NB108_106.out
         have hms100_1 := NB108_107.out
         have hms100_3 := NB108_109.out
         have hms100_4 := NB108_113.out
         refine skip_ (w1 := ?_) (by rfl) rfl ?_ ?_
         rotate_left
         ·go_simp
          rfl
         refine hK.out _ _ ⟨((cell_far (p := ⟨gb108,_,none⟩) NB113_108.out _).trans (((cell_far (p := ⟨gb108,_,none⟩) NB113_108.out _).trans (((cell_far (p := ⟨gb108,_,none⟩) NB113_108.out _).trans (hHeld.1)))))),((cell_far (p := ⟨gb108,_,none⟩) NB113_108.out _).trans (((cell_far (p := ⟨gb108,_,none⟩) NB113_108.out _).trans (((cell_far (p := ⟨gb108,_,none⟩) NB113_108.out _).trans (hHeld.2.1)))))),((cell_far (p := ⟨gb108,_,none⟩) NB113_108.out _).trans (((cell_far (p := ⟨gb108,_,none⟩) NB113_108.out _).trans (((cell_far (p := ⟨gb108,_,none⟩) NB113_108.out _).trans (hHeld.2.2.1)))))),((cell_far (p := ⟨gb108,_,none⟩) NB107_108.out _).trans (((cell_far (p := ⟨gb108,_,none⟩) NB107_108.out _).trans (((cell_far (p := ⟨gb108,_,none⟩) NB107_108.out _).trans (hHeld.2.2.2.1)))))),((cell_far (p := ⟨gb108,_,none⟩) NB107_108.out _).trans (((cell_far (p := ⟨gb108,_,none⟩) NB107_108.out _).trans (((cell_far (p := ⟨gb108,_,none⟩) NB107_108.out _).trans (hHeld.2.2.2.2.1)))))),((cell_far (p := ⟨gb108,_,none⟩) NB107_108.out _).trans (((cell_far (p := ⟨gb108,_,none⟩) NB107_108.out _).trans (((cell_far (p := ⟨gb108,_,none⟩) NB107_108.out _).trans (hHeld.2.2.2.2.2.1)))))),((cell_far (p := ⟨gb108,_,none⟩) NB107_108.out _).trans (((cell_far (p := ⟨gb108,_,none⟩) NB107_108.out _).trans (((cell_far (p := ⟨gb108,_,none⟩) NB107_108.out _).trans (hHeld.2.2.2.2.2.2.1)))))),((cell_far (p := ⟨gb108,_,none⟩) NB107_108.out _).trans (((cell_far (p := ⟨gb108,_,none⟩) NB107_108.out _).trans (((cell_far (p := ⟨gb108,_,none⟩) NB107_108.out _).trans (hHeld.2.2.2.2.2.2.2.1)))))),((cell_far (p := ⟨gb108,_,none⟩) NB107_108.out _).trans (((cell_far (p := ⟨gb108,_,none⟩) NB107_108.out _).trans (((cell_far (p := ⟨gb108,_,none⟩) NB107_108.out _).trans (hHeld.2.2.2.2.2.2.2.2))))))⟩ (fun hHeld => ?_)
         clear hK K
         refine one_ (i := 11) (N := none) #[true,true,true,true,true,true,true,true,true,true,true,true,false] rfl rfl (one_of HT_.out (by kernel_rfl)) (by decide) (fun K hK => ?_)
         have hs101 : w97.cell? ⟨gb109,0,none⟩ = some (.int .i64 0) := (blk_cell BK109.out 0).trans rfl
         have hfs101 := blk_frozen BK109.out 0
         have hns101_0 := NB106_109.out
         have hns101_1 := NB107_109.out
         have hns101_2 := NB108_109.out
         have hns101_4 := NB113_109.out
         have hms101_0 := NB109_106.out
         have hms101_1 := NB109_107.out
         have hms101_2 := NB109_108.out
         have hms101_4 := NB109_113.out
         have hs102 : w97.cell? ⟨gb109,1,none⟩ = some (.int .i64 0) := (blk_cell BK109.out 1).trans rfl
         have hfs102 := blk_frozen BK109.out 1
         have hns102_0 := NB106_109.out
         have hns102_1 := NB107_109.out
         have hns102_2 := NB108_109.out
         have hns102_4 := NB113_109.out
         have hms102_0 := NB109_106.out
         have hms102_1 := NB109_107.out
         have hms102_2 := NB109_108.out
         have hms102_4 := NB109_113.out
         have hs103 : w97.cell? ⟨gb109,2,none⟩ = some (.int .i64 0) := (blk_cell BK109.out 2).trans rfl
         have hfs103 := blk_frozen BK109.out 2
         have hns103_0 := NB106_109.out
         have hns103_1 := NB107_109.out
         have hns103_2 := NB108_109.out
         have hns103_4 := NB113_109.out
         have hms103_0 := NB109_106.out
         have hms103_1 := NB109_107.out
         have hms103_2 := NB109_108.out
         have hms103_4 := NB109_113.out
         have hs104 : w97.cell? ⟨gb109,3,none⟩ = some (.int .i64 0) := (blk_cell BK109.out 3).trans rfl
         have hfs104 := blk_frozen BK109.out 3
         have hns104_0 := NB106_109.out
         have hns104_1 := NB107_109.out
         have hns104_2 := NB108_109.out
         have hns104_4 := NB113_109.out
         have hms104_0 := NB109_106.out
         have hms104_1 := NB109_107.out
         have hms104_2 := NB109_108.out
         have hms104_4 := NB109_113.out
         have hs105 : w97.cell? ⟨gb109,4,none⟩ = some (.int .i64 0) := (blk_cell BK109.out 4).trans rfl
         have hfs105 := blk_frozen BK109.out 4
         have hns105_0 := NB106_109.out
         have hns105_1 := NB107_109.out
         have hns105_2 := NB108_109.out
         have hns105_4 := NB113_109.out
         have hms105_0 := NB109_106.out
         have hms105_1 := NB109_107.out
         have hms105_2 := NB109_108.out
         have hms105_4 := NB109_113.out
         have hs106 : w97.cell? ⟨gb109,5,none⟩ = some (.string (⟨#[]⟩ : ByteArray)) := (blk_cell BK109.out 5).trans rfl
         have hfs106 := blk_frozen BK109.out 5
         have hns106_0 := NB106_109.out
         have hns106_1 := NB107_109.out
         have hns106_2 := NB108_109.out
         have hns106_4 := NB113_109.out
         have hms106_0 := NB109_106.out
         have hms106_1 := NB109_107.out
         have hms106_2 := NB109_108.out
         have hms106_4 := NB109_113.out
         refine skip_ (w1 := ?_) (by rfl) rfl ?_ ?_
         rotate_left
         ·go_simp
          rfl
         refine hK.out _ _ ⟨((cell_far (p := ⟨gb109,_,none⟩) NB113_109.out _).trans (((cell_far (p := ⟨gb109,_,none⟩) NB113_109.out _).trans (((cell_far (p := ⟨gb109,_,none⟩) NB113_109.out _).trans (((cell_far (p := ⟨gb109,_,none⟩) NB113_109.out _).trans (((cell_far (p := ⟨gb109,_,none⟩) NB113_109.out _).trans (((cell_far (p := ⟨gb109,_,none⟩) NB113_109.out _).trans (hHeld.1)))))))))))),((cell_far (p := ⟨gb109,_,none⟩) NB113_109.out _).trans (((cell_far (p := ⟨gb109,_,none⟩) NB113_109.out _).trans (((cell_far (p := ⟨gb109,_,none⟩) NB113_109.out _).trans (((cell_far (p := ⟨gb109,_,none⟩) NB113_109.out _).trans (((cell_far (p := ⟨gb109,_,none⟩) NB113_109.out _).trans (((cell_far (p := ⟨gb109,_,none⟩) NB113_109.out _).trans (hHeld.2.1)))))))))))),((cell_far (p := ⟨gb109,_,none⟩) NB113_109.out _).trans (((cell_far (p := ⟨gb109,_,none⟩) NB113_109.out _).trans (((cell_far (p := ⟨gb109,_,none⟩) NB113_109.out _).trans (((cell_far (p := ⟨gb109,_,none⟩) NB113_109.out _).trans (((cell_far (p := ⟨gb109,_,none⟩) NB113_109.out _).trans (((cell_far (p := ⟨gb109,_,none⟩) NB113_109.out _).trans (hHeld.2.2.1)))))))))))),((cell_far (p := ⟨gb109,_,none⟩) NB107_109.out _).trans (((cell_far (p := ⟨gb109,_,none⟩) NB107_109.out _).trans (((cell_far (p := ⟨gb109,_,none⟩) NB107_109.out _).trans (((cell_far (p := ⟨gb109,_,none⟩) NB107_109.out _).trans (((cell_far (p := ⟨gb109,_,none⟩) NB107_109.out _).trans (((cell_far (p := ⟨gb109,_,none⟩) NB107_109.out _).trans (hHeld.2.2.2.1)))))))))))),((cell_far (p := ⟨gb109,_,none⟩) NB107_109.out _).trans (((cell_far (p := ⟨gb109,_,none⟩) NB107_109.out _).trans (((cell_far (p := ⟨gb109,_,none⟩) NB107_109.out _).trans (((cell_far (p := ⟨gb109,_,none⟩) NB107_109.out _).trans (((cell_far (p := ⟨gb109,_,none⟩) NB107_109.out _).trans (((cell_far (p := ⟨gb109,_,none⟩) NB107_109.out _).trans (hHeld.2.2.2.2.1)))))))))))),((cell_far (p := ⟨gb109,_,none⟩) NB107_109.out _).trans (((cell_far (p := ⟨gb109,_,none⟩) NB107_109.out _).trans (((cell_far (p := ⟨gb109,_,none⟩) NB107_109.out _).trans (((cell_far (p := ⟨gb109,_,none⟩) NB107_109.out _).trans (((cell_far (p := ⟨gb109,_,none⟩) NB107_109.out _).trans (((cell_far (p := ⟨gb109,_,none⟩) NB107_109.out _).trans (hHeld.2.2.2.2.2.1)))))))))))),((cell_far (p := ⟨gb109,_,none⟩) NB107_109.out _).trans (((cell_far (p := ⟨gb109,_,none⟩) NB107_109.out _).trans (((cell_far (p := ⟨gb109,_,none⟩) NB107_109.out _).trans (((cell_far (p := ⟨gb109,_,none⟩) NB107_109.out _).trans (((cell_far (p := ⟨gb109,_,none⟩) NB107_109.out _).trans (((cell_far (p := ⟨gb109,_,none⟩) NB107_109.out _).trans (hHeld.2.2.2.2.2.2.1)))))))))))),((cell_far (p := ⟨gb109,_,none⟩) NB107_109.out _).trans (((cell_far (p := ⟨gb109,_,none⟩) NB107_109.out _).trans (((cell_far (p := ⟨gb109,_,none⟩) NB107_109.out _).trans (((cell_far (p := ⟨gb109,_,none⟩) NB107_109.out _).trans (((cell_far (p := ⟨gb109,_,none⟩) NB107_109.out _).trans (((cell_far (p := ⟨gb109,_,none⟩) NB107_109.out _).trans (hHeld.2.2.2.2.2.2.2.1)))))))))))),((cell_far (p := ⟨gb109,_,none⟩) NB107_109.out _).trans (((cell_far (p := ⟨gb109,_,none⟩) NB107_109.out _).trans (((cell_far (p := ⟨gb109,_,none⟩) NB107_109.out _).trans (((cell_far (p := ⟨gb109,_,none⟩) NB107_109.out _).trans (((cell_far (p := ⟨gb109,_,none⟩) NB107_109.out _).trans (((cell_far (p := ⟨gb109,_,none⟩) NB107_109.out _).trans (hHeld.2.2.2.2.2.2.2.2))))))))))))⟩ (fun hHeld => ?_)
         clear hK K
         refine pure_ (i := 12) (N := some 6) (v := ?_) (a' := ?_) #[true,true,true,true,true,true,true,true,true,true,true,true,true] rfl rfl (any_of HT_.out (by kernel_rfl)) (fun _ _ _ h => h) (Or.inl ⟨by rfl,?_⟩) ?_ ?_
         rotate_left
         ·intro w'
          go_simp
          with_reducible rfl
         rotate_left
         ·simp only [Act.put,List.setIfInBounds_toArray,List.set_cons_zero,List.set_cons_succ,i64_w,i32_w]
          rfl
         refine done_ (done_of HT_.out (by kernel_rfl)) ?_
         try go_wp2
         refine bodyPost_ret (results_list (rs := [.cell 4 67,.cell 5 61,.tmp 6]) rfl (by simp) (.cell gb108 67 #[.int .i64 a1_3,.int .i64 a1_3,.string a1_5] (0,0) _ rfl (by (with_reducible repeat (first|refine blk_drewN ?_ _|refine blk_drew ?_|refine blk_alloc ?_ _));refine blk_far ?_ NB108_109.out _;(with_reducible repeat (first|refine blk_drewN ?_ _|refine blk_drew ?_|refine blk_alloc ?_ _));refine blk_far ?_ NB108_109.out _;(with_reducible repeat (first|refine blk_drewN ?_ _|refine blk_drew ?_|refine blk_alloc ?_ _));refine blk_far ?_ NB108_109.out _;(with_reducible repeat (first|refine blk_drewN ?_ _|refine blk_drew ?_|refine blk_alloc ?_ _));refine blk_far ?_ NB108_109.out _;(with_reducible repeat (first|refine blk_drewN ?_ _|refine blk_drew ?_|refine blk_alloc ?_ _));refine blk_far ?_ NB108_109.out _;(with_reducible repeat (first|refine blk_drewN ?_ _|refine blk_drew ?_|refine blk_alloc ?_ _));refine blk_far ?_ NB108_109.out _;(with_reducible repeat (first|refine blk_drewN ?_ _|refine blk_drew ?_|refine blk_alloc ?_ _));refine blk_put (cs := #[.int .i64 a1_3,.int .i64 a1_3,.string (⟨#[]⟩ : ByteArray)]) ?_ 2 _ rfl;(with_reducible repeat (first|refine blk_drewN ?_ _|refine blk_drew ?_|refine blk_alloc ?_ _));refine blk_put (cs := #[.int .i64 a1_3,.int .i64 0,.string (⟨#[]⟩ : ByteArray)]) ?_ 1 _ rfl;(with_reducible repeat (first|refine blk_drewN ?_ _|refine blk_drew ?_|refine blk_alloc ?_ _));refine blk_put (cs := #[.int .i64 0,.int .i64 0,.string (⟨#[]⟩ : ByteArray)]) ?_ 0 _ rfl;(with_reducible repeat (first|refine blk_drewN ?_ _|refine blk_drew ?_|refine blk_alloc ?_ _));exact BK108.out) Try.underlying67 rfl (by kernel_rfl) (.cell gb109 61 #[.int .i64 4,.int .i64 a1_2,.int .i64 a1_1,.int .i64 a1_3,.int .i64 0,.string a1_5] (0,0) _ rfl (by (with_reducible repeat (first|refine blk_drewN ?_ _|refine blk_drew ?_|refine blk_alloc ?_ _));refine blk_put (cs := #[.int .i64 4,.int .i64 a1_2,.int .i64 a1_1,.int .i64 a1_3,.int .i64 0,.string (⟨#[]⟩ : ByteArray)]) ?_ 5 _ rfl;(with_reducible repeat (first|refine blk_drewN ?_ _|refine blk_drew ?_|refine blk_alloc ?_ _));refine blk_put (cs := #[.int .i64 4,.int .i64 a1_2,.int .i64 a1_1,.int .i64 a1_3,.int .i64 0,.string (⟨#[]⟩ : ByteArray)]) ?_ 4 _ rfl;(with_reducible repeat (first|refine blk_drewN ?_ _|refine blk_drew ?_|refine blk_alloc ?_ _));refine blk_put (cs := #[.int .i64 4,.int .i64 a1_2,.int .i64 a1_1,.int .i64 0,.int .i64 0,.string (⟨#[]⟩ : ByteArray)]) ?_ 3 _ rfl;(with_reducible repeat (first|refine blk_drewN ?_ _|refine blk_drew ?_|refine blk_alloc ?_ _));refine blk_put (cs := #[.int .i64 4,.int .i64 a1_2,.int .i64 0,.int .i64 0,.int .i64 0,.string (⟨#[]⟩ : ByteArray)]) ?_ 2 _ rfl;(with_reducible repeat (first|refine blk_drewN ?_ _|refine blk_drew ?_|refine blk_alloc ?_ _));refine blk_put (cs := #[.int .i64 4,.int .i64 0,.int .i64 0,.int .i64 0,.int .i64 0,.string (⟨#[]⟩ : ByteArray)]) ?_ 1 _ rfl;(with_reducible repeat (first|refine blk_drewN ?_ _|refine blk_drew ?_|refine blk_alloc ?_ _));refine blk_put (cs := #[.int .i64 0,.int .i64 0,.int .i64 0,.int .i64 0,.int .i64 0,.string (⟨#[]⟩ : ByteArray)]) ?_ 0 _ rfl;(with_reducible repeat (first|refine blk_drewN ?_ _|refine blk_drew ?_|refine blk_alloc ?_ _));refine blk_far ?_ NB109_108.out _;(with_reducible repeat (first|refine blk_drewN ?_ _|refine blk_drew ?_|refine blk_alloc ?_ _));refine blk_far ?_ NB109_108.out _;(with_reducible repeat (first|refine blk_drewN ?_ _|refine blk_drew ?_|refine blk_alloc ?_ _));refine blk_far ?_ NB109_108.out _;(with_reducible repeat (first|refine blk_drewN ?_ _|refine blk_drew ?_|refine blk_alloc ?_ _));exact BK109.out) Try.underlying61 rfl (by kernel_rfl) (.tmp .nil)))) rfl ?_
         exact ⟨by first|rfl|(simp [errW_none,errW_some] <;> rfl)|(simp [*,errW_none,errW_some] <;> rfl),by repeat (first|(with_reducible first|exact HB.out|apply below_alloc|apply pw_below_drewN|apply below_drew1|refine below_set ?_ GE106.out|refine below_set ?_ GE107.out|refine below_set ?_ GE108.out|refine below_set ?_ GE109.out|refine below_set ?_ GE113.out)|exact HB.out)⟩
        ·rw [if_neg c82] at H
         have c82b0 : decide (a0_0 ≤ a1_3) = false := decide_eq_false c82
         clear c82
         simp only [Option.some.injEq,Prod.mk.injEq] at H
         obtain ⟨rfl,rfl,rfl,rfl,rfl,rfl,rfl,rfl,rfl,rfl⟩ := H
         have hnb107 := NB107_106.out
         have hnc107 := NB106_107.out
         have hnb108 := NB107_108.out
         have hnc108 := NB108_107.out
         have hnb109 := NB107_109.out
         have hnc109 := NB109_107.out
         have hcz110_0 : wc.cell? ⟨gb107,0,none⟩ = some (.int .i64 a1_0) := (blk_cell BK107.out 0).trans rfl
         have hcz110_1 : wc.cell? ⟨gb107,1,none⟩ = some (.int .i64 a1_1) := (blk_cell BK107.out 1).trans rfl
         have hcz110_2 : wc.cell? ⟨gb107,2,none⟩ = some (.int .i64 a1_2) := (blk_cell BK107.out 2).trans rfl
         have hcz110_3 : wc.cell? ⟨gb107,3,none⟩ = some (.int .i64 a1_3) := (blk_cell BK107.out 3).trans rfl
         have hcz110_4 : wc.cell? ⟨gb107,4,none⟩ = some (.int .i64 a1_4) := (blk_cell BK107.out 4).trans rfl
         have hcz110_5 : wc.cell? ⟨gb107,5,none⟩ = some (.string a1_5) := (blk_cell BK107.out 5).trans rfl
         have hfz110_0 := blk_frozen BK107.out 0
         have hfz110_1 := blk_frozen BK107.out 1
         have hfz110_2 := blk_frozen BK107.out 2
         have hfz110_3 := blk_frozen BK107.out 3
         have hfz110_4 := blk_frozen BK107.out 4
         have hfz110_5 := blk_frozen BK107.out 5
         have hnb111 := NB106_108.out
         have hnc111 := NB108_106.out
         have hnb112 := NB106_109.out
         have hnc112 := NB109_106.out
         have hcz113_0 : wc.cell? ⟨gb106,0,none⟩ = some (.int .i64 a0_0) := (blk_cell BK106.out 0).trans rfl
         have hcz113_1 : wc.cell? ⟨gb106,1,none⟩ = some (.int .i64 a0_1) := (blk_cell BK106.out 1).trans rfl
         have hcz113_2 : wc.cell? ⟨gb106,2,none⟩ = some (.string a0_2) := (blk_cell BK106.out 2).trans rfl
         have hfz113_0 := blk_frozen BK106.out 0
         have hfz113_1 := blk_frozen BK106.out 1
         have hfz113_2 := blk_frozen BK106.out 2
         have hnb114 := NB108_109.out
         have hnc114 := NB109_108.out
         have hcz115_0 : wc.cell? ⟨gb108,0,none⟩ = some (.int .i64 0) := (blk_cell BK108.out 0).trans rfl
         have hcz115_1 : wc.cell? ⟨gb108,1,none⟩ = some (.int .i64 0) := (blk_cell BK108.out 1).trans rfl
         have hcz115_2 : wc.cell? ⟨gb108,2,none⟩ = some (.string (⟨#[]⟩ : ByteArray)) := (blk_cell BK108.out 2).trans rfl
         have hfz115_0 := blk_frozen BK108.out 0
         have hfz115_1 := blk_frozen BK108.out 1
         have hfz115_2 := blk_frozen BK108.out 2
         have hcz116_0 : wc.cell? ⟨gb109,0,none⟩ = some (.int .i64 0) := (blk_cell BK109.out 0).trans rfl
         have hcz116_1 : wc.cell? ⟨gb109,1,none⟩ = some (.int .i64 0) := (blk_cell BK109.out 1).trans rfl
         have hcz116_2 : wc.cell? ⟨gb109,2,none⟩ = some (.int .i64 0) := (blk_cell BK109.out 2).trans rfl
         have hcz116_3 : wc.cell? ⟨gb109,3,none⟩ = some (.int .i64 0) := (blk_cell BK109.out 3).trans rfl
         have hcz116_4 : wc.cell? ⟨gb109,4,none⟩ = some (.int .i64 0) := (blk_cell BK109.out 4).trans rfl
         have hcz116_5 : wc.cell? ⟨gb109,5,none⟩ = some (.string (⟨#[]⟩ : ByteArray)) := (blk_cell BK109.out 5).trans rfl
         have hfz116_0 := blk_frozen BK109.out 0
         have hfz116_1 := blk_frozen BK109.out 1
         have hfz116_2 := blk_frozen BK109.out 2
         have hfz116_3 := blk_frozen BK109.out 3
         have hfz116_4 := blk_frozen BK109.out 4
         have hfz116_5 := blk_frozen BK109.out 5
         go_wp2
         refine bodyPost_ret (results_list (rs := [.cell 4 67,.cell 5 61,.tmp 6]) rfl (by simp) (.cell gb108 67 #[.int .i64 a0_0,.int .i64 a0_1,.string a0_2] (0,0) _ rfl (by (with_reducible repeat (first|refine blk_drewN ?_ _|refine blk_drew ?_|refine blk_alloc ?_ _));refine blk_far ?_ NB108_109.out _;(with_reducible repeat (first|refine blk_drewN ?_ _|refine blk_drew ?_|refine blk_alloc ?_ _));refine blk_far ?_ NB108_109.out _;(with_reducible repeat (first|refine blk_drewN ?_ _|refine blk_drew ?_|refine blk_alloc ?_ _));refine blk_far ?_ NB108_109.out _;(with_reducible repeat (first|refine blk_drewN ?_ _|refine blk_drew ?_|refine blk_alloc ?_ _));refine blk_far ?_ NB108_109.out _;(with_reducible repeat (first|refine blk_drewN ?_ _|refine blk_drew ?_|refine blk_alloc ?_ _));refine blk_far ?_ NB108_109.out _;(with_reducible repeat (first|refine blk_drewN ?_ _|refine blk_drew ?_|refine blk_alloc ?_ _));refine blk_far ?_ NB108_109.out _;(with_reducible repeat (first|refine blk_drewN ?_ _|refine blk_drew ?_|refine blk_alloc ?_ _));refine blk_put (cs := #[.int .i64 a0_0,.int .i64 a0_1,.string (⟨#[]⟩ : ByteArray)]) ?_ 2 _ rfl;(with_reducible repeat (first|refine blk_drewN ?_ _|refine blk_drew ?_|refine blk_alloc ?_ _));refine blk_put (cs := #[.int .i64 a0_0,.int .i64 0,.string (⟨#[]⟩ : ByteArray)]) ?_ 1 _ rfl;(with_reducible repeat (first|refine blk_drewN ?_ _|refine blk_drew ?_|refine blk_alloc ?_ _));refine blk_put (cs := #[.int .i64 0,.int .i64 0,.string (⟨#[]⟩ : ByteArray)]) ?_ 0 _ rfl;(with_reducible repeat (first|refine blk_drewN ?_ _|refine blk_drew ?_|refine blk_alloc ?_ _));exact BK108.out) Try.underlying67 rfl (by kernel_rfl) (.cell gb109 61 #[.int .i64 0,.int .i64 0,.int .i64 0,.int .i64 0,.int .i64 0,.string (⟨#[]⟩ : ByteArray)] (0,0) _ rfl (by (with_reducible repeat (first|refine blk_drewN ?_ _|refine blk_drew ?_|refine blk_alloc ?_ _));refine blk_put (cs := #[.int .i64 0,.int .i64 0,.int .i64 0,.int .i64 0,.int .i64 0,.string (⟨#[]⟩ : ByteArray)]) ?_ 5 _ rfl;(with_reducible repeat (first|refine blk_drewN ?_ _|refine blk_drew ?_|refine blk_alloc ?_ _));refine blk_put (cs := #[.int .i64 0,.int .i64 0,.int .i64 0,.int .i64 0,.int .i64 0,.string (⟨#[]⟩ : ByteArray)]) ?_ 4 _ rfl;(with_reducible repeat (first|refine blk_drewN ?_ _|refine blk_drew ?_|refine blk_alloc ?_ _));refine blk_put (cs := #[.int .i64 0,.int .i64 0,.int .i64 0,.int .i64 0,.int .i64 0,.string (⟨#[]⟩ : ByteArray)]) ?_ 3 _ rfl;(with_reducible repeat (first|refine blk_drewN ?_ _|refine blk_drew ?_|refine blk_alloc ?_ _));refine blk_put (cs := #[.int .i64 0,.int .i64 0,.int .i64 0,.int .i64 0,.int .i64 0,.string (⟨#[]⟩ : ByteArray)]) ?_ 2 _ rfl;(with_reducible repeat (first|refine blk_drewN ?_ _|refine blk_drew ?_|refine blk_alloc ?_ _));refine blk_put (cs := #[.int .i64 0,.int .i64 0,.int .i64 0,.int .i64 0,.int .i64 0,.string (⟨#[]⟩ : ByteArray)]) ?_ 1 _ rfl;(with_reducible repeat (first|refine blk_drewN ?_ _|refine blk_drew ?_|refine blk_alloc ?_ _));refine blk_put (cs := #[.int .i64 0,.int .i64 0,.int .i64 0,.int .i64 0,.int .i64 0,.string (⟨#[]⟩ : ByteArray)]) ?_ 0 _ rfl;(with_reducible repeat (first|refine blk_drewN ?_ _|refine blk_drew ?_|refine blk_alloc ?_ _));refine blk_far ?_ NB109_108.out _;(with_reducible repeat (first|refine blk_drewN ?_ _|refine blk_drew ?_|refine blk_alloc ?_ _));refine blk_far ?_ NB109_108.out _;(with_reducible repeat (first|refine blk_drewN ?_ _|refine blk_drew ?_|refine blk_alloc ?_ _));refine blk_far ?_ NB109_108.out _;(with_reducible repeat (first|refine blk_drewN ?_ _|refine blk_drew ?_|refine blk_alloc ?_ _));exact BK109.out) Try.underlying61 rfl (by kernel_rfl) (.tmp .nil)))) rfl ?_
         exact ⟨by first|rfl|(simp [errW_none,errW_some] <;> rfl)|(simp [*,errW_none,errW_some] <;> rfl),by repeat (first|(with_reducible first|exact HB.out|apply below_alloc|apply pw_below_drewN|apply below_drew1|refine below_set ?_ GE106.out|refine below_set ?_ GE107.out|refine below_set ?_ GE108.out|refine below_set ?_ GE109.out)|exact HB.out)⟩
       ·rw [if_neg c81] at H
        have c81b0 : (a1_0 == 3) = false := beq_eq_false_iff_ne.mpr c81
        have c81b1 : (a1_0 != 3) = true := bne_iff_ne.mpr c81
        simp only [Option.some.injEq,Prod.mk.injEq] at H
        obtain ⟨rfl,rfl,rfl,rfl,rfl,rfl,rfl,rfl,rfl,rfl⟩ := H
        have hnb117 := NB107_106.out
        have hnc117 := NB106_107.out
        have hnb118 := NB107_108.out
        have hnc118 := NB108_107.out
        have hnb119 := NB107_109.out
        have hnc119 := NB109_107.out
        have hcz120_0 : wc.cell? ⟨gb107,0,none⟩ = some (.int .i64 a1_0) := (blk_cell BK107.out 0).trans rfl
        have hcz120_1 : wc.cell? ⟨gb107,1,none⟩ = some (.int .i64 a1_1) := (blk_cell BK107.out 1).trans rfl
        have hcz120_2 : wc.cell? ⟨gb107,2,none⟩ = some (.int .i64 a1_2) := (blk_cell BK107.out 2).trans rfl
        have hcz120_3 : wc.cell? ⟨gb107,3,none⟩ = some (.int .i64 a1_3) := (blk_cell BK107.out 3).trans rfl
        have hcz120_4 : wc.cell? ⟨gb107,4,none⟩ = some (.int .i64 a1_4) := (blk_cell BK107.out 4).trans rfl
        have hcz120_5 : wc.cell? ⟨gb107,5,none⟩ = some (.string a1_5) := (blk_cell BK107.out 5).trans rfl
        have hfz120_0 := blk_frozen BK107.out 0
        have hfz120_1 := blk_frozen BK107.out 1
        have hfz120_2 := blk_frozen BK107.out 2
        have hfz120_3 := blk_frozen BK107.out 3
        have hfz120_4 := blk_frozen BK107.out 4
        have hfz120_5 := blk_frozen BK107.out 5
        have hnb121 := NB106_108.out
        have hnc121 := NB108_106.out
        have hnb122 := NB106_109.out
        have hnc122 := NB109_106.out
        have hcz123_0 : wc.cell? ⟨gb106,0,none⟩ = some (.int .i64 a0_0) := (blk_cell BK106.out 0).trans rfl
        have hcz123_1 : wc.cell? ⟨gb106,1,none⟩ = some (.int .i64 a0_1) := (blk_cell BK106.out 1).trans rfl
        have hcz123_2 : wc.cell? ⟨gb106,2,none⟩ = some (.string a0_2) := (blk_cell BK106.out 2).trans rfl
        have hfz123_0 := blk_frozen BK106.out 0
        have hfz123_1 := blk_frozen BK106.out 1
        have hfz123_2 := blk_frozen BK106.out 2
        have hnb124 := NB108_109.out
        have hnc124 := NB109_108.out
        have hcz125_0 : wc.cell? ⟨gb108,0,none⟩ = some (.int .i64 0) := (blk_cell BK108.out 0).trans rfl
        have hcz125_1 : wc.cell? ⟨gb108,1,none⟩ = some (.int .i64 0) := (blk_cell BK108.out 1).trans rfl
        have hcz125_2 : wc.cell? ⟨gb108,2,none⟩ = some (.string (⟨#[]⟩ : ByteArray)) := (blk_cell BK108.out 2).trans rfl
        have hfz125_0 := blk_frozen BK108.out 0
        have hfz125_1 := blk_frozen BK108.out 1
        have hfz125_2 := blk_frozen BK108.out 2
        have hcz126_0 : wc.cell? ⟨gb109,0,none⟩ = some (.int .i64 0) := (blk_cell BK109.out 0).trans rfl
        have hcz126_1 : wc.cell? ⟨gb109,1,none⟩ = some (.int .i64 0) := (blk_cell BK109.out 1).trans rfl
        have hcz126_2 : wc.cell? ⟨gb109,2,none⟩ = some (.int .i64 0) := (blk_cell BK109.out 2).trans rfl
        have hcz126_3 : wc.cell? ⟨gb109,3,none⟩ = some (.int .i64 0) := (blk_cell BK109.out 3).trans rfl
        have hcz126_4 : wc.cell? ⟨gb109,4,none⟩ = some (.int .i64 0) := (blk_cell BK109.out 4).trans rfl
        have hcz126_5 : wc.cell? ⟨gb109,5,none⟩ = some (.string (⟨#[]⟩ : ByteArray)) := (blk_cell BK109.out 5).trans rfl
        have hfz126_0 := blk_frozen BK109.out 0
        have hfz126_1 := blk_frozen BK109.out 1
        have hfz126_2 := blk_frozen BK109.out 2
        have hfz126_3 := blk_frozen BK109.out 3
        have hfz126_4 := blk_frozen BK109.out 4
        have hfz126_5 := blk_frozen BK109.out 5
        go_wp2
        refine bodyPost_ret (results_list (rs := [.cell 4 67,.cell 5 61,.tmp 6]) rfl (by simp) (.cell gb108 67 #[.int .i64 a0_0,.int .i64 a0_1,.string a0_2] (0,0) _ rfl (by (with_reducible repeat (first|refine blk_drewN ?_ _|refine blk_drew ?_|refine blk_alloc ?_ _));refine blk_far ?_ NB108_109.out _;(with_reducible repeat (first|refine blk_drewN ?_ _|refine blk_drew ?_|refine blk_alloc ?_ _));refine blk_far ?_ NB108_109.out _;(with_reducible repeat (first|refine blk_drewN ?_ _|refine blk_drew ?_|refine blk_alloc ?_ _));refine blk_far ?_ NB108_109.out _;(with_reducible repeat (first|refine blk_drewN ?_ _|refine blk_drew ?_|refine blk_alloc ?_ _));refine blk_far ?_ NB108_109.out _;(with_reducible repeat (first|refine blk_drewN ?_ _|refine blk_drew ?_|refine blk_alloc ?_ _));refine blk_far ?_ NB108_109.out _;(with_reducible repeat (first|refine blk_drewN ?_ _|refine blk_drew ?_|refine blk_alloc ?_ _));refine blk_far ?_ NB108_109.out _;(with_reducible repeat (first|refine blk_drewN ?_ _|refine blk_drew ?_|refine blk_alloc ?_ _));refine blk_put (cs := #[.int .i64 a0_0,.int .i64 a0_1,.string (⟨#[]⟩ : ByteArray)]) ?_ 2 _ rfl;(with_reducible repeat (first|refine blk_drewN ?_ _|refine blk_drew ?_|refine blk_alloc ?_ _));refine blk_put (cs := #[.int .i64 a0_0,.int .i64 0,.string (⟨#[]⟩ : ByteArray)]) ?_ 1 _ rfl;(with_reducible repeat (first|refine blk_drewN ?_ _|refine blk_drew ?_|refine blk_alloc ?_ _));refine blk_put (cs := #[.int .i64 0,.int .i64 0,.string (⟨#[]⟩ : ByteArray)]) ?_ 0 _ rfl;(with_reducible repeat (first|refine blk_drewN ?_ _|refine blk_drew ?_|refine blk_alloc ?_ _));exact BK108.out) Try.underlying67 rfl (by kernel_rfl) (.cell gb109 61 #[.int .i64 0,.int .i64 0,.int .i64 0,.int .i64 0,.int .i64 0,.string (⟨#[]⟩ : ByteArray)] (0,0) _ rfl (by (with_reducible repeat (first|refine blk_drewN ?_ _|refine blk_drew ?_|refine blk_alloc ?_ _));refine blk_put (cs := #[.int .i64 0,.int .i64 0,.int .i64 0,.int .i64 0,.int .i64 0,.string (⟨#[]⟩ : ByteArray)]) ?_ 5 _ rfl;(with_reducible repeat (first|refine blk_drewN ?_ _|refine blk_drew ?_|refine blk_alloc ?_ _));refine blk_put (cs := #[.int .i64 0,.int .i64 0,.int .i64 0,.int .i64 0,.int .i64 0,.string (⟨#[]⟩ : ByteArray)]) ?_ 4 _ rfl;(with_reducible repeat (first|refine blk_drewN ?_ _|refine blk_drew ?_|refine blk_alloc ?_ _));refine blk_put (cs := #[.int .i64 0,.int .i64 0,.int .i64 0,.int .i64 0,.int .i64 0,.string (⟨#[]⟩ : ByteArray)]) ?_ 3 _ rfl;(with_reducible repeat (first|refine blk_drewN ?_ _|refine blk_drew ?_|refine blk_alloc ?_ _));refine blk_put (cs := #[.int .i64 0,.int .i64 0,.int .i64 0,.int .i64 0,.int .i64 0,.string (⟨#[]⟩ : ByteArray)]) ?_ 2 _ rfl;(with_reducible repeat (first|refine blk_drewN ?_ _|refine blk_drew ?_|refine blk_alloc ?_ _));refine blk_put (cs := #[.int .i64 0,.int .i64 0,.int .i64 0,.int .i64 0,.int .i64 0,.string (⟨#[]⟩ : ByteArray)]) ?_ 1 _ rfl;(with_reducible repeat (first|refine blk_drewN ?_ _|refine blk_drew ?_|refine blk_alloc ?_ _));refine blk_put (cs := #[.int .i64 0,.int .i64 0,.int .i64 0,.int .i64 0,.int .i64 0,.string (⟨#[]⟩ : ByteArray)]) ?_ 0 _ rfl;(with_reducible repeat (first|refine blk_drewN ?_ _|refine blk_drew ?_|refine blk_alloc ?_ _));refine blk_far ?_ NB109_108.out _;(with_reducible repeat (first|refine blk_drewN ?_ _|refine blk_drew ?_|refine blk_alloc ?_ _));refine blk_far ?_ NB109_108.out _;(with_reducible repeat (first|refine blk_drewN ?_ _|refine blk_drew ?_|refine blk_alloc ?_ _));refine blk_far ?_ NB109_108.out _;(with_reducible repeat (first|refine blk_drewN ?_ _|refine blk_drew ?_|refine blk_alloc ?_ _));exact BK109.out) Try.underlying61 rfl (by kernel_rfl) (.tmp .nil)))) rfl ?_
        exact ⟨by first|rfl|(simp [errW_none,errW_some] <;> rfl)|(simp [*,errW_none,errW_some] <;> rfl),by repeat (first|(with_reducible first|exact HB.out|apply below_alloc|apply pw_below_drewN|apply below_drew1|refine below_set ?_ GE106.out|refine below_set ?_ GE107.out|refine below_set ?_ GE108.out|refine below_set ?_ GE109.out)|exact HB.out)⟩

end Go.Proofs.Ytocgakpicmcemaa.PFnExactHearNote
