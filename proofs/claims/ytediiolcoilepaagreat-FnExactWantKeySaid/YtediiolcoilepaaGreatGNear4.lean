/- Walks of callees. -/
import Derived.Test.YtediiolcoilepaaGreatGNear0
import Derived.Test.YtediiolcoilepaaGreatGNear3
namespace Go.Proofs.YtediiolcoilepaaGreat.GNear
set_option maxHeartbeats 8000000
set_option maxRecDepth 100000
open Go.RowKit Go.Proofs.YtediiolcoilepaaGreatW.PrintWords Go.Proofs.YtediiolcoilepaaGreatW.PrintLast Go.Proofs.YtediiolcoilepaaGreatW.PrintMore
attribute [local go_sem] max2_int min2_int max_two min_two max_three min_three max_four min_four
set_option linter.unusedVariables false
set_option linter.unusedSimpArgs false
theorem zc4 {w w1:World} {a:Addr} {v:Value} (hb:Below w.heap.size w w1) (h:w.cell? a=some v):w1.cell? a=some v:=(hb.cell (World.block_lt_of_cell? w _ h)).trans h
def impl_ArenaOk.l0:Nat→List (S94)→Int→Int→List (S94)→Int→Option (Bool)
|0,_,_,_,_,_=>none
|k+1,x6,x7,x8,x341000,x341001=>if x8 < x7 then (if 0≤x8 then (if x8 < (x6.length:Int) then ((impl_slotOk.f ((rd_T94 x6 x8).f0) ((rd_T94 x6 x8).f1) ((rd_T94 x6 x8).f2) ((rd_T94 x6 x8).f3) ((rd_T94 x6 x8).f4)).bind fun t343=>(if t343=true then (impl_ArenaOk.l0 k x6 x7 (wrap64 (x8+1)) x341000 x341001) else (some false))) else (none)) else (none)) else ((impl_inRange.f (x341000.length:Int) 1 24).bind fun t344=>(if t344=true then ((impl_Arena_chain.f k x341000 x341001).bind fun t345=>((impl_Arena_used.f k x341000 x341001).bind fun t346=>(some (t345 == (wrap64 ((x341000.length:Int) - t346)))))) else (some false)))
def impl_ArenaOk.f (k:Nat) (l0_0:List (S94)) (a0_1:Int):Option (Bool):=impl_ArenaOk.l0 k l0_0 (l0_0.length:Int) 0 l0_0 a0_1
def impl_ArenaOk.T7:Bool × List (List Nat × List Nat):=(true,[([],[]),([0],[0]),([1],[1]),([2],[2]),([3,3],[3]),([4],[4]),([5,4,4],[4,5]),([4],[4]),([7,4],[4,7]),([8,4],[4,8]),([4],[4]),([10,6,4],[4,10]),([9,11,4],[4,9,11]),([6,12,4],[4,6,12]),([4,13],[4,13]),([14,11,0,1,2,3,4,5,6,7,8,9,10,11,12,13,14],[14])])
def impl_ArenaOk.B7:List Nat:=[0,1,3,7,15,31,63,31,159,415,31,1151,4095,8191,16383,32767]
theorem impl_ArenaOk.tab7:rtab .any (opsOf Tryz.f125 7)=impl_ArenaOk.T7:=by kernel_rfl
theorem impl_ArenaOk.bits7:waitsOk impl_ArenaOk.T7.2 impl_ArenaOk.B7=true:=by kernel_rfl
theorem impl_ArenaOk.calls (k:Nat) (A0_0:Option Addr) (c0_0:Nat) (l0_0:List (S94)) (a0_1:Int) (r:Bool) (w:World) (hr0_0:Kd.C k94 w A0_0 l0_0.length l0_0) (hc0_0:l0_0.length≤c0_0) (h:impl_ArenaOk.f k l0_0 a0_1=some r) :
  Calls Tryz.prog 125 #[.agg #[.slice A0_0 l0_0.length c0_0,.int .i64 a0_1]] w fun e w'=>e=.returned (.bool r)∧Below w.heap.size w w':=by
 have hu42:=Tryz.underlying42;have hu94:=Tryz.underlying94;have HR0_0:=Aside0.mk hr0_0;have HC0_0:=Aside0.mk hc0_0;clear hr0_0 hc0_0;have HB:=Aside0.mk (Below.refl w.heap.size w);unfold impl_ArenaOk.f at h;have H:=h;clear h;have H':=Aside0.mk H;clear H;go_enter Tryz.func125,Tryz.ntmps125;go_wp2_with (first|((with_reducible refine gate_dst (N:=1) rfl ?_);(try(refine gate_guard (by rfl) ?_;dsimp only));refine yE (N:=1) (cs:=#[.slice A0_0 l0_0.length c0_0,.int .i64 a0_1]) (t:=42) fun gb340 hg w2 hbox hb=>?_;obtain⟨n0_,n2_⟩:=yX (w:=w) hg hb mq;have n1_:=Aside0.mk (hbox);have n3_:=n2_;clear HB;have HB:=n0_;have BK340:=n1_;have GW340:=n2_;have GE340:=n3_;clear n0_ n1_ n2_ n3_;clear hb hbox hg;obtain⟨hcz3_0,hcz3_1,hfz3_0,hfz3_1⟩:=zb2 BK340.out))
 go_loopg [8] k (fun kq v8 w'=>∃ (x8_1:Int),v8=.int .i64 x8_1∧Aside0 (impl_ArenaOk.l0 kq l0_0 (l0_0.length:Int) x8_1 l0_0 a0_1=some r)∧Aside0 (kq≤k)∧Aside0 (w'.heap[gb340]? = some (.cells #[(.slice A0_0 l0_0.length c0_0),.int .i64 a0_1] 42 (0,0)))∧Aside0 (Below w.heap.size w w'))
 case atStart=>exact⟨(0),mt,H',⟨Nat.le_refl _⟩,⟨mz BK340.out⟩,⟨mq⟩⟩
 case round =>
  clear H';obtain⟨x8_1,rfl,HA,HK1,BK340,HB⟩:=hrel;cases gk with
 |zero=>exact absurd HA.out (by simp[impl_ArenaOk.l0])
 |succ k1 =>
   have H:=HA.out;clear HA;simp only [impl_ArenaOk.l0] at H;by_cases c4:x8_1 < (l0_0.length:Int)
   ·rw[if_pos c4] at H
    have c4b0:decide (x8_1 < (l0_0.length:Int))=true:=decide_eq_true c4;clear c4;by_cases c5:0≤x8_1
    ·rw[if_pos c5] at H
     have c5b0:decide (0≤x8_1)=true:=decide_eq_true c5;clear c5;by_cases c6:x8_1 < (l0_0.length:Int)
     ·rw[if_pos c6] at H
      have c6b0:decide (x8_1 < (l0_0.length:Int))=true:=decide_eq_true c6;clear c6;replace H:=Option.bind_eq_some_iff.mp H;obtain⟨t343,A70,H⟩:=H;(try dsimp only at H)
      have A7:=Aside0.mk A70;clear A70;by_cases c8:t343=true
      ·subst c8
       rw[if_pos rfl] at H;have H':=Aside0.mk H;clear H;have p341:0≤(x8_1:Int):=mo;have q341:x8_1 < (l0_0.length:Int):=mo;obtain⟨ad341,e341,hx341_0,hx341_1,hx341_2,hx341_3,hx341_4⟩:=at_T94 (Kd.C_below HR0_0.out HB.out) x8_1 p341 q341;cases e341;replace p341:=eq_true p341;replace q341:=eq_true q341;go_wp2_with (first|((with_reducible refine gate_dst (N:=4) rfl ?_);(try(refine gate_guard (by rfl) ?_;dsimp only));refine yE (N:=4) (cs:=#[.int .i64 0,.bool false,.string (⟨#[]⟩:ByteArray),.string (⟨#[]⟩:ByteArray),.int .i64 0]) (t:=94) fun gb342 hg w9 hbox hb=>?_;obtain⟨n0_,n5_,n6_⟩:=yY hg hb (mz BK340.out);obtain⟨n1_,n3_⟩:=yX (w:=w) hg hb mq;have n2_:=Aside0.mk (hbox);have n4_:=n3_;clear BK340;clear HB;have BK340:=n0_;have HB:=n1_;have BK342:=n2_;have GW342:=n3_;have GE342:=n4_;have NB340_342:=n5_;have NB342_340:=n6_;clear n0_ n1_ n2_ n3_ n4_ n5_ n6_;clear hb hbox hg;have hnb10:=NB342_340.out;have hnc10:=NB340_342.out;obtain⟨hcz11_0,hcz11_1,hcz11_2,hcz11_3,hcz11_4,hfz11_0,hfz11_1,hfz11_2,hfz11_3,hfz11_4⟩:=zb5 BK342.out)|((with_reducible refine gate_callee (f:=190) rfl ?_);refine goesL_ (some 13) rfl rfl Tryz.func190 (by kernel_rfl) rfl #[.agg #[.int .i64 ((rd_T94 l0_0 x8_1).f0),.bool ((rd_T94 l0_0 x8_1).f1),.string ((rd_T94 l0_0 x8_1).f2),.string ((rd_T94 l0_0 x8_1).f3),.int .i64 ((rd_T94 l0_0 x8_1).f4)]] rfl ml ?_;(with_reducible refine(impl_slotOk.calls ((rd_T94 l0_0 x8_1).f0) ((rd_T94 l0_0 x8_1).f1) ((rd_T94 l0_0 x8_1).f2) ((rd_T94 l0_0 x8_1).f3) ((rd_T94 l0_0 x8_1).f4) true _ A7.out).mono ?_);rintro e w12 ⟨rfl,hb⟩;refine⟨_,rfl,?_⟩;have n0_:=Aside0.mk (zK (g:=gb340) (o:=.cells #[.slice (some ad341) l0_0.length c0_0,.int .i64 a0_1] 42 (0,0)) (by(with_reducible repeat(first|apply zA|apply zC|apply zB));refine zT ?_ NB340_342.out _;(with_reducible repeat(first|apply zA|apply zC|apply zB));refine zT ?_ NB340_342.out _;(with_reducible repeat(first|apply zA|apply zC|apply zB));refine zT ?_ NB340_342.out _;(with_reducible repeat(first|apply zA|apply zC|apply zB));refine zT ?_ NB340_342.out _;(with_reducible repeat(first|apply zA|apply zC|apply zB));refine zT ?_ NB340_342.out _;(with_reducible repeat(first|apply zA|apply zC|apply zB));exact BK340.out) hb);have n1_:=Aside0.mk (zK (g:=gb342) (o:=.cells #[.int .i64 ((rd_T94 l0_0 x8_1).f0),.bool ((rd_T94 l0_0 x8_1).f1),.string ((rd_T94 l0_0 x8_1).f2),.string ((rd_T94 l0_0 x8_1).f3),.int .i64 ((rd_T94 l0_0 x8_1).f4)] 94 (0,0)) (by(with_reducible repeat(first|apply zA|apply zC|apply zB));refine blk_put (cs:=#[.int .i64 ((rd_T94 l0_0 x8_1).f0),.bool ((rd_T94 l0_0 x8_1).f1),.string ((rd_T94 l0_0 x8_1).f2),.string ((rd_T94 l0_0 x8_1).f3),.int .i64 0]) ?_ 4 _ rfl;(with_reducible repeat(first|apply zA|apply zC|apply zB));refine blk_put (cs:=#[.int .i64 ((rd_T94 l0_0 x8_1).f0),.bool ((rd_T94 l0_0 x8_1).f1),.string ((rd_T94 l0_0 x8_1).f2),.string (⟨#[]⟩:ByteArray),.int .i64 0]) ?_ 3 _ rfl;(with_reducible repeat(first|apply zA|apply zC|apply zB));refine blk_put (cs:=#[.int .i64 ((rd_T94 l0_0 x8_1).f0),.bool ((rd_T94 l0_0 x8_1).f1),.string (⟨#[]⟩:ByteArray),.string (⟨#[]⟩:ByteArray),.int .i64 0]) ?_ 2 _ rfl;(with_reducible repeat(first|apply zA|apply zC|apply zB));refine blk_put (cs:=#[.int .i64 ((rd_T94 l0_0 x8_1).f0),.bool false,.string (⟨#[]⟩:ByteArray),.string (⟨#[]⟩:ByteArray),.int .i64 0]) ?_ 1 _ rfl;(with_reducible repeat(first|apply zA|apply zC|apply zB));refine blk_put (cs:=#[.int .i64 0,.bool false,.string (⟨#[]⟩:ByteArray),.string (⟨#[]⟩:ByteArray),.int .i64 0]) ?_ 0 _ rfl;(with_reducible repeat(first|apply zA|apply zC|apply zB));exact BK342.out) hb);have n2_:=Aside0.mk (zN mq hb);clear BK340;clear BK342;clear HB;have BK340:=n0_;have BK342:=n1_;have HB:=n2_;clear n0_ n1_ n2_;(try clear hb);(try clear hb2);(try clear hk);(try clear hi)))
       go_roundg k1
       case measure=>have:=HK1.out;omega
       case rel=>exact⟨(wrap64 (x8_1+1)),mt,H',⟨by have:=HK1.out;omega⟩,⟨mz BK340.out⟩,⟨mq⟩⟩
      ·replace c8:=Bool.eq_false_iff.mpr c8
       subst c8;rw[if_neg (show ¬ (false=true) by decide)] at H;obtain rfl:=Option.some.inj H;have p341:0≤(x8_1:Int):=mo;have q341:x8_1 < (l0_0.length:Int):=mo;obtain⟨ad341,e341,hx341_0,hx341_1,hx341_2,hx341_3,hx341_4⟩:=at_T94 (Kd.C_below HR0_0.out HB.out) x8_1 p341 q341;cases e341;replace p341:=eq_true p341;replace q341:=eq_true q341;go_wp2_with (first|((with_reducible refine gate_dst (N:=4) rfl ?_);(try(refine gate_guard (by rfl) ?_;dsimp only));refine yE (N:=4) (cs:=#[.int .i64 0,.bool false,.string (⟨#[]⟩:ByteArray),.string (⟨#[]⟩:ByteArray),.int .i64 0]) (t:=94) fun gb342 hg w13 hbox hb=>?_;obtain⟨n0_,n5_,n6_⟩:=yY hg hb (mz BK340.out);obtain⟨n1_,n3_⟩:=yX (w:=w) hg hb mq;have n2_:=Aside0.mk (hbox);have n4_:=n3_;clear BK340;clear HB;have BK340:=n0_;have HB:=n1_;have BK342:=n2_;have GW342:=n3_;have GE342:=n4_;have NB340_342:=n5_;have NB342_340:=n6_;clear n0_ n1_ n2_ n3_ n4_ n5_ n6_;clear hb hbox hg;have hnb14:=NB342_340.out;have hnc14:=NB340_342.out;obtain⟨hcz15_0,hcz15_1,hcz15_2,hcz15_3,hcz15_4,hfz15_0,hfz15_1,hfz15_2,hfz15_3,hfz15_4⟩:=zb5 BK342.out)|((with_reducible refine gate_callee (f:=190) rfl ?_);refine goesL_ (some 13) rfl rfl Tryz.func190 (by kernel_rfl) rfl #[.agg #[.int .i64 ((rd_T94 l0_0 x8_1).f0),.bool ((rd_T94 l0_0 x8_1).f1),.string ((rd_T94 l0_0 x8_1).f2),.string ((rd_T94 l0_0 x8_1).f3),.int .i64 ((rd_T94 l0_0 x8_1).f4)]] rfl ml ?_;(with_reducible refine(impl_slotOk.calls ((rd_T94 l0_0 x8_1).f0) ((rd_T94 l0_0 x8_1).f1) ((rd_T94 l0_0 x8_1).f2) ((rd_T94 l0_0 x8_1).f3) ((rd_T94 l0_0 x8_1).f4) false _ A7.out).mono ?_);rintro e w16 ⟨rfl,hb⟩;refine⟨_,rfl,?_⟩;have n0_:=Aside0.mk (zK (g:=gb340) (o:=.cells #[.slice (some ad341) l0_0.length c0_0,.int .i64 a0_1] 42 (0,0)) (by(with_reducible repeat(first|apply zA|apply zC|apply zB));refine zT ?_ NB340_342.out _;(with_reducible repeat(first|apply zA|apply zC|apply zB));refine zT ?_ NB340_342.out _;(with_reducible repeat(first|apply zA|apply zC|apply zB));refine zT ?_ NB340_342.out _;(with_reducible repeat(first|apply zA|apply zC|apply zB));refine zT ?_ NB340_342.out _;(with_reducible repeat(first|apply zA|apply zC|apply zB));refine zT ?_ NB340_342.out _;(with_reducible repeat(first|apply zA|apply zC|apply zB));exact BK340.out) hb);have n1_:=Aside0.mk (zK (g:=gb342) (o:=.cells #[.int .i64 ((rd_T94 l0_0 x8_1).f0),.bool ((rd_T94 l0_0 x8_1).f1),.string ((rd_T94 l0_0 x8_1).f2),.string ((rd_T94 l0_0 x8_1).f3),.int .i64 ((rd_T94 l0_0 x8_1).f4)] 94 (0,0)) (by(with_reducible repeat(first|apply zA|apply zC|apply zB));refine blk_put (cs:=#[.int .i64 ((rd_T94 l0_0 x8_1).f0),.bool ((rd_T94 l0_0 x8_1).f1),.string ((rd_T94 l0_0 x8_1).f2),.string ((rd_T94 l0_0 x8_1).f3),.int .i64 0]) ?_ 4 _ rfl;(with_reducible repeat(first|apply zA|apply zC|apply zB));refine blk_put (cs:=#[.int .i64 ((rd_T94 l0_0 x8_1).f0),.bool ((rd_T94 l0_0 x8_1).f1),.string ((rd_T94 l0_0 x8_1).f2),.string (⟨#[]⟩:ByteArray),.int .i64 0]) ?_ 3 _ rfl;(with_reducible repeat(first|apply zA|apply zC|apply zB));refine blk_put (cs:=#[.int .i64 ((rd_T94 l0_0 x8_1).f0),.bool ((rd_T94 l0_0 x8_1).f1),.string (⟨#[]⟩:ByteArray),.string (⟨#[]⟩:ByteArray),.int .i64 0]) ?_ 2 _ rfl;(with_reducible repeat(first|apply zA|apply zC|apply zB));refine blk_put (cs:=#[.int .i64 ((rd_T94 l0_0 x8_1).f0),.bool false,.string (⟨#[]⟩:ByteArray),.string (⟨#[]⟩:ByteArray),.int .i64 0]) ?_ 1 _ rfl;(with_reducible repeat(first|apply zA|apply zC|apply zB));refine blk_put (cs:=#[.int .i64 0,.bool false,.string (⟨#[]⟩:ByteArray),.string (⟨#[]⟩:ByteArray),.int .i64 0]) ?_ 0 _ rfl;(with_reducible repeat(first|apply zA|apply zC|apply zB));exact BK342.out) hb);have n2_:=Aside0.mk (zN mq hb);clear BK340;clear BK342;clear HB;have BK340:=n0_;have BK342:=n1_;have HB:=n2_;clear n0_ n1_ n2_;(try clear hb);(try clear hb2);(try clear hk);(try clear hi)));go_ret;exact⟨mr,mq⟩
     ·rw[if_neg c6] at H
      exact absurd H (by simp)
    ·rw[if_neg c5] at H
     exact absurd H (by simp)
   ·rw[if_neg c4] at H
    have c4b0:decide (x8_1 < (l0_0.length:Int))=false:=decide_eq_false c4;clear c4;replace H:=Option.bind_eq_some_iff.mp H;obtain⟨t344,A170,H⟩:=H;(try dsimp only at H)
    have A17:=Aside0.mk A170;clear A170;by_cases c18:t344=true
    ·subst c18
     rw[if_pos rfl] at H;replace H:=Option.bind_eq_some_iff.mp H;obtain⟨t345,A190,H⟩:=H;(try dsimp only at H)
     have A19:=Aside0.mk A190;clear A190;replace H:=Option.bind_eq_some_iff.mp H;obtain⟨t346,A200,H⟩:=H;(try dsimp only at H)
     have A20:=Aside0.mk A200;clear A200;obtain rfl:=Option.some.inj H;try go_wp2
     have n0_:=Aside0.mk (zC BK340.out);have n1_:=Aside0.mk (zH HB.out);clear BK340;clear HB;have BK340:=n0_;have HB:=n1_;clear n0_ n1_;refine start_ (n:=16) (S:=fun w'=>w'.cell? ⟨gb340,0,none⟩=some (.slice A0_0 l0_0.length c0_0)∧w'.cell? ⟨gb340,1,none⟩=some (.int .i64 a0_1)) (ds:=[]) #[false,false,false,false,false,false,false,false,false,false,false,false,false,false,false,false] (by kernel_rfl) rfl rfl ⟨(zO BK340.out 0).trans rfl,(zO BK340.out 1).trans rfl⟩ (fun hHeld=>?_);refine with_tabW impl_ArenaOk.tab7 impl_ArenaOk.bits7 (fun HT_ HW_=>?_);generalize wr.drew=w21 at BK340 HB hHeld ⊢;refine pure_ (i:=0) (N:=some 16) (v:=?_) (a':=?_) #[true,false,false,false,false,false,false,false,false,false,false,false,false,false,false,false] rfl rfl (any_of HT_.out (by kernel_rfl)) (fun _ _ _ h=>h) (Or.inl ⟨by rfl,?_⟩) ?_ ?_;rotate_left
     ·intro w'
      go_simp
      with_reducible rfl
     rotate_left
     ·simp only [Act.put,List.setIfInBounds_toArray,List.set_cons_zero,List.set_cons_succ,i64_w,i32_w]
      rfl
     refine take_ (i:=1) (N:=some 17) (v:=?_) (a':=?_) #[true,true,false,false,false,false,false,false,false,false,false,false,false,false,false,false] rfl rfl (take_ofW HT_.out HW_.out (by kernel_rfl)) (fun _ _ _ h=>h) (Or.inl ⟨by rfl,?_⟩) hHeld ?_ ?_;rotate_left
     ·rintro w' ⟨s0,s1⟩
      go_simp
      with_reducible rfl
     rotate_left
     ·simp only [Act.put,List.setIfInBounds_toArray,List.set_cons_zero,List.set_cons_succ,i64_w,i32_w]
      rfl
     refine pure_ (i:=2) (N:=some 18) (v:=?_) (a':=?_) #[true,true,true,false,false,false,false,false,false,false,false,false,false,false,false,false] rfl rfl (any_of HT_.out (by kernel_rfl)) (fun _ _ _ h=>h) (Or.inl ⟨by rfl,?_⟩) ?_ ?_;rotate_left
     ·intro w'
      go_simp
      with_reducible rfl
     rotate_left
     ·simp only [Act.put,List.setIfInBounds_toArray,List.set_cons_zero,List.set_cons_succ,i64_w,i32_w]
      rfl
     refine one_ (i:=3) (N:=some 19) #[true,true,true,true,false,false,false,false,false,false,false,false,false,false,false,false] rfl rfl (one_of HT_.out (by kernel_rfl)) (by decide) (fun K hK=>?_);refine goes_ Tryz.func89 (by kernel_rfl) rfl #[.int .i64 (l0_0.length:Int),.int .i64 1,.int .i64 24] (by rfl) rfl rfl ml ?_
     with_reducible refine(impl_inRange.calls (l0_0.length:Int) 1 24 true _ A17.out).mono ?_
     rintro e w' ⟨rfl,⟨nd,rfl⟩⟩;refine⟨_,rfl,?_⟩;refine hK.out _ _ ⟨(zO BK340.out 0).trans rfl,(zO BK340.out 1).trans rfl⟩ (fun hHeld=>?_);clear hK K;refine norm_ (a':=?_) ?_ ?_;rotate_left
     ·show Act.put _ (some 19) _=_
      simp only [Act.put,List.setIfInBounds_toArray,List.set_cons_zero,List.set_cons_succ,i64_w,i32_w];rfl
     refine pure_ (i:=4) (N:=some 20) (v:=?_) (a':=?_) #[true,true,true,true,true,false,false,false,false,false,false,false,false,false,false,false] rfl rfl (any_of HT_.out (by kernel_rfl)) (fun _ _ _ h=>h) (Or.inl ⟨by rfl,?_⟩) ?_ ?_;rotate_left
     ·intro w'
      go_simp
      with_reducible rfl
     rotate_left
     ·simp only [Act.put,List.setIfInBounds_toArray,List.set_cons_zero,List.set_cons_succ,i64_w,i32_w]
      rfl
     refine pure_ (i:=7) (N:=some 23) (v:=?_) (a':=?_) #[true,true,true,true,true,false,false,true,false,false,false,false,false,false,false,false] rfl rfl (any_of HT_.out (by kernel_rfl)) (fun _ _ _ h=>h) (Or.inl ⟨by rfl,?_⟩) ?_ ?_;rotate_left
     ·intro w'
      go_simp
      with_reducible rfl
     rotate_left
     ·simp only [Act.put,List.setIfInBounds_toArray,List.set_cons_zero,List.set_cons_succ,i64_w,i32_w]
      rfl
     refine take_ (i:=5) (N:=some 21) (v:=?_) (a':=?_) #[true,true,true,true,true,true,false,true,false,false,false,false,false,false,false,false] rfl rfl (take_ofW HT_.out HW_.out (by kernel_rfl)) (fun _ _ _ h=>h) (Or.inl ⟨by rfl,?_⟩) hHeld ?_ ?_;rotate_left
     ·rintro w' ⟨s0,s1⟩
      go_simp
      with_reducible rfl
     rotate_left
     ·simp only [Act.put,List.setIfInBounds_toArray,List.set_cons_zero,List.set_cons_succ,i64_w,i32_w]
      rfl
     refine take_ (i:=8) (N:=some 24) (v:=?_) (a':=?_) #[true,true,true,true,true,true,false,true,true,false,false,false,false,false,false,false] rfl rfl (take_ofW HT_.out HW_.out (by kernel_rfl)) (fun _ _ _ h=>h) (Or.inl ⟨by rfl,?_⟩) hHeld ?_ ?_;rotate_left
     ·rintro w' ⟨s0,s1⟩
      go_simp
      with_reducible rfl
     rotate_left
     ·simp only [Act.put,List.setIfInBounds_toArray,List.set_cons_zero,List.set_cons_succ,i64_w,i32_w]
      rfl
     refine pure_ (i:=9) (N:=some 25) (v:=?_) (a':=?_) #[true,true,true,true,true,true,false,true,true,true,false,false,false,false,false,false] rfl rfl (any_of HT_.out (by kernel_rfl)) (fun _ _ _ h=>h) (Or.inl ⟨by rfl,?_⟩) ?_ ?_;rotate_left
     ·intro w'
      go_simp
      with_reducible rfl
     rotate_left
     ·simp only [Act.put,List.setIfInBounds_toArray,List.set_cons_zero,List.set_cons_succ,i64_w,i32_w]
      rfl
     refine take_ (i:=10) (N:=some 26) (v:=?_) (a':=?_) #[true,true,true,true,true,true,false,true,true,true,true,false,false,false,false,false] rfl rfl (take_ofW HT_.out HW_.out (by kernel_rfl)) (fun _ _ _ h=>h) (Or.inl ⟨by rfl,?_⟩) hHeld ?_ ?_;rotate_left
     ·rintro w' ⟨s0,s1⟩
      go_simp
      with_reducible rfl
     rotate_left
     ·simp only [Act.put,List.setIfInBounds_toArray,List.set_cons_zero,List.set_cons_succ,i64_w,i32_w]
      rfl
     refine one_ (i:=6) (N:=some 22) #[true,true,true,true,true,true,true,true,true,true,true,false,false,false,false,false] rfl rfl (one_of HT_.out (by kernel_rfl)) (by decide) (fun K hK=>?_);refine goes_ Tryz.func191 (by kernel_rfl) rfl #[.agg #[.slice A0_0 l0_0.length c0_0,.int .i64 a0_1]] (by rfl) rfl rfl ml ?_
     with_reducible refine(impl_Arena_chain.calls k1 _ _ l0_0 a0_1 t345 _ ?side1 ?side2 A19.out).mono ?_
     (case side1=>exact mc HR0_0.out)
     (case side2=>exact HC0_0.out)
     rintro e w22 ⟨rfl,hb⟩;refine⟨_,rfl,?_⟩;have n0_:=Aside0.mk (zK (mz BK340.out) hb);have n1_:=Aside0.mk (zN mq hb);clear BK340;clear HB;have BK340:=n0_;have HB:=n1_;clear n0_ n1_;(try clear hb)
     (try clear hb2)
     (try clear hk)
     (try clear hi)
     refine hK.out _ _ ⟨(zO BK340.out 0).trans rfl,(zO BK340.out 1).trans rfl⟩ (fun hHeld=>?_);clear hK K;refine norm_ (a':=?_) ?_ ?_;rotate_left
     ·show Act.put _ (some 22) _=_
      simp only [Act.put,List.setIfInBounds_toArray,List.set_cons_zero,List.set_cons_succ,i64_w,i32_w];rfl
     refine one_ (i:=11) (N:=some 27) #[true,true,true,true,true,true,true,true,true,true,true,true,false,false,false,false] rfl rfl (one_of HT_.out (by kernel_rfl)) (by decide) (fun K hK=>?_);refine goes_ Tryz.func64 (by kernel_rfl) rfl #[.agg #[.slice A0_0 l0_0.length c0_0,.int .i64 a0_1]] (by rfl) rfl rfl ml ?_
     with_reducible refine(impl_Arena_used.calls k1 _ _ l0_0 a0_1 t346 _ ?side1 ?side2 A20.out).mono ?_
     (case side1=>exact mc HR0_0.out)
     (case side2=>exact HC0_0.out)
     rintro e w23 ⟨rfl,hb⟩;refine⟨_,rfl,?_⟩;have n0_:=Aside0.mk (zK (mz BK340.out) hb);have n1_:=Aside0.mk (zN mq hb);clear BK340;clear HB;have BK340:=n0_;have HB:=n1_;clear n0_ n1_;(try clear hb)
     (try clear hb2)
     (try clear hk)
     (try clear hi)
     refine hK.out _ _ ⟨(zO BK340.out 0).trans rfl,(zO BK340.out 1).trans rfl⟩ (fun hHeld=>?_);clear hK K;refine norm_ (a':=?_) ?_ ?_;rotate_left
     ·show Act.put _ (some 27) _=_
      simp only [Act.put,List.setIfInBounds_toArray,List.set_cons_zero,List.set_cons_succ,i64_w,i32_w];rfl
     refine pure_ (i:=12) (N:=some 28) (v:=?_) (a':=?_) #[true,true,true,true,true,true,true,true,true,true,true,true,true,false,false,false] rfl rfl (any_of HT_.out (by kernel_rfl)) (fun _ _ _ h=>h) (Or.inl ⟨by rfl,?_⟩) ?_ ?_;rotate_left
     ·intro w'
      go_simp
      with_reducible rfl
     rotate_left
     ·simp only [Act.put,List.setIfInBounds_toArray,List.set_cons_zero,List.set_cons_succ,i64_w,i32_w]
      rfl
     refine pure_ (i:=13) (N:=some 29) (v:=?_) (a':=?_) #[true,true,true,true,true,true,true,true,true,true,true,true,true,true,false,false] rfl rfl (any_of HT_.out (by kernel_rfl)) (fun _ _ _ h=>h) (Or.inl ⟨by rfl,?_⟩) ?_ ?_;rotate_left
     ·intro w'
      go_simp
      with_reducible rfl
     rotate_left
     ·simp only [Act.put,List.setIfInBounds_toArray,List.set_cons_zero,List.set_cons_succ,i64_w,i32_w]
      rfl
     refine pure_ (i:=14) (N:=some 30) (v:=?_) (a':=?_) #[true,true,true,true,true,true,true,true,true,true,true,true,true,true,true,false] rfl rfl (any_of HT_.out (by kernel_rfl)) (fun _ _ _ h=>h) (Or.inl ⟨by rfl,?_⟩) ?_ ?_;rotate_left
     ·intro w'
      go_simp
      with_reducible rfl
     rotate_left
     ·simp only [Act.put,List.setIfInBounds_toArray,List.set_cons_zero,List.set_cons_succ,i64_w,i32_w]
      rfl
     refine pure_ (i:=15) (N:=some 2) (v:=?_) (a':=?_) #[true,true,true,true,true,true,true,true,true,true,true,true,true,true,true,true] rfl rfl (any_of HT_.out (by kernel_rfl)) (fun _ _ _ h=>h) (Or.inl ⟨by rfl,?_⟩) ?_ ?_;rotate_left
     ·intro w'
      go_simp
      with_reducible rfl
     rotate_left
     ·simp only [Act.put,List.setIfInBounds_toArray,List.set_cons_zero,List.set_cons_succ,i64_w,i32_w]
      rfl
     refine done_ (done_of HT_.out (by kernel_rfl)) ?_
     try go_wp2
     go_ret;exact⟨mr,mq⟩
    ·replace c18:=Bool.eq_false_iff.mpr c18
     subst c18;rw[if_neg (show ¬ (false=true) by decide)] at H;obtain rfl:=Option.some.inj H;try go_wp2
     have n0_:=Aside0.mk (zC BK340.out);have n1_:=Aside0.mk (zH HB.out);clear BK340;clear HB;have BK340:=n0_;have HB:=n1_;clear n0_ n1_;refine start_ (n:=16) (S:=fun w'=>w'.cell? ⟨gb340,0,none⟩=some (.slice A0_0 l0_0.length c0_0)∧w'.cell? ⟨gb340,1,none⟩=some (.int .i64 a0_1)) (ds:=[]) #[false,false,false,false,false,false,false,false,false,false,false,false,false,false,false,false] (by kernel_rfl) rfl rfl ⟨(zO BK340.out 0).trans rfl,(zO BK340.out 1).trans rfl⟩ (fun hHeld=>?_);refine with_tabW impl_ArenaOk.tab7 impl_ArenaOk.bits7 (fun HT_ HW_=>?_);generalize wr.drew=w24 at BK340 HB hHeld ⊢;refine pure_ (i:=0) (N:=some 16) (v:=?_) (a':=?_) #[true,false,false,false,false,false,false,false,false,false,false,false,false,false,false,false] rfl rfl (any_of HT_.out (by kernel_rfl)) (fun _ _ _ h=>h) (Or.inl ⟨by rfl,?_⟩) ?_ ?_;rotate_left
     ·intro w'
      go_simp
      with_reducible rfl
     rotate_left
     ·simp only [Act.put,List.setIfInBounds_toArray,List.set_cons_zero,List.set_cons_succ,i64_w,i32_w]
      rfl
     refine take_ (i:=1) (N:=some 17) (v:=?_) (a':=?_) #[true,true,false,false,false,false,false,false,false,false,false,false,false,false,false,false] rfl rfl (take_ofW HT_.out HW_.out (by kernel_rfl)) (fun _ _ _ h=>h) (Or.inl ⟨by rfl,?_⟩) hHeld ?_ ?_;rotate_left
     ·rintro w' ⟨s0,s1⟩
      go_simp
      with_reducible rfl
     rotate_left
     ·simp only [Act.put,List.setIfInBounds_toArray,List.set_cons_zero,List.set_cons_succ,i64_w,i32_w]
      rfl
     refine pure_ (i:=2) (N:=some 18) (v:=?_) (a':=?_) #[true,true,true,false,false,false,false,false,false,false,false,false,false,false,false,false] rfl rfl (any_of HT_.out (by kernel_rfl)) (fun _ _ _ h=>h) (Or.inl ⟨by rfl,?_⟩) ?_ ?_;rotate_left
     ·intro w'
      go_simp
      with_reducible rfl
     rotate_left
     ·simp only [Act.put,List.setIfInBounds_toArray,List.set_cons_zero,List.set_cons_succ,i64_w,i32_w]
      rfl
     refine one_ (i:=3) (N:=some 19) #[true,true,true,true,false,false,false,false,false,false,false,false,false,false,false,false] rfl rfl (one_of HT_.out (by kernel_rfl)) (by decide) (fun K hK=>?_);refine goes_ Tryz.func89 (by kernel_rfl) rfl #[.int .i64 (l0_0.length:Int),.int .i64 1,.int .i64 24] (by rfl) rfl rfl ml ?_
     with_reducible refine(impl_inRange.calls (l0_0.length:Int) 1 24 false _ A17.out).mono ?_
     rintro e w' ⟨rfl,⟨nd,rfl⟩⟩;refine⟨_,rfl,?_⟩;refine hK.out _ _ ⟨(zO BK340.out 0).trans rfl,(zO BK340.out 1).trans rfl⟩ (fun hHeld=>?_);clear hK K;refine norm_ (a':=?_) ?_ ?_;rotate_left
     ·show Act.put _ (some 19) _=_
      simp only [Act.put,List.setIfInBounds_toArray,List.set_cons_zero,List.set_cons_succ,i64_w,i32_w];rfl
     refine pure_ (i:=4) (N:=some 20) (v:=?_) (a':=?_) #[true,true,true,true,true,false,false,false,false,false,false,false,false,false,false,false] rfl rfl (any_of HT_.out (by kernel_rfl)) (fun _ _ _ h=>h) (Or.inl ⟨by rfl,?_⟩) ?_ ?_;rotate_left
     ·intro w'
      go_simp
      with_reducible rfl
     rotate_left
     ·simp only [Act.put,List.setIfInBounds_toArray,List.set_cons_zero,List.set_cons_succ,i64_w,i32_w]
      rfl
     refine pure_ (i:=5) (N:=some 21) (v:=undef) (a':=?_) #[true,true,true,true,true,true,false,false,false,false,false,false,false,false,false,false] rfl rfl (any_of HT_.out (by kernel_rfl)) (fun _ _ _ h=>h) (Or.inr ⟨by rfl,rfl⟩) ?_ ?_;rotate_left
     ·simp only [Act.put,List.setIfInBounds_toArray,List.set_cons_zero,List.set_cons_succ,i64_w,i32_w]
      rfl
     refine pure_ (i:=6) (N:=some 22) (v:=undef) (a':=?_) #[true,true,true,true,true,true,true,false,false,false,false,false,false,false,false,false] rfl rfl (any_of HT_.out (by kernel_rfl)) (fun _ _ _ h=>h) (Or.inr ⟨by rfl,rfl⟩) ?_ ?_;rotate_left
     ·simp only [Act.put,List.setIfInBounds_toArray,List.set_cons_zero,List.set_cons_succ,i64_w,i32_w]
      rfl
     refine pure_ (i:=7) (N:=some 23) (v:=undef) (a':=?_) #[true,true,true,true,true,true,true,true,false,false,false,false,false,false,false,false] rfl rfl (any_of HT_.out (by kernel_rfl)) (fun _ _ _ h=>h) (Or.inr ⟨by rfl,rfl⟩) ?_ ?_;rotate_left
     ·simp only [Act.put,List.setIfInBounds_toArray,List.set_cons_zero,List.set_cons_succ,i64_w,i32_w]
      rfl
     refine pure_ (i:=8) (N:=some 24) (v:=undef) (a':=?_) #[true,true,true,true,true,true,true,true,true,false,false,false,false,false,false,false] rfl rfl (any_of HT_.out (by kernel_rfl)) (fun _ _ _ h=>h) (Or.inr ⟨by rfl,rfl⟩) ?_ ?_;rotate_left
     ·simp only [Act.put,List.setIfInBounds_toArray,List.set_cons_zero,List.set_cons_succ,i64_w,i32_w]
      rfl
     refine pure_ (i:=9) (N:=some 25) (v:=undef) (a':=?_) #[true,true,true,true,true,true,true,true,true,true,false,false,false,false,false,false] rfl rfl (any_of HT_.out (by kernel_rfl)) (fun _ _ _ h=>h) (Or.inr ⟨by rfl,rfl⟩) ?_ ?_;rotate_left
     ·simp only [Act.put,List.setIfInBounds_toArray,List.set_cons_zero,List.set_cons_succ,i64_w,i32_w]
      rfl
     refine pure_ (i:=10) (N:=some 26) (v:=undef) (a':=?_) #[true,true,true,true,true,true,true,true,true,true,true,false,false,false,false,false] rfl rfl (any_of HT_.out (by kernel_rfl)) (fun _ _ _ h=>h) (Or.inr ⟨by rfl,rfl⟩) ?_ ?_;rotate_left
     ·simp only [Act.put,List.setIfInBounds_toArray,List.set_cons_zero,List.set_cons_succ,i64_w,i32_w]
      rfl
     refine pure_ (i:=11) (N:=some 27) (v:=undef) (a':=?_) #[true,true,true,true,true,true,true,true,true,true,true,true,false,false,false,false] rfl rfl (any_of HT_.out (by kernel_rfl)) (fun _ _ _ h=>h) (Or.inr ⟨by rfl,rfl⟩) ?_ ?_;rotate_left
     ·simp only [Act.put,List.setIfInBounds_toArray,List.set_cons_zero,List.set_cons_succ,i64_w,i32_w]
      rfl
     refine pure_ (i:=12) (N:=some 28) (v:=undef) (a':=?_) #[true,true,true,true,true,true,true,true,true,true,true,true,true,false,false,false] rfl rfl (any_of HT_.out (by kernel_rfl)) (fun _ _ _ h=>h) (Or.inr ⟨by rfl,rfl⟩) ?_ ?_;rotate_left
     ·simp only [Act.put,List.setIfInBounds_toArray,List.set_cons_zero,List.set_cons_succ,i64_w,i32_w]
      rfl
     refine pure_ (i:=13) (N:=some 29) (v:=undef) (a':=?_) #[true,true,true,true,true,true,true,true,true,true,true,true,true,true,false,false] rfl rfl (any_of HT_.out (by kernel_rfl)) (fun _ _ _ h=>h) (Or.inr ⟨by rfl,rfl⟩) ?_ ?_;rotate_left
     ·simp only [Act.put,List.setIfInBounds_toArray,List.set_cons_zero,List.set_cons_succ,i64_w,i32_w]
      rfl
     refine pure_ (i:=14) (N:=some 30) (v:=?_) (a':=?_) #[true,true,true,true,true,true,true,true,true,true,true,true,true,true,true,false] rfl rfl (any_of HT_.out (by kernel_rfl)) (fun _ _ _ h=>h) (Or.inl ⟨by rfl,?_⟩) ?_ ?_;rotate_left
     ·intro w'
      go_simp
      with_reducible rfl
     rotate_left
     ·simp only [Act.put,List.setIfInBounds_toArray,List.set_cons_zero,List.set_cons_succ,i64_w,i32_w]
      rfl
     refine pure_ (i:=15) (N:=some 2) (v:=?_) (a':=?_) #[true,true,true,true,true,true,true,true,true,true,true,true,true,true,true,true] rfl rfl (any_of HT_.out (by kernel_rfl)) (fun _ _ _ h=>h) (Or.inl ⟨by rfl,?_⟩) ?_ ?_;rotate_left
     ·intro w'
      go_simp
      with_reducible rfl
     rotate_left
     ·simp only [Act.put,List.setIfInBounds_toArray,List.set_cons_zero,List.set_cons_succ,i64_w,i32_w]
      rfl
     refine done_ (done_of HT_.out (by kernel_rfl)) ?_
     try go_wp2
     go_ret;exact⟨mr,mq⟩
section
structure Flat {α:Type} (d:Kd α) (enc:α→List Value):Prop where
 E:d.E = []
 K:∀ w x cs,d.K w x cs ↔ cs=enc x
 M:∀ w base ok x cs,d.M w base ok x cs ↔ cs=enc x
 len:∀ x,(enc x).length=d.sz
 one:∀ x,∀ v ∈ enc x,v.oneCell'=true
theorem take_drop_flat {α:Type} (enc:α→List Value) (sz:Nat) (hl:∀ x,(enc x).length=sz):∀ (xs:List α) (j:Nat) (x:α),xs[j]? = some x→((xs.flatMap enc).drop (j * sz)).take sz=enc x
|[],j,x,h=>by simp at h
|y :: ys,0,x,h=>by
  obtain rfl:=Option.some.inj h;rw[List.flatMap_cons,Nat.zero_mul,List.drop_zero,List.take_left' (hl y)]
|y :: ys,j+1,x,h=>by
  rw[List.flatMap_cons,Nat.succ_mul,Nat.add_comm,← List.drop_drop,List.drop_left' (hl y)];exact take_drop_flat enc sz hl ys j x h
theorem flat_length {α:Type} (enc:α→List Value) (sz:Nat) (hl:∀ x,(enc x).length=sz):∀ (xs:List α),(xs.flatMap enc).length=xs.length * sz
|[]=>by simp
|y :: ys=>by rw[List.flatMap_cons,List.length_append,hl,flat_length enc sz hl ys,List.length_cons,Nat.succ_mul,Nat.add_comm]
theorem reps_flat {α:Type} (enc:α→List Value) (sz:Nat) (hl:∀ x,(enc x).length=sz) {R:α→List Value→Prop} (hR:∀ x cs,R x cs ↔ cs=enc x) :
  ∀ (xs:List α) (cs:List Value),Reps R sz xs cs ↔ cs=xs.flatMap enc
|[],cs=>by
  constructor
  ·rintro ⟨h,_⟩
   rw[List.length_nil,Nat.zero_mul] at h;rw[List.eq_nil_of_length_eq_zero h];rfl
  ·rintro rfl;exact Reps.none _ _
|y :: ys,cs=>by
  constructor
  ·rintro ⟨h,hr⟩
   have h0:cs.take sz=enc y:=by
    have:=(hR _ _).1 (hr 0 y rfl)
    rwa [Nat.zero_mul,List.drop_zero] at this
   have h1:=(reps_flat enc sz hl hR ys (cs.drop sz)).1 ⟨by rw[List.length_drop,h,List.length_cons,Nat.succ_mul];omega,fun j p hj=>by
    have:=hr (j+1) p hj
    rwa [Nat.succ_mul,Nat.add_comm,← List.drop_drop] at this⟩
   rw[List.flatMap_cons,← h0,← h1,List.take_append_drop]
  ·rintro rfl
   exact⟨flat_length enc sz hl _,fun j p hj=>(hR _ _).2 (take_drop_flat enc sz hl _ j p hj)⟩
theorem row_flat {α:Type} {d:Kd α} {enc:α→List Value} (F:Flat d enc) {e base:Nat} {ok:Nat→Prop} {w:World} {A:Option Addr} {n c:Nat} {xs:List α} (h:d.R e w base ok (.slice A n c) xs) :
  n=xs.length∧((A=none∧n=0∧c=0) ∨ ∃ g cur,A=some ⟨g,0,none⟩∧ok g∧base≤g∧w.heap[g]? = some (.cells cur e (0,0))∧n≤c∧c≤maxLen∧cur.size=c * d.sz∧cur.toList.take (n * d.sz)=xs.flatMap enc):=by
 obtain⟨h0,inner,⟨hlen,ho⟩,hr⟩:=h;obtain rfl:=(reps_flat enc d.sz F.len (fun x cs=>F.M _ _ _ x cs) xs inner).1 hr
 rcases ho with ⟨hv,hn⟩|⟨g,cap,cur,hv,hb,hc,hn,hm,hs,ht⟩
 ·obtain⟨rfl,rfl,rfl⟩:=Value.slice.inj hv
  exact⟨hn.symm,.inl ⟨rfl,rfl,rfl⟩⟩
 ·obtain⟨rfl,rfl,rfl⟩:=Value.slice.inj hv
  exact⟨rfl,.inr ⟨g,cur,rfl,h0 g rfl,hb,hc,hn,hm,hs,ht⟩⟩
theorem flat_row {α:Type} {d:Kd α} {enc:α→List Value} (F:Flat d enc) {e base:Nat} {ok:Nat→Prop} {w:World} {g n c:Nat} {cur:Array Value} {xs:List α} (hk:ok g) (hb:base≤g)
  (hc:w.heap[g]? = some (.cells cur e (0,0))) (hn:n=xs.length) (hnc:n≤c) (hm:c≤maxLen) (hs:cur.size=c * d.sz) (ht:cur.toList.take (n * d.sz)=xs.flatMap enc) :
  d.R e w base ok (.slice (some ⟨g,0,none⟩) n c) xs:=by
 subst hn;refine⟨fun k hk'=>?_,xs.flatMap enc,⟨flat_length enc d.sz F.len xs,.inr ⟨g,c,cur,rfl,hb,hc,hnc,hm,hs,ht⟩⟩,(reps_flat enc d.sz F.len (fun x cs=>F.M _ _ _ x cs) xs _).2 rfl⟩;simp[Value.ownBlock] at hk';rw[← hk'];exact hk
theorem read_flat {α:Type} {d:Kd α} {enc:α→List Value} (F:Flat d enc) {w:World} {A:Option Addr} {n:Nat} {xs:List α} (h:d.C w A n xs) (hp:0 < n) :
  ∃ ad,A=some ad∧∀ j v,(xs.flatMap enc)[j]? = some v→w.cell? (ad.add j)=some v:=by
 obtain⟨h1,_,h2⟩:=h;obtain⟨ad,e,hc⟩:=h2 hp;refine⟨ad,e,fun j v hj=>?_⟩;have hjl:j < xs.length * d.sz:=by
  have:=(List.getElem?_eq_some_iff.1 hj).1
  rwa [flat_length enc d.sz F.len] at this
 have hs:0 < d.sz:=by
  rcases Nat.eq_zero_or_pos d.sz with h|h
  ·rw[h,Nat.mul_zero] at hjl;omega
  ·exact h
 have hq:j / d.sz < xs.length:=Nat.div_lt_of_lt_mul (by rwa [Nat.mul_comm] at hjl);obtain⟨c,hc1,hc2,hc3⟩:=hc (j / d.sz) xs[j / d.sz] (List.getElem?_eq_getElem hq);obtain rfl:=(F.K _ _ _).1 hc2;have ht:=take_drop_flat enc d.sz F.len xs (j / d.sz) _ (List.getElem?_eq_getElem hq);have hm:=Nat.mod_lt j hs;have hdm:=Nat.div_add_mod' j d.sz;have:=hc3 (j % d.sz) v (by
  rw[← ht,List.getElem?_take,if_pos hm,List.getElem?_drop,hdm];exact hj)
 rwa [hdm] at this
theorem read_flat' {α:Type} {d:Kd α} {enc:α→List Value} (F:Flat d enc) {w:World} {ad:Addr} {n:Nat} {xs:List α} (h:d.C w (some ad) n xs) (hp:0 < n) (j:Nat) (v:Value) (hj:(xs.flatMap enc)[j]? = some v):w.cell? (ad.add j)=some v:=by
 obtain⟨ad',e,hc⟩:=read_flat F h hp;obtain rfl:=Option.some.inj e;exact hc j v hj
theorem blk_list {w:World} {g e:Nat} {cur:Array Value} (hc:w.heap[g]? = some (.cells cur e (0,0))) {cs:List Value} {m:Nat} (ht:cur.toList.take m=cs) (j:Nat) (v:Value) (hj:cs[j]? = some v):w.cell? ⟨g,j,none⟩=some v:=by
 rw[zO hc j];subst ht;rw[List.getElem?_take] at hj;split at hj
 ·rw[← Array.getElem?_toList];exact hj
 ·cases hj
end
theorem FS:Flat Kd.string (fun s:ByteArray=>[Value.string s]) where
 E:=rfl
 K:=fun _ _ _=>Iff.rfl
 M:=fun _ _ _ _ _=>Iff.rfl
 len:=fun _=>rfl
 one:=fun x v h=>by rw[List.mem_singleton.1 h];rfl
theorem flat_strs (l:List ByteArray):l.flatMap (fun s:ByteArray=>[Value.string s])=l.map Value.string:=by
 induction l with
|nil=>rfl
|cons a l ih=>rw[List.flatMap_cons,ih];rfl
section
open Go.Lib Go.Sort
shelf_lay Lays.n190 Nm 190 at Tryz as slices_Sort_string_string_lay
def sortS (l:List ByteArray):List ByteArray:=((l.map fun s:ByteArray=>s.data.toList).mergeSort fun x y=>decide (x≤y)).map fun b=>(⟨b.toArray⟩:ByteArray)
theorem sortS_length (l:List ByteArray):(sortS l).length=l.length:=by simp[sortS]
def slices_Sort_string_string.f (l0:List ByteArray):Option (List ByteArray):=if l0.length≤4194304 then some (sortS l0) else none
theorem slices_Sort_string_string.calls (P0_:Nat→Prop) (u9000_:Value) (l0:List ByteArray) (r:List ByteArray) (w0 w:World) (hB:Below w0.heap.size w0 w) (ho0:Kd.R Kd.string 9 w w0.heap.size P0_ u9000_ l0) (h:slices_Sort_string_string.f l0=some r) :
  Calls Tryz.prog 54 #[u9000_] w fun e w'=>e=.returned (.tuple #[])∧Kd.R Kd.string 9 w' w0.heap.size (fun k_=>(P0_ k_ ∨ w.heap.size≤k_)) u9000_ r∧Below w0.heap.size w0 w'∧Kept w w' (fun k_=>P0_ k_):=by
 unfold slices_Sort_string_string.f at h
 split at h
 case isFalse=>cases h
 case isTrue hl =>
 obtain rfl:=Option.some.inj h;obtain⟨A,c,rfl⟩:=Kd.R_slice ho0;obtain⟨_,⟨rfl,hn,rfl⟩|⟨g,cur,rfl,hk,hb,hc,hnc,hm,hs,ht⟩⟩:=row_flat FS ho0
 ·obtain rfl:=List.eq_nil_of_length_eq_zero hn
  refine(Any.slices_Sort_string_none slices_Sort_string_string_lay none 0 w).mono ?_;rintro e w' ⟨rfl,rfl⟩;rw[show sortS [] = [] by simp[sortS]];exact⟨rfl,Kd.R_nil _ _ _ _ _,hB,Kept.refl _ _⟩
 ·have hsz:(Kd.string).sz=1:=rfl
  rw[hsz,Nat.mul_one] at ht hs;rw[flat_strs] at ht;have hlen:(l0.map fun s:ByteArray=>s.data.toList).length=l0.length:=List.length_map _;have hms:(l0.map fun s:ByteArray=>s.data.toList).map encStr=l0.map Value.string:=by
   rw[List.map_map];exact List.map_congr_left (fun s _=>rfl)
  have hcon:=Any.slices_Sort_string slices_Sort_string_string_lay g 0 c (l0.map fun s:ByteArray=>s.data.toList) w (holds_of_block hc (by rw[hlen,hms];exact ht)) (blk_lt hc) (by rw[hlen];omega);rw[hlen] at hcon;refine hcon.mono ?_;rintro e w' ⟨rfl,n,os,rfl⟩;have hg:=grownBy_sorted (w:=w) (g:=g) (n:=n) (os:=os) ((l0.map fun s:ByteArray=>s.data.toList).mergeSort fun x y=>decide (x≤y)).toArray;have hh:=heap_sorted (n:=n) (os:=os) ((l0.map fun s:ByteArray=>s.data.toList).mergeSort fun x y=>decide (x≤y)).toArray hc;refine⟨rfl,?_,hB.grown hg hB.size (fun j e=>by rw[← Option.some.inj e];exact hb),Kept.of_grown hg (Kept.refl w _) (fun k e=>.inl (by rw[← Option.some.inj e];exact hk))⟩;refine flat_row FS (.inl hk) hb hh (sortS_length l0).symm hnc hm ?_ ?_
  ·rw[hsz,Nat.mul_one];simp[putCells,hs]
  ·rw[hsz,Nat.mul_one,flat_strs]
   have h1:=take_putCells cur ((l0.map fun s:ByteArray=>s.data.toList).mergeSort fun x y=>decide (x≤y)) (by simp;omega);rw[List.length_mergeSort,hlen] at h1;rw[h1,sortS,List.map_map];rfl
end
def enc151 (x:S151):List Value:=[.string x.f0,.int .i64 x.f1]
theorem F151:Flat k151 enc151 where
 E:=rfl
 K:=fun w x cs=>⟨fun h=>k151_open h,fun h=>h ▸ k151_mk w x⟩
 M:=fun w base ok x cs=>⟨fun h=>k151_openM h,fun h=>h ▸ k151_mkM w base ok x⟩
 len:=fun _=>rfl
 one:=fun x v h=>by
  simp only [enc151,List.mem_cons,List.not_mem_nil,or_false] at h;rcases h with rfl|rfl <;> rfl
section
theorem impl_Cell_133_grow (n:Nat) (hn:n≤4194304) (w:World) :
  Calls Tryz.prog 205 #[.slice none 0 0,.int .i64 (n:Int)] w fun e w'=>∃ v,e=.returned v∧Kd.R k151 151 w' w.heap.size (fun _=>True) v ([]:List S151)∧Below w.heap.size w w':=by
 have HB:=Aside0.mk (Below.refl w.heap.size w);have HN:=Aside0.mk hn;have n1:((n:Int) < 0)=False:=by simp
 by_cases h0:n=0
 ·subst h0
  go_enter Tryz.func205,Tryz.ntmps205
  go_wp2
  go_ret;exact⟨_,rfl,Kd.R_nil _ _ _ _ _,HB.out⟩
 ·have n2:(0:Int) < (n:Int):=by omega
  go_enter Tryz.func205,Tryz.ntmps205;go_wp2_with ((with_reducible refine gate_builtin (b:=.append) (xs:=#[.tmp 20,.tmp 21]) rfl ?_);at_builtin;refine Kd.R_append_zeros k151 (w0:=w) w.heap.size rfl (.tmp 20) (.tmp 21) 43 3 151 (.agg #[(.string ⟨#[]⟩),(.int .i64 0)]) 24 rfl Tryz.underlying43 Tryz.underlying3 info151 rfl (by decide) (by omega) (.slice none 0 0) [] z151 (n:Int) (fun _=>True) rfl rfl ?aZ (fun _ _=>trivial) (Kd.R_nil _ _ _ _ _) ?a0 ?aB ?aS ?aL ?_;(case aZ=>exact(F151.M _ _ _ _ _).2 rfl);(case a0=>omega);(case aB=>exact HB.out);(case aS=>exact Nat.le_refl _);(case aL=>have:=HN.out;simp only [List.length_nil,Int.toNat_natCast];omega);intro v1 w1 ho1 hb1 hg_ hat_;clear hg_ hat_;obtain⟨Ao,co,eo⟩:=Kd.R_slice ho1;subst eo;have HO:=Aside0.mk (Kd.R_take ho1 (Nat.zero_le _));have HB1:=Aside0.mk hb1;clear ho1 hb1 HB);go_ret;exact⟨_,rfl,by simpa using HO.out,HB1.out⟩
theorem impl_Cell_133_at {w:World} {A:Option Addr} {n:Nat} {xs:List (List S151)} (h:Kd.C (Kd.slice 151 k151) w A n xs) (i:Nat) (hi:i < n):∃ ad A0 c0,A=some ad∧w.cell? (ad.add i)=some (.slice A0 (xs.getD i []).length c0)∧(xs.getD i []).length≤c0∧Kd.C k151 w A0 (xs.getD i []).length (xs.getD i []):=by
 obtain⟨ad,c,e,_,hK,hc⟩:=Kd.C_get h ([]:List S151) (i:Int) (by omega) (by omega);obtain⟨A0,c0,rfl,h1,h2⟩:=hK;have:=hc 0 _ rfl;rw[Int.toNat_natCast,show(Kd.slice 151 k151).sz=1 from rfl,Nat.mul_one,Nat.add_zero] at this;exact⟨ad,A0,c0,e,this,h1,h2⟩
theorem impl_Cell_133_sum (l:List (List S151)) (k:Nat) (hk:k < l.length):((l.take (k+1)).map List.length).sum=((l.take k).map List.length).sum+(l.getD k []).length:=by
 rw[List.take_add_one,List.map_append,List.sum_append,List.getElem?_eq_getElem hk,List.getD_eq_getElem?_getD,List.getElem?_eq_getElem hk];simp
theorem impl_Cell_133_flat (l:List (List S151)) (k:Nat) (hk:k < l.length):(l.take (k+1)).flatten=(l.take k).flatten ++ l.getD k []:=by
 rw[List.take_add_one,List.flatten_append,List.getElem?_eq_getElem hk,List.getD_eq_getElem?_getD,List.getElem?_eq_getElem hk];simp
theorem impl_Cell_133_le (l:List (List S151)) (k:Nat):((l.take k).map List.length).sum≤(l.map List.length).sum:=by
 conv=>rhs;rw[← List.take_append_drop k l]
 rw[List.map_append,List.sum_append];omega
def impl_Cell_133.f (l0:List (List S151)):Option (List S151):=if (l0.map List.length).sum≤4194304 then some l0.flatten else none
theorem impl_Cell_133.calls (A0:Option Addr) (c0:Nat) (l0:List (List S151)) (r:List S151) (w:World) (hr0:Kd.C (Kd.slice 151 k151) w A0 l0.length l0) (hc0:l0.length≤c0) (h:impl_Cell_133.f l0=some r) :
  Calls Tryz.prog 133 #[.slice A0 l0.length c0] w fun e w'=>∃ v0_:Value,e=.returned (v0_)∧Kd.R k151 151 w' w.heap.size (fun _=>True) v0_ r∧Below w.heap.size w w':=by
 unfold impl_Cell_133.f at h
 split at h
 case isFalse=>cases h
 case isTrue hs =>
 obtain rfl:=Option.some.inj h;have hmax:l0.length≤9223372036854775807:=Kd.C_max hr0;have HM:=Aside0.mk hmax;have HS:=Aside0.mk hs;have HR:=Aside0.mk hr0;clear h hs hr0 hmax;go_enter Tryz.func133,Tryz.ntmps133
 go_wp2
 go_loop [3,5,11] (fun v3 v5 v11=>∃ k:Nat,k≤l0.length∧v11=.int .i64 k∧v3=.int .i64 (((l0.take k).map List.length).sum:Nat)) (fun _ _ v11=>l0.length - (intOf v11).toNat)
 case atStart=>exact⟨0,Nat.zero_le _,rfl,rfl⟩
 case round =>
  obtain⟨k,hk,rfl,rfl⟩:=hrel;by_cases hlt:k < l0.length
  ·have hsum:=impl_Cell_133_sum l0 k hlt
   have hle:=Nat.le_trans (impl_Cell_133_le l0 (k+1)) HS.out;obtain⟨ad,B0,cB,e0,hcell,_,_⟩:=impl_Cell_133_at HR.out k hlt;cases e0;generalize (l0.getD k []).length=y at hcell hsum;obtain⟨s,hs⟩:∃ s:Nat,s=((l0.take k).map List.length).sum:=⟨_,rfl⟩;have hsy:s+y≤4194304:=by omega
   have HE:=Aside0.mk (hs ▸ hsum);rw[← hs];have HY:=Aside0.mk hsy;have p1:=eq_true (show(0:Int)≤(k:Int) by omega);have p2:=eq_true (show(k:Int) < (l0.length:Int) by omega);have p3:IntKind.i64.wrap ((s:Int)+(y:Int))=((s+y:Nat):Int):=by unfold IntKind.wrap;simp[IntKind.bits,IntKind.signed];omega
   have p4:(((s+y:Nat):Int) < 0)=False:=by simp;omega
   have hklt:=Aside0.mk hlt;clear hsum hle hs hsy hlt hk;go_wp2
   go_round
   case rel=>exact⟨k+1,hklt.out,by have:=HM.out;have:=hklt.out;rw[show wrap64 ((k:Int)+1)=((k+1:Nat):Int) by unfold wrap64;omega],by rw[HE.out];rfl⟩
   case measure=>have:=HM.out;have:=hklt.out;rw[show wrap64 ((k:Int)+1)=((k+1:Nat):Int) by unfold wrap64;omega];simp[intOf];omega
  ·have hkl:k=l0.length:=by omega
   subst hkl;rw[List.take_length];obtain⟨s,hs⟩:∃ s:Nat,s=(l0.map List.length).sum:=⟨_,rfl⟩;have hsb:=HS.out;rw[← hs] at hsb ⊢;have HSB:=Aside0.mk hsb;clear hs hlt hk hsb;have HB:=Aside0.mk (Below.refl w.heap.size w);go_wp2_with (go_at_call 205;refine(impl_Cell_133_grow s HSB.out _).mono ?_;rintro e w1 ⟨v1,rfl,ho1,hb1⟩;have HO:=Aside0.mk ho1;have HB1:=Aside0.mk hb1;clear HB ho1 hb1);go_loopw [6,8,27] (fun v6 v8 v27 wr=>∃ k:Nat,k≤l0.length∧v27=.int .i64 k∧Aside0 (Kd.R k151 151 wr w.heap.size (fun _=>True) v6 (l0.take k).flatten)∧Aside0 (Below w.heap.size w wr)) (fun _ _ v27 _=>l0.length - (intOf v27).toNat)
   case atStart=>exact⟨0,Nat.zero_le _,rfl,HO,HB1⟩
   case round =>
    clear HO HB1;obtain⟨k,hk,rfl,HO,HB⟩:=hrel;by_cases hlt:k < l0.length
    ·have hsum:=impl_Cell_133_sum l0 k hlt
     have hle:=Nat.le_trans (impl_Cell_133_le l0 (k+1)) HS.out;have hlf:(l0.take k).flatten.length=((l0.take k).map List.length).sum:=List.length_flatten;have hfl:=impl_Cell_133_flat l0 k hlt;obtain⟨ad,B0,cB,e0,hcell,hlen,hC⟩:=impl_Cell_133_at (Kd.C_below HR.out HB.out) k hlt;cases e0;obtain⟨ys,hys⟩:∃ ys,ys=l0.getD k []:=⟨_,rfl⟩;obtain⟨xs,hxs⟩:∃ xs,xs=(l0.take k).flatten:=⟨_,rfl⟩;rw[← hys] at hcell hlen hC hsum hfl;rw[← hxs] at HO hlf hfl;have HL:=Aside0.mk (show xs.length+ys.length≤4194304 by omega);have HC:=Aside0.mk hC;have HF:=Aside0.mk hfl;have p1:=eq_true (show(0:Int)≤(k:Int) by omega);have p2:=eq_true (show(k:Int) < (l0.length:Int) by omega);have hklt:=Aside0.mk hlt;clear hsum hle hlf hfl hlen hC hys hxs hlt hk;go_wp2_with ((with_reducible refine gate_builtin (b:=.append) (xs:=#[.tmp 31,.tmp 32]) rfl ?_);at_builtin;refine Kd.R_append_rows k151 (w0:=w) w.heap.size rfl (.tmp 31) (.tmp 32) 43 151 (.agg #[(.string ⟨#[]⟩),(.int .i64 0)]) 24 rfl Tryz.underlying43 info151 rfl (by decide) (by omega) _ xs ys _ _ _ (fun _=>True) (fun _=>False) rfl rfl HO.out HC.out ?aM (fun _ h=>h.elim) (fun _ _=>trivial) HB.out ?aS ?aL ?_;(case aM=>exact fun _ _ h=>(F151.M _ _ _ _ _).2 ((F151.K _ _ _).1 h));(case aS=>exact below_size HB.out);(case aL=>have:=HL.out;omega);intro v1 w9 ho hb hg hat;have HO9:=Aside0.mk ho;have HB9:=Aside0.mk hb;clear HO HB ho hb hg hat hcell);go_roundw
     case rel=>exact⟨k+1,hklt.out,by have:=HM.out;have:=hklt.out;rw[show wrap64 ((k:Int)+1)=((k+1:Nat):Int) by unfold wrap64;omega],HF.out ▸ HO9,HB9⟩
     case measure=>have:=HM.out;have:=hklt.out;rw[show wrap64 ((k:Int)+1)=((k+1:Nat):Int) by unfold wrap64;omega];simp[intOf];omega
    ·have hkl:k=l0.length:=by omega
     subst hkl;rw[List.take_length] at HO;go_wp2
     go_ret;exact⟨_,rfl,HO.out,HB.out⟩
end
def impl_Table_keys.l0:Nat→List ByteArray→List (S151)→Int→Int→Option (List ByteArray)
|0,_,_,_,_=>none
|k+1,x3,x11,x12,x13=>if x13 < x12 then (if 0≤x13 then (if x13 < (x11.length:Int) then (if ((rd_T151 x11 x13).f0).toList=([]:List UInt8) then (impl_Table_keys.l0 k x3 x11 x12 (wrap64 (x13+1))) else (if x3.length < 8796093022208 then (impl_Table_keys.l0 k (x3 ++ [(rd_T151 x11 x13).f0]) x11 x12 (wrap64 (x13+1))) else (none))) else (none)) else (none)) else ((slices_Sort_string_string.f x3).bind fun t359=>(some t359))
def impl_Table_keys.f (k:Nat) (l0_0:List (S151)) (l0_1:List (S151)) (a0_2:Int):Option (List ByteArray):=(impl_Cell_133.f (([l0_0,l0_1]:List (List (S151))))).bind fun t351=>(impl_Table_keys.l0 k ([]:List ByteArray) t351 (t351.length:Int) 0)
theorem impl_Table_keys.calls (k:Nat) (P0_0_:Nat→Prop) (A0_0:Option Addr) (c0_0:Nat) (l0_0:List (S151)) (P0_1_:Nat→Prop) (A0_1:Option Addr) (c0_1:Nat) (l0_1:List (S151)) (a0_2:Int) (r:List ByteArray) (w:World) (hs0_0:Kd.V k151 151 w w.heap.size (fun k_=>P0_0_ k_) (.slice A0_0 l0_0.length c0_0) l0_0) (hs0_1:Kd.V k151 151 w w.heap.size (fun k_=>P0_1_ k_) (.slice A0_1 l0_1.length c0_1) l0_1) (h:impl_Table_keys.f k l0_0 l0_1 a0_2=some r) :
  Calls Tryz.prog 55 #[.agg #[.slice A0_0 l0_0.length c0_0,.slice A0_1 l0_1.length c0_1,.int .i64 a0_2]] w fun e w'=>∃ v0_:Value,e=.returned (v0_)∧Kd.R Kd.string 9 w' w.heap.size (fun k_=>(w.heap.size≤k_)) v0_ r∧Below w.heap.size w w':=by
 have hu45:=Tryz.underlying45;have hu151:=Tryz.underlying151;have HO0_0:=Aside0.mk (show Kd.V k151 151 w w.heap.size (fun k_=>((P0_0_ k_ ∨ P0_1_ k_) ∨ w.heap.size≤k_)) (.slice A0_0 l0_0.length c0_0) l0_0 from Kd.V_mono hs0_0 (fun k_ hk=>.inl (.inl hk)));have HO0_1:=Aside0.mk (show Kd.V k151 151 w w.heap.size (fun k_=>((P0_0_ k_ ∨ P0_1_ k_) ∨ w.heap.size≤k_)) (.slice A0_1 l0_1.length c0_1) l0_1 from Kd.V_mono hs0_1 (fun k_ hk=>.inl (.inr hk)));have HB:=Aside0.mk (Below.refl w.heap.size w);unfold impl_Table_keys.f at h;have H:=h;clear h;obtain⟨y348,hy348⟩:∃ y_:List (List (S151)),y_=(([l0_0,l0_1]:List (List (S151)))):=⟨_,rfl⟩;rw[← hy348] at H;have Ny348:=Aside0.mk hy348;clear hy348;replace H:=Option.bind_eq_some_iff.mp H;obtain⟨t351,A20,H⟩:=H;(try dsimp only at H)
 have A2:=Aside0.mk A20;clear A20;have H':=Aside0.mk H;clear H;go_enter Tryz.func55,Tryz.ntmps55;go_wp2_with (first|((with_reducible refine gate_dst (N:=1) rfl ?_);refine yE (N:=1) (cs:=#[.slice A0_0 l0_0.length c0_0,.slice A0_1 l0_1.length c0_1,.int .i64 a0_2]) (t:=45) fun gb347 hg w3 hbox hb=>?_;have n0_:=Aside0.mk (Kd.V_below (Kd.V_elderB (by(with_reducible repeat(first|apply Kd.V_alloc|apply Kd.V_drewN|apply Kd.V_drew));exact HO0_0.out) gb347 (Nat.le_of_eq hg.symm)) hb);have n1_:=Aside0.mk (Kd.V_below (Kd.V_elderB (by(with_reducible repeat(first|apply Kd.V_alloc|apply Kd.V_drewN|apply Kd.V_drew));exact HO0_1.out) gb347 (Nat.le_of_eq hg.symm)) hb);obtain⟨n2_,n4_⟩:=yX (w:=w) hg hb mq;have n3_:=Aside0.mk (hbox);have n5_:=n4_;clear HO0_0;clear HO0_1;clear HB;have HO0_0:=n0_;have HO0_1:=n1_;have HB:=n2_;have BK347:=n3_;have GW347:=n4_;have GE347:=n5_;clear n0_ n1_ n2_ n3_ n4_ n5_;clear hb hbox hg;obtain⟨hcz4_0,hcz4_1,hcz4_2,hfz4_0,hfz4_1,hfz4_2⟩:=zb3 BK347.out)|((with_reducible refine gate_dst (N:=10) rfl ?_);refine Kd.N_lit (Kd.slice 151 k151) _ 43 ?hg (N':=10) ?hd (xs:=([l0_0,l0_1]:List (List (S151)))) (inner:=[.slice A0_0 l0_0.length c0_0,.slice A0_1 l0_1.length c0_1]) (ok:=(fun k_=>((P0_0_ k_ ∨ P0_1_ k_) ∨ w.heap.size≤k_)∧k_ ≠ gb347)) (okp:=(fun k_=>((P0_0_ k_ ∨ P0_1_ k_) ∨ w.heap.size≤k_)∧k_ ≠ gb347)) ?hr ?hp (fun _ hk=>hk) ((show ∀ k_,w3.heap.size≤k_→(fun k_=>((P0_0_ k_ ∨ P0_1_ k_) ∨ w.heap.size≤k_)∧k_ ≠ gb347) k_ from fun k_ hk=>⟨(.inr (Nat.le_trans (below_size mq) hk)),Kd.freshB (g:=gb347) (o:=.cells #[.slice A0_0 l0_0.length c0_0,.slice A0_1 l0_1.length c0_1,.int .i64 a0_2] 45 (0,0)) (mz BK347.out) k_ hk⟩) _ (Nat.le_refl _)) (Below.refl _ _) (Nat.le_refl _) (by simp) ?_;(case hd=>rfl);(case hg=>rfl);(case hr=>first|(go_simp;done)|(go_simp;rfl));(case hp=>exact(Reps.one (show Kd.FK (Kd.slice 151 k151) _ _ l0_0 [.slice A0_0 l0_0.length c0_0] from(Kd.FK_slice_mk (Kd.V_reads' (Kd.V_mono (ok':=(fun k_=>((P0_0_ k_ ∨ P0_1_ k_) ∨ w.heap.size≤k_)∧k_ ≠ gb347)) (HO0_0.out) (fun k_ hk=>⟨hk.1,hk.2⟩))).2.1 (Kd.V_F (Kd.V_mono (ok':=(fun k_=>((P0_0_ k_ ∨ P0_1_ k_) ∨ w.heap.size≤k_)∧k_ ≠ gb347)) (HO0_0.out) (fun k_ hk=>⟨hk.1,hk.2⟩))))) (Reps.one (show Kd.FK (Kd.slice 151 k151) _ _ l0_1 [.slice A0_1 l0_1.length c0_1] from(Kd.FK_slice_mk (Kd.V_reads' (Kd.V_mono (ok':=(fun k_=>((P0_0_ k_ ∨ P0_1_ k_) ∨ w.heap.size≤k_)∧k_ ≠ gb347)) (HO0_1.out) (fun k_ hk=>⟨hk.1,hk.2⟩))).2.1 (Kd.V_F (Kd.V_mono (ok':=(fun k_=>((P0_0_ k_ ∨ P0_1_ k_) ∨ w.heap.size≤k_)∧k_ ≠ gb347)) (HO0_1.out) (fun k_ hk=>⟨hk.1,hk.2⟩))))) (Reps.none _ _))));intro v349 w5 ho6 hb hg_ hnew_;clear hg_ hnew_;(first|rw[← Ny348.out] at ho6|(simp only [Int.reduceToNat] at ho6;rw[← Ny348.out] at ho6));have n0_:=Aside0.mk (Kd.V_elder' (by(with_reducible repeat(first|apply Kd.V_alloc|apply Kd.V_drewN|apply Kd.V_drew));exact HO0_0.out) (Kd.N_base ho6) hb);have n1_:=Aside0.mk (Kd.V_elder' (by(with_reducible repeat(first|apply Kd.V_alloc|apply Kd.V_drewN|apply Kd.V_drew));exact HO0_1.out) (Kd.N_base ho6) hb);have n2_:=Aside0.mk (Kd.N_lower ho6 (below_size mq));have n3_:=Aside0.mk (zK (mz BK347.out) hb);have n4_:=Aside0.mk (zN mq hb);clear HO0_0;clear HO0_1;clear BK347;clear HB;have HO0_0:=n0_;have HO0_1:=n1_;have HO350:=n2_;have BK347:=n3_;have HB:=n4_;clear n0_ n1_ n2_ n3_ n4_;clear hb ho6;obtain⟨Ao7,co7,eo7⟩:=Kd.N_slice HO350.out;subst eo7)|((with_reducible refine gate_callee (f:=133) rfl ?_);refine goesL_ (some 11) rfl rfl Tryz.func133 (by kernel_rfl) rfl #[.slice Ao7 y348.length co7] rfl ml ?_;(with_reducible refine(impl_Cell_133.calls _ _ y348 t351 _ ?side1 ?side2 A2.out).mono ?_);(case side1=>repeat(first|exact(Kd.N_reads' HO350.out).2.2|(with_reducible refine Kd.C_alloc ?_ _)|(with_reducible refine Kd.C_drewN ?_ _)|(with_reducible refine Kd.C_drew ?_)));(case side2=>exact(Kd.N_reads' HO350.out).2.1);rintro e w8 ⟨v352,rfl,ho0,hb⟩;refine⟨_,rfl,?_⟩;have n0_:=Aside0.mk (Kd.V_elder' (by(with_reducible repeat(first|apply Kd.V_alloc|apply Kd.V_drewN|apply Kd.V_drew));exact HO0_0.out) (Kd.R_base ho0) hb);have n1_:=Aside0.mk (Kd.V_elder' (by(with_reducible repeat(first|apply Kd.V_alloc|apply Kd.V_drewN|apply Kd.V_drew));exact HO0_1.out) (Kd.R_base ho0) hb);have n2_:=Aside0.mk (Kd.N_elder' (by(with_reducible repeat(first|apply Kd.N_alloc|apply Kd.N_drewN|apply Kd.N_drew));exact HO350.out) (Kd.R_base ho0) hb);have n3_:=Aside0.mk (Kd.R_lower (Kd.R_newM (M:=fun k_=>(w.heap.size≤k_)) ho0 (below_size mq) (fun k_ h_=>h_)) (below_size mq));have n4_:=Aside0.mk (zK (mz BK347.out) hb);have n5_:=Aside0.mk (zN mq hb);clear HO0_0;clear HO0_1;clear HO350;clear BK347;clear HB;have HO0_0:=n0_;have HO0_1:=n1_;have HO350:=n2_;have HO353:=n3_;have BK347:=n4_;have HB:=n5_;clear n0_ n1_ n2_ n3_ n4_ n5_;(try clear hb);(try clear hb2);(try clear hk);(try clear hi);(try clear ho0);obtain⟨Ao9,co9,eo9⟩:=Kd.R_slice HO353.out;subst eo9))
 go_loopg [3,13] k (fun kq v3 v13 w'=>∃ (x3_1:List ByteArray) (x13_1:Int),v13=.int .i64 x13_1∧Aside0 (impl_Table_keys.l0 kq x3_1 t351 (t351.length:Int) x13_1=some r)∧Aside0 (kq≤k)∧Aside0 (Kd.R Kd.string 9 w' w.heap.size (fun k_=>(w.heap.size≤k_)) v3 x3_1)∧Aside0 (Kd.R k151 151 w' w.heap.size (fun k_=>(w.heap.size≤k_)) (.slice Ao9 t351.length co9) t351)∧Aside0 (Kd.V k151 151 w' w.heap.size (fun k_=>((P0_0_ k_ ∨ P0_1_ k_) ∨ w.heap.size≤k_)∧some k_ ≠ (v3:Value).ownBlock∧some k_ ≠ ((.slice Ao9 t351.length co9):Value).ownBlock∧k_ ≠ gb347) (.slice A0_0 l0_0.length c0_0) l0_0)∧Aside0 (Kd.V k151 151 w' w.heap.size (fun k_=>((P0_0_ k_ ∨ P0_1_ k_) ∨ w.heap.size≤k_)∧some k_ ≠ (v3:Value).ownBlock∧some k_ ≠ ((.slice Ao9 t351.length co9):Value).ownBlock∧k_ ≠ gb347) (.slice A0_1 l0_1.length c0_1) l0_1)∧Aside0 (w'.heap[gb347]? = some (.cells #[(.slice A0_0 l0_0.length c0_0),(.slice A0_1 l0_1.length c0_1),.int .i64 a0_2] 45 (0,0)))∧Aside0 (Below w.heap.size w w'))
 case atStart=>exact⟨(([]:List ByteArray)),(0),mt,H',⟨Nat.le_refl _⟩,⟨by first|exact Kd.R_nil _ _ _ _ _|exact Kd.N_nil _ _ _ _ _|exact Kd.V_nil _ _ _ _ _|exact Kd.Q_nil _ _ _ _ _|exact Kd.S_nil _ _ _ _ _⟩,⟨by(with_reducible repeat(first|apply zE|apply zD|apply zF));exact zR HO353.out (fun _ hk=>hk.1)⟩,⟨by(with_reducible repeat(first|apply Kd.V_alloc|apply Kd.V_drewN|apply Kd.V_drew));exact Kd.V_mono HO0_0.out (fun _ hk=>⟨hk.1.1.1,⟨(by simp[Value.ownBlock]),⟨hk.2,hk.1.1.2⟩⟩⟩)⟩,⟨by(with_reducible repeat(first|apply Kd.V_alloc|apply Kd.V_drewN|apply Kd.V_drew));exact Kd.V_mono HO0_1.out (fun _ hk=>⟨hk.1.1.1,⟨(by simp[Value.ownBlock]),⟨hk.2,hk.1.1.2⟩⟩⟩)⟩,⟨mz BK347.out⟩,⟨mq⟩⟩
 case round =>
  clear H';obtain⟨x3_1,x13_1,rfl,HA,HK1,HO_3,HO_11,HO_348000,HO_348001,BK347,HB⟩:=hrel;cases gk with
 |zero=>exact absurd HA.out (by simp[impl_Table_keys.l0])
 |succ k1 =>
   have H:=HA.out;clear HA;simp only [impl_Table_keys.l0] at H;by_cases c10:x13_1 < (t351.length:Int)
   ·rw[if_pos c10] at H
    have c10b0:decide (x13_1 < (t351.length:Int))=true:=decide_eq_true c10;clear c10;by_cases c11:0≤x13_1
    ·rw[if_pos c11] at H
     have c11b0:decide (0≤x13_1)=true:=decide_eq_true c11;clear c11;by_cases c12:x13_1 < (t351.length:Int)
     ·rw[if_pos c12] at H
      have c12b0:decide (x13_1 < (t351.length:Int))=true:=decide_eq_true c12;clear c12;by_cases c13:((rd_T151 t351 x13_1).f0).toList=([]:List UInt8)
      ·rw[if_pos c13] at H
       have c13b0:(((rd_T151 t351 x13_1).f0).toList == ([]:List UInt8))=true:=beq_iff_eq.mpr c13;have c13b1:(((rd_T151 t351 x13_1).f0).toList != ([]:List UInt8))=false:=bne_eq_false_iff_eq.mpr c13;clear c13;have H':=Aside0.mk H;clear H;have p354:0≤(x13_1:Int):=mo;have q354:x13_1 < (t351.length:Int):=mo;obtain⟨ad354,e354,hx354_0,hx354_1⟩:=at_T151 (Kd.R_reads' HO_11.out).2.2 x13_1 p354 q354;cases e354;replace p354:=eq_true p354;replace q354:=eq_true q354;go_wp2_with (first|((with_reducible refine gate_dst (N:=5) rfl ?_);refine yE (N:=5) (cs:=#[.string (⟨#[]⟩:ByteArray),.int .i64 0]) (t:=151) fun gb355 hg w14 hbox hb=>?_;have n0_:=Aside0.mk (zM (me HO_3.out) hb);have n1_:=Aside0.mk (zM (Kd.R_elderB (me HO_11.out) gb355 (Nat.le_of_eq hg.symm)) hb);have n2_:=Aside0.mk (Kd.V_below (Kd.V_elderB (by(with_reducible repeat(first|apply Kd.V_alloc|apply Kd.V_drewN|apply Kd.V_drew));exact HO_348000.out) gb355 (Nat.le_of_eq hg.symm)) hb);have n3_:=Aside0.mk (Kd.V_below (Kd.V_elderB (by(with_reducible repeat(first|apply Kd.V_alloc|apply Kd.V_drewN|apply Kd.V_drew));exact HO_348001.out) gb355 (Nat.le_of_eq hg.symm)) hb);obtain⟨n4_,n9_,n10_⟩:=yY hg hb (mz BK347.out);obtain⟨n5_,n7_⟩:=yX (w:=w) hg hb mq;have n6_:=Aside0.mk (hbox);have n8_:=n7_;clear HO_3;clear HO_11;clear HO_348000;clear HO_348001;clear BK347;clear HB;have HO_3:=n0_;have HO_11:=n1_;have HO_348000:=n2_;have HO_348001:=n3_;have BK347:=n4_;have HB:=n5_;have BK355:=n6_;have GW355:=n7_;have GE355:=n8_;have NB347_355:=n9_;have NB355_347:=n10_;clear n0_ n1_ n2_ n3_ n4_ n5_ n6_ n7_ n8_ n9_ n10_;clear hb hbox hg;have hnb15:=NB355_347.out;have hnc15:=NB347_355.out;obtain⟨hcz16_0,hcz16_1,hfz16_0,hfz16_1⟩:=zb2 BK355.out))
       go_roundg k1
       case measure=>have:=HK1.out;omega
       case rel=>exact⟨(x3_1),(wrap64 (x13_1+1)),mt,H',⟨by have:=HK1.out;omega⟩,⟨by(with_reducible repeat(first|apply zE|apply zD|apply zF));exact zR (zL (p:=⟨gb355,1,none⟩) (zL (p:=⟨gb355,0,none⟩) (zQ HO_3.out BK355.out (by decide)) (fun _ hk=>hk.2) (.string ((rd_T151 t351 x13_1).f0))) (fun _ hk=>hk.2) (.int .i64 ((rd_T151 t351 x13_1).f1))) (fun _ hk=>hk.1)⟩,⟨by(with_reducible repeat(first|apply zE|apply zD|apply zF));exact zR (zL (p:=⟨gb355,1,none⟩) (zL (p:=⟨gb355,0,none⟩) (zR HO_11.out (fun k_ hk=>(⟨hk,hk.2⟩:_∧k_ ≠ gb355))) (fun _ hk=>hk.2) (.string ((rd_T151 t351 x13_1).f0))) (fun _ hk=>hk.2) (.int .i64 ((rd_T151 t351 x13_1).f1))) (fun _ hk=>hk.1.1)⟩,⟨by(with_reducible repeat(first|apply Kd.V_alloc|apply Kd.V_drewN|apply Kd.V_drew));exact Kd.V_mono (Kd.V_far (p:=⟨gb355,1,none⟩) (Kd.V_far (p:=⟨gb355,0,none⟩) (Kd.V_mono HO_348000.out (fun k_ hk=>(⟨hk,hk.2⟩:_∧k_ ≠ gb355))) (fun _ hk=>hk.2) (.string ((rd_T151 t351 x13_1).f0))) (fun _ hk=>hk.2) (.int .i64 ((rd_T151 t351 x13_1).f1))) (fun _ hk=>⟨hk.1.1.1,⟨hk.1.1.2.1,⟨hk.1.1.2.2.1,hk.1.1.2.2.2⟩⟩⟩)⟩,⟨by(with_reducible repeat(first|apply Kd.V_alloc|apply Kd.V_drewN|apply Kd.V_drew));exact Kd.V_mono (Kd.V_far (p:=⟨gb355,1,none⟩) (Kd.V_far (p:=⟨gb355,0,none⟩) (Kd.V_mono HO_348001.out (fun k_ hk=>(⟨hk,hk.2⟩:_∧k_ ≠ gb355))) (fun _ hk=>hk.2) (.string ((rd_T151 t351 x13_1).f0))) (fun _ hk=>hk.2) (.int .i64 ((rd_T151 t351 x13_1).f1))) (fun _ hk=>⟨hk.1.1.1,⟨hk.1.1.2.1,⟨hk.1.1.2.2.1,hk.1.1.2.2.2⟩⟩⟩)⟩,⟨by(with_reducible repeat(first|apply zA|apply zC|apply zB));refine zT ?_ NB347_355.out _;(with_reducible repeat(first|apply zA|apply zC|apply zB));refine zT ?_ NB347_355.out _;(with_reducible repeat(first|apply zA|apply zC|apply zB));exact BK347.out⟩,⟨mq⟩⟩
      ·rw[if_neg c13] at H
       have c13b0:(((rd_T151 t351 x13_1).f0).toList == ([]:List UInt8))=false:=beq_eq_false_iff_ne.mpr c13;have c13b1:(((rd_T151 t351 x13_1).f0).toList != ([]:List UInt8))=true:=bne_iff_ne.mpr c13
       by_cases c17:x3_1.length < 8796093022208
       ·rw[if_pos c17] at H
        have LMc17:=Aside0.mk c17;clear c17;obtain⟨y356,hy356⟩:∃ y_:List ByteArray,y_=(x3_1 ++ [(rd_T151 t351 x13_1).f0]):=⟨_,rfl⟩;rw[← hy356] at H;have Ny356:=Aside0.mk hy356;clear hy356;have H':=Aside0.mk H;clear H;have p354:0≤(x13_1:Int):=mo;have q354:x13_1 < (t351.length:Int):=mo;obtain⟨ad354,e354,hx354_0,hx354_1⟩:=at_T151 (Kd.R_reads' HO_11.out).2.2 x13_1 p354 q354;cases e354;replace p354:=eq_true p354;replace q354:=eq_true q354;go_wp2_with (first|((with_reducible refine gate_dst (N:=5) rfl ?_);refine yE (N:=5) (cs:=#[.string (⟨#[]⟩:ByteArray),.int .i64 0]) (t:=151) fun gb355 hg w18 hbox hb=>?_;have n0_:=Aside0.mk (zM (me HO_3.out) hb);have n1_:=Aside0.mk (zM (Kd.R_elderB (me HO_11.out) gb355 (Nat.le_of_eq hg.symm)) hb);have n2_:=Aside0.mk (Kd.V_below (Kd.V_elderB (by(with_reducible repeat(first|apply Kd.V_alloc|apply Kd.V_drewN|apply Kd.V_drew));exact HO_348000.out) gb355 (Nat.le_of_eq hg.symm)) hb);have n3_:=Aside0.mk (Kd.V_below (Kd.V_elderB (by(with_reducible repeat(first|apply Kd.V_alloc|apply Kd.V_drewN|apply Kd.V_drew));exact HO_348001.out) gb355 (Nat.le_of_eq hg.symm)) hb);obtain⟨n4_,n9_,n10_⟩:=yY hg hb (mz BK347.out);obtain⟨n5_,n7_⟩:=yX (w:=w) hg hb mq;have n6_:=Aside0.mk (hbox);have n8_:=n7_;clear HO_3;clear HO_11;clear HO_348000;clear HO_348001;clear BK347;clear HB;have HO_3:=n0_;have HO_11:=n1_;have HO_348000:=n2_;have HO_348001:=n3_;have BK347:=n4_;have HB:=n5_;have BK355:=n6_;have GW355:=n7_;have GE355:=n8_;have NB347_355:=n9_;have NB355_347:=n10_;clear n0_ n1_ n2_ n3_ n4_ n5_ n6_ n7_ n8_ n9_ n10_;clear hb hbox hg;have hnb19:=NB355_347.out;have hnc19:=NB347_355.out;obtain⟨hcz20_0,hcz20_1,hfz20_0,hfz20_1⟩:=zb2 BK355.out)|((with_reducible refine gate_builtin (b:=.append) (xs:=#[.tmp 20,.tmp 23]) rfl ?_);at_builtin;refine Kd.R_append Kd.string (w0:=w) w.heap.size rfl (.tmp 20) (.tmp 23) 28 9 (.string ⟨#[]⟩) 16 rfl Tryz.underlying28 info9 rfl (by decide) (by omega) u3 x3_1 ((rd_T151 t351 x13_1).f0) [.string ((rd_T151 t351 x13_1).f0)] (fun k_=>(w.heap.size≤k_)) (fun _=>False) rfl (by first|(go_simp;done)|(go_simp;rfl)) ?aP (fun _ hk=>hk.elim) ?aF ?aO ?aB ?aS ?aL ?_;(case aP=>exact rfl);(case aB=>exact mq);(case aF=>exact(fun k_ hk=>(Nat.le_trans (below_size mq) hk)));(case aO=>exact(by(with_reducible repeat(first|apply zE|apply zD|apply zF));exact zR (zL (p:=⟨gb355,1,none⟩) (zL (p:=⟨gb355,0,none⟩) (zQ HO_3.out BK355.out (by decide)) (fun _ hk=>hk.2) (.string ((rd_T151 t351 x13_1).f0))) (fun _ hk=>hk.2) (.int .i64 ((rd_T151 t351 x13_1).f1))) (fun _ hk=>hk.1)));(case aS=>exact(below_size mq));(case aL=>have:=LMc17.out;omega);intro v357 w21 ho hb hg hat;rw[← Ny356.out] at ho;have n0_:=Aside0.mk (Kd.R_over' (by(with_reducible repeat(first|apply zE|apply zD|apply zF));exact(zR (zL (p:=⟨gb355,1,none⟩) (zL (p:=⟨gb355,0,none⟩) (zR HO_11.out (fun k_ hk=>(⟨hk,hk.2⟩:_∧k_ ≠ gb355))) (fun _ hk=>hk.2) (.string ((rd_T151 t351 x13_1).f0))) (fun _ hk=>hk.2) (.int .i64 ((rd_T151 t351 x13_1).f1))) (fun _ h_=>h_.1))) (Kd.R_typed (by(with_reducible repeat(first|apply zE|apply zD|apply zF));exact(zR (zL (p:=⟨gb355,1,none⟩) (zL (p:=⟨gb355,0,none⟩) (zQ HO_3.out BK355.out (by decide)) (fun _ hk=>hk.2) (.string ((rd_T151 t351 x13_1).f0))) (fun _ hk=>hk.2) (.int .i64 ((rd_T151 t351 x13_1).f1))) (fun _ h_=>h_.1)))) (by decide) hg);have n1_:=Aside0.mk (Kd.V_afterv (ok:=(fun k_=>((P0_0_ k_ ∨ P0_1_ k_) ∨ w.heap.size≤k_)∧some k_ ≠ (.slice (some ad354) t351.length co9:Value).ownBlock∧k_ ≠ gb347∧k_ ≠ gb355)) (by(with_reducible repeat(first|apply Kd.V_alloc|apply Kd.V_drewN|apply Kd.V_drew));exact Kd.V_mono (Kd.V_far (p:=⟨gb355,1,none⟩) (Kd.V_far (p:=⟨gb355,0,none⟩) (Kd.V_mono HO_348000.out (fun k_ hk=>(⟨hk,hk.2⟩:_∧k_ ≠ gb355))) (fun _ hk=>hk.2) (.string ((rd_T151 t351 x13_1).f0))) (fun _ hk=>hk.2) (.int .i64 ((rd_T151 t351 x13_1).f1))) (fun _ hk=>⟨⟨hk.1.1.1,⟨hk.1.1.2.2.1,⟨hk.1.1.2.2.2,hk.1.2⟩⟩⟩,hk.1.1.2.1⟩)) hg hat);have n2_:=Aside0.mk (Kd.V_afterv (ok:=(fun k_=>((P0_0_ k_ ∨ P0_1_ k_) ∨ w.heap.size≤k_)∧some k_ ≠ (.slice (some ad354) t351.length co9:Value).ownBlock∧k_ ≠ gb347∧k_ ≠ gb355)) (by(with_reducible repeat(first|apply Kd.V_alloc|apply Kd.V_drewN|apply Kd.V_drew));exact Kd.V_mono (Kd.V_far (p:=⟨gb355,1,none⟩) (Kd.V_far (p:=⟨gb355,0,none⟩) (Kd.V_mono HO_348001.out (fun k_ hk=>(⟨hk,hk.2⟩:_∧k_ ≠ gb355))) (fun _ hk=>hk.2) (.string ((rd_T151 t351 x13_1).f0))) (fun _ hk=>hk.2) (.int .i64 ((rd_T151 t351 x13_1).f1))) (fun _ hk=>⟨⟨hk.1.1.1,⟨hk.1.1.2.2.1,⟨hk.1.1.2.2.2,hk.1.2⟩⟩⟩,hk.1.1.2.1⟩)) hg hat);have n3_:=Aside0.mk (blk_grown (g:=gb347) (o:=.cells #[.slice A0_0 l0_0.length c0_0,.slice A0_1 l0_1.length c0_1,.int .i64 a0_2] 45 (0,0)) (by(with_reducible repeat(first|apply zA|apply zC|apply zB));refine zT ?_ NB347_355.out _;(with_reducible repeat(first|apply zA|apply zC|apply zB));refine zT ?_ NB347_355.out _;(with_reducible repeat(first|apply zA|apply zC|apply zB));exact BK347.out) hg (Kd.R_ne HO_3.out BK347.out (by decide)));have n4_:=Aside0.mk (blk_grown (g:=gb355) (o:=.cells #[.string ((rd_T151 t351 x13_1).f0),.int .i64 ((rd_T151 t351 x13_1).f1)] 151 (0,0)) (by(with_reducible repeat(first|apply zA|apply zC|apply zB));refine blk_put (cs:=#[.string ((rd_T151 t351 x13_1).f0),.int .i64 0]) ?_ 1 _ rfl;(with_reducible repeat(first|apply zA|apply zC|apply zB));refine blk_put (cs:=#[.string (⟨#[]⟩:ByteArray),.int .i64 0]) ?_ 0 _ rfl;(with_reducible repeat(first|apply zA|apply zC|apply zB));exact BK355.out) hg (Kd.R_ne HO_3.out BK355.out (by decide)));have n5_:=Aside0.mk (hb);have n6_:=Aside0.mk (ho);clear HO_11;clear HO_348000;clear HO_348001;clear BK347;clear BK355;clear HB;clear HO_3;have HO_11:=n0_;have HO_348000:=n1_;have HO_348001:=n2_;have BK347:=n3_;have BK355:=n4_;have HB:=n5_;have HO358:=n6_;clear n0_ n1_ n2_ n3_ n4_ n5_ n6_;clear ho hb hg hat))
        go_roundg k1
        case measure=>have:=HK1.out;omega
        case rel=>exact⟨(y356),(wrap64 (x13_1+1)),mt,H',⟨by have:=HK1.out;omega⟩,⟨by(with_reducible repeat(first|apply zE|apply zD|apply zF));exact HO358.out⟩,⟨by(with_reducible repeat(first|apply zE|apply zD|apply zF));exact zR HO_11.out (fun _ hk=>hk.1)⟩,⟨by(with_reducible repeat(first|apply Kd.V_alloc|apply Kd.V_drewN|apply Kd.V_drew));exact Kd.V_mono HO_348000.out (fun _ hk=>⟨hk.1.1,⟨hk.2,⟨hk.1.2.1,hk.1.2.2.1⟩⟩⟩)⟩,⟨by(with_reducible repeat(first|apply Kd.V_alloc|apply Kd.V_drewN|apply Kd.V_drew));exact Kd.V_mono HO_348001.out (fun _ hk=>⟨hk.1.1,⟨hk.2,⟨hk.1.2.1,hk.1.2.2.1⟩⟩⟩)⟩,⟨mz BK347.out⟩,⟨mq⟩⟩
       ·rw[if_neg c17] at H
        exact absurd H (by simp)
     ·rw[if_neg c12] at H
      exact absurd H (by simp)
    ·rw[if_neg c11] at H
     exact absurd H (by simp)
   ·rw[if_neg c10] at H
    have c10b0:decide (x13_1 < (t351.length:Int))=false:=decide_eq_false c10;clear c10;replace H:=Option.bind_eq_some_iff.mp H;obtain⟨t359,A220,H⟩:=H;(try dsimp only at H)
    have A22:=Aside0.mk A220;clear A220;obtain rfl:=Option.some.inj H;obtain⟨Ao23,co23,eo23⟩:=Kd.R_slice HO_3.out;subst eo23;go_wp2_with (first|((with_reducible refine gate_callee (f:=54) rfl ?_);refine goesL_ (some 27) rfl rfl Tryz.func54 (by kernel_rfl) rfl #[.slice Ao23 x3_1.length co23] rfl ml ?_;(with_reducible refine(slices_Sort_string_string.calls (fun k_=>some k_=(.slice Ao23 x3_1.length co23:Value).ownBlock) (.slice Ao23 x3_1.length co23) x3_1 t359 w _ ?side1 ?side2 A22.out).mono ?_);(case side1=>repeat(with_reducible first|exact HB.out|apply zI|apply zG|apply zH|refine zJ ?_ GE347.out));(case side2=>exact Kd.R_tight rfl HO_3.out);rintro e w24 ⟨rfl,hy0,hb,hkp⟩;refine⟨_,rfl,?_⟩;have n0_:=Aside0.mk (Kd.R_reok rfl hy0 (fun k_ e_=>HO_3.out.1 k_ e_));have n1_:=Aside0.mk (zR (ok':=fun k_=>(w.heap.size≤k_)) (Kd.R_keptB ((Kd.R_apart' HO_11.out (Kd.R_typed HO_3.out) (by decide))) hkp (fun k_ hk_ hs_=>by first|exact hk_.2 hs_|(have h_:=hk_;(try simp only [and_assoc] at h_);first|exact h_ hs_|exact h_.1 hs_|exact h_.2 hs_|exact h_.2.1 hs_|exact h_.2.2 hs_|exact h_.2.2.1 hs_|exact h_.2.2.2 hs_|exact h_.2.2.2.1 hs_|exact h_.2.2.2.2 hs_|exact h_.2.2.2.2.1 hs_))) (fun k_ hk_=>by first|exact hk_.1.1|(have h_:=hk_;(try simp only [and_assoc] at h_);first|exact h_|exact h_.1|exact h_.2|exact h_.2.1|exact h_.2.2|exact h_.2.2.1|exact h_.2.2.2|exact h_.2.2.2.1|exact h_.2.2.2.2|exact h_.2.2.2.2.1)));have n2_:=Aside0.mk (Kd.V_mono (ok':=fun k_=>((P0_0_ k_ ∨ P0_1_ k_) ∨ w.heap.size≤k_)∧some k_ ≠ (.slice Ao23 x3_1.length co23:Value).ownBlock∧some k_ ≠ (.slice Ao9 t351.length co9:Value).ownBlock∧k_ ≠ gb347) (Kd.V_keptB (HO_348000.out) hkp (fun k_ hk_ hs_=>by first|exact hk_.2.1 hs_|(have h_:=hk_;(try simp only [and_assoc] at h_);first|exact h_ hs_|exact h_.1 hs_|exact h_.2 hs_|exact h_.2.1 hs_|exact h_.2.2 hs_|exact h_.2.2.1 hs_|exact h_.2.2.2 hs_|exact h_.2.2.2.1 hs_|exact h_.2.2.2.2 hs_|exact h_.2.2.2.2.1 hs_))) (fun k_ hk_=>by first|exact⟨hk_.1.1,hk_.1.2.1,hk_.1.2.2.1,hk_.1.2.2.2⟩|(have h_:=hk_;(try simp only [and_assoc] at h_);refine⟨?_,?_,?_,?_⟩ <;> first|exact h_|exact h_.1|exact h_.2|exact h_.2.1|exact h_.2.2|exact h_.2.2.1|exact h_.2.2.2|exact h_.2.2.2.1|exact h_.2.2.2.2|exact h_.2.2.2.2.1)));have n3_:=Aside0.mk (Kd.V_mono (ok':=fun k_=>((P0_0_ k_ ∨ P0_1_ k_) ∨ w.heap.size≤k_)∧some k_ ≠ (.slice Ao23 x3_1.length co23:Value).ownBlock∧some k_ ≠ (.slice Ao9 t351.length co9:Value).ownBlock∧k_ ≠ gb347) (Kd.V_keptB (HO_348001.out) hkp (fun k_ hk_ hs_=>by first|exact hk_.2.1 hs_|(have h_:=hk_;(try simp only [and_assoc] at h_);first|exact h_ hs_|exact h_.1 hs_|exact h_.2 hs_|exact h_.2.1 hs_|exact h_.2.2 hs_|exact h_.2.2.1 hs_|exact h_.2.2.2 hs_|exact h_.2.2.2.1 hs_|exact h_.2.2.2.2 hs_|exact h_.2.2.2.2.1 hs_))) (fun k_ hk_=>by first|exact⟨hk_.1.1,hk_.1.2.1,hk_.1.2.2.1,hk_.1.2.2.2⟩|(have h_:=hk_;(try simp only [and_assoc] at h_);refine⟨?_,?_,?_,?_⟩ <;> first|exact h_|exact h_.1|exact h_.2|exact h_.2.1|exact h_.2.2|exact h_.2.2.1|exact h_.2.2.2|exact h_.2.2.2.1|exact h_.2.2.2.2|exact h_.2.2.2.2.1)));have n4_:=Aside0.mk (blk_kept (by first|exact BK347.out|exact zA BK347.out _|((with_reducible repeat(first|apply zA|apply zC|apply zB));exact BK347.out)) hkp (fun hs_=>(fun e_=>(Kd.R_ne HO_3.out BK347.out (by decide)) e_) hs_));have n5_:=Aside0.mk (hb);clear HO_3;clear HO_11;clear HO_348000;clear HO_348001;clear BK347;clear HB;have HO_3:=n0_;have HO_11:=n1_;have HO_348000:=n2_;have HO_348001:=n3_;have BK347:=n4_;have HB:=n5_;clear n0_ n1_ n2_ n3_ n4_ n5_;(try clear hb);(try clear hkp);(try clear hy0)));go_ret;exact⟨_,mr,by(with_reducible repeat(first|apply zE|apply zD|apply zF));exact HO_3.out,mq⟩
def impl_isSize.f (a0:Int):Option (Bool):=if a0=4 then (some true) else (if a0=8 then (some true) else (if a0=16 then (some true) else (if a0=32 then (some true) else (if a0=64 then (some true) else (some false)))))
theorem impl_isSize.calls (a0:Int) (r:Bool) (w:World) (h:impl_isSize.f a0=some r) :
  Calls Tryz.prog 167 #[.int .i64 a0] w fun e w'=>e=.returned (.bool r)∧Drawn0 w w':=by
 unfold impl_isSize.f at h;have H:=h;clear h;by_cases c2:a0=4
 ·rw[if_pos c2] at H
  have c2b0:(a0 == 4)=true:=beq_iff_eq.mpr c2;have c2b1:(a0 != 4)=false:=bne_eq_false_iff_eq.mpr c2;clear c2;obtain rfl:=Option.some.inj H;go_enter Tryz.func167,Tryz.ntmps167
  go_wp2
  go_ret;exact⟨by first|rfl|(simp;done)|(simp[*];done),md⟩
 ·rw[if_neg c2] at H
  have c2b0:(a0 == 4)=false:=beq_eq_false_iff_ne.mpr c2;have c2b1:(a0 != 4)=true:=bne_iff_ne.mpr c2
  by_cases c3:a0=8
  ·rw[if_pos c3] at H
   have c3b0:(a0 == 8)=true:=beq_iff_eq.mpr c3;have c3b1:(a0 != 8)=false:=bne_eq_false_iff_eq.mpr c3;clear c3;obtain rfl:=Option.some.inj H;go_enter Tryz.func167,Tryz.ntmps167
   go_wp2
   go_ret;exact⟨by first|rfl|(simp;done)|(simp[*];done),md⟩
  ·rw[if_neg c3] at H
   have c3b0:(a0 == 8)=false:=beq_eq_false_iff_ne.mpr c3;have c3b1:(a0 != 8)=true:=bne_iff_ne.mpr c3
   by_cases c4:a0=16
   ·rw[if_pos c4] at H
    have c4b0:(a0 == 16)=true:=beq_iff_eq.mpr c4;have c4b1:(a0 != 16)=false:=bne_eq_false_iff_eq.mpr c4;clear c4;obtain rfl:=Option.some.inj H;go_enter Tryz.func167,Tryz.ntmps167
    go_wp2
    go_ret;exact⟨by first|rfl|(simp;done)|(simp[*];done),md⟩
   ·rw[if_neg c4] at H
    have c4b0:(a0 == 16)=false:=beq_eq_false_iff_ne.mpr c4;have c4b1:(a0 != 16)=true:=bne_iff_ne.mpr c4
    by_cases c5:a0=32
    ·rw[if_pos c5] at H
     have c5b0:(a0 == 32)=true:=beq_iff_eq.mpr c5;have c5b1:(a0 != 32)=false:=bne_eq_false_iff_eq.mpr c5;clear c5;obtain rfl:=Option.some.inj H;go_enter Tryz.func167,Tryz.ntmps167
     go_wp2
     go_ret;exact⟨by first|rfl|(simp;done)|(simp[*];done),md⟩
    ·rw[if_neg c5] at H
     have c5b0:(a0 == 32)=false:=beq_eq_false_iff_ne.mpr c5;have c5b1:(a0 != 32)=true:=bne_iff_ne.mpr c5
     by_cases c6:a0=64
     ·rw[if_pos c6] at H
      have c6b0:(a0 == 64)=true:=beq_iff_eq.mpr c6;have c6b1:(a0 != 64)=false:=bne_eq_false_iff_eq.mpr c6;clear c6;obtain rfl:=Option.some.inj H;go_enter Tryz.func167,Tryz.ntmps167
      go_wp2
      go_ret;exact⟨by first|rfl|(simp;done)|(simp[*];done),md⟩
     ·rw[if_neg c6] at H
      have c6b0:(a0 == 64)=false:=beq_eq_false_iff_ne.mpr c6;have c6b1:(a0 != 64)=true:=bne_iff_ne.mpr c6;obtain rfl:=Option.some.inj H;go_enter Tryz.func167,Tryz.ntmps167
      go_wp2
      go_ret;exact⟨by first|rfl|(simp;done)|(simp[*];done),md⟩
def impl_HashOf.l0:Nat→ByteArray→Int→Int→Option (Int)
|0,_,_,_=>none
|k+1,x0,x5,x6=>if x6 < (x0.size:Int) then (if 0≤x6 then (impl_HashOf.l0 k x0 (((Go.bits .xor .u32 x5 ((bt x0 x6) % 4294967296)) * 16777619) % 4294967296) (wrap64 (x6+1))) else (none)) else (some (wrap64 (Go.bits .xor .u32 x5 (x5 / 65536))))
def impl_HashOf.f (k:Nat) (a0:ByteArray) (a1:Int):Option (Int):=impl_HashOf.l0 k a0 (2166136261+(mx 0 (mn a1 1000000000))) 0
theorem impl_HashOf.calls (k:Nat) (a0:ByteArray) (a1:Int) (r:Int) (w:World) (h:impl_HashOf.f k a0 a1=some r) :
  Calls Tryz.prog 206 #[.string a0,.int .i64 a1] w fun e w'=>e=.returned (.int .i64 r)∧Below w.heap.size w w':=by
 have HB:=Aside0.mk (Below.refl w.heap.size w);unfold impl_HashOf.f at h;have H:=h;clear h;obtain⟨ji3,hji3⟩:∃ j_:Int,(mn a1 1000000000)=j_:=⟨_,rfl⟩;replace H:(impl_HashOf.l0 k a0 (2166136261+(mx 0 (ji3))) 0)=some r:=by first|(rw[hji3] at H;exact H)|(simp only [hji3] at H ⊢;exact H)
 (try(have hji3h:ji3≤1000000000:=by(rw[← hji3];unfold mn;(repeat' split) <;> omega)))
 (try(have hji3g:ji3≤64:=by omega))
 have hji3_:(if 1000000000 < a1 then 1000000000 else a1)=ji3:=hji3;obtain⟨ji4,hji4⟩:∃ j_:Int,(mx 0 (ji3))=j_:=⟨_,rfl⟩;replace H:(impl_HashOf.l0 k a0 (2166136261+(ji4)) 0)=some r:=by first|(rw[hji4] at H;exact H)|(simp only [hji4] at H ⊢;exact H)
 have hji4_:(if 0 < (ji3) then (ji3) else 0)=ji4:=hji4;have H':=Aside0.mk H;clear H;go_enter Tryz.func206,Tryz.ntmps206
 go_wp2
 go_loopg [5,6] k (fun kq v5 v6 w'=>∃ (x5_1:Int) (x6_1:Int),v5=.int .u32 x5_1∧v6=.int .i64 x6_1∧Aside0 (impl_HashOf.l0 kq a0 x5_1 x6_1=some r)∧Aside0 (kq≤k)∧Aside0 (Below w.heap.size w w'))
 case atStart=>exact⟨(2166136261+(ji4)),(0),(by first|rfl|(simp;done)|(simp only [← hji4] <;> (first|rfl|simp))|(simp[*];done)),mt,H',⟨Nat.le_refl _⟩,⟨mq⟩⟩
 case round =>
  clear H';obtain⟨x5_1,x6_1,rfl,rfl,HA,HK1,HB⟩:=hrel;cases gk with
 |zero=>exact absurd HA.out (by simp[impl_HashOf.l0])
 |succ k1 =>
   have H:=HA.out;clear HA;simp only [impl_HashOf.l0] at H;by_cases c5:x6_1 < (a0.size:Int)
   ·rw[if_pos c5] at H
    have c5b0:decide (x6_1 < (a0.size:Int))=true:=decide_eq_true c5;clear c5;by_cases c6:0≤x6_1
    ·rw[if_pos c6] at H
     have c6b0:decide (0≤x6_1)=true:=decide_eq_true c6;clear c6;have H':=Aside0.mk H;clear H;have p7:0≤(x6_1:Int):=mo;have q7:x6_1 < (a0.size:Int):=mo;have hx7:=bt_at a0 x6_1;replace p7:=eq_true p7;replace q7:=eq_true q7;go_wp2
     go_roundg k1
     case measure=>have:=HK1.out;omega
     case rel=>exact⟨(((Go.bits .xor .u32 x5_1 ((bt a0 x6_1) % 4294967296)) * 16777619) % 4294967296),(wrap64 (x6_1+1)),mt,mt,H',⟨by have:=HK1.out;omega⟩,⟨mq⟩⟩
    ·rw[if_neg c6] at H
     exact absurd H (by simp)
   ·rw[if_neg c5] at H
    have c5b0:decide (x6_1 < (a0.size:Int))=false:=decide_eq_false c5;clear c5;obtain rfl:=Option.some.inj H;go_wp2
    go_ret;exact⟨by first|rfl|(simp[] <;> rfl)|(simp only [← hji3,← hji4];first|rfl|(simp[] <;> rfl))|(simp[*] <;> rfl),mq⟩
end Go.Proofs.YtediiolcoilepaaGreat.GNear
