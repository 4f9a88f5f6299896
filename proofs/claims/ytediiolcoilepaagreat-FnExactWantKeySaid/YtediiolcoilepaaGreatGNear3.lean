/- Walks of callees. -/
import Derived.Test.YtediiolcoilepaaGreatGNear0
import Derived.Test.YtediiolcoilepaaGreatGNear2
namespace Go.Proofs.YtediiolcoilepaaGreat.GNear
set_option maxHeartbeats 8000000
set_option maxRecDepth 100000
open Go.RowKit Go.Proofs.YtediiolcoilepaaGreatW.PrintWords Go.Proofs.YtediiolcoilepaaGreatW.PrintLast Go.Proofs.YtediiolcoilepaaGreatW.PrintMore
attribute [local go_sem] max2_int min2_int max_two min_two max_three min_three max_four min_four
set_option linter.unusedVariables false
set_option linter.unusedSimpArgs false
theorem zc3 {w w1:World} {a:Addr} {v:Value} (hb:Below w.heap.size w w1) (h:w.cell? a=some v):w1.cell? a=some v:=(hb.cell (World.block_lt_of_cell? w _ h)).trans h
def impl_Arena_used.l0:Nat→Int→List (S94)→Int→Int→Option (Int)
|0,_,_,_,_=>none
|k+1,x3,x7,x8,x9=>if x9 < x8 then (if 0≤x9 then (if x9 < (x7.length:Int) then (if (rd_T94 x7 x9).f1=true then (impl_Arena_used.l0 k (wrap64 (x3+1)) x7 x8 (wrap64 (x9+1))) else (impl_Arena_used.l0 k x3 x7 x8 (wrap64 (x9+1)))) else (none)) else (none)) else (some x3)
def impl_Arena_used.f (k:Nat) (l0_0:List (S94)) (a0_1:Int):Option (Int):=impl_Arena_used.l0 k 0 l0_0 (l0_0.length:Int) 0
theorem impl_Arena_used.calls (k:Nat) (A0_0:Option Addr) (c0_0:Nat) (l0_0:List (S94)) (a0_1:Int) (r:Int) (w:World) (hr0_0:Kd.C k94 w A0_0 l0_0.length l0_0) (hc0_0:l0_0.length≤c0_0) (h:impl_Arena_used.f k l0_0 a0_1=some r) :
  Calls Tryz.prog 64 #[.agg #[.slice A0_0 l0_0.length c0_0,.int .i64 a0_1]] w fun e w'=>e=.returned (.int .i64 r)∧Below w.heap.size w w':=by
 have hu42:=Tryz.underlying42;have hu94:=Tryz.underlying94;have HR0_0:=Aside0.mk hr0_0;have HC0_0:=Aside0.mk hc0_0;clear hr0_0 hc0_0;have HB:=Aside0.mk (Below.refl w.heap.size w);unfold impl_Arena_used.f at h;have H:=h;clear h;have H':=Aside0.mk H;clear H;go_enter Tryz.func64,Tryz.ntmps64;go_wp2_with (first|((with_reducible refine gate_dst (N:=1) rfl ?_);refine yE (N:=1) (cs:=#[.slice A0_0 l0_0.length c0_0,.int .i64 a0_1]) (t:=42) fun gb329 hg w2 hbox hb=>?_;obtain⟨n0_,n2_⟩:=yX (w:=w) hg hb mq;have n1_:=Aside0.mk (hbox);have n3_:=n2_;clear HB;have HB:=n0_;have BK329:=n1_;have GW329:=n2_;have GE329:=n3_;clear n0_ n1_ n2_ n3_;clear hb hbox hg;obtain⟨hcz3_0,hcz3_1,hfz3_0,hfz3_1⟩:=zb2 BK329.out))
 go_loopg [3,9] k (fun kq v3 v9 w'=>∃ (x3_1:Int) (x9_1:Int),v3=.int .i64 x3_1∧v9=.int .i64 x9_1∧Aside0 (impl_Arena_used.l0 kq x3_1 l0_0 (l0_0.length:Int) x9_1=some r)∧Aside0 (kq≤k)∧Aside0 (w'.heap[gb329]? = some (.cells #[(.slice A0_0 l0_0.length c0_0),.int .i64 a0_1] 42 (0,0)))∧Aside0 (Below w.heap.size w w'))
 case atStart=>exact⟨(0),(0),mt,mt,H',⟨Nat.le_refl _⟩,⟨mz BK329.out⟩,⟨mq⟩⟩
 case round =>
  clear H';obtain⟨x3_1,x9_1,rfl,rfl,HA,HK1,BK329,HB⟩:=hrel;cases gk with
 |zero=>exact absurd HA.out (by simp[impl_Arena_used.l0])
 |succ k1 =>
   have H:=HA.out;clear HA;simp only [impl_Arena_used.l0] at H;by_cases c4:x9_1 < (l0_0.length:Int)
   ·rw[if_pos c4] at H
    have c4b0:decide (x9_1 < (l0_0.length:Int))=true:=decide_eq_true c4;clear c4;by_cases c5:0≤x9_1
    ·rw[if_pos c5] at H
     have c5b0:decide (0≤x9_1)=true:=decide_eq_true c5;clear c5;by_cases c6:x9_1 < (l0_0.length:Int)
     ·rw[if_pos c6] at H
      have c6b0:decide (x9_1 < (l0_0.length:Int))=true:=decide_eq_true c6;clear c6;obtain⟨bq7,hbq7⟩:∃ b_:Bool,b_=((rd_T94 l0_0 x9_1).f1):=⟨_,rfl⟩;rw[← hbq7] at H;have Nbq7:=Aside0.mk hbq7;clear hbq7;by_cases c8:bq7=true
      ·subst c8
       rw[if_pos rfl] at H;have H':=Aside0.mk H;clear H;have p330:0≤(x9_1:Int):=mo;have q330:x9_1 < (l0_0.length:Int):=mo;obtain⟨ad330,e330,hx330_0,hx330_1,hx330_2,hx330_3,hx330_4⟩:=at_T94 HR0_0.out x9_1 p330 q330;(try rw[← Nbq7.out] at hx330_1)
       cases e330;replace hx330_0:=zc3 HB.out hx330_0;replace hx330_1:=zc3 HB.out hx330_1;replace hx330_2:=zc3 HB.out hx330_2;replace hx330_3:=zc3 HB.out hx330_3;replace hx330_4:=zc3 HB.out hx330_4;replace p330:=eq_true p330;replace q330:=eq_true q330;go_wp2_with (first|((with_reducible refine gate_dst (N:=5) rfl ?_);refine yE (N:=5) (cs:=#[.int .i64 0,.bool false,.string (⟨#[]⟩:ByteArray),.string (⟨#[]⟩:ByteArray),.int .i64 0]) (t:=94) fun gb331 hg w9 hbox hb=>?_;obtain⟨n0_,n5_,n6_⟩:=yY hg hb (mz BK329.out);obtain⟨n1_,n3_⟩:=yX (w:=w) hg hb mq;have n2_:=Aside0.mk (hbox);have n4_:=n3_;clear BK329;clear HB;have BK329:=n0_;have HB:=n1_;have BK331:=n2_;have GW331:=n3_;have GE331:=n4_;have NB329_331:=n5_;have NB331_329:=n6_;clear n0_ n1_ n2_ n3_ n4_ n5_ n6_;clear hb hbox hg;have hnb10:=NB331_329.out;have hnc10:=NB329_331.out;obtain⟨hcz11_0,hcz11_1,hcz11_2,hcz11_3,hcz11_4,hfz11_0,hfz11_1,hfz11_2,hfz11_3,hfz11_4⟩:=zb5 BK331.out))
       go_roundg k1
       case measure=>have:=HK1.out;omega
       case rel=>exact⟨(wrap64 (x3_1+1)),(wrap64 (x9_1+1)),mt,mt,H',⟨by have:=HK1.out;omega⟩,⟨by(with_reducible repeat(first|apply zA|apply zC|apply zB));refine zT ?_ NB329_331.out _;(with_reducible repeat(first|apply zA|apply zC|apply zB));refine zT ?_ NB329_331.out _;(with_reducible repeat(first|apply zA|apply zC|apply zB));refine zT ?_ NB329_331.out _;(with_reducible repeat(first|apply zA|apply zC|apply zB));refine zT ?_ NB329_331.out _;(with_reducible repeat(first|apply zA|apply zC|apply zB));refine zT ?_ NB329_331.out _;(with_reducible repeat(first|apply zA|apply zC|apply zB));exact BK329.out⟩,⟨mq⟩⟩
      ·replace c8:=Bool.eq_false_iff.mpr c8
       subst c8;rw[if_neg (show ¬ (false=true) by decide)] at H;have H':=Aside0.mk H;clear H;have p330:0≤(x9_1:Int):=mo;have q330:x9_1 < (l0_0.length:Int):=mo;obtain⟨ad330,e330,hx330_0,hx330_1,hx330_2,hx330_3,hx330_4⟩:=at_T94 HR0_0.out x9_1 p330 q330;(try rw[← Nbq7.out] at hx330_1)
       cases e330;replace hx330_0:=zc3 HB.out hx330_0;replace hx330_1:=zc3 HB.out hx330_1;replace hx330_2:=zc3 HB.out hx330_2;replace hx330_3:=zc3 HB.out hx330_3;replace hx330_4:=zc3 HB.out hx330_4;replace p330:=eq_true p330;replace q330:=eq_true q330;go_wp2_with (first|((with_reducible refine gate_dst (N:=5) rfl ?_);refine yE (N:=5) (cs:=#[.int .i64 0,.bool false,.string (⟨#[]⟩:ByteArray),.string (⟨#[]⟩:ByteArray),.int .i64 0]) (t:=94) fun gb331 hg w12 hbox hb=>?_;obtain⟨n0_,n5_,n6_⟩:=yY hg hb (mz BK329.out);obtain⟨n1_,n3_⟩:=yX (w:=w) hg hb mq;have n2_:=Aside0.mk (hbox);have n4_:=n3_;clear BK329;clear HB;have BK329:=n0_;have HB:=n1_;have BK331:=n2_;have GW331:=n3_;have GE331:=n4_;have NB329_331:=n5_;have NB331_329:=n6_;clear n0_ n1_ n2_ n3_ n4_ n5_ n6_;clear hb hbox hg;have hnb13:=NB331_329.out;have hnc13:=NB329_331.out;obtain⟨hcz14_0,hcz14_1,hcz14_2,hcz14_3,hcz14_4,hfz14_0,hfz14_1,hfz14_2,hfz14_3,hfz14_4⟩:=zb5 BK331.out))
       go_roundg k1
       case measure=>have:=HK1.out;omega
       case rel=>exact⟨(x3_1),(wrap64 (x9_1+1)),mt,mt,H',⟨by have:=HK1.out;omega⟩,⟨by(with_reducible repeat(first|apply zA|apply zC|apply zB));refine zT ?_ NB329_331.out _;(with_reducible repeat(first|apply zA|apply zC|apply zB));refine zT ?_ NB329_331.out _;(with_reducible repeat(first|apply zA|apply zC|apply zB));refine zT ?_ NB329_331.out _;(with_reducible repeat(first|apply zA|apply zC|apply zB));refine zT ?_ NB329_331.out _;(with_reducible repeat(first|apply zA|apply zC|apply zB));refine zT ?_ NB329_331.out _;(with_reducible repeat(first|apply zA|apply zC|apply zB));exact BK329.out⟩,⟨mq⟩⟩
     ·rw[if_neg c6] at H
      exact absurd H (by simp)
    ·rw[if_neg c5] at H
     exact absurd H (by simp)
   ·rw[if_neg c4] at H
    have c4b0:decide (x9_1 < (l0_0.length:Int))=false:=decide_eq_false c4;clear c4;obtain rfl:=Option.some.inj H;go_wp2
    go_ret;exact⟨mr,mq⟩
def impl_inRange.f (a0:Int) (a1:Int) (a2:Int):Option (Bool):=if a0 ≥ a1 then (some (decide (a0≤a2))) else (some false)
theorem impl_inRange.calls (a0:Int) (a1:Int) (a2:Int) (r:Bool) (w:World) (h:impl_inRange.f a0 a1 a2=some r) :
  Calls Tryz.prog 89 #[.int .i64 a0,.int .i64 a1,.int .i64 a2] w fun e w'=>e=.returned (.bool r)∧Drawn0 w w':=by
 unfold impl_inRange.f at h;have H:=h;clear h;by_cases c4:a0 ≥ a1
 ·rw[if_pos c4] at H
  have c4b0:decide (a1≤a0)=true:=decide_eq_true c4;clear c4;obtain rfl:=Option.some.inj H;go_enter Tryz.func89,Tryz.ntmps89
  go_wp2
  go_ret;exact⟨by first|rfl|(simp;done)|(simp[*];done),md⟩
 ·rw[if_neg c4] at H
  have c4b0:decide (a1≤a0)=false:=decide_eq_false c4;clear c4;obtain rfl:=Option.some.inj H;go_enter Tryz.func89,Tryz.ntmps89
  go_wp2
  go_ret;exact⟨by first|rfl|(simp;done)|(simp[*];done),md⟩
def impl_isKey.f (a0:ByteArray):Option (Bool):=(impl_inRange.f (a0.size:Int) 1 12).bind fun t332=>(some t332)
theorem impl_isKey.calls (a0:ByteArray) (r:Bool) (w:World) (h:impl_isKey.f a0=some r) :
  Calls Tryz.prog 85 #[.string a0] w fun e w'=>e=.returned (.bool r)∧Drawn0 w w':=by
 unfold impl_isKey.f at h;have H:=h;clear h;replace H:=Option.bind_eq_some_iff.mp H;obtain⟨t332,A20,H⟩:=H;(try dsimp only at H)
 have A2:=Aside0.mk A20;clear A20;obtain rfl:=Option.some.inj H;go_enter Tryz.func85,Tryz.ntmps85;go_wp2_with (first|((with_reducible refine gate_callee (f:=89) rfl ?_);refine goesL_ (some 5) rfl rfl Tryz.func89 (by kernel_rfl) rfl #[.int .i64 (a0.size:Int),.int .i64 1,.int .i64 12] rfl ml ?_;(with_reducible refine(impl_inRange.calls (a0.size:Int) 1 12 t332 _ A2.out).mono ?_);rintro e w' ⟨rfl,⟨nd,rfl⟩⟩;refine⟨_,rfl,?_⟩));go_ret;exact⟨by first|rfl|(simp;done)|(simp[*];done),md⟩
def impl_slotOk.f (a0_0:Int) (a0_1:Bool) (a0_2:ByteArray) (a0_3:ByteArray) (a0_4:Int):Option (Bool):=(impl_inRange.f a0_0 0 41666665).bind fun t334=>(if t334=true then (if a0_1=true then ((impl_isKey.f a0_2).bind fun t335=>(if t335=true then (if (a0_3.size:Int)≤20 then (some (a0_4 == 0)) else (some false)) else (some false))) else (if a0_2.toList=([]:List UInt8) then (some (a0_3.toList == ([]:List UInt8))) else (some false))) else (some false))
theorem impl_slotOk.calls (a0_0:Int) (a0_1:Bool) (a0_2:ByteArray) (a0_3:ByteArray) (a0_4:Int) (r:Bool) (w:World) (h:impl_slotOk.f a0_0 a0_1 a0_2 a0_3 a0_4=some r) :
  Calls Tryz.prog 190 #[.agg #[.int .i64 a0_0,.bool a0_1,.string a0_2,.string a0_3,.int .i64 a0_4]] w fun e w'=>e=.returned (.bool r)∧Below w.heap.size w w':=by
 have hu94:=Tryz.underlying94;have HB:=Aside0.mk (Below.refl w.heap.size w);unfold impl_slotOk.f at h;have H:=h;clear h;replace H:=Option.bind_eq_some_iff.mp H;obtain⟨t334,A20,H⟩:=H;(try dsimp only at H)
 have A2:=Aside0.mk A20;clear A20;go_enter Tryz.func190,Tryz.ntmps190;go_wp2_with (first|((with_reducible refine gate_dst (N:=1) rfl ?_);(try(refine gate_guard (by rfl) ?_;dsimp only));refine yE (N:=1) (cs:=#[.int .i64 a0_0,.bool a0_1,.string a0_2,.string a0_3,.int .i64 a0_4]) (t:=94) fun gb333 hg w8 hbox hb=>?_;obtain⟨n0_,n2_⟩:=yX (w:=w) hg hb mq;have n1_:=Aside0.mk (hbox);have n3_:=n2_;clear HB;have HB:=n0_;have BK333:=n1_;have GW333:=n2_;have GE333:=n3_;clear n0_ n1_ n2_ n3_;clear hb hbox hg;obtain⟨hcz9_0,hcz9_1,hcz9_2,hcz9_3,hcz9_4,hfz9_0,hfz9_1,hfz9_2,hfz9_3,hfz9_4⟩:=zb5 BK333.out)|((with_reducible refine gate_callee (f:=89) rfl ?_);refine goesL_ (some 5) rfl rfl Tryz.func89 (by kernel_rfl) rfl #[.int .i64 a0_0,.int .i64 0,.int .i64 41666665] rfl ml ?_;(with_reducible refine(impl_inRange.calls a0_0 0 41666665 t334 _ A2.out).mono ?_);rintro e w' ⟨rfl,⟨nd,rfl⟩⟩;refine⟨_,rfl,?_⟩;(refine Classical.byCases (p:=(t334=true)) (fun c3=>?zp42) (fun c3=>?zn42);(case' zn42=>(replace c3:=Bool.eq_false_iff.mpr c3);(subst c3);(have H1:(some false)=some r:=by rw[if_neg (show ¬ (false=true) by decide)] at H;exact H);(clear H);(have H:=H1);(clear H1);(obtain rfl:=Option.some.inj H));(case' zp42=>(subst c3);(have H1:(if a0_1=true then ((impl_isKey.f a0_2).bind fun t335=>(if t335=true then (if (a0_3.size:Int)≤20 then (some (a0_4 == 0)) else (some false)) else (some false))) else (if a0_2.toList=([]:List UInt8) then (some (a0_3.toList == ([]:List UInt8))) else (some false)))=some r:=by rw[if_pos rfl] at H;exact H);(clear H);(have H:=H1);(clear H1);(refine Classical.byCases (p:=(a0_1=true)) (fun c4=>?zp41) (fun c4=>?zn41);(case' zn41=>(replace c4:=Bool.eq_false_iff.mpr c4);(subst c4);(have H1:(if a0_2.toList=([]:List UInt8) then (some (a0_3.toList == ([]:List UInt8))) else (some false))=some r:=by rw[if_neg (show ¬ (false=true) by decide)] at H;exact H);(clear H);(have H:=H1);(clear H1);(refine Classical.byCases (p:=(a0_2.toList=([]:List UInt8))) (fun c14=>?zp40) (fun c14=>?zn40);(case' zn40=>(rw[if_neg c14] at H);(have c14b0:(a0_2.toList == ([]:List UInt8))=false:=beq_eq_false_iff_ne.mpr c14);(have c14b1:(a0_2.toList != ([]:List UInt8))=true:=bne_iff_ne.mpr c14);(obtain rfl:=Option.some.inj H));(case' zp40=>(rw[if_pos c14] at H);(have c14b0:(a0_2.toList == ([]:List UInt8))=true:=beq_iff_eq.mpr c14);(have c14b1:(a0_2.toList != ([]:List UInt8))=false:=bne_eq_false_iff_eq.mpr c14);(clear c14);(obtain rfl:=Option.some.inj H))));(case' zp41=>(subst c4);(have H1:((impl_isKey.f a0_2).bind fun t335=>(if t335=true then (if (a0_3.size:Int)≤20 then (some (a0_4 == 0)) else (some false)) else (some false)))=some r:=by rw[if_pos rfl] at H;exact H);(clear H);(have H:=H1);(clear H1);(replace H:=Option.bind_eq_some_iff.mp H);(obtain⟨t335,A50,H⟩:=H);(replace H:(if t335=true then (if (a0_3.size:Int)≤20 then (some (a0_4 == 0)) else (some false)) else (some false))=some r:=H);(have A5:=Aside0.mk A50);(clear A50))))))|((with_reducible refine gate_callee (f:=85) rfl ?_);refine goesL_ (some 11) rfl rfl Tryz.func85 (by kernel_rfl) rfl #[.string a0_2] rfl ml ?_;(with_reducible refine(impl_isKey.calls a0_2 t335 _ A5.out).mono ?_);rintro e w' ⟨rfl,⟨nd,rfl⟩⟩;refine⟨_,rfl,?_⟩;(refine Classical.byCases (p:=(t335=true)) (fun c6=>?zp39) (fun c6=>?zn39);(case' zn39=>(replace c6:=Bool.eq_false_iff.mpr c6);(subst c6);(have H1:(some false)=some r:=by rw[if_neg (show ¬ (false=true) by decide)] at H;exact H);(clear H);(have H:=H1);(clear H1);(obtain rfl:=Option.some.inj H));(case' zp39=>(subst c6);(have H1:(if (a0_3.size:Int)≤20 then (some (a0_4 == 0)) else (some false))=some r:=by rw[if_pos rfl] at H;exact H);(clear H);(have H:=H1);(clear H1);(refine Classical.byCases (p:=((a0_3.size:Int)≤20)) (fun c7=>?zp38) (fun c7=>?zn38);(case' zn38=>(rw[if_neg c7] at H);(have c7b0:decide ((a0_3.size:Int)≤20)=false:=decide_eq_false c7);(have c7b1:decide (a0_3.size≤20)=false:=decide_eq_false (by omega));(clear c7);(obtain rfl:=Option.some.inj H));(case' zp38=>(rw[if_pos c7] at H);(have c7b0:decide ((a0_3.size:Int)≤20)=true:=decide_eq_true c7);(have c7b1:decide (a0_3.size≤20)=true:=decide_eq_true (by omega));(clear c7);(obtain rfl:=Option.some.inj H)))))))
 ·go_ret
  exact⟨mr,mq⟩
 ·go_ret
  exact⟨mr,mq⟩
 ·go_ret
  exact⟨mr,mq⟩
 ·go_ret
  exact⟨mr,mq⟩
 ·go_ret
  exact⟨mr,mq⟩
 ·go_ret
  exact⟨mr,mq⟩
def impl_Arena_chain.l0:Nat→Int→Int→List (S94)→Int→Option (Int)
|0,_,_,_,_=>none
|k+1,x3,x4,x337000,x337001=>if x4=(-1) then (some x3) else ((impl_inRange.f x4 0 (wrap64 ((x337000.length:Int) - 1))).bind fun t337=>(if t337=true then (if 0≤x4 then (if x4 < (x337000.length:Int) then (if (rd_T94 x337000 x4).f1=true then (some (-1)) else (if x3=(x337000.length:Int) then (some (-1)) else (impl_Arena_chain.l0 k (wrap64 (x3+1)) ((rd_T94 x337000 x4).f4) x337000 x337001))) else (none)) else (none)) else (some (-1))))
def impl_Arena_chain.f (k:Nat) (l0_0:List (S94)) (a0_1:Int):Option (Int):=impl_Arena_chain.l0 k 0 a0_1 l0_0 a0_1
theorem impl_Arena_chain.calls (k:Nat) (A0_0:Option Addr) (c0_0:Nat) (l0_0:List (S94)) (a0_1:Int) (r:Int) (w:World) (hr0_0:Kd.C k94 w A0_0 l0_0.length l0_0) (hc0_0:l0_0.length≤c0_0) (h:impl_Arena_chain.f k l0_0 a0_1=some r) :
  Calls Tryz.prog 191 #[.agg #[.slice A0_0 l0_0.length c0_0,.int .i64 a0_1]] w fun e w'=>e=.returned (.int .i64 r)∧Below w.heap.size w w':=by
 have hu42:=Tryz.underlying42;have HR0_0:=Aside0.mk hr0_0;have HC0_0:=Aside0.mk hc0_0;clear hr0_0 hc0_0;have HB:=Aside0.mk (Below.refl w.heap.size w);unfold impl_Arena_chain.f at h;have H:=h;clear h;have H':=Aside0.mk H;clear H;go_enter Tryz.func191,Tryz.ntmps191;go_wp2_with (first|((with_reducible refine gate_dst (N:=1) rfl ?_);(try(refine gate_guard (by rfl) ?_;dsimp only));refine yE (N:=1) (cs:=#[.slice A0_0 l0_0.length c0_0,.int .i64 a0_1]) (t:=42) fun gb336 hg w2 hbox hb=>?_;obtain⟨n0_,n2_⟩:=yX (w:=w) hg hb mq;have n1_:=Aside0.mk (hbox);have n3_:=n2_;clear HB;have HB:=n0_;have BK336:=n1_;have GW336:=n2_;have GE336:=n3_;clear n0_ n1_ n2_ n3_;clear hb hbox hg;obtain⟨hcz3_0,hcz3_1,hfz3_0,hfz3_1⟩:=zb2 BK336.out))
 go_loopg [3,4] k (fun kq v3 v4 w'=>∃ (x3_1:Int) (x4_1:Int),v3=.int .i64 x3_1∧v4=.int .i64 x4_1∧Aside0 (impl_Arena_chain.l0 kq x3_1 x4_1 l0_0 a0_1=some r)∧Aside0 (kq≤k)∧Aside0 (w'.heap[gb336]? = some (.cells #[(.slice A0_0 l0_0.length c0_0),.int .i64 a0_1] 42 (0,0)))∧Aside0 (Below w.heap.size w w'))
 case atStart=>exact⟨(0),(a0_1),mt,mt,H',⟨Nat.le_refl _⟩,⟨mz BK336.out⟩,⟨mq⟩⟩
 case round =>
  clear H';obtain⟨x3_1,x4_1,rfl,rfl,HA,HK1,BK336,HB⟩:=hrel;cases gk with
 |zero=>exact absurd HA.out (by simp[impl_Arena_chain.l0])
 |succ k1 =>
   have H:=HA.out;clear HA;simp only [impl_Arena_chain.l0] at H;by_cases c4:x4_1=(-1)
   ·rw[if_pos c4] at H
    have c4b0:(x4_1 == (-1))=true:=beq_iff_eq.mpr c4;have c4b1:(x4_1 != (-1))=false:=bne_eq_false_iff_eq.mpr c4;clear c4;obtain rfl:=Option.some.inj H;go_wp2
    go_ret;exact⟨mr,mq⟩
   ·rw[if_neg c4] at H
    have c4b0:(x4_1 == (-1))=false:=beq_eq_false_iff_ne.mpr c4;have c4b1:(x4_1 != (-1))=true:=bne_iff_ne.mpr c4;replace H:=Option.bind_eq_some_iff.mp H;obtain⟨t337,A50,H⟩:=H;(try dsimp only at H)
    have A5:=Aside0.mk A50;clear A50;by_cases c6:t337=true
    ·subst c6
     rw[if_pos rfl] at H;by_cases c7:0≤x4_1
     ·rw[if_pos c7] at H
      have c7b0:decide (0≤x4_1)=true:=decide_eq_true c7;clear c7;by_cases c8:x4_1 < (l0_0.length:Int)
      ·rw[if_pos c8] at H
       have c8b0:decide (x4_1 < (l0_0.length:Int))=true:=decide_eq_true c8;clear c8;obtain⟨bq9,hbq9⟩:∃ b_:Bool,b_=((rd_T94 l0_0 x4_1).f1):=⟨_,rfl⟩;rw[← hbq9] at H;have Nbq9:=Aside0.mk hbq9;clear hbq9;by_cases c10:bq9=true
       ·subst c10
        rw[if_pos rfl] at H;obtain rfl:=Option.some.inj H;obtain⟨hcz11_0,hcz11_1,hfz11_0,hfz11_1⟩:=zb2 BK336.out;go_wp2_with (first|((with_reducible refine gate_callee (f:=89) rfl ?_);refine goesL_ (some 20) rfl rfl Tryz.func89 (by kernel_rfl) rfl #[.int .i64 x4_1,.int .i64 0,.int .i64 (wrap64 ((l0_0.length:Int) - 1))] rfl ml ?_;(with_reducible refine(impl_inRange.calls x4_1 0 (wrap64 ((l0_0.length:Int) - 1)) true _ A5.out).mono ?_);rintro e w' ⟨rfl,⟨nd,rfl⟩⟩;refine⟨_,rfl,?_⟩;have p338:0≤(x4_1:Int):=mo;have q338:x4_1 < (l0_0.length:Int):=mo;obtain⟨ad338,e338,hx338_0,hx338_1,hx338_2,hx338_3,hx338_4⟩:=at_T94 HR0_0.out x4_1 p338 q338;(try rw[← Nbq9.out] at hx338_1);cases e338;replace hx338_0:=zc3 HB.out hx338_0;replace hx338_1:=zc3 HB.out hx338_1;replace hx338_2:=zc3 HB.out hx338_2;replace hx338_3:=zc3 HB.out hx338_3;replace hx338_4:=zc3 HB.out hx338_4;replace p338:=eq_true p338;replace q338:=eq_true q338));go_ret;exact⟨mr,mq⟩
       ·replace c10:=Bool.eq_false_iff.mpr c10
        subst c10;rw[if_neg (show ¬ (false=true) by decide)] at H;by_cases c12:x3_1=(l0_0.length:Int)
        ·rw[if_pos c12] at H
         have c12b0:(x3_1 == (l0_0.length:Int))=true:=beq_iff_eq.mpr c12;have c12b1:(x3_1 != (l0_0.length:Int))=false:=bne_eq_false_iff_eq.mpr c12;clear c12;obtain rfl:=Option.some.inj H;obtain⟨hcz13_0,hcz13_1,hfz13_0,hfz13_1⟩:=zb2 BK336.out;go_wp2_with (first|((with_reducible refine gate_callee (f:=89) rfl ?_);refine goesL_ (some 20) rfl rfl Tryz.func89 (by kernel_rfl) rfl #[.int .i64 x4_1,.int .i64 0,.int .i64 (wrap64 ((l0_0.length:Int) - 1))] rfl ml ?_;(with_reducible refine(impl_inRange.calls x4_1 0 (wrap64 ((l0_0.length:Int) - 1)) true _ A5.out).mono ?_);rintro e w' ⟨rfl,⟨nd,rfl⟩⟩;refine⟨_,rfl,?_⟩;have p338:0≤(x4_1:Int):=mo;have q338:x4_1 < (l0_0.length:Int):=mo;obtain⟨ad338,e338,hx338_0,hx338_1,hx338_2,hx338_3,hx338_4⟩:=at_T94 HR0_0.out x4_1 p338 q338;(try rw[← Nbq9.out] at hx338_1);cases e338;replace hx338_0:=zc3 HB.out hx338_0;replace hx338_1:=zc3 HB.out hx338_1;replace hx338_2:=zc3 HB.out hx338_2;replace hx338_3:=zc3 HB.out hx338_3;replace hx338_4:=zc3 HB.out hx338_4;replace p338:=eq_true p338;replace q338:=eq_true q338));go_ret;exact⟨mr,mq⟩
        ·rw[if_neg c12] at H
         have c12b0:(x3_1 == (l0_0.length:Int))=false:=beq_eq_false_iff_ne.mpr c12;have c12b1:(x3_1 != (l0_0.length:Int))=true:=bne_iff_ne.mpr c12;have H':=Aside0.mk H;clear H;obtain⟨hcz14_0,hcz14_1,hfz14_0,hfz14_1⟩:=zb2 BK336.out;go_wp2_with (first|((with_reducible refine gate_callee (f:=89) rfl ?_);refine goesL_ (some 20) rfl rfl Tryz.func89 (by kernel_rfl) rfl #[.int .i64 x4_1,.int .i64 0,.int .i64 (wrap64 ((l0_0.length:Int) - 1))] rfl ml ?_;(with_reducible refine(impl_inRange.calls x4_1 0 (wrap64 ((l0_0.length:Int) - 1)) true _ A5.out).mono ?_);rintro e w' ⟨rfl,⟨nd,rfl⟩⟩;refine⟨_,rfl,?_⟩;have p338:0≤(x4_1:Int):=mo;have q338:x4_1 < (l0_0.length:Int):=mo;obtain⟨ad338,e338,hx338_0,hx338_1,hx338_2,hx338_3,hx338_4⟩:=at_T94 HR0_0.out x4_1 p338 q338;(try rw[← Nbq9.out] at hx338_1);cases e338;replace hx338_0:=zc3 HB.out hx338_0;replace hx338_1:=zc3 HB.out hx338_1;replace hx338_2:=zc3 HB.out hx338_2;replace hx338_3:=zc3 HB.out hx338_3;replace hx338_4:=zc3 HB.out hx338_4;replace p338:=eq_true p338;replace q338:=eq_true q338;have p339:0≤(x4_1:Int):=mo;have q339:x4_1 < (l0_0.length:Int):=mo;obtain⟨ad339,e339,hx339_0,hx339_1,hx339_2,hx339_3,hx339_4⟩:=at_T94 HR0_0.out x4_1 p339 q339;(try rw[← Nbq9.out] at hx339_1);obtain rfl:ad338=ad339:=(by injection e339);replace hx339_0:=zc3 HB.out hx339_0;replace hx339_1:=zc3 HB.out hx339_1;replace hx339_2:=zc3 HB.out hx339_2;replace hx339_3:=zc3 HB.out hx339_3;replace hx339_4:=zc3 HB.out hx339_4;replace p339:=eq_true p339;replace q339:=eq_true q339))
         go_roundg k1
         case measure=>have:=HK1.out;omega
         case rel=>exact⟨(wrap64 (x3_1+1)),((rd_T94 l0_0 x4_1).f4),mt,mt,H',⟨by have:=HK1.out;omega⟩,⟨mz BK336.out⟩,⟨mq⟩⟩
      ·rw[if_neg c8] at H
       exact absurd H (by simp)
     ·rw[if_neg c7] at H
      exact absurd H (by simp)
    ·replace c6:=Bool.eq_false_iff.mpr c6
     subst c6;rw[if_neg (show ¬ (false=true) by decide)] at H;obtain rfl:=Option.some.inj H;obtain⟨hcz15_0,hcz15_1,hfz15_0,hfz15_1⟩:=zb2 BK336.out;go_wp2_with (first|((with_reducible refine gate_callee (f:=89) rfl ?_);refine goesL_ (some 20) rfl rfl Tryz.func89 (by kernel_rfl) rfl #[.int .i64 x4_1,.int .i64 0,.int .i64 (wrap64 ((l0_0.length:Int) - 1))] rfl ml ?_;(with_reducible refine(impl_inRange.calls x4_1 0 (wrap64 ((l0_0.length:Int) - 1)) false _ A5.out).mono ?_);rintro e w' ⟨rfl,⟨nd,rfl⟩⟩;refine⟨_,rfl,?_⟩));go_ret;exact⟨mr,mq⟩
end Go.Proofs.YtediiolcoilepaaGreat.GNear
