/- Walks of callees. -/
import Derived.Test.YtediiolcoilepaaGreatGNear5
namespace Go.Proofs.YtediiolcoilepaaGreat.GNear
set_option maxHeartbeats 8000000
set_option maxRecDepth 100000
open Go.RowKit YtediiolcoilepaaGreatW.PrintWords YtediiolcoilepaaGreatW.PrintLast YtediiolcoilepaaGreatW.PrintMore
attribute [local go_sem] A4b A4c A5j A5k A3u A3v A4d A4e
theorem zc8 {w w1:World} {a:Addr} {v:Value} (hb:Below w.heap.size w w1) (h:w.cell? a=some v):w1.cell? a=some v:=(hb.cell (World.block_lt_of_cell? w _ h)).trans h
def A1a.f (k:Nat) (l0_0:List (S151)) (l0_1:List (S151)) (a0_2:Int) (a1:ByteArray):Option (Int × Bool):=(A0q.f k l0_0 a1).bind fun t485=>(if t485 ≥ 0 then (if 0≤t485 then (if t485 < (l0_0.length:Int) then (some ((A0c l0_0 t485).f1,true)) else (none)) else (none)) else ((A0q.f k l0_1 a1).bind fun t487=>(if t487 ≥ 0 then (if 0≤t487 then (if t487 < (l0_1.length:Int) then (some ((A0c l0_1 t487).f1,true)) else (none)) else (none)) else (some (0,false)))))
theorem A1a.calls (k:Nat) (A0_0:Option Addr) (c0_0:Nat) (l0_0:List (S151)) (A0_1:Option Addr) (c0_1:Nat) (l0_1:List (S151)) (a0_2:Int) (a1:ByteArray) (r1:Int) (r2:Bool) (w:World) (hr0_0:Kd.C k151 w A0_0 l0_0.length l0_0) (hc0_0:l0_0.length≤c0_0) (hr0_1:Kd.C k151 w A0_1 l0_1.length l0_1) (hc0_1:l0_1.length≤c0_1) (h:A1a.f k l0_0 l0_1 a0_2 a1=some (r1,r2)) :
  Calls Tryz.prog 57 #[.agg #[.slice A0_0 l0_0.length c0_0,.slice A0_1 l0_1.length c0_1,.int .i64 a0_2],.string a1] w fun e w'=>e=.returned (.tuple #[.int .i64 r1,.bool r2])∧Below w.heap.size w w':=by
 have hu45:=Tryz.underlying45;have HR0_0:=B98 hr0_0;have HC0_0:=B98 hc0_0;clear hr0_0 hc0_0;have HR0_1:=B98 hr0_1;have HC0_1:=B98 hc0_1;clear hr0_1 hc0_1;have HB:=B98 (Below.refl w.heap.size w);unfold A1a.f at h;have H:=h;clear h;replace H:=C0f.mp H;obtain⟨t485,A30,H⟩:=H;(try dsimp only at H)
 have A3:=B98 A30;clear A30;go_enter Tryz.func57,Tryz.ntmps57;go_wp2_with (first|((with_reducible refine A0b (N:=2) rfl ?_);refine yE (N:=2) (cs:=#[.slice A0_0 l0_0.length c0_0,.slice A0_1 l0_1.length c0_1,.int .i64 a0_2]) (t:=45) fun gb484 hg w7 hbox hb=>?_;obtain⟨n0_,n2_⟩:=yX (w:=w) hg hb mq;have n1_:=B98 (hbox);have n3_:=n2_;clear HB;have HB:=n0_;have BK484:=n1_;have GW484:=n2_;have GE484:=n3_;clear n0_ n1_ n2_ n3_;clear hb hbox hg;obtain⟨hcz8_0,hcz8_1,hcz8_2,hfz8_0,hfz8_1,hfz8_2⟩:=zb3 BK484.o)|((with_reducible refine A0j (f:=134) rfl ?_);refine A1l (some 11) rfl rfl Tryz.func134 Zk rfl #[.slice A0_0 l0_0.length c0_0,.string a1] rfl ml ?_;(with_reducible refine(A0q.calls k _ _ l0_0 a1 t485 _ ?side1 ?side2 A3.o).mono ?_);(case side1=>exact mc HR0_0.o);(case side2=>exact HC0_0.o);rintro e w9 ⟨rfl,hb⟩;refine⟨_,rfl,?_⟩;have n0_:=B98 (zK (mz BK484.o) hb);have n1_:=B98 (zN mq hb);clear BK484;clear HB;have BK484:=n0_;have HB:=n1_;clear n0_ n1_;(try clear hb);(try clear hb2);(try clear hk);(try clear hi);obtain⟨hcz10_0,hcz10_1,hcz10_2,hfz10_0,hfz10_1,hfz10_2⟩:=zb3 BK484.o;(refine Classical.byCases (p:=(t485 ≥ 0)) (fun c4=>?zp60) (fun c4=>?zn60);(case' zn60=>(rw[if_neg c4] at H);(have c4b0:decide (0≤t485)=false:=C0a c4);(clear c4);(replace H:=C0f.mp H);(obtain⟨t487,A110,H⟩:=H);(replace H:(if t487 ≥ 0 then (if 0≤t487 then (if t487 < (l0_1.length:Int) then (some ((A0c l0_1 t487).f1,true)) else (none)) else (none)) else (some (0,false)))=some (r1,r2):=H);(have A11:=B98 A110);(clear A110));(case' zp60=>(rw[if_pos c4] at H);(have c4b0:decide (0≤t485)=true:=B99 c4);(clear c4);(refine Classical.byCases (p:=(0≤t485)) (fun c5=>?zp56) (fun c5=>?zn56);(case' zn56=>(rw[if_neg c5] at H);(exact absurd H Zs));(case' zp56=>(rw[if_pos c5] at H);(have c5b0:decide (0≤t485)=true:=B99 c5);(clear c5);(refine Classical.byCases (p:=(t485 < (l0_0.length:Int))) (fun c6=>?zp55) (fun c6=>?zn55);(case' zn55=>(rw[if_neg c6] at H);(exact absurd H Zs));(case' zp55=>(rw[if_pos c6] at H);(have c6b0:decide (t485 < (l0_0.length:Int))=true:=B99 c6);(clear c6);(simp only [Option.some.injEq,Prod.mk.injEq] at H);(obtain⟨rfl,rfl⟩:=H);(have p486:0≤(t485:Int):=mo);(have q486:t485 < (l0_0.length:Int):=mo);(obtain⟨ad486,e486,hx486_0,hx486_1⟩:=A1t HR0_0.o t485 p486 q486);(cases e486);(replace hx486_0:=zc8 HB.o hx486_0);(replace hx486_1:=zc8 HB.o hx486_1);(replace p486:=eq_true p486);(replace q486:=eq_true q486))))))))|((with_reducible refine A0j (f:=134) rfl ?_);refine A1l (some 23) rfl rfl Tryz.func134 Zk rfl #[.slice A0_1 l0_1.length c0_1,.string a1] rfl ml ?_;(with_reducible refine(A0q.calls k _ _ l0_1 a1 t487 _ ?side1 ?side2 A11.o).mono ?_);(case side1=>exact mc HR0_1.o);(case side2=>exact HC0_1.o);rintro e w19 ⟨rfl,hb⟩;refine⟨_,rfl,?_⟩;have n0_:=B98 (zK (mz BK484.o) hb);have n1_:=B98 (zN mq hb);clear BK484;clear HB;have BK484:=n0_;have HB:=n1_;clear n0_ n1_;(try clear hb);(try clear hb2);(try clear hk);(try clear hi);obtain⟨hcz20_0,hcz20_1,hcz20_2,hfz20_0,hfz20_1,hfz20_2⟩:=zb3 BK484.o;(refine Classical.byCases (p:=(t487 ≥ 0)) (fun c12=>?zp59) (fun c12=>?zn59);(case' zn59=>(rw[if_neg c12] at H);(have c12b0:decide (0≤t487)=false:=C0a c12);(clear c12);(simp only [Option.some.injEq,Prod.mk.injEq] at H);(obtain⟨rfl,rfl⟩:=H));(case' zp59=>(rw[if_pos c12] at H);(have c12b0:decide (0≤t487)=true:=B99 c12);(clear c12);(refine Classical.byCases (p:=(0≤t487)) (fun c13=>?zp58) (fun c13=>?zn58);(case' zn58=>(rw[if_neg c13] at H);(exact absurd H Zs));(case' zp58=>(rw[if_pos c13] at H);(have c13b0:decide (0≤t487)=true:=B99 c13);(clear c13);(refine Classical.byCases (p:=(t487 < (l0_1.length:Int))) (fun c14=>?zp57) (fun c14=>?zn57);(case' zn57=>(rw[if_neg c14] at H);(exact absurd H Zs));(case' zp57=>(rw[if_pos c14] at H);(have c14b0:decide (t487 < (l0_1.length:Int))=true:=B99 c14);(clear c14);(simp only [Option.some.injEq,Prod.mk.injEq] at H);(obtain⟨rfl,rfl⟩:=H);(have p488:0≤(t487:Int):=mo);(have q488:t487 < (l0_1.length:Int):=mo);(obtain⟨ad488,e488,hx488_0,hx488_1⟩:=A1t HR0_1.o t487 p488 q488);(cases e488);(replace hx488_0:=zc8 HB.o hx488_0);(replace hx488_1:=zc8 HB.o hx488_1);(replace p488:=eq_true p488);(replace q488:=eq_true q488)))))))))
 ·go_ret2
  exact⟨mr,mq⟩
 ·go_ret2
  exact⟨mr,mq⟩
 ·go_ret2
  exact⟨mr,mq⟩
def A1o.f (l0_0:List (S94)) (a0_1:Int) (a1:Int):Option (Int):=if 0≤a1 then (if a1 < (l0_0.length:Int) then (some (wrap64 ((wrap64 (24 * ((A0p l0_0 a1).f0)))+a1))) else (none)) else (none)
theorem A1o.calls (A0_0:Option Addr) (c0_0:Nat) (l0_0:List (S94)) (a0_1:Int) (a1:Int) (r:Int) (w:World) (hr0_0:Kd.C k94 w A0_0 l0_0.length l0_0) (hc0_0:l0_0.length≤c0_0) (h:A1o.f l0_0 a0_1 a1=some r) :
  Calls Tryz.prog 135 #[.agg #[.slice A0_0 l0_0.length c0_0,.int .i64 a0_1],.int .i64 a1] w fun e w'=>e=.returned (.int .i64 r)∧Below w.heap.size w w':=by
 have hu42:=Tryz.underlying42;have HR0_0:=B98 hr0_0;have HC0_0:=B98 hc0_0;clear hr0_0 hc0_0;have HB:=B98 (Below.refl w.heap.size w);unfold A1o.f at h;have H:=h;clear h;by_cases c3:0≤a1
 ·rw[if_pos c3] at H
  have c3b0:decide (0≤a1)=true:=B99 c3;clear c3;by_cases c4:a1 < (l0_0.length:Int)
  ·rw[if_pos c4] at H
   have c4b0:decide (a1 < (l0_0.length:Int))=true:=B99 c4;clear c4;obtain rfl:=C0d H;go_enter Tryz.func135,Tryz.ntmps135;go_wp2_with (first|((with_reducible refine A0b (N:=2) rfl ?_);refine yE (N:=2) (cs:=#[.slice A0_0 l0_0.length c0_0,.int .i64 a0_1]) (t:=42) fun gb489 hg w5 hbox hb=>?_;obtain⟨n0_,n2_⟩:=yX (w:=w) hg hb mq;have n1_:=B98 (hbox);have n3_:=n2_;clear HB;have HB:=n0_;have BK489:=n1_;have GW489:=n2_;have GE489:=n3_;clear n0_ n1_ n2_ n3_;clear hb hbox hg;obtain⟨hcz6_0,hcz6_1,hfz6_0,hfz6_1⟩:=zb2 BK489.o;have p490:0≤(a1:Int):=mo;have q490:a1 < (l0_0.length:Int):=mo;obtain⟨ad490,e490,hx490_0,hx490_1,hx490_2,hx490_3,hx490_4⟩:=A2d (Kd.C_below HR0_0.o HB.o) a1 p490 q490;cases e490;replace p490:=eq_true p490;replace q490:=eq_true q490));go_ret;exact⟨mr,mq⟩
  ·rw[if_neg c4] at H
   exact absurd H Zs
 ·rw[if_neg c3] at H
  exact absurd H Zs
def A1v.f (l0_0:List (S94)) (a0_1:Int) (a1:Int):Option (Int):=if a1 < 0 then (some (-1)) else (if (Int.tmod a1 24) ≥ (l0_0.length:Int) then (some (-1)) else (if 0≤(Int.tmod a1 24) then (if (Int.tmod a1 24) < (l0_0.length:Int) then (if ((A0p l0_0 (Int.tmod a1 24)).f1=true) then ((A1o.f l0_0 a0_1 (Int.tmod a1 24)).bind fun t493=>(if t493=a1 then (some (Int.tmod a1 24)) else (some (-1)))) else (some (-1))) else (none)) else (none)))
theorem A1v.calls (A0_0:Option Addr) (c0_0:Nat) (l0_0:List (S94)) (a0_1:Int) (a1:Int) (r:Int) (w:World) (hr0_0:Kd.C k94 w A0_0 l0_0.length l0_0) (hc0_0:l0_0.length≤c0_0) (h:A1v.f l0_0 a0_1 a1=some r) :
  Calls Tryz.prog 58 #[.agg #[.slice A0_0 l0_0.length c0_0,.int .i64 a0_1],.int .i64 a1] w fun e w'=>e=.returned (.int .i64 r)∧Below w.heap.size w w':=by
 have hu42:=Tryz.underlying42;have HR0_0:=B98 hr0_0;have HC0_0:=B98 hc0_0;clear hr0_0 hc0_0;have HB:=B98 (Below.refl w.heap.size w);unfold A1v.f at h;have H:=h;clear h;by_cases c3:a1 < 0
 ·rw[if_pos c3] at H
  have c3b0:decide (a1 < 0)=true:=B99 c3;clear c3;obtain rfl:=C0d H;go_enter Tryz.func58,Tryz.ntmps58;go_wp2_with (first|((with_reducible refine A0b (N:=2) rfl ?_);refine yE (N:=2) (cs:=#[.slice A0_0 l0_0.length c0_0,.int .i64 a0_1]) (t:=42) fun gb491 hg w4 hbox hb=>?_;obtain⟨n0_,n2_⟩:=yX (w:=w) hg hb mq;have n1_:=B98 (hbox);have n3_:=n2_;clear HB;have HB:=n0_;have BK491:=n1_;have GW491:=n2_;have GE491:=n3_;clear n0_ n1_ n2_ n3_;clear hb hbox hg));go_ret;exact⟨mr,mq⟩
 ·rw[if_neg c3] at H
  have c3b0:decide (a1 < 0)=false:=C0a c3;clear c3;by_cases c5:(Int.tmod a1 24) ≥ (l0_0.length:Int)
  ·rw[if_pos c5] at H
   have c5b0:decide ((l0_0.length:Int)≤(Int.tmod a1 24))=true:=B99 c5;clear c5;obtain rfl:=C0d H;go_enter Tryz.func58,Tryz.ntmps58;go_wp2_with (first|((with_reducible refine A0b (N:=2) rfl ?_);refine yE (N:=2) (cs:=#[.slice A0_0 l0_0.length c0_0,.int .i64 a0_1]) (t:=42) fun gb491 hg w6 hbox hb=>?_;obtain⟨n0_,n2_⟩:=yX (w:=w) hg hb mq;have n1_:=B98 (hbox);have n3_:=n2_;clear HB;have HB:=n0_;have BK491:=n1_;have GW491:=n2_;have GE491:=n3_;clear n0_ n1_ n2_ n3_;clear hb hbox hg;obtain⟨hcz7_0,hcz7_1,hfz7_0,hfz7_1⟩:=zb2 BK491.o));go_ret;exact⟨mr,mq⟩
  ·rw[if_neg c5] at H
   have c5b0:decide ((l0_0.length:Int)≤(Int.tmod a1 24))=false:=C0a c5;clear c5;obtain⟨ji8,hji8⟩:∃ j_:Int,(Int.tmod a1 24)=j_:=⟨_,rfl⟩;replace H:(if 0≤(ji8) then (if (ji8) < (l0_0.length:Int) then (if ((A0p l0_0 (ji8)).f1=true) then ((A1o.f l0_0 a0_1 (ji8)).bind fun t493=>(if t493=a1 then (some ji8) else (some (-1)))) else (some (-1))) else (none)) else (none))=some r:=by first|(rw[hji8] at H;exact H)|(simp only [hji8] at H ⊢;exact H)
   (try rw[hji8] at c5b0)
   by_cases c9:0≤(ji8)
   ·rw[if_pos c9] at H
    have c9b0:decide (0≤(ji8))=true:=B99 c9;clear c9;by_cases c10:(ji8) < (l0_0.length:Int)
    ·rw[if_pos c10] at H
     have c10b0:decide ((ji8) < (l0_0.length:Int))=true:=B99 c10;clear c10;obtain⟨bq11,hbq11⟩:∃ b_:Bool,b_=((A0p l0_0 (ji8)).f1):=⟨_,rfl⟩;rw[← hbq11] at H;have Nbq11:=B98 hbq11;clear hbq11;by_cases c12:(bq11=true)
     ·subst c12
      rw[if_pos rfl] at H;replace H:=C0f.mp H;obtain⟨t493,A130,H⟩:=H;(try dsimp only at H)
      have A13:=B98 A130;clear A130;go_enter Tryz.func58,Tryz.ntmps58;go_wp2_with (first|((with_reducible refine A0b (N:=2) rfl ?_);refine yE (N:=2) (cs:=#[.slice A0_0 l0_0.length c0_0,.int .i64 a0_1]) (t:=42) fun gb491 hg w15 hbox hb=>?_;obtain⟨n0_,n2_⟩:=yX (w:=w) hg hb mq;have n1_:=B98 (hbox);have n3_:=n2_;clear HB;have HB:=n0_;have BK491:=n1_;have GW491:=n2_;have GE491:=n3_;clear n0_ n1_ n2_ n3_;clear hb hbox hg;obtain⟨hcz16_0,hcz16_1,hfz16_0,hfz16_1⟩:=zb2 BK491.o;have p492:0≤((ji8):Int):=mo;have q492:(ji8) < (l0_0.length:Int):=mo;obtain⟨ad492,e492,hx492_0,hx492_1,hx492_2,hx492_3,hx492_4⟩:=A2d HR0_0.o (ji8) p492 q492;(try rw[← Nbq11.o] at hx492_1);cases e492;replace hx492_0:=zc8 HB.o hx492_0;replace hx492_1:=zc8 HB.o hx492_1;replace hx492_2:=zc8 HB.o hx492_2;replace hx492_3:=zc8 HB.o hx492_3;replace hx492_4:=zc8 HB.o hx492_4;replace p492:=eq_true p492;replace q492:=eq_true q492)|(go_at_call 135;(with_reducible refine(A1o.calls _ _ l0_0 a0_1 ji8 t493 _ ?side1 ?side2 A13.o).mono ?_);(case side1=>exact mc HR0_0.o);(case side2=>exact HC0_0.o);rintro e w17 ⟨rfl,hb⟩;have n0_:=B98 (zK (mz BK491.o) hb);have n1_:=B98 (zN mq hb);clear BK491;clear HB;have BK491:=n0_;have HB:=n1_;clear n0_ n1_;(try clear hb);(try clear hb2);(try clear hk);(try clear hi);(refine Classical.byCases (p:=(t493=a1)) (fun c14=>?zp61) (fun c14=>?zn61);(case' zn61=>(rw[if_neg c14] at H);(have c14b0:(t493 == a1)=false:=C0g.mpr c14);(have c14b1:(t493 != a1)=true:=bne_iff_ne.mpr c14);(obtain rfl:=C0d H));(case' zp61=>(rw[if_pos c14] at H);(have c14b0:(t493 == a1)=true:=beq_iff_eq.mpr c14);(have c14b1:(t493 != a1)=false:=bne_eq_false_iff_eq.mpr c14);(clear c14);(obtain rfl:=C0d H)))))
      ·go_ret
       exact⟨by first|rfl|(simp[] <;> rfl)|(simp only [← hji8];first|rfl|(simp[] <;> rfl))|(simp[*] <;> rfl),mq⟩
      ·go_ret
       exact⟨by first|rfl|(simp[] <;> rfl)|(simp only [← hji8];first|rfl|(simp[] <;> rfl))|(simp[*] <;> rfl),mq⟩
     ·replace c12:=Bool.eq_false_iff.mpr c12
      subst c12;rw[if_neg (show ¬ (false=true) by decide)] at H;obtain rfl:=C0d H;go_enter Tryz.func58,Tryz.ntmps58;go_wp2_with (first|((with_reducible refine A0b (N:=2) rfl ?_);refine yE (N:=2) (cs:=#[.slice A0_0 l0_0.length c0_0,.int .i64 a0_1]) (t:=42) fun gb491 hg w21 hbox hb=>?_;obtain⟨n0_,n2_⟩:=yX (w:=w) hg hb mq;have n1_:=B98 (hbox);have n3_:=n2_;clear HB;have HB:=n0_;have BK491:=n1_;have GW491:=n2_;have GE491:=n3_;clear n0_ n1_ n2_ n3_;clear hb hbox hg;obtain⟨hcz22_0,hcz22_1,hfz22_0,hfz22_1⟩:=zb2 BK491.o;have p492:0≤((ji8):Int):=mo;have q492:(ji8) < (l0_0.length:Int):=mo;obtain⟨ad492,e492,hx492_0,hx492_1,hx492_2,hx492_3,hx492_4⟩:=A2d HR0_0.o (ji8) p492 q492;(try rw[← Nbq11.o] at hx492_1);cases e492;replace hx492_0:=zc8 HB.o hx492_0;replace hx492_1:=zc8 HB.o hx492_1;replace hx492_2:=zc8 HB.o hx492_2;replace hx492_3:=zc8 HB.o hx492_3;replace hx492_4:=zc8 HB.o hx492_4;replace p492:=eq_true p492;replace q492:=eq_true q492));go_ret;exact⟨by first|rfl|(simp[] <;> rfl)|(simp only [← hji8];first|rfl|(simp[] <;> rfl))|(simp[*] <;> rfl),mq⟩
    ·rw[if_neg c10] at H
     exact absurd H Zs
   ·rw[if_neg c9] at H
    exact absurd H Zs
def A1x.l0:Nat→Int→Int→Option (Int)
|0,_,_=>none
|k+1,x0,x3=>if x3≤(wrap64 (2 * x0)) then (A1x.l0 k x0 (wrap64 (2 * x3))) else (some x3)
def A1x.f (k:Nat) (a0:Int):Option (Int):=A1x.l0 k a0 4
theorem A1x.calls (k:Nat) (a0:Int) (r:Int) (w:World) (h:A1x.f k a0=some r) :
  Calls Tryz.prog 96 #[.int .i64 a0] w fun e w'=>e=.returned (.int .i64 r)∧A2e w w':=by
 unfold A1x.f at h;have H:=h;clear h;have H':=B98 H;clear H;go_enter Tryz.func96,Tryz.ntmps96
 go_wp2
 go_loopg [3] k (fun kq v3 w'=>∃ (x3_1:Int),v3=.int .i64 x3_1∧A0a (A1x.l0 kq a0 x3_1=some r)∧A0a (kq≤k)∧A2e w w')
 case atStart=>exact⟨(4),mt,H',⟨Nat.le_refl _⟩,md⟩
 case round =>
  clear H';obtain⟨x3_1,rfl,HA,HK1,⟨m1,rfl⟩⟩:=hrel;cases gk with
 |zero=>exact absurd HA.o (by simp[A1x.l0])
 |succ k1 =>
   have H:=HA.o;clear HA;simp only [A1x.l0] at H;by_cases c2:x3_1≤(wrap64 (2 * a0))
   ·rw[if_pos c2] at H
    have c2b0:decide (x3_1≤(wrap64 (2 * a0)))=true:=B99 c2;clear c2;have H':=B98 H;clear H;go_wp2
    go_roundg k1
    case measure=>have:=HK1.o;omega
    case rel=>exact⟨(wrap64 (2 * x3_1)),mt,H',⟨by have:=HK1.o;omega⟩,md⟩
   ·rw[if_neg c2] at H
    have c2b0:decide (x3_1≤(wrap64 (2 * a0)))=false:=C0a c2;clear c2;obtain rfl:=C0d H;go_wp2
    go_ret;exact⟨by first|rfl|(simp;done)|(simp[*];done),md⟩
def A28.f (a0:Int):Option (Int × Int × Int):=if (wrap64 (Int.tdiv a0 4)) < 1 then (some (1,wrap64 ((wrap64 (a0 - 1)) - (wrap64 (Int.tdiv (wrap64 (a0 - 1)) 2))),wrap64 (Int.tdiv (wrap64 (a0 - 1)) 2))) else (some (wrap64 (Int.tdiv a0 4),wrap64 ((wrap64 (a0 - (wrap64 (Int.tdiv a0 4)))) - (wrap64 (Int.tdiv (wrap64 (a0 - (wrap64 (Int.tdiv a0 4)))) 2))),wrap64 (Int.tdiv (wrap64 (a0 - (wrap64 (Int.tdiv a0 4)))) 2)))
theorem A28.calls (a0:Int) (r1:Int) (r2:Int) (r3:Int) (w:World) (h:A28.f a0=some (r1,r2,r3)) :
  Calls Tryz.prog 97 #[.int .i64 a0] w fun e w'=>e=.returned (.tuple #[.int .i64 r1,.int .i64 r2,.int .i64 r3])∧A2e w w':=by
 unfold A28.f at h;have H:=h;clear h;by_cases c2:(wrap64 (Int.tdiv a0 4)) < 1
 ·rw[if_pos c2] at H
  have c2b0:decide ((wrap64 (Int.tdiv a0 4)) < 1)=true:=B99 c2;clear c2;simp only [Option.some.injEq,Prod.mk.injEq] at H;obtain⟨rfl,rfl,rfl⟩:=H;go_enter Tryz.func97,Tryz.ntmps97
  go_wp2
  go_ret3
  exact⟨by first|rfl|(simp;done)|(simp[*];done),md⟩
 ·rw[if_neg c2] at H
  have c2b0:decide ((wrap64 (Int.tdiv a0 4)) < 1)=false:=C0a c2;clear c2;simp only [Option.some.injEq,Prod.mk.injEq] at H;obtain⟨rfl,rfl,rfl⟩:=H;go_enter Tryz.func97,Tryz.ntmps97
  go_wp2
  go_ret3
  exact⟨by first|rfl|(simp;done)|(simp[*];done),md⟩
def A0l.f (a0:Int) (a1:Int) (a2:Int):Option (Bool):=if a0 ≥ a1 then (some (decide (a0≤a2))) else (some false)
theorem A0l.calls (a0:Int) (a1:Int) (a2:Int) (r:Bool) (w:World) (h:A0l.f a0 a1 a2=some r) :
  Calls Tryz.prog 93 #[.int .i64 a0,.int .i64 a1,.int .i64 a2] w fun e w'=>e=.returned (.bool r)∧A2e w w':=by
 unfold A0l.f at h;have H:=h;clear h;by_cases c4:a0 ≥ a1
 ·rw[if_pos c4] at H
  have c4b0:decide (a1≤a0)=true:=B99 c4;clear c4;obtain rfl:=C0d H;go_enter Tryz.func93,Tryz.ntmps93
  go_wp2
  go_ret;exact⟨by first|rfl|(simp;done)|(simp[*];done),md⟩
 ·rw[if_neg c4] at H
  have c4b0:decide (a1≤a0)=false:=C0a c4;clear c4;obtain rfl:=C0d H;go_enter Tryz.func93,Tryz.ntmps93
  go_wp2
  go_ret;exact⟨by first|rfl|(simp;done)|(simp[*];done),md⟩
open Nb
mutual
def A0f.l0:Nat→Int→List Bool→Int→List (S94)→Int→Option (Bool)
|0,_,_,_,_,_=>none
|k+1,x3,x4,x5,x667000,x667001=>if x5=(-1) then (A0f.l1 k x3 x4 0 x667000 x667001) else ((A0l.f x5 0 (wrap64 (x3 - 1))).bind fun t671=>(if t671=true then (if 0≤x5 then (if x5 < (x4.length:Int) then (if rdOf false x4 x5=true then (some false) else (if x5 < (x667000.length:Int) then (if (A0p x667000 x5).f1=true then (some false) else (A0f.l0 k x3 (x4.set (x5:Int).toNat true) ((A0p x667000 x5).f4) x667000 x667001)) else (none))) else (none)) else (none)) else (some false)))
def A0f.l1:Nat→Int→List Bool→Int→List (S94)→Int→Option (Bool)
|0,_,_,_,_,_=>none
|k+1,x3,x4,x6,x667000,x667001=>if x6 < x3 then (if 0≤x6 then (if x6 < (x667000.length:Int) then ((A0l.f ((A0p x667000 x6).f0) 0 41666665).bind fun t678=>(if t678=true then (if x6 < (x4.length:Int) then (A0f.j2 k x3 x4 x6 (((A0p x667000 x6).f1) == (rdOf false x4 x6)) x667000 x667001 ((A0p x667000 x6).f0) ((A0p x667000 x6).f1) ((A0p x667000 x6).f2) ((A0p x667000 x6).f3) ((A0p x667000 x6).f4)) else (none)) else (A0f.j2 k x3 x4 x6 true x667000 x667001 ((A0p x667000 x6).f0) ((A0p x667000 x6).f1) ((A0p x667000 x6).f2) ((A0p x667000 x6).f3) ((A0p x667000 x6).f4)))) else (none)) else (none)) else (some true)
def A0f.j2:Nat→Int→List Bool→Int→Bool→List (S94)→Int→Int→Bool→ByteArray→ByteArray→Int→Option (Bool)
|0,_,_,_,_,_,_,_,_,_,_,_=>none
|k+1,x3,x4,x6,x70,x667000,x667001,x678000,x678001,x678002,x678003,x678004=>if x70=true then (some false) else (if x678001=true then ((A0l.f (x678002.size:Int) 1 12).bind fun t680=>(if t680=true then (if (x678003.size:Int) > 20 then (some false) else (if x678004=0 then (A0f.l1 k x3 x4 (wrap64 (x6+1)) x667000 x667001) else (some false))) else (some false))) else (if x678002.toList=([]:List UInt8) then (if x678003.toList=([]:List UInt8) then (A0f.l1 k x3 x4 (wrap64 (x6+1)) x667000 x667001) else (some false)) else (some false)))
end
def A0f.f (k:Nat) (l0_0:List (S94)) (a0_1:Int):Option (Bool):=(A0l.f (l0_0.length:Int) 1 24).bind fun t667=>(if t667=true then (if 0≤(l0_0.length:Int) then (if ((l0_0.length:Int):Int).toNat≤281474976710656 then (A0f.l0 k (l0_0.length:Int) (List.replicate ((l0_0.length:Int):Int).toNat false) a0_1 l0_0 a0_1) else (none)) else (none)) else (some false))
theorem B9t (x a b:Int):A0l.f x a b=some (decide (a≤x∧x≤b)):=by
 unfold A0l.f
 by_cases h:x ≥ a
 ·rw[if_pos h];congr 1;rw[Bool.eq_iff_iff];simp;omega
 ·rw[if_neg h];congr 1;simp;omega
theorem B7q {x a b:Int} (h:A0l.f x a b=some true):a≤x∧x≤b:=by rw[B9t] at h;exact C0b (C0d h)
theorem St.putB {w0 w:World} {ps:List Part} {g n c:Nat} {xs:List Bool} (h:St w0 w (Part.row Kd.bool 4 (.slice (some ⟨g,0,none⟩) n c) xs :: ps)) (i:Int) (x:Bool):St w0 (w.setCell ⟨g,i.toNat,none⟩ (.bool x)) (Part.row Kd.bool 4 (.slice (some ⟨g,0,none⟩) n c) (xs.set i.toNat x) :: ps) :=
 have q:=Kd.R_putg (h1:=fun _=>rfl) h.head i x
 h.over rfl q.2 q.1
theorem A0f.calls (k:Nat) (A:Option Addr) (c:Nat) (l:List S94) (a:Int) (r:Bool) (w:World) (hr:Kd.C k94 w A l.length l) (hc:l.length≤c) (h:A0f.f k l a=some r) :
  Calls Tryz.prog 113 #[.agg #[.slice A l.length c,.int .i64 a]] w fun e w'=>e=.returned (.bool r)∧Below w.heap.size w w':=by
 have hu42:=Tryz.underlying42;have hu94:=Tryz.underlying94;have HR:=B98 hr;clear hr hc;unfold A0f.f at h;obtain⟨b,A1,h⟩:=C0f.mp h;have H:=B98 h;clear h;have HS:=B98 (St.start w);go_enter Tryz.func113,Tryz.ntmps113;go_wp2_with fail;have S:=HS.o.alloc #[.slice A l.length c,.int .i64 a] 42;clear HS;have HS:=B98 S;have hc0:=S.at_cell 0 rfl 0 rfl;clear S;go_wp2_with fail;refine(A0l.calls (l.length:Int) 1 24 b _ A1).mono ?_;rintro e w1 ⟨rfl,hd⟩;have S:=HS.o.step hd.below;clear HS hd hc0;have HS:=B98 S;have hc1:=S.at_cell 0 rfl 1 rfl;clear S;have HI:=B98 (fun e:b=true=>B7q (e ▸ A1));clear A1;cases b with
 |false =>
  obtain rfl:false=r:=by have h:=H.o;rw[if_neg Zs] at h;exact C0d h
  go_wp2_with fail;go_ret;exact⟨rfl,HS.o.below⟩
 |true =>
 have HL:=B98 (HI.o rfl);have h1:(0:Int)≤(l.length:Int):=by omega
 have h2:(l.length:Int).toNat≤281474976710656:=by have:=HL.o;omega
 have h:=H.o;rw[if_pos rfl,if_pos h1,if_pos h2,C0k] at h;clear H HI;have H:=B98 h;clear h h2;go_wp2_with (first|((with_reducible refine A0b (N:=15) rfl ?_);refine Kd.R_make Kd.bool _ 4 rfl (N:=15) rfl 199 _ _ rfl (l.length:Int) rfl rfl Tryz.underlying199 (.bool false) 1 info4 rfl Zd Zo false (ok:=fun _=>True) (okp:=fun _=>True) rfl (fun _ hk=>hk) trivial Zo (by have:=HL.o;omega) (Below.refl _ _) (Nat.le_refl _) ?_;intro v15 w2 ho hb _ _;have S:=HS.o.new_row rfl hb ho;clear ho hb hc1;rw[C0k] at S;have HS2:=B98 S;have hc1:=S.at_cell 1 rfl 1 rfl;clear S));clear HS hc1;have HS:=HS2;clear HS2;go_loopg [5] k (fun kq v5 w'=>∃ (fl:List Bool) (p:Int),v5=.int .i64 p∧A0a (A0f.l0 kq (l.length:Int) fl p l a=some r)∧A0a (kq≤k)∧A0a (fl.length=l.length)∧A0a (St w w' [Part.row Kd.bool 4 v15 fl,Part.blk w.heap.size 42 #[.slice A l.length c,.int .i64 a]]))
 case atStart=>exact⟨_,a,rfl,H,⟨Nat.le_refl _⟩,⟨List.length_replicate⟩,HS⟩
 case round =>
  clear H HS h1;obtain⟨fl,p,rfl,HA,HK,HF,HS⟩:=hrel;have h:=HA.o;clear HA;cases gk with
  |zero=>exact absurd h (by simp[A0f.l0])
  |succ k1 =>
  simp only [A0f.l0] at h;by_cases c1:p = -1
  ·rw[if_pos c1] at h
   have H:=B98 h;clear h;have t1:(p != (-1))=false:=bne_eq_false_iff_eq.mpr c1;have t2:(p == (-1))=true:=beq_iff_eq.mpr c1;clear c1;go_wp2_with fail;clear t1 t2;go_loopg [6] k1 (fun kq v6 w'=>∃ (i:Int),v6=.int .i64 i∧A0a (A0f.l1 kq (l.length:Int) fl i l a=some r)∧A0a (kq≤k1)∧A0a (St w w' [Part.row Kd.bool 4 v15 fl,Part.blk w.heap.size 42 #[.slice A l.length c,.int .i64 a]]))
   case atStart=>exact⟨0,rfl,H,⟨Nat.le_refl _⟩,HS⟩
   case round =>
    clear H HS;obtain⟨i,rfl,HA,HK2,HS⟩:=hrel;have h:=HA.o;clear HA;cases gk with
    |zero=>exact absurd h (by simp[A0f.l1])
    |succ k2 =>
    simp only [A0f.l1] at h;by_cases c2:i < (l.length:Int)
    case neg =>
     rw[if_neg c2] at h;obtain rfl:true=r:=C0d h;have c2b:decide (i < (l.length:Int))=false:=C0a c2;clear h c2;go_wp2_with fail;go_ret;exact⟨rfl,HS.o.below⟩
    rw[if_pos c2] at h;by_cases c3:0≤i
    case neg=>rw[if_neg c3] at h;cases h
    rw[if_pos c3,if_pos c2] at h;obtain⟨b,A1,h⟩:=C0f.mp h;have c2b:decide (i < (l.length:Int))=true:=B99 c2;obtain⟨ad,e5,hy0,hy1,hy2,hy3,hy4⟩:=A2d (Kd.C_below HR.o HS.o.below) i c3 c2;cases e5;obtain⟨⟨x0,x1,x2,x3,x4⟩,hx⟩:∃ x,x=A0p l i:=⟨_,rfl⟩;rw[← hx] at hy0 hy1 hy2 hy3 hy4 h A1;dsimp only at hy0 hy1 hy2 hy3 hy4 h A1;obtain⟨go,co,eo,-,-,-,-⟩:=Kd.R_form (HS.o.at_R 0 rfl) (by have:=HF.o;omega);subst eo;obtain⟨u,hu⟩:∃ u,u=rdOf false fl i:=⟨_,rfl⟩;rw[← hu] at h;have cf:i < (fl.length:Int):=by have:=HF.o;omega
    rw[if_pos cf] at h;have HU:=B98 hu;have H:=B98 h;have HP:=B98 A1;clear h A1 hx hu;have C2:=B98 c2;have C3:=B98 c3;have CF:=B98 cf;have cf1:=eq_true cf;replace c2:=eq_true c2;replace c3:=eq_true c3;clear cf;have hc0:=HS.o.at_cell 1 rfl 0 rfl;have hc1:=HS.o.at_cell 1 rfl 1 rfl;go_upto_region 15 with (first|((with_reducible refine A0b (N:=7) rfl ?_);refine yE (N:=7) (cs:=#[.int .i64 0,.bool false,.string (⟨#[]⟩:ByteArray),.string (⟨#[]⟩:ByteArray),.int .i64 0]) (t:=94) fun g7 hg w7 hbox hb=>?_;have S:=HS.o.new_blk hb (Nat.le_of_eq hg.symm) hbox;clear hb hbox hg HS;have HS:=B98 S;have hz0:=S.at_cell 0 rfl 0 rfl;have fz0:=S.at_frozen 0 rfl 0;have hz1:=S.at_cell 0 rfl 1 rfl;have fz1:=S.at_frozen 0 rfl 1;have hz2:=S.at_cell 0 rfl 2 rfl;have fz2:=S.at_frozen 0 rfl 2;have hz3:=S.at_cell 0 rfl 3 rfl;have fz3:=S.at_frozen 0 rfl 3;have hz4:=S.at_cell 0 rfl 4 rfl;have fz4:=S.at_frozen 0 rfl 4;have hc0:=S.at_cell 2 rfl 0 rfl;have hc1:=S.at_cell 2 rfl 1 rfl;clear S));have S:=HS.o;clear HS hc0 hc1 hy0 hy1 hy2 hy3 hy4 hz0 hz1 hz2 hz3 hz4 fz0 fz1 fz2 fz3 fz4;have S:=S.put (cs':=#[.int .i64 x0,.bool false,.string (⟨#[]⟩:ByteArray),.string (⟨#[]⟩:ByteArray),.int .i64 0]) 0 (.int .i64 x0) rfl;have S:=S.put (cs':=#[.int .i64 x0,.bool x1,.string (⟨#[]⟩:ByteArray),.string (⟨#[]⟩:ByteArray),.int .i64 0]) 1 (.bool x1) rfl;have S:=S.put (cs':=#[.int .i64 x0,.bool x1,.string x2,.string (⟨#[]⟩:ByteArray),.int .i64 0]) 2 (.string x2) rfl;have S:=S.put (cs':=#[.int .i64 x0,.bool x1,.string x2,.string x3,.int .i64 0]) 3 (.string x3) rfl;have S:=S.put (cs':=#[.int .i64 x0,.bool x1,.string x2,.string x3,.int .i64 x4]) 4 (.int .i64 x4) rfl;have hq0:=fun (p:WSt w [Part.blk g7 94 #[.int .i64 x0,.bool x1,.string x2,.string x3,.int .i64 x4],Part.row Kd.bool 4 (.slice (some ⟨go,0,none⟩) fl.length co) fl,Part.blk w.heap.size 42 #[.slice (some ad) l.length c,.int .i64 a]])=>p.st.at_cell 0 rfl 0 rfl;have hq1:=fun (p:WSt w [Part.blk g7 94 #[.int .i64 x0,.bool x1,.string x2,.string x3,.int .i64 x4],Part.row Kd.bool 4 (.slice (some ⟨go,0,none⟩) fl.length co) fl,Part.blk w.heap.size 42 #[.slice (some ad) l.length c,.int .i64 a]])=>p.st.at_cell 0 rfl 1 rfl;have hq2:=fun (p:WSt w [Part.blk g7 94 #[.int .i64 x0,.bool x1,.string x2,.string x3,.int .i64 x4],Part.row Kd.bool 4 (.slice (some ⟨go,0,none⟩) fl.length co) fl,Part.blk w.heap.size 42 #[.slice (some ad) l.length c,.int .i64 a]])=>p.st.at_cell 0 rfl 2 rfl;have hq3:=fun (p:WSt w [Part.blk g7 94 #[.int .i64 x0,.bool x1,.string x2,.string x3,.int .i64 x4],Part.row Kd.bool 4 (.slice (some ⟨go,0,none⟩) fl.length co) fl,Part.blk w.heap.size 42 #[.slice (some ad) l.length c,.int .i64 a]])=>p.st.at_cell 0 rfl 3 rfl;have hq4:=fun (p:WSt w [Part.blk g7 94 #[.int .i64 x0,.bool x1,.string x2,.string x3,.int .i64 x4],Part.row Kd.bool 4 (.slice (some ⟨go,0,none⟩) fl.length co) fl,Part.blk w.heap.size 42 #[.slice (some ad) l.length c,.int .i64 a]])=>p.st.at_cell 0 rfl 4 rfl;have hqr:=fun (p:WSt w [Part.blk g7 94 #[.int .i64 x0,.bool x1,.string x2,.string x3,.int .i64 x4],Part.row Kd.bool 4 (.slice (some ⟨go,0,none⟩) fl.length co) fl,Part.blk w.heap.size 42 #[.slice (some ad) l.length c,.int .i64 a]])=>HU.o ▸ (Kd.R_celln false (p.st.at_R 1 rfl) i C3.o CF.o).1;have hne:Nonempty (WSt w [Part.blk g7 94 #[.int .i64 x0,.bool x1,.string x2,.string x3,.int .i64 x4],Part.row Kd.bool 4 (.slice (some ⟨go,0,none⟩) fl.length co) fl,Part.blk w.heap.size 42 #[.slice (some ad) l.length c,.int .i64 a]]):=⟨⟨_,S⟩⟩;have h:=H.o;clear H;cases k2 with
    | zero=>exfalso;cases b <;> simp[A0f.j2] at h
    |succ k3 =>
    simp only [A0f.j2] at h;cases b with
    |false =>
     obtain rfl:false=r:=by rw[if_neg Zs,if_pos trivial] at h;exact C0d h
     refine A0s (C:=fun w'=>∃ p:WSt w [Part.blk g7 94 #[.int .i64 x0,.bool x1,.string x2,.string x3,.int .i64 x4],Part.row Kd.bool 4 (.slice (some ⟨go,0,none⟩) fl.length co) fl,Part.blk w.heap.size 42 #[.slice (some ad) l.length c,.int .i64 a]],w'=p.w') Zk Zk ⟨⟨_,S.drew⟩,rfl⟩ ?_
     repeat(go_big_quiet_step ((go_at_call 93;refine(A0l.calls x0 0 41666665 false _ HP.o).mono ?_;rintro e w2 ⟨rfl,hd⟩;exact⟨rfl,WSt.on _ hd.below⟩)))
     refine wpQuiet_nil ?_;rintro w9 ⟨⟨w9,S⟩,rfl⟩;go_wp2_with fail;go_ret;exact⟨rfl,S.below⟩
    |true =>
    rw[if_pos rfl] at h;cases hb:(x1 == u) with
    |true =>
     obtain rfl:false=r:=by rw[hb,if_pos rfl] at h;exact C0d h
     refine A0s (C:=fun w'=>∃ p:WSt w [Part.blk g7 94 #[.int .i64 x0,.bool x1,.string x2,.string x3,.int .i64 x4],Part.row Kd.bool 4 (.slice (some ⟨go,0,none⟩) fl.length co) fl,Part.blk w.heap.size 42 #[.slice (some ad) l.length c,.int .i64 a]],w'=p.w') Zk Zk ⟨⟨_,S.drew⟩,rfl⟩ ?_
     repeat(go_big_quiet_step ((go_at_call 93;refine(A0l.calls x0 0 41666665 true _ HP.o).mono ?_;rintro e w2 ⟨rfl,hd⟩;exact⟨rfl,WSt.on _ hd.below⟩)))
     refine wpQuiet_nil ?_;rintro w9 ⟨⟨w9,S⟩,rfl⟩;go_wp2_with fail;go_ret;exact⟨rfl,S.below⟩
    |false =>
    rw[hb,if_neg Zs] at h;cases x1 with
    |true =>
     rw[if_pos rfl] at h;obtain⟨b2,A2,h⟩:=C0f.mp h;refine A0s (C:=fun w'=>∃ p:WSt w [Part.blk g7 94 #[.int .i64 x0,.bool true,.string x2,.string x3,.int .i64 x4],Part.row Kd.bool 4 (.slice (some ⟨go,0,none⟩) fl.length co) fl,Part.blk w.heap.size 42 #[.slice (some ad) l.length c,.int .i64 a]],w'=p.w') Zk Zk ⟨⟨_,S.drew⟩,rfl⟩ ?_
     repeat(go_big_quiet_step ((go_at_call 93;refine(A0l.calls x0 0 41666665 true _ HP.o).mono ?_;rintro e w2 ⟨rfl,hd⟩;exact⟨rfl,WSt.on _ hd.below⟩)))
     refine wpQuiet_nil ?_;rintro w9 ⟨⟨w9,S⟩,rfl⟩;have hz0:=S.at_cell 0 rfl 0 rfl;have hz1:=S.at_cell 0 rfl 1 rfl;have hz2:=S.at_cell 0 rfl 2 rfl;have hz3:=S.at_cell 0 rfl 3 rfl;have hz4:=S.at_cell 0 rfl 4 rfl;have HS:=B98 S;clear S hq0 hq1 hq2 hq3 hq4 hqr;go_wp2_with fail;refine(A0l.calls (x2.size:Int) 1 12 b2 _ A2).mono ?_;rintro e w10 ⟨rfl,hd⟩;have S:=HS.o.step hd.below;clear hd HS hz0 hz1 hz2 hz3 hz4 A2;have hz0:=S.at_cell 0 rfl 0 rfl;have hz1:=S.at_cell 0 rfl 1 rfl;have hz2:=S.at_cell 0 rfl 2 rfl;have hz3:=S.at_cell 0 rfl 3 rfl;have hz4:=S.at_cell 0 rfl 4 rfl;have HS:=B98 S;clear S;cases b2 with
     |false =>
      obtain rfl:false=r:=by rw[if_neg Zs] at h;exact C0d h
      go_wp2_with fail;go_ret;exact⟨rfl,HS.o.below⟩
     |true =>
     rw[if_pos rfl] at h;by_cases c4:(x3.size:Int) > 20
     ·obtain rfl:false=r:=by rw[if_pos c4] at h;exact C0d h
      have d1:decide (20 < (x3.size:Int))=true:=B99 c4;have d2:decide (20 < x3.size)=true:=B99 Zo;go_wp2_with fail;go_ret;exact⟨rfl,HS.o.below⟩
     rw[if_neg c4] at h;have d1:decide (20 < (x3.size:Int))=false:=C0a c4;have d2:decide (20 < x3.size)=false:=C0a Zo
     by_cases c5:x4=0
     ·rw[if_pos c5] at h
      have d3:(x4 != 0)=false:=bne_eq_false_iff_eq.mpr c5;have d4:(x4 == 0)=true:=beq_iff_eq.mpr c5;go_wp2_with fail
      go_roundg k3
      case measure=>have:=HK2.o;omega
      case rel=>exact⟨_,rfl,⟨h⟩,⟨by have:=HK2.o;omega⟩,⟨HS.o.tail⟩⟩
     ·obtain rfl:false=r:=by rw[if_neg c5] at h;exact C0d h
      have d3:(x4 != 0)=true:=bne_iff_ne.mpr c5;have d4:(x4 == 0)=false:=C0g.mpr c5;go_wp2_with fail;go_ret;exact⟨rfl,HS.o.below⟩
    |false =>
     rw[if_neg Zs] at h;refine A0s (C:=fun w'=>∃ p:WSt w [Part.blk g7 94 #[.int .i64 x0,.bool false,.string x2,.string x3,.int .i64 x4],Part.row Kd.bool 4 (.slice (some ⟨go,0,none⟩) fl.length co) fl,Part.blk w.heap.size 42 #[.slice (some ad) l.length c,.int .i64 a]],w'=p.w') Zk Zk ⟨⟨_,S.drew⟩,rfl⟩ ?_
     repeat(go_big_quiet_step ((go_at_call 93;refine(A0l.calls x0 0 41666665 true _ HP.o).mono ?_;rintro e w2 ⟨rfl,hd⟩;exact⟨rfl,WSt.on _ hd.below⟩)))
     refine wpQuiet_nil ?_;rintro w9 ⟨⟨w9,S⟩,rfl⟩;have hz0:=S.at_cell 0 rfl 0 rfl;have hz1:=S.at_cell 0 rfl 1 rfl;have hz2:=S.at_cell 0 rfl 2 rfl;have hz3:=S.at_cell 0 rfl 3 rfl;have hz4:=S.at_cell 0 rfl 4 rfl;have HS:=B98 S;clear S hq0 hq1 hq2 hq3 hq4 hqr;by_cases c4:x2.toList=([]:List UInt8)
     case neg =>
      obtain rfl:false=r:=by rw[if_neg c4] at h;exact C0d h
      have d1:(x2.toList != ([]:List UInt8))=true:=bne_iff_ne.mpr c4;have d2:(x2.toList == ([]:List UInt8))=false:=C0g.mpr c4;go_wp2_with fail;go_ret;exact⟨rfl,HS.o.below⟩
     rw[if_pos c4] at h;have d1:(x2.toList != ([]:List UInt8))=false:=bne_eq_false_iff_eq.mpr c4;have d2:(x2.toList == ([]:List UInt8))=true:=beq_iff_eq.mpr c4
     by_cases c5:x3.toList=([]:List UInt8)
     ·rw[if_pos c5] at h
      have d3:(x3.toList != ([]:List UInt8))=false:=bne_eq_false_iff_eq.mpr c5;have d4:(x3.toList == ([]:List UInt8))=true:=beq_iff_eq.mpr c5;go_wp2_with fail
      go_roundg k3
      case measure=>have:=HK2.o;omega
      case rel=>exact⟨_,rfl,⟨h⟩,⟨by have:=HK2.o;omega⟩,⟨HS.o.tail⟩⟩
     ·obtain rfl:false=r:=by rw[if_neg c5] at h;exact C0d h
      have d3:(x3.toList != ([]:List UInt8))=true:=bne_iff_ne.mpr c5;have d4:(x3.toList == ([]:List UInt8))=false:=C0g.mpr c5;go_wp2_with fail;go_ret;exact⟨rfl,HS.o.below⟩
  ·rw[if_neg c1] at h
   obtain⟨b,A1,h⟩:=C0f.mp h;have H:=B98 h;clear h;have t1:(p != (-1))=true:=bne_iff_ne.mpr c1;have t2:(p == (-1))=false:=C0g.mpr c1;clear c1;have HI:=B98 (fun e:b=true=>B7q (e ▸ A1));have HP:=B98 A1;clear A1;go_wp2_with fail;refine(A0l.calls p 0 (wrap64 ((l.length:Int) - 1)) b _ HP.o).mono ?_;rintro e w3 ⟨rfl,hd⟩;have S:=HS.o.step hd.below;clear HS hd HP t1 t2;have HS:=B98 S
   cases b with
   |false =>
    obtain rfl:false=r:=by have h:=H.o;rw[if_neg Zs] at h;exact C0d h
    clear S;go_wp2_with fail;go_ret;exact⟨rfl,HS.o.below⟩
   |true =>
   have h0:0≤p:=(HI.o rfl).1;have e:wrap64 ((l.length:Int) - 1)=(l.length:Int) - 1:=by have:=HL.o;unfold wrap64;omega
   have h1:p < (l.length:Int):=by have h1:=(HI.o rfl).2;omega
   clear e;have h2:p < (fl.length:Int):=by have:=HF.o;omega
   have h:=H.o;rw[if_pos rfl,if_pos h0,if_pos h2,if_pos h1] at h;clear H HI;obtain⟨go,co,eo,-,-,-,-⟩:=Kd.R_form (S.at_R 0 rfl) Zo;subst eo;obtain⟨hx0,hz0⟩:=Kd.R_celln false (S.at_R 0 rfl) p h0 h2;obtain⟨ad,e5,hy0,hy1,hy2,hy3,hy4⟩:=A2d (Kd.C_below HR.o S.below) p h0 h1;cases e5;obtain⟨u,hu⟩:∃ u,u=rdOf false fl p:=⟨_,rfl⟩;obtain⟨x,hx⟩:∃ x,x=A0p l p:=⟨_,rfl⟩;rw[← hu] at hx0 h;rw[← hx] at hy0 hy1 hy2 hy3 hy4 h;have hc0:=S.at_cell 1 rfl 0 rfl;clear S hu;have H:=B98 h;have HX:=B98 hx;clear h hx;have P0:=B98 h0;have P1:=B98 h1;replace h0:=eq_true h0;replace h1:=eq_true h1;replace h2:=eq_true h2;cases u with
   |true =>
    obtain rfl:false=r:=by have h:=H.o;rw[if_pos rfl] at h;exact C0d h
    go_wp2_with fail;go_ret;exact⟨rfl,HS.o.below⟩
   |false =>
   cases hu:x.f1 with
   |true =>
    obtain rfl:false=r:=by have h:=H.o;rw[if_neg Zs,if_pos hu] at h;exact C0d h
    rw[hu] at hy1;clear hu;go_wp2_with fail;go_ret;exact⟨rfl,HS.o.below⟩
   |false =>
   have h:=H.o;rw[if_neg Zs,if_neg (by simp[hu])] at h;rw[hu] at hy1;clear H hu;have H:=B98 h;clear h;have m1:¬ go=w.heap.size:=fun e=>HS.o.at_own 1 0 rfl rfl Zd (by rw[e];rfl);have m2:¬ w.heap.size=go:=fun e=>m1 e.symm;have m3:¬ (ad.add (p.toNat * 5)).block=go:=fun e=>by
    have h1:w.heap.size≤go:=Kd.R_base (HS.o.at_R 0 rfl) go rfl;obtain⟨_,e5,h5,-⟩:=A2d HR.o p P0.o P1.o;cases e5;have h2:=World.block_lt_of_cell? w (ad.add (p.toNat * 5)) h5;omega
   have m4:¬ go=(ad.add (p.toNat * 5)).block:=fun e=>m3 e.symm;go_wp2_with fail
   go_roundg k1
   case measure=>have:=HK.o;omega
   case rel=>exact⟨_,_,rfl,H,⟨by have:=HK.o;omega⟩,⟨by rw[C0i];exact HF.o⟩,⟨St.putB HS.o p true⟩⟩
def A1f.l0:Nat→Int→Int→Int→Int→Int→Option (Int)
|0,_,_,_,_,_=>none
|k+1,x0,x1,x5,x6,x7=>if x7 < 32 then (if (Int.tmod x0 2)=(Int.tmod x1 2) then (A1f.l0 k (wrap64 (Int.tdiv x0 2)) (wrap64 (Int.tdiv x1 2)) x5 (wrap64 (2 * x6)) (wrap64 (x7+1))) else (A1f.l0 k (wrap64 (Int.tdiv x0 2)) (wrap64 (Int.tdiv x1 2)) (wrap64 (x5+x6)) (wrap64 (2 * x6)) (wrap64 (x7+1)))) else (some x5)
def A1f.f (k:Nat) (a0:Int) (a1:Int):Option (Int):=A1f.l0 k a0 a1 0 1 0
theorem A1f.calls (k:Nat) (a0:Int) (a1:Int) (r:Int) (w:World) (h:A1f.f k a0 a1=some r) :
  Calls Tryz.prog 226 #[.int .i64 a0,.int .i64 a1] w fun e w'=>e=.returned (.int .i64 r)∧A2e w w':=by
 unfold A1f.f at h;have H:=h;clear h;have H':=B98 H;clear H;go_enter Tryz.func226,Tryz.ntmps226
 go_wp2
 go_loopg [0,1,5,6,7] k (fun kq v0 v1 v5 v6 v7 w'=>∃ (x0_1:Int) (x1_1:Int) (x5_1:Int) (x6_1:Int) (x7_1:Int),v0=.int .i64 x0_1∧v1=.int .i64 x1_1∧v5=.int .i64 x5_1∧v6=.int .i64 x6_1∧v7=.int .i64 x7_1∧A0a (A1f.l0 kq x0_1 x1_1 x5_1 x6_1 x7_1=some r)∧A0a (kq≤k)∧A2e w w')
 case atStart=>exact⟨(a0),(a1),(0),(1),(0),mt,mt,mt,mt,mt,H',⟨Nat.le_refl _⟩,md⟩
 case round =>
  clear H';obtain⟨x0_1,x1_1,x5_1,x6_1,x7_1,rfl,rfl,rfl,rfl,rfl,HA,HK1,⟨m1,rfl⟩⟩:=hrel;cases gk with
 |zero=>exact absurd HA.o (by simp[A1f.l0])
 |succ k1 =>
   have H:=HA.o;clear HA;simp only [A1f.l0] at H;by_cases c3:x7_1 < 32
   ·rw[if_pos c3] at H
    have c3b0:decide (x7_1 < 32)=true:=B99 c3;clear c3;by_cases c4:(Int.tmod x0_1 2)=(Int.tmod x1_1 2)
    ·rw[if_pos c4] at H
     have c4b0:((Int.tmod x0_1 2) == (Int.tmod x1_1 2))=true:=beq_iff_eq.mpr c4;have c4b1:((Int.tmod x0_1 2) != (Int.tmod x1_1 2))=false:=bne_eq_false_iff_eq.mpr c4;clear c4;have H':=B98 H;clear H;go_wp2
     go_roundg k1
     case measure=>have:=HK1.o;omega
     case rel=>exact⟨(wrap64 (Int.tdiv x0_1 2)),(wrap64 (Int.tdiv x1_1 2)),(x5_1),(wrap64 (2 * x6_1)),(wrap64 (x7_1+1)),mt,mt,mt,mt,mt,H',⟨by have:=HK1.o;omega⟩,md⟩
    ·rw[if_neg c4] at H
     have c4b0:((Int.tmod x0_1 2) == (Int.tmod x1_1 2))=false:=C0g.mpr c4;have c4b1:((Int.tmod x0_1 2) != (Int.tmod x1_1 2))=true:=bne_iff_ne.mpr c4;have H':=B98 H;clear H;go_wp2
     go_roundg k1
     case measure=>have:=HK1.o;omega
     case rel=>exact⟨(wrap64 (Int.tdiv x0_1 2)),(wrap64 (Int.tdiv x1_1 2)),(wrap64 (x5_1+x6_1)),(wrap64 (2 * x6_1)),(wrap64 (x7_1+1)),mt,mt,mt,mt,mt,H',⟨by have:=HK1.o;omega⟩,md⟩
   ·rw[if_neg c3] at H
    have c3b0:decide (x7_1 < 32)=false:=C0a c3;clear c3;obtain rfl:=C0d H;go_wp2
    go_ret;exact⟨by first|rfl|(simp;done)|(simp[*];done),md⟩
mutual
def A0r.j0:Nat→ByteArray→Int→Option (Int)
|0,_,_=>none
|k+1,x0,x1=>if x1 > 1000000000 then (A0r.j1 k x0 1000000000) else (A0r.j1 k x0 x1)
def A0r.j1:Nat→ByteArray→Int→Option (Int)
|0,_,_=>none
|k+1,x0,x1=>A0r.l0 k x0 (Int.tmod (wrap64 (2166136261+x1)) 4294967296) 0
def A0r.l0:Nat→ByteArray→Int→Int→Option (Int)
|0,_,_,_=>none
|k+1,x0,x5,x6=>if x6 < (x0.size:Int) then (if 0≤x6 then ((A1f.f k x5 (wrap64 (bt x0 x6))).bind fun t681=>(A0r.l0 k x0 (Int.tmod (wrap64 (t681 * 16777619)) 4294967296) (wrap64 (x6+1)))) else (none)) else ((A1f.f k x5 (wrap64 (Int.tdiv x5 65536))).bind fun t682=>(some t682))
end
def A0r.f (k:Nat) (a0:ByteArray) (a1:Int):Option (Int):=if a1 < 0 then (A0r.j0 k a0 0) else (A0r.j0 k a0 a1)
theorem A0r.calls (k:Nat) (a0:ByteArray) (a1:Int) (r:Int) (w:World) (h:A0r.f k a0 a1=some r) :
  Calls Tryz.prog 187 #[.string a0,.int .i64 a1] w fun e w'=>e=.returned (.int .i64 r)∧A2e w w':=by
 unfold A0r.f at h;have H:=h;clear h;have HC3:=B98 H;clear H;go_enter Tryz.func187,Tryz.ntmps187
 go_upto_if 8 with (fail)
 go_cut [1] (fun v1 wc=>∃ (kq:Nat) (x1_2:Int),v1=.int .i64 x1_2∧A0a (A0r.j0 kq a0 x1_2=some r)∧A0a (kq≤k)∧A2e w wc)
 case first =>
  have H:=HC3.o;clear HC3;by_cases c4:a1 < 0
  ·rw[if_pos c4] at H
   have c4b0:decide (a1 < 0)=true:=B99 c4;clear c4;(first|rw[c4b0]|(simp only [A1y,A15];rw[c4b0])|skip)
   have H':=B98 H;clear H;go_wp2
   go_meet
   case rel=>exact⟨_,(0),mt,H',⟨by first|omega|exact Nat.le_refl _⟩,md⟩
  ·rw[if_neg c4] at H
   have c4b0:decide (a1 < 0)=false:=C0a c4;clear c4;(first|rw[c4b0]|(simp only [A1y,A15];rw[c4b0])|skip)
   have H':=B98 H;clear H;go_wp2
   go_meet
   case rel=>exact⟨_,(a1),mt,H',⟨by first|omega|exact Nat.le_refl _⟩,md⟩
 case rest =>
  clear HC3;obtain⟨kq,x1_2,rfl,HA,HJ2,⟨mc2,rfl⟩⟩:=hcut;cases kq with
 |zero=>exact absurd HA.o (by simp[A0r.j0])
 |succ kj2 =>
   have H:=HA.o;clear HA;simp only [A0r.j0] at H;have HC5:=B98 H;clear H;go_upto_if 10 with (fail)
   go_cut [1] (fun v1 wc=>∃ (kq:Nat) (x1_4:Int),v1=.int .i64 x1_4∧A0a (A0r.j1 kq a0 x1_4=some r)∧A0a (kq≤kj2)∧A2e w wc)
   case first =>
    have H:=HC5.o;clear HC5;by_cases c6:x1_2 > 1000000000
    ·rw[if_pos c6] at H
     have c6b0:decide (1000000000 < x1_2)=true:=B99 c6;clear c6;(first|rw[c6b0]|(simp only [A1y,A15];rw[c6b0])|skip)
     have H':=B98 H;clear H;go_wp2
     go_meet
     case rel=>exact⟨_,(1000000000),mt,H',⟨by have:=HJ2.o;first|omega|exact Nat.le_refl _⟩,md⟩
    ·rw[if_neg c6] at H
     have c6b0:decide (1000000000 < x1_2)=false:=C0a c6;clear c6;(first|rw[c6b0]|(simp only [A1y,A15];rw[c6b0])|skip)
     have H':=B98 H;clear H;go_wp2
     go_meet
     case rel=>exact⟨_,(x1_2),mt,H',⟨by have:=HJ2.o;first|omega|exact Nat.le_refl _⟩,md⟩
   case rest =>
    clear HC5;obtain⟨kq,x1_4,rfl,HA,HJ4,⟨mc4,rfl⟩⟩:=hcut;cases kq with
   |zero=>exact absurd HA.o (by simp[A0r.j1])
   |succ kj4 =>
     have H:=HA.o;clear HA;simp only [A0r.j1] at H;have H':=B98 H;clear H;go_wp2
     go_loopg [5,6] kj4 (fun kq v5 v6 w'=>∃ (x5_3:Int) (x6_3:Int),v5=.int .i64 x5_3∧v6=.int .i64 x6_3∧A0a (A0r.l0 kq a0 x5_3 x6_3=some r)∧A0a (kq≤kj4)∧A2e w w')
     case atStart=>exact⟨(Int.tmod (wrap64 (2166136261+x1_4)) 4294967296),(0),mt,mt,H',⟨Nat.le_refl _⟩,md⟩
     case round =>
      clear H';obtain⟨x5_3,x6_3,rfl,rfl,HA,HK3,⟨m3,rfl⟩⟩:=hrel;cases gk with
     |zero=>exact absurd HA.o (by simp[A0r.l0])
     |succ k3 =>
       have H:=HA.o;clear HA;simp only [A0r.l0] at H;by_cases c7:x6_3 < (a0.size:Int)
       ·rw[if_pos c7] at H
        have c7b0:decide (x6_3 < (a0.size:Int))=true:=B99 c7;clear c7;by_cases c8:0≤x6_3
        ·rw[if_pos c8] at H
         have c8b0:decide (0≤x6_3)=true:=B99 c8;clear c8;replace H:=C0f.mp H;obtain⟨t681,A100,H⟩:=H;(try dsimp only at H)
         have A10:=B98 A100;clear A100;have H':=B98 H;clear H;have p9:0≤(x6_3:Int):=mo;have q9:x6_3 < (a0.size:Int):=mo;have hx9:=B9y a0 x6_3;replace p9:=eq_true p9;replace q9:=eq_true q9;go_wp2_with (first|((with_reducible refine A0j (f:=226) rfl ?_);refine A1l (some 25) rfl rfl Tryz.func226 Zk rfl #[.int .i64 x5_3,.int .i64 (wrap64 (bt a0 x6_3))] rfl ml ?_;(with_reducible refine(A1f.calls k3 x5_3 (wrap64 (bt a0 x6_3)) t681 _ A10.o).mono ?_);rintro e w' ⟨rfl,⟨nd,rfl⟩⟩;refine⟨_,rfl,?_⟩))
         go_roundg k3
         case measure=>have:=HJ2.o;have:=HJ4.o;have:=HK3.o;omega
         case rel=>exact⟨(Int.tmod (wrap64 (t681 * 16777619)) 4294967296),(wrap64 (x6_3+1)),mt,mt,H',⟨by have:=HJ2.o;have:=HJ4.o;have:=HK3.o;omega⟩,md⟩
        ·rw[if_neg c8] at H
         exact absurd H Zs
       ·rw[if_neg c7] at H
        have c7b0:decide (x6_3 < (a0.size:Int))=false:=C0a c7;clear c7;replace H:=C0f.mp H;obtain⟨t682,A110,H⟩:=H;(try dsimp only at H)
        have A11:=B98 A110;clear A110;obtain rfl:=C0d H;go_wp2_with (first|((with_reducible refine A0j (f:=226) rfl ?_);refine A1l (some 31) rfl rfl Tryz.func226 Zk rfl #[.int .i64 x5_3,.int .i64 (wrap64 (Int.tdiv x5_3 65536))] rfl ml ?_;(with_reducible refine(A1f.calls k3 x5_3 (wrap64 (Int.tdiv x5_3 65536)) t682 _ A11.o).mono ?_);rintro e w' ⟨rfl,⟨nd,rfl⟩⟩;refine⟨_,rfl,?_⟩));go_ret;exact⟨by first|rfl|(simp;done)|(simp[*];done),md⟩
end Go.Proofs.YtediiolcoilepaaGreat.GNear
