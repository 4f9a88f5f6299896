/- Walks of callees. -/
import Derived.Test.YtediiolcoilepaaGreatGNear0
import Derived.Test.YtediiolcoilepaaGreatGNear5
namespace Go.Proofs.YtediiolcoilepaaGreat.GNear
set_option maxHeartbeats 8000000
set_option maxRecDepth 100000
open Go.RowKit Go.Proofs.YtediiolcoilepaaGreatW.PrintWords Go.Proofs.YtediiolcoilepaaGreatW.PrintLast Go.Proofs.YtediiolcoilepaaGreatW.PrintMore
attribute [local go_sem] max2_int min2_int max_two min_two max_three min_three max_four min_four
set_option linter.unusedVariables false
set_option linter.unusedSimpArgs false
theorem zc8 {w w1:World} {a:Addr} {v:Value} (hb:Below w.heap.size w w1) (h:w.cell? a=some v):w1.cell? a=some v:=(hb.cell (World.block_lt_of_cell? w _ h)).trans h
def impl_Table_find.f (k:Nat) (l0_0:List (S151)) (l0_1:List (S151)) (a0_2:Int) (a1:ByteArray):Option (Int × Bool):=(impl_seek.f k l0_0 a1).bind fun t485=>(if t485 ≥ 0 then (if 0≤t485 then (if t485 < (l0_0.length:Int) then (some ((rd_T151 l0_0 t485).f1,true)) else (none)) else (none)) else ((impl_seek.f k l0_1 a1).bind fun t487=>(if t487 ≥ 0 then (if 0≤t487 then (if t487 < (l0_1.length:Int) then (some ((rd_T151 l0_1 t487).f1,true)) else (none)) else (none)) else (some (0,false)))))
theorem impl_Table_find.calls (k:Nat) (A0_0:Option Addr) (c0_0:Nat) (l0_0:List (S151)) (A0_1:Option Addr) (c0_1:Nat) (l0_1:List (S151)) (a0_2:Int) (a1:ByteArray) (r1:Int) (r2:Bool) (w:World) (hr0_0:Kd.C k151 w A0_0 l0_0.length l0_0) (hc0_0:l0_0.length≤c0_0) (hr0_1:Kd.C k151 w A0_1 l0_1.length l0_1) (hc0_1:l0_1.length≤c0_1) (h:impl_Table_find.f k l0_0 l0_1 a0_2 a1=some (r1,r2)) :
  Calls Tryz.prog 57 #[.agg #[.slice A0_0 l0_0.length c0_0,.slice A0_1 l0_1.length c0_1,.int .i64 a0_2],.string a1] w fun e w'=>e=.returned (.tuple #[.int .i64 r1,.bool r2])∧Below w.heap.size w w':=by
 have hu45:=Tryz.underlying45;have HR0_0:=Aside0.mk hr0_0;have HC0_0:=Aside0.mk hc0_0;clear hr0_0 hc0_0;have HR0_1:=Aside0.mk hr0_1;have HC0_1:=Aside0.mk hc0_1;clear hr0_1 hc0_1;have HB:=Aside0.mk (Below.refl w.heap.size w);unfold impl_Table_find.f at h;have H:=h;clear h;replace H:=Option.bind_eq_some_iff.mp H;obtain⟨t485,A30,H⟩:=H;(try dsimp only at H)
 have A3:=Aside0.mk A30;clear A30;go_enter Tryz.func57,Tryz.ntmps57;go_wp2_with (first|((with_reducible refine gate_dst (N:=2) rfl ?_);refine yE (N:=2) (cs:=#[.slice A0_0 l0_0.length c0_0,.slice A0_1 l0_1.length c0_1,.int .i64 a0_2]) (t:=45) fun gb484 hg w7 hbox hb=>?_;obtain⟨n0_,n2_⟩:=yX (w:=w) hg hb mq;have n1_:=Aside0.mk (hbox);have n3_:=n2_;clear HB;have HB:=n0_;have BK484:=n1_;have GW484:=n2_;have GE484:=n3_;clear n0_ n1_ n2_ n3_;clear hb hbox hg;obtain⟨hcz8_0,hcz8_1,hcz8_2,hfz8_0,hfz8_1,hfz8_2⟩:=zb3 BK484.out)|((with_reducible refine gate_callee (f:=134) rfl ?_);refine goesL_ (some 11) rfl rfl Tryz.func134 (by kernel_rfl) rfl #[.slice A0_0 l0_0.length c0_0,.string a1] rfl ml ?_;(with_reducible refine(impl_seek.calls k _ _ l0_0 a1 t485 _ ?side1 ?side2 A3.out).mono ?_);(case side1=>exact mc HR0_0.out);(case side2=>exact HC0_0.out);rintro e w9 ⟨rfl,hb⟩;refine⟨_,rfl,?_⟩;have n0_:=Aside0.mk (zK (mz BK484.out) hb);have n1_:=Aside0.mk (zN mq hb);clear BK484;clear HB;have BK484:=n0_;have HB:=n1_;clear n0_ n1_;(try clear hb);(try clear hb2);(try clear hk);(try clear hi);obtain⟨hcz10_0,hcz10_1,hcz10_2,hfz10_0,hfz10_1,hfz10_2⟩:=zb3 BK484.out;(refine Classical.byCases (p:=(t485 ≥ 0)) (fun c4=>?zp60) (fun c4=>?zn60);(case' zn60=>(rw[if_neg c4] at H);(have c4b0:decide (0≤t485)=false:=decide_eq_false c4);(clear c4);(replace H:=Option.bind_eq_some_iff.mp H);(obtain⟨t487,A110,H⟩:=H);(replace H:(if t487 ≥ 0 then (if 0≤t487 then (if t487 < (l0_1.length:Int) then (some ((rd_T151 l0_1 t487).f1,true)) else (none)) else (none)) else (some (0,false)))=some (r1,r2):=H);(have A11:=Aside0.mk A110);(clear A110));(case' zp60=>(rw[if_pos c4] at H);(have c4b0:decide (0≤t485)=true:=decide_eq_true c4);(clear c4);(refine Classical.byCases (p:=(0≤t485)) (fun c5=>?zp56) (fun c5=>?zn56);(case' zn56=>(rw[if_neg c5] at H);(exact absurd H (by simp)));(case' zp56=>(rw[if_pos c5] at H);(have c5b0:decide (0≤t485)=true:=decide_eq_true c5);(clear c5);(refine Classical.byCases (p:=(t485 < (l0_0.length:Int))) (fun c6=>?zp55) (fun c6=>?zn55);(case' zn55=>(rw[if_neg c6] at H);(exact absurd H (by simp)));(case' zp55=>(rw[if_pos c6] at H);(have c6b0:decide (t485 < (l0_0.length:Int))=true:=decide_eq_true c6);(clear c6);(simp only [Option.some.injEq,Prod.mk.injEq] at H);(obtain⟨rfl,rfl⟩:=H);(have p486:0≤(t485:Int):=mo);(have q486:t485 < (l0_0.length:Int):=mo);(obtain⟨ad486,e486,hx486_0,hx486_1⟩:=at_T151 HR0_0.out t485 p486 q486);(cases e486);(replace hx486_0:=zc8 HB.out hx486_0);(replace hx486_1:=zc8 HB.out hx486_1);(replace p486:=eq_true p486);(replace q486:=eq_true q486))))))))|((with_reducible refine gate_callee (f:=134) rfl ?_);refine goesL_ (some 23) rfl rfl Tryz.func134 (by kernel_rfl) rfl #[.slice A0_1 l0_1.length c0_1,.string a1] rfl ml ?_;(with_reducible refine(impl_seek.calls k _ _ l0_1 a1 t487 _ ?side1 ?side2 A11.out).mono ?_);(case side1=>exact mc HR0_1.out);(case side2=>exact HC0_1.out);rintro e w19 ⟨rfl,hb⟩;refine⟨_,rfl,?_⟩;have n0_:=Aside0.mk (zK (mz BK484.out) hb);have n1_:=Aside0.mk (zN mq hb);clear BK484;clear HB;have BK484:=n0_;have HB:=n1_;clear n0_ n1_;(try clear hb);(try clear hb2);(try clear hk);(try clear hi);obtain⟨hcz20_0,hcz20_1,hcz20_2,hfz20_0,hfz20_1,hfz20_2⟩:=zb3 BK484.out;(refine Classical.byCases (p:=(t487 ≥ 0)) (fun c12=>?zp59) (fun c12=>?zn59);(case' zn59=>(rw[if_neg c12] at H);(have c12b0:decide (0≤t487)=false:=decide_eq_false c12);(clear c12);(simp only [Option.some.injEq,Prod.mk.injEq] at H);(obtain⟨rfl,rfl⟩:=H));(case' zp59=>(rw[if_pos c12] at H);(have c12b0:decide (0≤t487)=true:=decide_eq_true c12);(clear c12);(refine Classical.byCases (p:=(0≤t487)) (fun c13=>?zp58) (fun c13=>?zn58);(case' zn58=>(rw[if_neg c13] at H);(exact absurd H (by simp)));(case' zp58=>(rw[if_pos c13] at H);(have c13b0:decide (0≤t487)=true:=decide_eq_true c13);(clear c13);(refine Classical.byCases (p:=(t487 < (l0_1.length:Int))) (fun c14=>?zp57) (fun c14=>?zn57);(case' zn57=>(rw[if_neg c14] at H);(exact absurd H (by simp)));(case' zp57=>(rw[if_pos c14] at H);(have c14b0:decide (t487 < (l0_1.length:Int))=true:=decide_eq_true c14);(clear c14);(simp only [Option.some.injEq,Prod.mk.injEq] at H);(obtain⟨rfl,rfl⟩:=H);(have p488:0≤(t487:Int):=mo);(have q488:t487 < (l0_1.length:Int):=mo);(obtain⟨ad488,e488,hx488_0,hx488_1⟩:=at_T151 HR0_1.out t487 p488 q488);(cases e488);(replace hx488_0:=zc8 HB.out hx488_0);(replace hx488_1:=zc8 HB.out hx488_1);(replace p488:=eq_true p488);(replace q488:=eq_true q488)))))))))
 ·go_ret2
  exact⟨mr,mq⟩
 ·go_ret2
  exact⟨mr,mq⟩
 ·go_ret2
  exact⟨mr,mq⟩
def impl_Arena_handle.f (l0_0:List (S94)) (a0_1:Int) (a1:Int):Option (Int):=if 0≤a1 then (if a1 < (l0_0.length:Int) then (some (wrap64 ((wrap64 (24 * ((rd_T94 l0_0 a1).f0)))+a1))) else (none)) else (none)
theorem impl_Arena_handle.calls (A0_0:Option Addr) (c0_0:Nat) (l0_0:List (S94)) (a0_1:Int) (a1:Int) (r:Int) (w:World) (hr0_0:Kd.C k94 w A0_0 l0_0.length l0_0) (hc0_0:l0_0.length≤c0_0) (h:impl_Arena_handle.f l0_0 a0_1 a1=some r) :
  Calls Tryz.prog 135 #[.agg #[.slice A0_0 l0_0.length c0_0,.int .i64 a0_1],.int .i64 a1] w fun e w'=>e=.returned (.int .i64 r)∧Below w.heap.size w w':=by
 have hu42:=Tryz.underlying42;have HR0_0:=Aside0.mk hr0_0;have HC0_0:=Aside0.mk hc0_0;clear hr0_0 hc0_0;have HB:=Aside0.mk (Below.refl w.heap.size w);unfold impl_Arena_handle.f at h;have H:=h;clear h;by_cases c3:0≤a1
 ·rw[if_pos c3] at H
  have c3b0:decide (0≤a1)=true:=decide_eq_true c3;clear c3;by_cases c4:a1 < (l0_0.length:Int)
  ·rw[if_pos c4] at H
   have c4b0:decide (a1 < (l0_0.length:Int))=true:=decide_eq_true c4;clear c4;obtain rfl:=Option.some.inj H;go_enter Tryz.func135,Tryz.ntmps135;go_wp2_with (first|((with_reducible refine gate_dst (N:=2) rfl ?_);refine yE (N:=2) (cs:=#[.slice A0_0 l0_0.length c0_0,.int .i64 a0_1]) (t:=42) fun gb489 hg w5 hbox hb=>?_;obtain⟨n0_,n2_⟩:=yX (w:=w) hg hb mq;have n1_:=Aside0.mk (hbox);have n3_:=n2_;clear HB;have HB:=n0_;have BK489:=n1_;have GW489:=n2_;have GE489:=n3_;clear n0_ n1_ n2_ n3_;clear hb hbox hg;obtain⟨hcz6_0,hcz6_1,hfz6_0,hfz6_1⟩:=zb2 BK489.out;have p490:0≤(a1:Int):=mo;have q490:a1 < (l0_0.length:Int):=mo;obtain⟨ad490,e490,hx490_0,hx490_1,hx490_2,hx490_3,hx490_4⟩:=at_T94 (Kd.C_below HR0_0.out HB.out) a1 p490 q490;cases e490;replace p490:=eq_true p490;replace q490:=eq_true q490));go_ret;exact⟨mr,mq⟩
  ·rw[if_neg c4] at H
   exact absurd H (by simp)
 ·rw[if_neg c3] at H
  exact absurd H (by simp)
def impl_Arena_place.f (l0_0:List (S94)) (a0_1:Int) (a1:Int):Option (Int):=if a1 < 0 then (some (-1)) else (if (Int.tmod a1 24) ≥ (l0_0.length:Int) then (some (-1)) else (if 0≤(Int.tmod a1 24) then (if (Int.tmod a1 24) < (l0_0.length:Int) then (if ((rd_T94 l0_0 (Int.tmod a1 24)).f1=true) then ((impl_Arena_handle.f l0_0 a0_1 (Int.tmod a1 24)).bind fun t493=>(if t493=a1 then (some (Int.tmod a1 24)) else (some (-1)))) else (some (-1))) else (none)) else (none)))
theorem impl_Arena_place.calls (A0_0:Option Addr) (c0_0:Nat) (l0_0:List (S94)) (a0_1:Int) (a1:Int) (r:Int) (w:World) (hr0_0:Kd.C k94 w A0_0 l0_0.length l0_0) (hc0_0:l0_0.length≤c0_0) (h:impl_Arena_place.f l0_0 a0_1 a1=some r) :
  Calls Tryz.prog 58 #[.agg #[.slice A0_0 l0_0.length c0_0,.int .i64 a0_1],.int .i64 a1] w fun e w'=>e=.returned (.int .i64 r)∧Below w.heap.size w w':=by
 have hu42:=Tryz.underlying42;have HR0_0:=Aside0.mk hr0_0;have HC0_0:=Aside0.mk hc0_0;clear hr0_0 hc0_0;have HB:=Aside0.mk (Below.refl w.heap.size w);unfold impl_Arena_place.f at h;have H:=h;clear h;by_cases c3:a1 < 0
 ·rw[if_pos c3] at H
  have c3b0:decide (a1 < 0)=true:=decide_eq_true c3;clear c3;obtain rfl:=Option.some.inj H;go_enter Tryz.func58,Tryz.ntmps58;go_wp2_with (first|((with_reducible refine gate_dst (N:=2) rfl ?_);refine yE (N:=2) (cs:=#[.slice A0_0 l0_0.length c0_0,.int .i64 a0_1]) (t:=42) fun gb491 hg w4 hbox hb=>?_;obtain⟨n0_,n2_⟩:=yX (w:=w) hg hb mq;have n1_:=Aside0.mk (hbox);have n3_:=n2_;clear HB;have HB:=n0_;have BK491:=n1_;have GW491:=n2_;have GE491:=n3_;clear n0_ n1_ n2_ n3_;clear hb hbox hg));go_ret;exact⟨mr,mq⟩
 ·rw[if_neg c3] at H
  have c3b0:decide (a1 < 0)=false:=decide_eq_false c3;clear c3;by_cases c5:(Int.tmod a1 24) ≥ (l0_0.length:Int)
  ·rw[if_pos c5] at H
   have c5b0:decide ((l0_0.length:Int)≤(Int.tmod a1 24))=true:=decide_eq_true c5;clear c5;obtain rfl:=Option.some.inj H;go_enter Tryz.func58,Tryz.ntmps58;go_wp2_with (first|((with_reducible refine gate_dst (N:=2) rfl ?_);refine yE (N:=2) (cs:=#[.slice A0_0 l0_0.length c0_0,.int .i64 a0_1]) (t:=42) fun gb491 hg w6 hbox hb=>?_;obtain⟨n0_,n2_⟩:=yX (w:=w) hg hb mq;have n1_:=Aside0.mk (hbox);have n3_:=n2_;clear HB;have HB:=n0_;have BK491:=n1_;have GW491:=n2_;have GE491:=n3_;clear n0_ n1_ n2_ n3_;clear hb hbox hg;obtain⟨hcz7_0,hcz7_1,hfz7_0,hfz7_1⟩:=zb2 BK491.out));go_ret;exact⟨mr,mq⟩
  ·rw[if_neg c5] at H
   have c5b0:decide ((l0_0.length:Int)≤(Int.tmod a1 24))=false:=decide_eq_false c5;clear c5;obtain⟨ji8,hji8⟩:∃ j_:Int,(Int.tmod a1 24)=j_:=⟨_,rfl⟩;replace H:(if 0≤(ji8) then (if (ji8) < (l0_0.length:Int) then (if ((rd_T94 l0_0 (ji8)).f1=true) then ((impl_Arena_handle.f l0_0 a0_1 (ji8)).bind fun t493=>(if t493=a1 then (some ji8) else (some (-1)))) else (some (-1))) else (none)) else (none))=some r:=by first|(rw[hji8] at H;exact H)|(simp only [hji8] at H ⊢;exact H)
   (try rw[hji8] at c5b0)
   by_cases c9:0≤(ji8)
   ·rw[if_pos c9] at H
    have c9b0:decide (0≤(ji8))=true:=decide_eq_true c9;clear c9;by_cases c10:(ji8) < (l0_0.length:Int)
    ·rw[if_pos c10] at H
     have c10b0:decide ((ji8) < (l0_0.length:Int))=true:=decide_eq_true c10;clear c10;obtain⟨bq11,hbq11⟩:∃ b_:Bool,b_=((rd_T94 l0_0 (ji8)).f1):=⟨_,rfl⟩;rw[← hbq11] at H;have Nbq11:=Aside0.mk hbq11;clear hbq11;by_cases c12:(bq11=true)
     ·subst c12
      rw[if_pos rfl] at H;replace H:=Option.bind_eq_some_iff.mp H;obtain⟨t493,A130,H⟩:=H;(try dsimp only at H)
      have A13:=Aside0.mk A130;clear A130;go_enter Tryz.func58,Tryz.ntmps58;go_wp2_with (first|((with_reducible refine gate_dst (N:=2) rfl ?_);refine yE (N:=2) (cs:=#[.slice A0_0 l0_0.length c0_0,.int .i64 a0_1]) (t:=42) fun gb491 hg w15 hbox hb=>?_;obtain⟨n0_,n2_⟩:=yX (w:=w) hg hb mq;have n1_:=Aside0.mk (hbox);have n3_:=n2_;clear HB;have HB:=n0_;have BK491:=n1_;have GW491:=n2_;have GE491:=n3_;clear n0_ n1_ n2_ n3_;clear hb hbox hg;obtain⟨hcz16_0,hcz16_1,hfz16_0,hfz16_1⟩:=zb2 BK491.out;have p492:0≤((ji8):Int):=mo;have q492:(ji8) < (l0_0.length:Int):=mo;obtain⟨ad492,e492,hx492_0,hx492_1,hx492_2,hx492_3,hx492_4⟩:=at_T94 HR0_0.out (ji8) p492 q492;(try rw[← Nbq11.out] at hx492_1);cases e492;replace hx492_0:=zc8 HB.out hx492_0;replace hx492_1:=zc8 HB.out hx492_1;replace hx492_2:=zc8 HB.out hx492_2;replace hx492_3:=zc8 HB.out hx492_3;replace hx492_4:=zc8 HB.out hx492_4;replace p492:=eq_true p492;replace q492:=eq_true q492)|(go_at_call 135;(with_reducible refine(impl_Arena_handle.calls _ _ l0_0 a0_1 ji8 t493 _ ?side1 ?side2 A13.out).mono ?_);(case side1=>exact mc HR0_0.out);(case side2=>exact HC0_0.out);rintro e w17 ⟨rfl,hb⟩;have n0_:=Aside0.mk (zK (mz BK491.out) hb);have n1_:=Aside0.mk (zN mq hb);clear BK491;clear HB;have BK491:=n0_;have HB:=n1_;clear n0_ n1_;(try clear hb);(try clear hb2);(try clear hk);(try clear hi);(refine Classical.byCases (p:=(t493=a1)) (fun c14=>?zp61) (fun c14=>?zn61);(case' zn61=>(rw[if_neg c14] at H);(have c14b0:(t493 == a1)=false:=beq_eq_false_iff_ne.mpr c14);(have c14b1:(t493 != a1)=true:=bne_iff_ne.mpr c14);(obtain rfl:=Option.some.inj H));(case' zp61=>(rw[if_pos c14] at H);(have c14b0:(t493 == a1)=true:=beq_iff_eq.mpr c14);(have c14b1:(t493 != a1)=false:=bne_eq_false_iff_eq.mpr c14);(clear c14);(obtain rfl:=Option.some.inj H)))))
      ·go_ret
       exact⟨by first|rfl|(simp[] <;> rfl)|(simp only [← hji8];first|rfl|(simp[] <;> rfl))|(simp[*] <;> rfl),mq⟩
      ·go_ret
       exact⟨by first|rfl|(simp[] <;> rfl)|(simp only [← hji8];first|rfl|(simp[] <;> rfl))|(simp[*] <;> rfl),mq⟩
     ·replace c12:=Bool.eq_false_iff.mpr c12
      subst c12;rw[if_neg (show ¬ (false=true) by decide)] at H;obtain rfl:=Option.some.inj H;go_enter Tryz.func58,Tryz.ntmps58;go_wp2_with (first|((with_reducible refine gate_dst (N:=2) rfl ?_);refine yE (N:=2) (cs:=#[.slice A0_0 l0_0.length c0_0,.int .i64 a0_1]) (t:=42) fun gb491 hg w21 hbox hb=>?_;obtain⟨n0_,n2_⟩:=yX (w:=w) hg hb mq;have n1_:=Aside0.mk (hbox);have n3_:=n2_;clear HB;have HB:=n0_;have BK491:=n1_;have GW491:=n2_;have GE491:=n3_;clear n0_ n1_ n2_ n3_;clear hb hbox hg;obtain⟨hcz22_0,hcz22_1,hfz22_0,hfz22_1⟩:=zb2 BK491.out;have p492:0≤((ji8):Int):=mo;have q492:(ji8) < (l0_0.length:Int):=mo;obtain⟨ad492,e492,hx492_0,hx492_1,hx492_2,hx492_3,hx492_4⟩:=at_T94 HR0_0.out (ji8) p492 q492;(try rw[← Nbq11.out] at hx492_1);cases e492;replace hx492_0:=zc8 HB.out hx492_0;replace hx492_1:=zc8 HB.out hx492_1;replace hx492_2:=zc8 HB.out hx492_2;replace hx492_3:=zc8 HB.out hx492_3;replace hx492_4:=zc8 HB.out hx492_4;replace p492:=eq_true p492;replace q492:=eq_true q492));go_ret;exact⟨by first|rfl|(simp[] <;> rfl)|(simp only [← hji8];first|rfl|(simp[] <;> rfl))|(simp[*] <;> rfl),mq⟩
    ·rw[if_neg c10] at H
     exact absurd H (by simp)
   ·rw[if_neg c9] at H
    exact absurd H (by simp)
def spec_l08Cells.l0:Nat→Int→Int→Option (Int)
|0,_,_=>none
|k+1,x0,x3=>if x3≤(wrap64 (2 * x0)) then (spec_l08Cells.l0 k x0 (wrap64 (2 * x3))) else (some x3)
def spec_l08Cells.f (k:Nat) (a0:Int):Option (Int):=spec_l08Cells.l0 k a0 4
theorem spec_l08Cells.calls (k:Nat) (a0:Int) (r:Int) (w:World) (h:spec_l08Cells.f k a0=some r) :
  Calls Tryz.prog 96 #[.int .i64 a0] w fun e w'=>e=.returned (.int .i64 r)∧Drawn0 w w':=by
 unfold spec_l08Cells.f at h;have H:=h;clear h;have H':=Aside0.mk H;clear H;go_enter Tryz.func96,Tryz.ntmps96
 go_wp2
 go_loopg [3] k (fun kq v3 w'=>∃ (x3_1:Int),v3=.int .i64 x3_1∧Aside0 (spec_l08Cells.l0 kq a0 x3_1=some r)∧Aside0 (kq≤k)∧Drawn0 w w')
 case atStart=>exact⟨(4),mt,H',⟨Nat.le_refl _⟩,md⟩
 case round =>
  clear H';obtain⟨x3_1,rfl,HA,HK1,⟨m1,rfl⟩⟩:=hrel;cases gk with
 |zero=>exact absurd HA.out (by simp[spec_l08Cells.l0])
 |succ k1 =>
   have H:=HA.out;clear HA;simp only [spec_l08Cells.l0] at H;by_cases c2:x3_1≤(wrap64 (2 * a0))
   ·rw[if_pos c2] at H
    have c2b0:decide (x3_1≤(wrap64 (2 * a0)))=true:=decide_eq_true c2;clear c2;have H':=Aside0.mk H;clear H;go_wp2
    go_roundg k1
    case measure=>have:=HK1.out;omega
    case rel=>exact⟨(wrap64 (2 * x3_1)),mt,H',⟨by have:=HK1.out;omega⟩,md⟩
   ·rw[if_neg c2] at H
    have c2b0:decide (x3_1≤(wrap64 (2 * a0)))=false:=decide_eq_false c2;clear c2;obtain rfl:=Option.some.inj H;go_wp2
    go_ret;exact⟨by first|rfl|(simp;done)|(simp[*];done),md⟩
def spec_l08Mosts.f (a0:Int):Option (Int × Int × Int):=if (wrap64 (Int.tdiv a0 4)) < 1 then (some (1,wrap64 ((wrap64 (a0 - 1)) - (wrap64 (Int.tdiv (wrap64 (a0 - 1)) 2))),wrap64 (Int.tdiv (wrap64 (a0 - 1)) 2))) else (some (wrap64 (Int.tdiv a0 4),wrap64 ((wrap64 (a0 - (wrap64 (Int.tdiv a0 4)))) - (wrap64 (Int.tdiv (wrap64 (a0 - (wrap64 (Int.tdiv a0 4)))) 2))),wrap64 (Int.tdiv (wrap64 (a0 - (wrap64 (Int.tdiv a0 4)))) 2)))
theorem spec_l08Mosts.calls (a0:Int) (r1:Int) (r2:Int) (r3:Int) (w:World) (h:spec_l08Mosts.f a0=some (r1,r2,r3)) :
  Calls Tryz.prog 97 #[.int .i64 a0] w fun e w'=>e=.returned (.tuple #[.int .i64 r1,.int .i64 r2,.int .i64 r3])∧Drawn0 w w':=by
 unfold spec_l08Mosts.f at h;have H:=h;clear h;by_cases c2:(wrap64 (Int.tdiv a0 4)) < 1
 ·rw[if_pos c2] at H
  have c2b0:decide ((wrap64 (Int.tdiv a0 4)) < 1)=true:=decide_eq_true c2;clear c2;simp only [Option.some.injEq,Prod.mk.injEq] at H;obtain⟨rfl,rfl,rfl⟩:=H;go_enter Tryz.func97,Tryz.ntmps97
  go_wp2
  go_ret3
  exact⟨by first|rfl|(simp;done)|(simp[*];done),md⟩
 ·rw[if_neg c2] at H
  have c2b0:decide ((wrap64 (Int.tdiv a0 4)) < 1)=false:=decide_eq_false c2;clear c2;simp only [Option.some.injEq,Prod.mk.injEq] at H;obtain⟨rfl,rfl,rfl⟩:=H;go_enter Tryz.func97,Tryz.ntmps97
  go_wp2
  go_ret3
  exact⟨by first|rfl|(simp;done)|(simp[*];done),md⟩
def spec_l01In.f (a0:Int) (a1:Int) (a2:Int):Option (Bool):=if a0 ≥ a1 then (some (decide (a0≤a2))) else (some false)
theorem spec_l01In.calls (a0:Int) (a1:Int) (a2:Int) (r:Bool) (w:World) (h:spec_l01In.f a0 a1 a2=some r) :
  Calls Tryz.prog 93 #[.int .i64 a0,.int .i64 a1,.int .i64 a2] w fun e w'=>e=.returned (.bool r)∧Drawn0 w w':=by
 unfold spec_l01In.f at h;have H:=h;clear h;by_cases c4:a0 ≥ a1
 ·rw[if_pos c4] at H
  have c4b0:decide (a1≤a0)=true:=decide_eq_true c4;clear c4;obtain rfl:=Option.some.inj H;go_enter Tryz.func93,Tryz.ntmps93
  go_wp2
  go_ret;exact⟨by first|rfl|(simp;done)|(simp[*];done),md⟩
 ·rw[if_neg c4] at H
  have c4b0:decide (a1≤a0)=false:=decide_eq_false c4;clear c4;obtain rfl:=Option.some.inj H;go_enter Tryz.func93,Tryz.ntmps93
  go_wp2
  go_ret;exact⟨by first|rfl|(simp;done)|(simp[*];done),md⟩
end Go.Proofs.YtediiolcoilepaaGreat.GNear
