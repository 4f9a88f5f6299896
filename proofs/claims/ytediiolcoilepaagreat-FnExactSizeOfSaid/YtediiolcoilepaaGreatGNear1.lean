/- Parts of the proof: walks of callees, plain laws about what they compute. -/
import Derived.Test.YtediiolcoilepaaGreatGNear0
namespace Go.Proofs.YtediiolcoilepaaGreat.GNear
open Go.RowKit Go.Proofs.YtediiolcoilepaaGreatW.PrintWords Go.Proofs.YtediiolcoilepaaGreatW.PrintLast Go.Proofs.YtediiolcoilepaaGreatW.PrintMore
attribute [local go_sem] max2_int min2_int max_two min_two max_three min_three max_four min_four
set_option linter.unusedVariables false
set_option linter.unusedSimpArgs false
theorem zc1 {w w1:World} {a:Addr} {v:Value} (hb:Below w.heap.size w w1) (h:w.cell? a=some v):w1.cell? a=some v:=(hb.cell (World.block_lt_of_cell? w _ h)).trans h
theorem eqA151 (d:Nat) (w:World) (x0 y0:ByteArray) (x1 y1:Int) :
  (Op.equalIn (d+2) 151 (.agg #[.string x0,.int .i64 x1]) (.agg #[.string y0,.int .i64 y1])).run Tryz.prog w=.ok (x0.toList == y0.toList && (x1 == y1)) w:=by
 refine eqA_of Tryz.underlying151 (by kernel_rfl) ?_
 refine eqf_cons (by rfl) (by go_simp;rfl) (by go_simp;rfl) (by go_simp) ?_
 exact eqf_last (by rfl) (by go_simp;rfl) (by go_simp;rfl) (by go_simp)
def laws_szSlot.f (a0_0:Int) (a0_1:Bool) (a0_2:ByteArray) (a0_3:ByteArray) (a0_4:Int) (a1:Int):Option (Int):=if (wrap64 (a1 - (a0_2.size:Int))) < 0 then (some (-1)) else (if (wrap64 ((wrap64 (a1 - (a0_2.size:Int))) - (a0_3.size:Int))) < 0 then (some (-1)) else (some (wrap64 ((wrap64 (a1 - (a0_2.size:Int))) - (a0_3.size:Int)))))
set_option maxHeartbeats 8000000 in
set_option maxRecDepth 100000 in
theorem laws_szSlot.calls (a0_0:Int) (a0_1:Bool) (a0_2:ByteArray) (a0_3:ByteArray) (a0_4:Int) (a1:Int) (r:Int) (w:World) (h:laws_szSlot.f a0_0 a0_1 a0_2 a0_3 a0_4 a1=some r) :
  Calls Tryz.prog 184 #[.agg #[.int .i64 a0_0,.bool a0_1,.string a0_2,.string a0_3,.int .i64 a0_4],.int .i64 a1] w fun e w'=>e=.returned (.int .i64 r)∧Below w.heap.size w w':=by
 have hu196:=Tryz.underlying196;have HB:=Aside0.mk (Below.refl w.heap.size w)
 have H:(if (wrap64 (a1 - (a0_2.size:Int))) < 0 then (some (-1)) else (if (wrap64 ((wrap64 (a1 - (a0_2.size:Int))) - (a0_3.size:Int))) < 0 then (some (-1)) else (some (wrap64 ((wrap64 (a1 - (a0_2.size:Int))) - (a0_3.size:Int))))))=some r:=h
 clear h;by_cases c3:(wrap64 (a1 - (a0_2.size:Int))) < 0
 ·rw[if_pos c3] at H
  have c3b0:decide ((wrap64 (a1 - (a0_2.size:Int))) < 0)=true:=decide_eq_true c3
  clear c3;obtain rfl:=Option.some.inj H;go_enter Tryz.func184,Tryz.ntmps184
  go_wp2_with (first|((with_reducible refine gate_dst (N:=2) rfl ?_);refine yE (N:=2) (cs:=#[.int .i64 a0_0,.bool a0_1,.string a0_2,.string a0_3,.int .i64 a0_4]) (t:=196) fun gb101 hg w4 hbox hb=>?_;obtain⟨n0_,n2_⟩:=yX (w:=w) hg hb (by repeat(with_reducible first|exact HB.out|apply zI|apply zG|apply zH));have n1_:=Aside0.mk (hbox);have n3_:=n2_;clear HB;have HB:=n0_;have BK101:=n1_;have GW101:=n2_;have GE101:=n3_;clear n0_ n1_ n2_ n3_;clear hb hbox hg;obtain⟨hcz5_0,hcz5_1,hcz5_2,hcz5_3,hcz5_4,hfz5_0,hfz5_1,hfz5_2,hfz5_3,hfz5_4⟩:=zb5 BK101.out))
  go_ret
  exact⟨by first|rfl|(simp[errW_none,errW_some] <;> rfl)|(simp[*,errW_none,errW_some] <;> rfl),by repeat(with_reducible first|exact HB.out|apply zI|apply zG|apply zH|refine zJ ?_ GE101.out)⟩
 ·rw[if_neg c3] at H
  have c3b0:decide ((wrap64 (a1 - (a0_2.size:Int))) < 0)=false:=decide_eq_false c3
  clear c3;by_cases c6:(wrap64 ((wrap64 (a1 - (a0_2.size:Int))) - (a0_3.size:Int))) < 0
  ·rw[if_pos c6] at H
   have c6b0:decide ((wrap64 ((wrap64 (a1 - (a0_2.size:Int))) - (a0_3.size:Int))) < 0)=true:=decide_eq_true c6
   clear c6;obtain rfl:=Option.some.inj H;go_enter Tryz.func184,Tryz.ntmps184
   go_wp2_with (first|((with_reducible refine gate_dst (N:=2) rfl ?_);refine yE (N:=2) (cs:=#[.int .i64 a0_0,.bool a0_1,.string a0_2,.string a0_3,.int .i64 a0_4]) (t:=196) fun gb101 hg w7 hbox hb=>?_;obtain⟨n0_,n2_⟩:=yX (w:=w) hg hb (by repeat(with_reducible first|exact HB.out|apply zI|apply zG|apply zH));have n1_:=Aside0.mk (hbox);have n3_:=n2_;clear HB;have HB:=n0_;have BK101:=n1_;have GW101:=n2_;have GE101:=n3_;clear n0_ n1_ n2_ n3_;clear hb hbox hg;obtain⟨hcz8_0,hcz8_1,hcz8_2,hcz8_3,hcz8_4,hfz8_0,hfz8_1,hfz8_2,hfz8_3,hfz8_4⟩:=zb5 BK101.out))
   go_ret
   exact⟨by first|rfl|(simp[errW_none,errW_some] <;> rfl)|(simp[*,errW_none,errW_some] <;> rfl),by repeat(with_reducible first|exact HB.out|apply zI|apply zG|apply zH|refine zJ ?_ GE101.out)⟩
  ·rw[if_neg c6] at H
   have c6b0:decide ((wrap64 ((wrap64 (a1 - (a0_2.size:Int))) - (a0_3.size:Int))) < 0)=false:=decide_eq_false c6
   clear c6;obtain rfl:=Option.some.inj H;go_enter Tryz.func184,Tryz.ntmps184
   go_wp2_with (first|((with_reducible refine gate_dst (N:=2) rfl ?_);refine yE (N:=2) (cs:=#[.int .i64 a0_0,.bool a0_1,.string a0_2,.string a0_3,.int .i64 a0_4]) (t:=196) fun gb101 hg w9 hbox hb=>?_;obtain⟨n0_,n2_⟩:=yX (w:=w) hg hb (by repeat(with_reducible first|exact HB.out|apply zI|apply zG|apply zH));have n1_:=Aside0.mk (hbox);have n3_:=n2_;clear HB;have HB:=n0_;have BK101:=n1_;have GW101:=n2_;have GE101:=n3_;clear n0_ n1_ n2_ n3_;clear hb hbox hg;obtain⟨hcz10_0,hcz10_1,hcz10_2,hcz10_3,hcz10_4,hfz10_0,hfz10_1,hfz10_2,hfz10_3,hfz10_4⟩:=zb5 BK101.out))
   go_ret
   exact⟨by first|rfl|(simp[errW_none,errW_some] <;> rfl)|(simp[*,errW_none,errW_some] <;> rfl),by repeat(with_reducible first|exact HB.out|apply zI|apply zG|apply zH|refine zJ ?_ GE101.out)⟩
def laws_szSlotS.l0:Nat→List (S196)→Int→Int→Option (Int)
|0,_,_,_=>none
|k+1,x0,x1,x5=>if x5 < (x0.length:Int) then (if 0≤x5 then ((laws_szSlot.f ((rd_T196 x0 x5).f0) ((rd_T196 x0 x5).f1) ((rd_T196 x0 x5).f2) ((rd_T196 x0 x5).f3) ((rd_T196 x0 x5).f4) x1).bind fun t103=>(if t103 < 0 then (some (-1)) else (laws_szSlotS.l0 k x0 t103 (wrap64 (x5+1))))) else (none)) else (some x1)
def laws_szSlotS.f (k:Nat) (l0:List (S196)) (a1:Int):Option (Int):=if (wrap64 (a1 - (l0.length:Int))) < 0 then (some (-1)) else (laws_szSlotS.l0 k l0 (wrap64 (a1 - (l0.length:Int))) 0)
set_option maxHeartbeats 8000000 in
set_option maxRecDepth 100000 in
theorem laws_szSlotS.calls (k:Nat) (A0:Option Addr) (c0:Nat) (l0:List (S196)) (a1:Int) (r:Int) (w:World) (hr0:Kd.C k196 w A0 l0.length l0) (hc0:l0.length≤c0) (h:laws_szSlotS.f k l0 a1=some r) :
  Calls Tryz.prog 109 #[.slice A0 l0.length c0,.int .i64 a1] w fun e w'=>e=.returned (.int .i64 r)∧Below w.heap.size w w':=by
 have hu196:=Tryz.underlying196;have HR0:=Aside0.mk hr0
 have HC0:=Aside0.mk hc0
 clear hr0 hc0;have HB:=Aside0.mk (Below.refl w.heap.size w)
 have H:(if (wrap64 (a1 - (l0.length:Int))) < 0 then (some (-1)) else (laws_szSlotS.l0 k l0 (wrap64 (a1 - (l0.length:Int))) 0))=some r:=h
 clear h;by_cases c3:(wrap64 (a1 - (l0.length:Int))) < 0
 ·rw[if_pos c3] at H
  have c3b0:decide ((wrap64 (a1 - (l0.length:Int))) < 0)=true:=decide_eq_true c3
  clear c3;obtain rfl:=Option.some.inj H;go_enter Tryz.func109,Tryz.ntmps109
  go_wp2
  go_ret
  exact⟨by first|rfl|(simp[errW_none,errW_some] <;> rfl)|(simp[*,errW_none,errW_some] <;> rfl),by repeat(with_reducible first|exact HB.out|apply zI|apply zG|apply zH)⟩
 ·rw[if_neg c3] at H
  have c3b0:decide ((wrap64 (a1 - (l0.length:Int))) < 0)=false:=decide_eq_false c3
  clear c3;have H':=Aside0.mk H
  clear H;go_enter Tryz.func109,Tryz.ntmps109
  go_wp2
  go_loopg [1,5] k (fun kq v1 v5 w'=>∃ (x1_1:Int) (x5_1:Int),v1=.int .i64 x1_1∧v5=.int .i64 x5_1∧Aside0 (laws_szSlotS.l0 kq l0 x1_1 x5_1=some r)∧Aside0 (kq≤k)∧Aside0 (Below w.heap.size w w'))
  case atStart=>exact⟨(wrap64 (a1 - (l0.length:Int))),(0),(by first|rfl|simp[*]),(by first|rfl|simp[*]),H',⟨Nat.le_refl _⟩,⟨by repeat(with_reducible first|exact HB.out|apply zI|apply zG|apply zH)⟩⟩
  case round =>
   clear H';obtain⟨x1_1,x5_1,rfl,rfl,HA,HK1,HB⟩:=hrel;cases gk with
  |zero=>exact absurd HA.out (by simp[laws_szSlotS.l0])
  |succ k1 =>
    have H:=HA.out;clear HA;simp only [laws_szSlotS.l0] at H;by_cases c4:x5_1 < (l0.length:Int)
    ·rw[if_pos c4] at H
     have c4b0:decide (x5_1 < (l0.length:Int))=true:=decide_eq_true c4
     clear c4;by_cases c5:0≤x5_1
     ·rw[if_pos c5] at H
      have c5b0:decide (0≤x5_1)=true:=decide_eq_true c5
      clear c5;replace H:=Option.bind_eq_some_iff.mp H;obtain⟨t103,A60,H⟩:=H;replace H:(if t103 < 0 then (some (-1)) else (laws_szSlotS.l0 k1 l0 t103 (wrap64 (x5_1+1))))=some r:=H
      have A6:=Aside0.mk A60
      clear A60;by_cases c7:t103 < 0
      ·rw[if_pos c7] at H
       have c7b0:decide (t103 < 0)=true:=decide_eq_true c7
       clear c7;obtain rfl:=Option.some.inj H;have p102:0≤(x5_1:Int):=of_decide_eq_true (by assumption)
       have q102:x5_1 < (l0.length:Int):=of_decide_eq_true (by assumption)
       obtain⟨ad102,e102,hx102_0,hx102_1,hx102_2,hx102_3,hx102_4⟩:=at_T196 HR0.out x5_1 p102 q102;cases e102
       replace hx102_0:=zc1 HB.out hx102_0;replace hx102_1:=zc1 HB.out hx102_1;replace hx102_2:=zc1 HB.out hx102_2;replace hx102_3:=zc1 HB.out hx102_3;replace hx102_4:=zc1 HB.out hx102_4;replace p102:=eq_true p102;replace q102:=eq_true q102;go_wp2_with (first|((with_reducible refine gate_callee (f:=184) rfl ?_);refine goesL_ (some 23) rfl rfl Tryz.func184 (by kernel_rfl) rfl #[.agg #[.int .i64 ((rd_T196 l0 x5_1).f0),.bool ((rd_T196 l0 x5_1).f1),.string ((rd_T196 l0 x5_1).f2),.string ((rd_T196 l0 x5_1).f3),.int .i64 ((rd_T196 l0 x5_1).f4)],.int .i64 x1_1] rfl (by(try simp only [List.map_toArray,List.map_cons,List.map_nil]);first|done|rfl|(simp only [List.length_drop,List.length_take];rfl)) ?_;(with_reducible refine(laws_szSlot.calls ((rd_T196 l0 x5_1).f0) ((rd_T196 l0 x5_1).f1) ((rd_T196 l0 x5_1).f2) ((rd_T196 l0 x5_1).f3) ((rd_T196 l0 x5_1).f4) x1_1 t103 _ A6.out).mono ?_);rintro e w8 ⟨rfl,hb⟩;refine⟨_,rfl,?_⟩;have n0_:=Aside0.mk (zN (by repeat(with_reducible first|exact HB.out|apply zI|apply zG|apply zH)) hb);clear HB;have HB:=n0_;clear n0_;(try clear hb);(try clear hb2);(try clear hk);(try clear hi)))
       go_ret
       exact⟨by first|rfl|(simp[errW_none,errW_some] <;> rfl)|(simp[*,errW_none,errW_some] <;> rfl),by repeat(with_reducible first|exact HB.out|apply zI|apply zG|apply zH)⟩
      ·rw[if_neg c7] at H
       have c7b0:decide (t103 < 0)=false:=decide_eq_false c7
       clear c7;have H':=Aside0.mk H
       clear H;have p102:0≤(x5_1:Int):=of_decide_eq_true (by assumption)
       have q102:x5_1 < (l0.length:Int):=of_decide_eq_true (by assumption)
       obtain⟨ad102,e102,hx102_0,hx102_1,hx102_2,hx102_3,hx102_4⟩:=at_T196 HR0.out x5_1 p102 q102;cases e102
       replace hx102_0:=zc1 HB.out hx102_0;replace hx102_1:=zc1 HB.out hx102_1;replace hx102_2:=zc1 HB.out hx102_2;replace hx102_3:=zc1 HB.out hx102_3;replace hx102_4:=zc1 HB.out hx102_4;replace p102:=eq_true p102;replace q102:=eq_true q102;go_wp2_with (first|((with_reducible refine gate_callee (f:=184) rfl ?_);refine goesL_ (some 23) rfl rfl Tryz.func184 (by kernel_rfl) rfl #[.agg #[.int .i64 ((rd_T196 l0 x5_1).f0),.bool ((rd_T196 l0 x5_1).f1),.string ((rd_T196 l0 x5_1).f2),.string ((rd_T196 l0 x5_1).f3),.int .i64 ((rd_T196 l0 x5_1).f4)],.int .i64 x1_1] rfl (by(try simp only [List.map_toArray,List.map_cons,List.map_nil]);first|done|rfl|(simp only [List.length_drop,List.length_take];rfl)) ?_;(with_reducible refine(laws_szSlot.calls ((rd_T196 l0 x5_1).f0) ((rd_T196 l0 x5_1).f1) ((rd_T196 l0 x5_1).f2) ((rd_T196 l0 x5_1).f3) ((rd_T196 l0 x5_1).f4) x1_1 t103 _ A6.out).mono ?_);rintro e w9 ⟨rfl,hb⟩;refine⟨_,rfl,?_⟩;have n0_:=Aside0.mk (zN (by repeat(with_reducible first|exact HB.out|apply zI|apply zG|apply zH)) hb);clear HB;have HB:=n0_;clear n0_;(try clear hb);(try clear hb2);(try clear hk);(try clear hi)))
       go_roundg k1
       case measure=>have:=HK1.out;omega
       case rel=>exact⟨(t103),(wrap64 (x5_1+1)),(by first|rfl|simp[*]),(by first|rfl|simp[*]),H',⟨by have:=HK1.out;omega⟩,⟨by repeat(with_reducible first|exact HB.out|apply zI|apply zG|apply zH)⟩⟩
     ·rw[if_neg c5] at H
      exact absurd H (by simp)
    ·rw[if_neg c4] at H
     have c4b0:decide (x5_1 < (l0.length:Int))=false:=decide_eq_false c4
     clear c4;obtain rfl:=Option.some.inj H;go_wp2
     go_ret
     exact⟨by first|rfl|(simp[errW_none,errW_some] <;> rfl)|(simp[*,errW_none,errW_some] <;> rfl),by repeat(with_reducible first|exact HB.out|apply zI|apply zG|apply zH)⟩
def laws_szArena.f (k:Nat) (l0_0:List (S196)) (a0_1:Int) (a1:Int):Option (Int):=(laws_szSlotS.f k l0_0 a1).bind fun t105=>(if t105 < 0 then (some (-1)) else (some t105))
set_option maxHeartbeats 8000000 in
set_option maxRecDepth 100000 in
theorem laws_szArena.calls (k:Nat) (A0_0:Option Addr) (c0_0:Nat) (l0_0:List (S196)) (a0_1:Int) (a1:Int) (r:Int) (w:World) (hr0_0:Kd.C k196 w A0_0 l0_0.length l0_0) (hc0_0:l0_0.length≤c0_0) (h:laws_szArena.f k l0_0 a0_1 a1=some r) :
  Calls Tryz.prog 36 #[.agg #[.slice A0_0 l0_0.length c0_0,.int .i64 a0_1],.int .i64 a1] w fun e w'=>e=.returned (.int .i64 r)∧Below w.heap.size w w':=by
 have hu24:=Tryz.underlying24;have HR0_0:=Aside0.mk hr0_0
 have HC0_0:=Aside0.mk hc0_0
 clear hr0_0 hc0_0;have HB:=Aside0.mk (Below.refl w.heap.size w)
 have H:((laws_szSlotS.f k l0_0 a1).bind fun t105=>(if t105 < 0 then (some (-1)) else (some t105)))=some r:=h
 clear h;replace H:=Option.bind_eq_some_iff.mp H;obtain⟨t105,A30,H⟩:=H;replace H:(if t105 < 0 then (some (-1)) else (some t105))=some r:=H
 have A3:=Aside0.mk A30
 clear A30;go_enter Tryz.func36,Tryz.ntmps36
 go_wp2_with (first|((with_reducible refine gate_dst (N:=2) rfl ?_);refine yE (N:=2) (cs:=#[.slice A0_0 l0_0.length c0_0,.int .i64 a0_1]) (t:=24) fun gb104 hg w5 hbox hb=>?_;obtain⟨n0_,n2_⟩:=yX (w:=w) hg hb (by repeat(with_reducible first|exact HB.out|apply zI|apply zG|apply zH));have n1_:=Aside0.mk (hbox);have n3_:=n2_;clear HB;have HB:=n0_;have BK104:=n1_;have GW104:=n2_;have GE104:=n3_;clear n0_ n1_ n2_ n3_;clear hb hbox hg;obtain⟨hcz6_0,hcz6_1,hfz6_0,hfz6_1⟩:=zb2 BK104.out)|((with_reducible refine gate_callee (f:=109) rfl ?_);refine goesL_ (some 8) rfl rfl Tryz.func109 (by kernel_rfl) rfl #[.slice A0_0 l0_0.length c0_0,.int .i64 a1] rfl (by(try simp only [List.map_toArray,List.map_cons,List.map_nil]);first|done|rfl|(simp only [List.length_drop,List.length_take];rfl)) ?_;(with_reducible refine(laws_szSlotS.calls k _ _ l0_0 a1 t105 _ ?side1 ?side2 A3.out).mono ?_);(case side1=>repeat(first|exact(Kd.C_below HR0_0.out HB.out)|(with_reducible refine Kd.C_alloc ?_ _)|(with_reducible refine Kd.C_drewN ?_ _)|(with_reducible refine Kd.C_drew ?_)));(case side2=>exact HC0_0.out);rintro e w7 ⟨rfl,hb⟩;refine⟨_,rfl,?_⟩;have n0_:=Aside0.mk (zK (g:=gb104) (o:=.cells #[.slice A0_0 l0_0.length c0_0,.int .i64 a0_1] 24 (0,0)) (by(with_reducible repeat(first|apply zA|apply zC|apply zB));exact BK104.out) hb);have n1_:=Aside0.mk (zN (by repeat(with_reducible first|exact HB.out|apply zI|apply zG|apply zH|refine zJ ?_ GE104.out)) hb);clear BK104;clear HB;have BK104:=n0_;have HB:=n1_;clear n0_ n1_;(try clear hb);(try clear hb2);(try clear hk);(try clear hi);(refine Classical.byCases (p:=(t105 < 0)) (fun c4=>?zp1) (fun c4=>?zn1);(case' zn1=>(rw[if_neg c4] at H);(have c4b0:decide (t105 < 0)=false:=decide_eq_false c4);(clear c4);(obtain rfl:=Option.some.inj H));(case' zp1=>(rw[if_pos c4] at H);(have c4b0:decide (t105 < 0)=true:=decide_eq_true c4);(clear c4);(obtain rfl:=Option.some.inj H)))))
 ·go_ret
  exact⟨by first|rfl|(simp[errW_none,errW_some] <;> rfl)|(simp[*,errW_none,errW_some] <;> rfl),by repeat(with_reducible first|exact HB.out|apply zI|apply zG|apply zH|refine zJ ?_ GE104.out)⟩
 ·go_ret
  exact⟨by first|rfl|(simp[errW_none,errW_some] <;> rfl)|(simp[*,errW_none,errW_some] <;> rfl),by repeat(with_reducible first|exact HB.out|apply zI|apply zG|apply zH|refine zJ ?_ GE104.out)⟩
def laws_szCell.f (a0_0:ByteArray) (a0_1:Int) (a1:Int):Option (Int):=if (wrap64 (a1 - (a0_0.size:Int))) < 0 then (some (-1)) else (some (wrap64 (a1 - (a0_0.size:Int))))
set_option maxHeartbeats 8000000 in
set_option maxRecDepth 100000 in
theorem laws_szCell.calls (a0_0:ByteArray) (a0_1:Int) (a1:Int) (r:Int) (w:World) (h:laws_szCell.f a0_0 a0_1 a1=some r) :
  Calls Tryz.prog 185 #[.agg #[.string a0_0,.int .i64 a0_1],.int .i64 a1] w fun e w'=>e=.returned (.int .i64 r)∧Below w.heap.size w w':=by
 have hu198:=Tryz.underlying198;have HB:=Aside0.mk (Below.refl w.heap.size w)
 have H:(if (wrap64 (a1 - (a0_0.size:Int))) < 0 then (some (-1)) else (some (wrap64 (a1 - (a0_0.size:Int)))))=some r:=h
 clear h;by_cases c3:(wrap64 (a1 - (a0_0.size:Int))) < 0
 ·rw[if_pos c3] at H
  have c3b0:decide ((wrap64 (a1 - (a0_0.size:Int))) < 0)=true:=decide_eq_true c3
  clear c3;obtain rfl:=Option.some.inj H;go_enter Tryz.func185,Tryz.ntmps185
  go_wp2_with (first|((with_reducible refine gate_dst (N:=2) rfl ?_);refine yE (N:=2) (cs:=#[.string a0_0,.int .i64 a0_1]) (t:=198) fun gb106 hg w4 hbox hb=>?_;obtain⟨n0_,n2_⟩:=yX (w:=w) hg hb (by repeat(with_reducible first|exact HB.out|apply zI|apply zG|apply zH));have n1_:=Aside0.mk (hbox);have n3_:=n2_;clear HB;have HB:=n0_;have BK106:=n1_;have GW106:=n2_;have GE106:=n3_;clear n0_ n1_ n2_ n3_;clear hb hbox hg;obtain⟨hcz5_0,hcz5_1,hfz5_0,hfz5_1⟩:=zb2 BK106.out))
  go_ret
  exact⟨by first|rfl|(simp[errW_none,errW_some] <;> rfl)|(simp[*,errW_none,errW_some] <;> rfl),by repeat(with_reducible first|exact HB.out|apply zI|apply zG|apply zH|refine zJ ?_ GE106.out)⟩
 ·rw[if_neg c3] at H
  have c3b0:decide ((wrap64 (a1 - (a0_0.size:Int))) < 0)=false:=decide_eq_false c3
  clear c3;obtain rfl:=Option.some.inj H;go_enter Tryz.func185,Tryz.ntmps185
  go_wp2_with (first|((with_reducible refine gate_dst (N:=2) rfl ?_);refine yE (N:=2) (cs:=#[.string a0_0,.int .i64 a0_1]) (t:=198) fun gb106 hg w6 hbox hb=>?_;obtain⟨n0_,n2_⟩:=yX (w:=w) hg hb (by repeat(with_reducible first|exact HB.out|apply zI|apply zG|apply zH));have n1_:=Aside0.mk (hbox);have n3_:=n2_;clear HB;have HB:=n0_;have BK106:=n1_;have GW106:=n2_;have GE106:=n3_;clear n0_ n1_ n2_ n3_;clear hb hbox hg;obtain⟨hcz7_0,hcz7_1,hfz7_0,hfz7_1⟩:=zb2 BK106.out))
  go_ret
  exact⟨by first|rfl|(simp[errW_none,errW_some] <;> rfl)|(simp[*,errW_none,errW_some] <;> rfl),by repeat(with_reducible first|exact HB.out|apply zI|apply zG|apply zH|refine zJ ?_ GE106.out)⟩
def laws_szCellS.l0:Nat→List (S198)→Int→Int→Option (Int)
|0,_,_,_=>none
|k+1,x0,x1,x5=>if x5 < (x0.length:Int) then (if 0≤x5 then ((laws_szCell.f ((rd_T198 x0 x5).f0) ((rd_T198 x0 x5).f1) x1).bind fun t108=>(if t108 < 0 then (some (-1)) else (laws_szCellS.l0 k x0 t108 (wrap64 (x5+1))))) else (none)) else (some x1)
def laws_szCellS.f (k:Nat) (l0:List (S198)) (a1:Int):Option (Int):=if (wrap64 (a1 - (l0.length:Int))) < 0 then (some (-1)) else (laws_szCellS.l0 k l0 (wrap64 (a1 - (l0.length:Int))) 0)
set_option maxHeartbeats 8000000 in
set_option maxRecDepth 100000 in
theorem laws_szCellS.calls (k:Nat) (A0:Option Addr) (c0:Nat) (l0:List (S198)) (a1:Int) (r:Int) (w:World) (hr0:Kd.C k198 w A0 l0.length l0) (hc0:l0.length≤c0) (h:laws_szCellS.f k l0 a1=some r) :
  Calls Tryz.prog 110 #[.slice A0 l0.length c0,.int .i64 a1] w fun e w'=>e=.returned (.int .i64 r)∧Below w.heap.size w w':=by
 have hu198:=Tryz.underlying198;have HR0:=Aside0.mk hr0
 have HC0:=Aside0.mk hc0
 clear hr0 hc0;have HB:=Aside0.mk (Below.refl w.heap.size w)
 have H:(if (wrap64 (a1 - (l0.length:Int))) < 0 then (some (-1)) else (laws_szCellS.l0 k l0 (wrap64 (a1 - (l0.length:Int))) 0))=some r:=h
 clear h;by_cases c3:(wrap64 (a1 - (l0.length:Int))) < 0
 ·rw[if_pos c3] at H
  have c3b0:decide ((wrap64 (a1 - (l0.length:Int))) < 0)=true:=decide_eq_true c3
  clear c3;obtain rfl:=Option.some.inj H;go_enter Tryz.func110,Tryz.ntmps110
  go_wp2
  go_ret
  exact⟨by first|rfl|(simp[errW_none,errW_some] <;> rfl)|(simp[*,errW_none,errW_some] <;> rfl),by repeat(with_reducible first|exact HB.out|apply zI|apply zG|apply zH)⟩
 ·rw[if_neg c3] at H
  have c3b0:decide ((wrap64 (a1 - (l0.length:Int))) < 0)=false:=decide_eq_false c3
  clear c3;have H':=Aside0.mk H
  clear H;go_enter Tryz.func110,Tryz.ntmps110
  go_wp2
  go_loopg [1,5] k (fun kq v1 v5 w'=>∃ (x1_1:Int) (x5_1:Int),v1=.int .i64 x1_1∧v5=.int .i64 x5_1∧Aside0 (laws_szCellS.l0 kq l0 x1_1 x5_1=some r)∧Aside0 (kq≤k)∧Aside0 (Below w.heap.size w w'))
  case atStart=>exact⟨(wrap64 (a1 - (l0.length:Int))),(0),(by first|rfl|simp[*]),(by first|rfl|simp[*]),H',⟨Nat.le_refl _⟩,⟨by repeat(with_reducible first|exact HB.out|apply zI|apply zG|apply zH)⟩⟩
  case round =>
   clear H';obtain⟨x1_1,x5_1,rfl,rfl,HA,HK1,HB⟩:=hrel;cases gk with
  |zero=>exact absurd HA.out (by simp[laws_szCellS.l0])
  |succ k1 =>
    have H:=HA.out;clear HA;simp only [laws_szCellS.l0] at H;by_cases c4:x5_1 < (l0.length:Int)
    ·rw[if_pos c4] at H
     have c4b0:decide (x5_1 < (l0.length:Int))=true:=decide_eq_true c4
     clear c4;by_cases c5:0≤x5_1
     ·rw[if_pos c5] at H
      have c5b0:decide (0≤x5_1)=true:=decide_eq_true c5
      clear c5;replace H:=Option.bind_eq_some_iff.mp H;obtain⟨t108,A60,H⟩:=H;replace H:(if t108 < 0 then (some (-1)) else (laws_szCellS.l0 k1 l0 t108 (wrap64 (x5_1+1))))=some r:=H
      have A6:=Aside0.mk A60
      clear A60;by_cases c7:t108 < 0
      ·rw[if_pos c7] at H
       have c7b0:decide (t108 < 0)=true:=decide_eq_true c7
       clear c7;obtain rfl:=Option.some.inj H;have p107:0≤(x5_1:Int):=of_decide_eq_true (by assumption)
       have q107:x5_1 < (l0.length:Int):=of_decide_eq_true (by assumption)
       obtain⟨ad107,e107,hx107_0,hx107_1⟩:=at_T198 HR0.out x5_1 p107 q107;cases e107
       replace hx107_0:=zc1 HB.out hx107_0;replace hx107_1:=zc1 HB.out hx107_1;replace p107:=eq_true p107;replace q107:=eq_true q107;go_wp2_with (first|((with_reducible refine gate_callee (f:=185) rfl ?_);refine goesL_ (some 23) rfl rfl Tryz.func185 (by kernel_rfl) rfl #[.agg #[.string ((rd_T198 l0 x5_1).f0),.int .i64 ((rd_T198 l0 x5_1).f1)],.int .i64 x1_1] rfl (by(try simp only [List.map_toArray,List.map_cons,List.map_nil]);first|done|rfl|(simp only [List.length_drop,List.length_take];rfl)) ?_;(with_reducible refine(laws_szCell.calls ((rd_T198 l0 x5_1).f0) ((rd_T198 l0 x5_1).f1) x1_1 t108 _ A6.out).mono ?_);rintro e w8 ⟨rfl,hb⟩;refine⟨_,rfl,?_⟩;have n0_:=Aside0.mk (zN (by repeat(with_reducible first|exact HB.out|apply zI|apply zG|apply zH)) hb);clear HB;have HB:=n0_;clear n0_;(try clear hb);(try clear hb2);(try clear hk);(try clear hi)))
       go_ret
       exact⟨by first|rfl|(simp[errW_none,errW_some] <;> rfl)|(simp[*,errW_none,errW_some] <;> rfl),by repeat(with_reducible first|exact HB.out|apply zI|apply zG|apply zH)⟩
      ·rw[if_neg c7] at H
       have c7b0:decide (t108 < 0)=false:=decide_eq_false c7
       clear c7;have H':=Aside0.mk H
       clear H;have p107:0≤(x5_1:Int):=of_decide_eq_true (by assumption)
       have q107:x5_1 < (l0.length:Int):=of_decide_eq_true (by assumption)
       obtain⟨ad107,e107,hx107_0,hx107_1⟩:=at_T198 HR0.out x5_1 p107 q107;cases e107
       replace hx107_0:=zc1 HB.out hx107_0;replace hx107_1:=zc1 HB.out hx107_1;replace p107:=eq_true p107;replace q107:=eq_true q107;go_wp2_with (first|((with_reducible refine gate_callee (f:=185) rfl ?_);refine goesL_ (some 23) rfl rfl Tryz.func185 (by kernel_rfl) rfl #[.agg #[.string ((rd_T198 l0 x5_1).f0),.int .i64 ((rd_T198 l0 x5_1).f1)],.int .i64 x1_1] rfl (by(try simp only [List.map_toArray,List.map_cons,List.map_nil]);first|done|rfl|(simp only [List.length_drop,List.length_take];rfl)) ?_;(with_reducible refine(laws_szCell.calls ((rd_T198 l0 x5_1).f0) ((rd_T198 l0 x5_1).f1) x1_1 t108 _ A6.out).mono ?_);rintro e w9 ⟨rfl,hb⟩;refine⟨_,rfl,?_⟩;have n0_:=Aside0.mk (zN (by repeat(with_reducible first|exact HB.out|apply zI|apply zG|apply zH)) hb);clear HB;have HB:=n0_;clear n0_;(try clear hb);(try clear hb2);(try clear hk);(try clear hi)))
       go_roundg k1
       case measure=>have:=HK1.out;omega
       case rel=>exact⟨(t108),(wrap64 (x5_1+1)),(by first|rfl|simp[*]),(by first|rfl|simp[*]),H',⟨by have:=HK1.out;omega⟩,⟨by repeat(with_reducible first|exact HB.out|apply zI|apply zG|apply zH)⟩⟩
     ·rw[if_neg c5] at H
      exact absurd H (by simp)
    ·rw[if_neg c4] at H
     have c4b0:decide (x5_1 < (l0.length:Int))=false:=decide_eq_false c4
     clear c4;obtain rfl:=Option.some.inj H;go_wp2
     go_ret
     exact⟨by first|rfl|(simp[errW_none,errW_some] <;> rfl)|(simp[*,errW_none,errW_some] <;> rfl),by repeat(with_reducible first|exact HB.out|apply zI|apply zG|apply zH)⟩
def laws_szTable.f (k:Nat) (l0_0:List (S198)) (l0_1:List (S198)) (a0_2:Int) (a1:Int):Option (Int):=(laws_szCellS.f k l0_0 a1).bind fun t110=>(if t110 < 0 then (some (-1)) else ((laws_szCellS.f k l0_1 t110).bind fun t111=>(if t111 < 0 then (some (-1)) else (some t111))))
set_option maxHeartbeats 8000000 in
set_option maxRecDepth 100000 in
theorem laws_szTable.calls (k:Nat) (A0_0:Option Addr) (c0_0:Nat) (l0_0:List (S198)) (A0_1:Option Addr) (c0_1:Nat) (l0_1:List (S198)) (a0_2:Int) (a1:Int) (r:Int) (w:World) (hr0_0:Kd.C k198 w A0_0 l0_0.length l0_0) (hc0_0:l0_0.length≤c0_0) (hr0_1:Kd.C k198 w A0_1 l0_1.length l0_1) (hc0_1:l0_1.length≤c0_1) (h:laws_szTable.f k l0_0 l0_1 a0_2 a1=some r) :
  Calls Tryz.prog 37 #[.agg #[.slice A0_0 l0_0.length c0_0,.slice A0_1 l0_1.length c0_1,.int .i64 a0_2],.int .i64 a1] w fun e w'=>e=.returned (.int .i64 r)∧Below w.heap.size w w':=by
 have hu27:=Tryz.underlying27;have HR0_0:=Aside0.mk hr0_0
 have HC0_0:=Aside0.mk hc0_0
 clear hr0_0 hc0_0;have HR0_1:=Aside0.mk hr0_1
 have HC0_1:=Aside0.mk hc0_1
 clear hr0_1 hc0_1;have HB:=Aside0.mk (Below.refl w.heap.size w)
 have H:((laws_szCellS.f k l0_0 a1).bind fun t110=>(if t110 < 0 then (some (-1)) else ((laws_szCellS.f k l0_1 t110).bind fun t111=>(if t111 < 0 then (some (-1)) else (some t111)))))=some r:=h
 clear h;replace H:=Option.bind_eq_some_iff.mp H;obtain⟨t110,A30,H⟩:=H;replace H:(if t110 < 0 then (some (-1)) else ((laws_szCellS.f k l0_1 t110).bind fun t111=>(if t111 < 0 then (some (-1)) else (some t111))))=some r:=H
 have A3:=Aside0.mk A30
 clear A30;go_enter Tryz.func37,Tryz.ntmps37
 go_wp2_with (first|((with_reducible refine gate_dst (N:=2) rfl ?_);refine yE (N:=2) (cs:=#[.slice A0_0 l0_0.length c0_0,.slice A0_1 l0_1.length c0_1,.int .i64 a0_2]) (t:=27) fun gb109 hg w5 hbox hb=>?_;obtain⟨n0_,n2_⟩:=yX (w:=w) hg hb (by repeat(with_reducible first|exact HB.out|apply zI|apply zG|apply zH));have n1_:=Aside0.mk (hbox);have n3_:=n2_;clear HB;have HB:=n0_;have BK109:=n1_;have GW109:=n2_;have GE109:=n3_;clear n0_ n1_ n2_ n3_;clear hb hbox hg;obtain⟨hcz6_0,hcz6_1,hcz6_2,hfz6_0,hfz6_1,hfz6_2⟩:=zb3 BK109.out)|((with_reducible refine gate_callee (f:=110) rfl ?_);refine goesL_ (some 8) rfl rfl Tryz.func110 (by kernel_rfl) rfl #[.slice A0_0 l0_0.length c0_0,.int .i64 a1] rfl (by(try simp only [List.map_toArray,List.map_cons,List.map_nil]);first|done|rfl|(simp only [List.length_drop,List.length_take];rfl)) ?_;(with_reducible refine(laws_szCellS.calls k _ _ l0_0 a1 t110 _ ?side1 ?side2 A3.out).mono ?_);(case side1=>repeat(first|exact(Kd.C_below HR0_0.out HB.out)|(with_reducible refine Kd.C_alloc ?_ _)|(with_reducible refine Kd.C_drewN ?_ _)|(with_reducible refine Kd.C_drew ?_)));(case side2=>exact HC0_0.out);rintro e w7 ⟨rfl,hb⟩;refine⟨_,rfl,?_⟩;have n0_:=Aside0.mk (zK (g:=gb109) (o:=.cells #[.slice A0_0 l0_0.length c0_0,.slice A0_1 l0_1.length c0_1,.int .i64 a0_2] 27 (0,0)) (by(with_reducible repeat(first|apply zA|apply zC|apply zB));exact BK109.out) hb);have n1_:=Aside0.mk (zN (by repeat(with_reducible first|exact HB.out|apply zI|apply zG|apply zH|refine zJ ?_ GE109.out)) hb);clear BK109;clear HB;have BK109:=n0_;have HB:=n1_;clear n0_ n1_;(try clear hb);(try clear hb2);(try clear hk);(try clear hi);obtain⟨hcz13_0,hcz13_1,hcz13_2,hfz13_0,hfz13_1,hfz13_2⟩:=zb3 BK109.out;(refine Classical.byCases (p:=(t110 < 0)) (fun c4=>?zp3) (fun c4=>?zn3);(case' zn3=>(rw[if_neg c4] at H);(have c4b0:decide (t110 < 0)=false:=decide_eq_false c4);(clear c4);(replace H:=Option.bind_eq_some_iff.mp H);(obtain⟨t111,A80,H⟩:=H);(replace H:(if t111 < 0 then (some (-1)) else (some t111))=some r:=H);(have A8:=Aside0.mk A80);(clear A80));(case' zp3=>(rw[if_pos c4] at H);(have c4b0:decide (t110 < 0)=true:=decide_eq_true c4);(clear c4);(obtain rfl:=Option.some.inj H))))|((with_reducible refine gate_callee (f:=110) rfl ?_);refine goesL_ (some 14) rfl rfl Tryz.func110 (by kernel_rfl) rfl #[.slice A0_1 l0_1.length c0_1,.int .i64 t110] rfl (by(try simp only [List.map_toArray,List.map_cons,List.map_nil]);first|done|rfl|(simp only [List.length_drop,List.length_take];rfl)) ?_;(with_reducible refine(laws_szCellS.calls k _ _ l0_1 t110 t111 _ ?side1 ?side2 A8.out).mono ?_);(case side1=>repeat(first|exact(Kd.C_below HR0_1.out HB.out)|(with_reducible refine Kd.C_alloc ?_ _)|(with_reducible refine Kd.C_drewN ?_ _)|(with_reducible refine Kd.C_drew ?_)));(case side2=>exact HC0_1.out);rintro e w14 ⟨rfl,hb⟩;refine⟨_,rfl,?_⟩;have n0_:=Aside0.mk (zK (g:=gb109) (o:=.cells #[.slice A0_0 l0_0.length c0_0,.slice A0_1 l0_1.length c0_1,.int .i64 a0_2] 27 (0,0)) (by(with_reducible repeat(first|apply zA|apply zC|apply zB));exact BK109.out) hb);have n1_:=Aside0.mk (zN (by repeat(with_reducible first|exact HB.out|apply zI|apply zG|apply zH|refine zJ ?_ GE109.out)) hb);clear BK109;clear HB;have BK109:=n0_;have HB:=n1_;clear n0_ n1_;(try clear hb);(try clear hb2);(try clear hk);(try clear hi);(refine Classical.byCases (p:=(t111 < 0)) (fun c9=>?zp2) (fun c9=>?zn2);(case' zn2=>(rw[if_neg c9] at H);(have c9b0:decide (t111 < 0)=false:=decide_eq_false c9);(clear c9);(obtain rfl:=Option.some.inj H));(case' zp2=>(rw[if_pos c9] at H);(have c9b0:decide (t111 < 0)=true:=decide_eq_true c9);(clear c9);(obtain rfl:=Option.some.inj H)))))
 ·go_ret
  exact⟨by first|rfl|(simp[errW_none,errW_some] <;> rfl)|(simp[*,errW_none,errW_some] <;> rfl),by repeat(with_reducible first|exact HB.out|apply zI|apply zG|apply zH|refine zJ ?_ GE109.out)⟩
 ·go_ret
  exact⟨by first|rfl|(simp[errW_none,errW_some] <;> rfl)|(simp[*,errW_none,errW_some] <;> rfl),by repeat(with_reducible first|exact HB.out|apply zI|apply zG|apply zH|refine zJ ?_ GE109.out)⟩
 ·go_ret
  exact⟨by first|rfl|(simp[errW_none,errW_some] <;> rfl)|(simp[*,errW_none,errW_some] <;> rfl),by repeat(with_reducible first|exact HB.out|apply zI|apply zG|apply zH|refine zJ ?_ GE109.out)⟩
def laws_szStringS.l0:Nat→List ByteArray→Int→Int→Option (Int)
|0,_,_,_=>none
|k+1,x0,x1,x5=>if x5 < (x0.length:Int) then (if 0≤x5 then (if (wrap64 (x1 - ((rdOf ByteArray.empty x0 x5).size:Int))) < 0 then (some (-1)) else (laws_szStringS.l0 k x0 (wrap64 (x1 - ((rdOf ByteArray.empty x0 x5).size:Int))) (wrap64 (x5+1)))) else (none)) else (some x1)
def laws_szStringS.f (k:Nat) (l0:List ByteArray) (a1:Int):Option (Int):=if (wrap64 (a1 - (l0.length:Int))) < 0 then (some (-1)) else (laws_szStringS.l0 k l0 (wrap64 (a1 - (l0.length:Int))) 0)
set_option maxHeartbeats 8000000 in
set_option maxRecDepth 100000 in
theorem laws_szStringS.calls (k:Nat) (A0:Option Addr) (c0:Nat) (l0:List ByteArray) (a1:Int) (r:Int) (w:World) (hr0:Kd.C Kd.string w A0 l0.length l0) (hc0:l0.length≤c0) (h:laws_szStringS.f k l0 a1=some r) :
  Calls Tryz.prog 111 #[.slice A0 l0.length c0,.int .i64 a1] w fun e w'=>e=.returned (.int .i64 r)∧Drawn0 w w':=by
 have HR0:=Aside0.mk hr0
 have HC0:=Aside0.mk hc0
 clear hr0 hc0;have H:(if (wrap64 (a1 - (l0.length:Int))) < 0 then (some (-1)) else (laws_szStringS.l0 k l0 (wrap64 (a1 - (l0.length:Int))) 0))=some r:=h
 clear h;by_cases c3:(wrap64 (a1 - (l0.length:Int))) < 0
 ·rw[if_pos c3] at H
  have c3b0:decide ((wrap64 (a1 - (l0.length:Int))) < 0)=true:=decide_eq_true c3
  clear c3;obtain rfl:=Option.some.inj H;go_enter Tryz.func111,Tryz.ntmps111
  go_wp2
  go_ret
  exact⟨by first|rfl|(simp;done)|(simp[*];done),by repeat(first|exact Drawn0.refl _|apply Drawn0.step)⟩
 ·rw[if_neg c3] at H
  have c3b0:decide ((wrap64 (a1 - (l0.length:Int))) < 0)=false:=decide_eq_false c3
  clear c3;have H':=Aside0.mk H
  clear H;go_enter Tryz.func111,Tryz.ntmps111
  go_wp2
  go_loopg [1,5] k (fun kq v1 v5 w'=>∃ (x1_1:Int) (x5_1:Int),v1=.int .i64 x1_1∧v5=.int .i64 x5_1∧Aside0 (laws_szStringS.l0 kq l0 x1_1 x5_1=some r)∧Aside0 (kq≤k)∧Drawn0 w w')
  case atStart=>exact⟨(wrap64 (a1 - (l0.length:Int))),(0),(by first|rfl|simp[*]),(by first|rfl|simp[*]),H',⟨Nat.le_refl _⟩,by repeat(first|exact Drawn0.refl _|apply Drawn0.step)⟩
  case round =>
   clear H';obtain⟨x1_1,x5_1,rfl,rfl,HA,HK1,⟨m1,rfl⟩⟩:=hrel;cases gk with
  |zero=>exact absurd HA.out (by simp[laws_szStringS.l0])
  |succ k1 =>
    have H:=HA.out;clear HA;simp only [laws_szStringS.l0] at H;by_cases c4:x5_1 < (l0.length:Int)
    ·rw[if_pos c4] at H
     have c4b0:decide (x5_1 < (l0.length:Int))=true:=decide_eq_true c4
     clear c4;by_cases c5:0≤x5_1
     ·rw[if_pos c5] at H
      have c5b0:decide (0≤x5_1)=true:=decide_eq_true c5
      clear c5;by_cases c6:(wrap64 (x1_1 - ((rdOf ByteArray.empty l0 x5_1).size:Int))) < 0
      ·rw[if_pos c6] at H
       have c6b0:decide ((wrap64 (x1_1 - ((rdOf ByteArray.empty l0 x5_1).size:Int))) < 0)=true:=decide_eq_true c6
       clear c6;obtain rfl:=Option.some.inj H;have p112:0≤(x5_1:Int):=of_decide_eq_true (by assumption)
       have q112:x5_1 < (l0.length:Int):=of_decide_eq_true (by assumption)
       obtain⟨ad112,e112,hx112_0⟩:=Kd.at_string HR0.out x5_1 p112 q112;cases e112
       replace p112:=eq_true p112;replace q112:=eq_true q112;go_wp2
       go_ret
       exact⟨by first|rfl|(simp;done)|(simp[*];done),by repeat(first|exact Drawn0.refl _|apply Drawn0.step)⟩
      ·rw[if_neg c6] at H
       have c6b0:decide ((wrap64 (x1_1 - ((rdOf ByteArray.empty l0 x5_1).size:Int))) < 0)=false:=decide_eq_false c6
       clear c6;have H':=Aside0.mk H
       clear H;have p112:0≤(x5_1:Int):=of_decide_eq_true (by assumption)
       have q112:x5_1 < (l0.length:Int):=of_decide_eq_true (by assumption)
       obtain⟨ad112,e112,hx112_0⟩:=Kd.at_string HR0.out x5_1 p112 q112;cases e112
       replace p112:=eq_true p112;replace q112:=eq_true q112;go_wp2
       go_roundg k1
       case measure=>have:=HK1.out;omega
       case rel=>exact⟨(wrap64 (x1_1 - ((rdOf ByteArray.empty l0 x5_1).size:Int))),(wrap64 (x5_1+1)),(by first|rfl|simp[*]),(by first|rfl|simp[*]),H',⟨by have:=HK1.out;omega⟩,by repeat(first|exact Drawn0.refl _|apply Drawn0.step)⟩
     ·rw[if_neg c5] at H
      exact absurd H (by simp)
    ·rw[if_neg c4] at H
     have c4b0:decide (x5_1 < (l0.length:Int))=false:=decide_eq_false c4
     clear c4;obtain rfl:=Option.some.inj H;go_wp2
     go_ret
     exact⟨by first|rfl|(simp;done)|(simp[*];done),by repeat(first|exact Drawn0.refl _|apply Drawn0.step)⟩
def laws_szQueue.f (k:Nat) (a0_0:Int) (l0_1:List ByteArray) (a1:Int):Option (Int):=(laws_szStringS.f k l0_1 a1).bind fun t114=>(if t114 < 0 then (some (-1)) else (some t114))
set_option maxHeartbeats 8000000 in
set_option maxRecDepth 100000 in
theorem laws_szQueue.calls (k:Nat) (a0_0:Int) (A0_1:Option Addr) (c0_1:Nat) (l0_1:List ByteArray) (a1:Int) (r:Int) (w:World) (hr0_1:Kd.C Kd.string w A0_1 l0_1.length l0_1) (hc0_1:l0_1.length≤c0_1) (h:laws_szQueue.f k a0_0 l0_1 a1=some r) :
  Calls Tryz.prog 38 #[.agg #[.int .i64 a0_0,.slice A0_1 l0_1.length c0_1],.int .i64 a1] w fun e w'=>e=.returned (.int .i64 r)∧Below w.heap.size w w':=by
 have hu30:=Tryz.underlying30;have HR0_1:=Aside0.mk hr0_1
 have HC0_1:=Aside0.mk hc0_1
 clear hr0_1 hc0_1;have HB:=Aside0.mk (Below.refl w.heap.size w)
 have H:((laws_szStringS.f k l0_1 a1).bind fun t114=>(if t114 < 0 then (some (-1)) else (some t114)))=some r:=h
 clear h;replace H:=Option.bind_eq_some_iff.mp H;obtain⟨t114,A30,H⟩:=H;replace H:(if t114 < 0 then (some (-1)) else (some t114))=some r:=H
 have A3:=Aside0.mk A30
 clear A30;go_enter Tryz.func38,Tryz.ntmps38
 go_wp2_with (first|((with_reducible refine gate_dst (N:=2) rfl ?_);refine yE (N:=2) (cs:=#[.int .i64 a0_0,.slice A0_1 l0_1.length c0_1]) (t:=30) fun gb113 hg w5 hbox hb=>?_;obtain⟨n0_,n2_⟩:=yX (w:=w) hg hb (by repeat(with_reducible first|exact HB.out|apply zI|apply zG|apply zH));have n1_:=Aside0.mk (hbox);have n3_:=n2_;clear HB;have HB:=n0_;have BK113:=n1_;have GW113:=n2_;have GE113:=n3_;clear n0_ n1_ n2_ n3_;clear hb hbox hg;obtain⟨hcz6_0,hcz6_1,hfz6_0,hfz6_1⟩:=zb2 BK113.out)|((with_reducible refine gate_callee (f:=111) rfl ?_);refine goesL_ (some 8) rfl rfl Tryz.func111 (by kernel_rfl) rfl #[.slice A0_1 l0_1.length c0_1,.int .i64 a1] rfl (by(try simp only [List.map_toArray,List.map_cons,List.map_nil]);first|done|rfl|(simp only [List.length_drop,List.length_take];rfl)) ?_;(with_reducible refine(laws_szStringS.calls k _ _ l0_1 a1 t114 _ ?side1 ?side2 A3.out).mono ?_);(case side1=>repeat(first|exact(Kd.C_below HR0_1.out HB.out)|(with_reducible refine Kd.C_alloc ?_ _)|(with_reducible refine Kd.C_drewN ?_ _)|(with_reducible refine Kd.C_drew ?_)));(case side2=>exact HC0_1.out);rintro e w' ⟨rfl,⟨nd,rfl⟩⟩;refine⟨_,rfl,?_⟩;(refine Classical.byCases (p:=(t114 < 0)) (fun c4=>?zp4) (fun c4=>?zn4);(case' zn4=>(rw[if_neg c4] at H);(have c4b0:decide (t114 < 0)=false:=decide_eq_false c4);(clear c4);(obtain rfl:=Option.some.inj H));(case' zp4=>(rw[if_pos c4] at H);(have c4b0:decide (t114 < 0)=true:=decide_eq_true c4);(clear c4);(obtain rfl:=Option.some.inj H)))))
 ·go_ret
  exact⟨by first|rfl|(simp[errW_none,errW_some] <;> rfl)|(simp[*,errW_none,errW_some] <;> rfl),by repeat(with_reducible first|exact HB.out|apply zI|apply zG|apply zH|refine zJ ?_ GE113.out)⟩
 ·go_ret
  exact⟨by first|rfl|(simp[errW_none,errW_some] <;> rfl)|(simp[*,errW_none,errW_some] <;> rfl),by repeat(with_reducible first|exact HB.out|apply zI|apply zG|apply zH|refine zJ ?_ GE113.out)⟩
def laws_szIntS.f (l0:List Int) (a1:Int):Option (Int):=if (wrap64 (a1 - (l0.length:Int))) < 0 then (some (-1)) else (some (wrap64 (a1 - (l0.length:Int))))
set_option maxHeartbeats 8000000 in
set_option maxRecDepth 100000 in
theorem laws_szIntS.calls (A0:Option Addr) (c0:Nat) (l0:List Int) (a1:Int) (r:Int) (w:World) (hr0:Kd.C (Kd.int .i64) w A0 l0.length l0) (hc0:l0.length≤c0) (h:laws_szIntS.f l0 a1=some r) :
  Calls Tryz.prog 112 #[.slice A0 l0.length c0,.int .i64 a1] w fun e w'=>e=.returned (.int .i64 r)∧Drawn0 w w':=by
 have HR0:=Aside0.mk hr0
 have HC0:=Aside0.mk hc0
 clear hr0 hc0;have H:(if (wrap64 (a1 - (l0.length:Int))) < 0 then (some (-1)) else (some (wrap64 (a1 - (l0.length:Int)))))=some r:=h
 clear h;by_cases c3:(wrap64 (a1 - (l0.length:Int))) < 0
 ·rw[if_pos c3] at H
  have c3b0:decide ((wrap64 (a1 - (l0.length:Int))) < 0)=true:=decide_eq_true c3
  clear c3;obtain rfl:=Option.some.inj H;go_enter Tryz.func112,Tryz.ntmps112
  go_wp2
  go_ret
  exact⟨by first|rfl|(simp;done)|(simp[*];done),by repeat(first|exact Drawn0.refl _|apply Drawn0.step)⟩
 ·rw[if_neg c3] at H
  have c3b0:decide ((wrap64 (a1 - (l0.length:Int))) < 0)=false:=decide_eq_false c3
  clear c3;obtain rfl:=Option.some.inj H;go_enter Tryz.func112,Tryz.ntmps112
  go_wp2
  go_ret
  exact⟨by first|rfl|(simp;done)|(simp[*];done),by repeat(first|exact Drawn0.refl _|apply Drawn0.step)⟩
def laws_szSketch.f (l0_0:List Int) (a0_1:Int) (a1:Int):Option (Int):=(laws_szIntS.f l0_0 a1).bind fun t116=>(if t116 < 0 then (some (-1)) else (some t116))
set_option maxHeartbeats 8000000 in
set_option maxRecDepth 100000 in
theorem laws_szSketch.calls (A0_0:Option Addr) (c0_0:Nat) (l0_0:List Int) (a0_1:Int) (a1:Int) (r:Int) (w:World) (hr0_0:Kd.C (Kd.int .i64) w A0_0 l0_0.length l0_0) (hc0_0:l0_0.length≤c0_0) (h:laws_szSketch.f l0_0 a0_1 a1=some r) :
  Calls Tryz.prog 39 #[.agg #[.slice A0_0 l0_0.length c0_0,.int .i64 a0_1],.int .i64 a1] w fun e w'=>e=.returned (.int .i64 r)∧Below w.heap.size w w':=by
 have hu33:=Tryz.underlying33;have HR0_0:=Aside0.mk hr0_0
 have HC0_0:=Aside0.mk hc0_0
 clear hr0_0 hc0_0;have HB:=Aside0.mk (Below.refl w.heap.size w)
 have H:((laws_szIntS.f l0_0 a1).bind fun t116=>(if t116 < 0 then (some (-1)) else (some t116)))=some r:=h
 clear h;replace H:=Option.bind_eq_some_iff.mp H;obtain⟨t116,A30,H⟩:=H;replace H:(if t116 < 0 then (some (-1)) else (some t116))=some r:=H
 have A3:=Aside0.mk A30
 clear A30;go_enter Tryz.func39,Tryz.ntmps39
 go_wp2_with (first|((with_reducible refine gate_dst (N:=2) rfl ?_);refine yE (N:=2) (cs:=#[.slice A0_0 l0_0.length c0_0,.int .i64 a0_1]) (t:=33) fun gb115 hg w5 hbox hb=>?_;obtain⟨n0_,n2_⟩:=yX (w:=w) hg hb (by repeat(with_reducible first|exact HB.out|apply zI|apply zG|apply zH));have n1_:=Aside0.mk (hbox);have n3_:=n2_;clear HB;have HB:=n0_;have BK115:=n1_;have GW115:=n2_;have GE115:=n3_;clear n0_ n1_ n2_ n3_;clear hb hbox hg;obtain⟨hcz6_0,hcz6_1,hfz6_0,hfz6_1⟩:=zb2 BK115.out)|((with_reducible refine gate_callee (f:=112) rfl ?_);refine goesL_ (some 8) rfl rfl Tryz.func112 (by kernel_rfl) rfl #[.slice A0_0 l0_0.length c0_0,.int .i64 a1] rfl (by(try simp only [List.map_toArray,List.map_cons,List.map_nil]);first|done|rfl|(simp only [List.length_drop,List.length_take];rfl)) ?_;(with_reducible refine(laws_szIntS.calls _ _ l0_0 a1 t116 _ ?side1 ?side2 A3.out).mono ?_);(case side1=>repeat(first|exact(Kd.C_below HR0_0.out HB.out)|(with_reducible refine Kd.C_alloc ?_ _)|(with_reducible refine Kd.C_drewN ?_ _)|(with_reducible refine Kd.C_drew ?_)));(case side2=>exact HC0_0.out);rintro e w' ⟨rfl,⟨nd,rfl⟩⟩;refine⟨_,rfl,?_⟩;(refine Classical.byCases (p:=(t116 < 0)) (fun c4=>?zp5) (fun c4=>?zn5);(case' zn5=>(rw[if_neg c4] at H);(have c4b0:decide (t116 < 0)=false:=decide_eq_false c4);(clear c4);(obtain rfl:=Option.some.inj H));(case' zp5=>(rw[if_pos c4] at H);(have c4b0:decide (t116 < 0)=true:=decide_eq_true c4);(clear c4);(obtain rfl:=Option.some.inj H)))))
 ·go_ret
  exact⟨by first|rfl|(simp[errW_none,errW_some] <;> rfl)|(simp[*,errW_none,errW_some] <;> rfl),by repeat(with_reducible first|exact HB.out|apply zI|apply zG|apply zH|refine zJ ?_ GE115.out)⟩
 ·go_ret
  exact⟨by first|rfl|(simp[errW_none,errW_some] <;> rfl)|(simp[*,errW_none,errW_some] <;> rfl),by repeat(with_reducible first|exact HB.out|apply zI|apply zG|apply zH|refine zJ ?_ GE115.out)⟩
def laws_toSlot.f (a0_0:Int) (a0_1:Bool) (a0_2:ByteArray) (a0_3:ByteArray) (a0_4:Int):Option (Int × Bool × ByteArray × ByteArray × Int):=some (a0_0,a0_1,a0_2,a0_3,a0_4)
set_option maxHeartbeats 8000000 in
set_option maxRecDepth 100000 in
theorem laws_toSlot.calls (a0_0:Int) (a0_1:Bool) (a0_2:ByteArray) (a0_3:ByteArray) (a0_4:Int) (r1:Int) (r2:Bool) (r3:ByteArray) (r4:ByteArray) (r5:Int) (w:World) (h:laws_toSlot.f a0_0 a0_1 a0_2 a0_3 a0_4=some (r1,r2,r3,r4,r5)) :
  Calls Tryz.prog 188 #[.agg #[.int .i64 a0_0,.bool a0_1,.string a0_2,.string a0_3,.int .i64 a0_4]] w fun e w'=>e=.returned (.agg #[.int .i64 r1,.bool r2,.string r3,.string r4,.int .i64 r5])∧Below w.heap.size w w':=by
 have hu196:=Tryz.underlying196;have hu94:=Tryz.underlying94;have HB:=Aside0.mk (Below.refl w.heap.size w)
 have H:(some (a0_0,a0_1,a0_2,a0_3,a0_4))=some (r1,r2,r3,r4,r5):=h
 clear h;simp only [Option.some.injEq,Prod.mk.injEq] at H;obtain⟨rfl,rfl,rfl,rfl,rfl⟩:=H;go_enter Tryz.func188,Tryz.ntmps188
 go_wp2_with (first|((with_reducible refine gate_dst (N:=1) rfl ?_);refine yE (N:=1) (cs:=#[.int .i64 a0_0,.bool a0_1,.string a0_2,.string a0_3,.int .i64 a0_4]) (t:=196) fun gb124 hg w2 hbox hb=>?_;obtain⟨n0_,n2_⟩:=yX (w:=w) hg hb (by repeat(with_reducible first|exact HB.out|apply zI|apply zG|apply zH));have n1_:=Aside0.mk (hbox);have n3_:=n2_;clear HB;have HB:=n0_;have BK124:=n1_;have GW124:=n2_;have GE124:=n3_;clear n0_ n1_ n2_ n3_;clear hb hbox hg)|((with_reducible refine gate_dst (N:=2) rfl ?_);refine yE (N:=2) (cs:=#[.int .i64 0,.bool false,.string (⟨#[]⟩:ByteArray),.string (⟨#[]⟩:ByteArray),.int .i64 0]) (t:=94) fun gb125 hg w3 hbox hb=>?_;obtain⟨n0_,n5_,n6_⟩:=yY (g:=gb124) (o:=.cells #[.int .i64 a0_0,.bool a0_1,.string a0_2,.string a0_3,.int .i64 a0_4] 196 (0,0)) hg hb (by(with_reducible repeat(first|apply zA|apply zC|apply zB));exact BK124.out);obtain⟨n1_,n3_⟩:=yX (w:=w) hg hb (by repeat(with_reducible first|exact HB.out|apply zI|apply zG|apply zH|refine zJ ?_ GE124.out));have n2_:=Aside0.mk (hbox);have n4_:=n3_;clear BK124;clear HB;have BK124:=n0_;have HB:=n1_;have BK125:=n2_;have GW125:=n3_;have GE125:=n4_;have NB124_125:=n5_;have NB125_124:=n6_;clear n0_ n1_ n2_ n3_ n4_ n5_ n6_;clear hb hbox hg)|((with_reducible refine gate_dst (N:=3) rfl ?_);refine yE (N:=3) (cs:=#[.int .i64 0,.bool false,.string (⟨#[]⟩:ByteArray),.string (⟨#[]⟩:ByteArray),.int .i64 0]) (t:=94) fun gb126 hg w4 hbox hb=>?_;obtain⟨n0_,n6_,n7_⟩:=yY (g:=gb124) (o:=.cells #[.int .i64 a0_0,.bool a0_1,.string a0_2,.string a0_3,.int .i64 a0_4] 196 (0,0)) hg hb (by(with_reducible repeat(first|apply zA|apply zC|apply zB));exact BK124.out);obtain⟨n1_,n8_,n9_⟩:=yY (g:=gb125) (o:=.cells #[.int .i64 0,.bool false,.string (⟨#[]⟩:ByteArray),.string (⟨#[]⟩:ByteArray),.int .i64 0] 94 (0,0)) hg hb (by(with_reducible repeat(first|apply zA|apply zC|apply zB));exact BK125.out);obtain⟨n2_,n4_⟩:=yX (w:=w) hg hb (by repeat(with_reducible first|exact HB.out|apply zI|apply zG|apply zH|refine zJ ?_ GE124.out|refine zJ ?_ GE125.out));have n3_:=Aside0.mk (hbox);have n5_:=n4_;clear BK124;clear BK125;clear HB;have BK124:=n0_;have BK125:=n1_;have HB:=n2_;have BK126:=n3_;have GW126:=n4_;have GE126:=n5_;have NB124_126:=n6_;have NB126_124:=n7_;have NB125_126:=n8_;have NB126_125:=n9_;clear n0_ n1_ n2_ n3_ n4_ n5_ n6_ n7_ n8_ n9_;clear hb hbox hg;have hnb5:=NB124_125.out;have hnc5:=NB125_124.out;have hnb6:=NB124_126.out;have hnc6:=NB126_124.out;obtain⟨hcz7_0,hcz7_1,hcz7_2,hcz7_3,hcz7_4,hfz7_0,hfz7_1,hfz7_2,hfz7_3,hfz7_4⟩:=zb5 BK124.out;have hnb8:=NB126_125.out;have hnc8:=NB125_126.out;obtain⟨hcz9_0,hcz9_1,hcz9_2,hcz9_3,hcz9_4,hfz9_0,hfz9_1,hfz9_2,hfz9_3,hfz9_4⟩:=zb5 BK126.out;obtain⟨hcz10_0,hcz10_1,hcz10_2,hcz10_3,hcz10_4,hfz10_0,hfz10_1,hfz10_2,hfz10_3,hfz10_4⟩:=zb5 BK125.out))
 refine bodyPost_ret (results_cell_row rfl _ _ gb125 94 #[.int .i64 a0_0,.bool a0_1,.string a0_2,.string a0_3,.int .i64 a0_4] (0,0) _ rfl (by(with_reducible repeat(first|apply zA|apply zC|apply zB));refine blk_put (cs:=#[.int .i64 a0_0,.bool a0_1,.string a0_2,.string a0_3,.int .i64 0]) ?_ 4 _ rfl;(with_reducible repeat(first|apply zA|apply zC|apply zB));refine blk_put (cs:=#[.int .i64 a0_0,.bool a0_1,.string a0_2,.string (⟨#[]⟩:ByteArray),.int .i64 0]) ?_ 3 _ rfl;(with_reducible repeat(first|apply zA|apply zC|apply zB));refine blk_put (cs:=#[.int .i64 a0_0,.bool a0_1,.string (⟨#[]⟩:ByteArray),.string (⟨#[]⟩:ByteArray),.int .i64 0]) ?_ 2 _ rfl;(with_reducible repeat(first|apply zA|apply zC|apply zB));refine blk_put (cs:=#[.int .i64 a0_0,.bool false,.string (⟨#[]⟩:ByteArray),.string (⟨#[]⟩:ByteArray),.int .i64 0]) ?_ 1 _ rfl;(with_reducible repeat(first|apply zA|apply zC|apply zB));refine blk_put (cs:=#[.int .i64 0,.bool false,.string (⟨#[]⟩:ByteArray),.string (⟨#[]⟩:ByteArray),.int .i64 0]) ?_ 0 _ rfl;(with_reducible repeat(first|apply zA|apply zC|apply zB));refine zT ?_ NB125_126.out _;(with_reducible repeat(first|apply zA|apply zC|apply zB));refine zT ?_ NB125_126.out _;(with_reducible repeat(first|apply zA|apply zC|apply zB));refine zT ?_ NB125_126.out _;(with_reducible repeat(first|apply zA|apply zC|apply zB));refine zT ?_ NB125_126.out _;(with_reducible repeat(first|apply zA|apply zC|apply zB));refine zT ?_ NB125_126.out _;(with_reducible repeat(first|apply zA|apply zC|apply zB));exact BK125.out) Tryz.underlying94 rfl (by kernel_rfl)) rfl ?_
 exact⟨by first|rfl|(simp[errW_none,errW_some] <;> rfl)|(simp[*,errW_none,errW_some] <;> rfl),by repeat(with_reducible first|exact HB.out|apply zI|apply zG|apply zH|refine zJ ?_ GE124.out|refine zJ ?_ GE125.out|refine zJ ?_ GE126.out)⟩
def laws_toSlotS.l0:Nat→List (S196)→List (S94)→Int→Option ((List (S94)))
|0,_,_,_=>none
|k+1,x0,x3,x4=>if x4 < (x0.length:Int) then (if 0≤x4 then ((laws_toSlot.f ((rd_T196 x0 x4).f0) ((rd_T196 x0 x4).f1) ((rd_T196 x0 x4).f2) ((rd_T196 x0 x4).f3) ((rd_T196 x0 x4).f4)).bind fun bt131=>(if x4 < (x3.length:Int) then (laws_toSlotS.l0 k x0 (x3.set (x4:Int).toNat (⟨bt131.1,bt131.2.1,bt131.2.2.1,bt131.2.2.2.1,bt131.2.2.2.2⟩:S94)) (wrap64 (x4+1))) else (none))) else (none)) else (some x3)
def laws_toSlotS.f (k:Nat) (l0:List (S196)):Option ((List (S94))):=if 0≤(l0.length:Int) then (if ((l0.length:Int):Int).toNat≤5026338869833 then (laws_toSlotS.l0 k l0 (List.replicate ((l0.length:Int):Int).toNat z94) 0) else (none)) else (none)
set_option maxHeartbeats 8000000 in
set_option maxRecDepth 100000 in
theorem laws_toSlotS.calls (k:Nat) (A0:Option Addr) (c0:Nat) (l0:List (S196)) (r:List (S94)) (w:World) (hr0:Kd.C k196 w A0 l0.length l0) (hc0:l0.length≤c0) (h:laws_toSlotS.f k l0=some r) :
  Calls Tryz.prog 121 #[.slice A0 l0.length c0] w fun e w'=>∃ v0_:Value,e=.returned (v0_)∧Kd.R k94 94 w' w.heap.size (fun _=>True) v0_ r∧Below w.heap.size w w':=by
 have hu196:=Tryz.underlying196;have hu94:=Tryz.underlying94;have HR0:=Aside0.mk hr0
 have HC0:=Aside0.mk hc0
 clear hr0 hc0;have HB:=Aside0.mk (Below.refl w.heap.size w)
 have H:(if 0≤(l0.length:Int) then (if ((l0.length:Int):Int).toNat≤5026338869833 then (laws_toSlotS.l0 k l0 (List.replicate ((l0.length:Int):Int).toNat z94) 0) else (none)) else (none))=some r:=h
 clear h;by_cases c2:0≤(l0.length:Int)
 ·rw[if_pos c2] at H
  have c2b0:=eq_true c2
  have c2b1:decide (0≤(l0.length:Int))=true:=decide_eq_true c2
  clear c2;by_cases c3:((l0.length:Int):Int).toNat≤5026338869833
  ·rw[if_pos c3] at H
   have c3b0:=eq_true c3
   have c3b1:decide (((l0.length:Int):Int).toNat≤5026338869833)=true:=decide_eq_true c3
   clear c3;obtain⟨y127,hy127⟩:∃ y_:List (S94),y_=(List.replicate ((l0.length:Int):Int).toNat z94):=⟨_,rfl⟩
   replace H:(laws_toSlotS.l0 k l0 y127 0)=some r:=by first|(rw[hy127];with_reducible exact H)|(have H2_:=(Option.bind_some _ _).symm.trans H;rw[hy127];with_reducible exact H2_)|(have H2_:=(Option.bind_some _ _).symm.trans H;with_reducible exact H2_)|with_reducible exact H|(rw[hy127];exact H)|exact H
   have Ny127:=Aside0.mk hy127
   clear hy127;have H':=Aside0.mk H
   clear H;go_enter Tryz.func121,Tryz.ntmps121
   go_wp2_with (first|((with_reducible refine gate_dst (N:=7) rfl ?_);refine Kd.R_make k94 _ 94 rfl (N:=7) rfl 40 _ _ rfl (l0.length:Int) rfl rfl Tryz.underlying40 (.agg #[(.int .i64 0),(.bool false),(.string ⟨#[]⟩),(.string ⟨#[]⟩),(.int .i64 0)]) 56 info94 rfl (by decide) (by omega) z94 (ok:=fun _=>True) (okp:=fun _=>True) (k94_mkM _ _ _ z94 ) (fun _ hk=>hk) trivial (of_decide_eq_true (by assumption)) (Nat.le_trans (Nat.mul_le_mul_right _ (of_decide_eq_true (by assumption):(l0.length:Int).toNat≤5026338869833)) (by omega)) (Below.refl _ _) (Nat.le_refl _) ?_;intro v128 w4 ho5 hb hg_ hnew_;clear hg_ hnew_;(first|rw[← Ny127.out] at ho5|(simp only [Int.reduceToNat] at ho5;rw[← Ny127.out] at ho5));have n0_:=Aside0.mk (Kd.R_lower ho5 (below_size (by repeat(with_reducible first|exact HB.out|apply zI|apply zG|apply zH))));have n1_:=Aside0.mk (zN (by repeat(with_reducible first|exact HB.out|apply zI|apply zG|apply zH)) hb);clear HB;have HO129:=n0_;have HB:=n1_;clear n0_ n1_;clear hb ho5))
   go_loopg [4] k (fun kq v4 w'=>∃ (x3_1:List (S94)) (x4_1:Int),v4=.int .i64 x4_1∧Aside0 (laws_toSlotS.l0 kq l0 x3_1 x4_1=some r)∧Aside0 (kq≤k)∧Aside0 (Kd.R k94 94 w' w.heap.size (fun _=>True) v128 x3_1)∧Aside0 (Below w.heap.size w w'))
   case atStart=>exact⟨(y127),(0),(by first|rfl|simp[*]),H',⟨Nat.le_refl _⟩,⟨by(with_reducible repeat(first|apply zE|apply zD|apply zF));exact HO129.out⟩,⟨by repeat(with_reducible first|exact HB.out|apply zI|apply zG|apply zH)⟩⟩
   case round =>
    clear H';obtain⟨x3_1,x4_1,rfl,HA,HK1,HO_3,HB⟩:=hrel;cases gk with
   |zero=>exact absurd HA.out (by simp[laws_toSlotS.l0])
   |succ k1 =>
     have H:=HA.out;clear HA;simp only [laws_toSlotS.l0] at H;by_cases c6:x4_1 < (l0.length:Int)
     ·rw[if_pos c6] at H
      have c6b0:decide (x4_1 < (l0.length:Int))=true:=decide_eq_true c6
      clear c6;by_cases c7:0≤x4_1
      ·rw[if_pos c7] at H
       have c7b0:decide (0≤x4_1)=true:=decide_eq_true c7
       clear c7;replace H:=Option.bind_eq_some_iff.mp H;obtain⟨⟨t131,t132,t133,t134,t135⟩,A80,H⟩:=H;replace H:(if x4_1 < (x3_1.length:Int) then (laws_toSlotS.l0 k1 l0 (x3_1.set (x4_1:Int).toNat (⟨t131,t132,t133,t134,t135⟩:S94)) (wrap64 (x4_1+1))) else (none))=some r:=H
       have A8:=Aside0.mk A80
       clear A80;by_cases c9:x4_1 < (x3_1.length:Int)
       ·rw[if_pos c9] at H
        have c9b0:decide (x4_1 < (x3_1.length:Int))=true:=decide_eq_true c9
        clear c9;obtain⟨y136,hy136⟩:∃ y_:List (S94),y_=(x3_1.set (x4_1:Int).toNat (⟨t131,t132,t133,t134,t135⟩:S94)):=⟨_,rfl⟩
        replace H:(laws_toSlotS.l0 k1 l0 y136 (wrap64 (x4_1+1)))=some r:=by first|(rw[hy136];with_reducible exact H)|(have H2_:=(Option.bind_some _ _).symm.trans H;rw[hy136];with_reducible exact H2_)|(have H2_:=(Option.bind_some _ _).symm.trans H;with_reducible exact H2_)|with_reducible exact H|(rw[hy136];exact H)|exact H
        have Ny136:=Aside0.mk hy136
        clear hy136;have H':=Aside0.mk H
        clear H;have p130:0≤(x4_1:Int):=of_decide_eq_true (by assumption)
        have q130:x4_1 < (l0.length:Int):=of_decide_eq_true (by assumption)
        obtain⟨ad130,e130,hx130_0,hx130_1,hx130_2,hx130_3,hx130_4⟩:=at_T196 HR0.out x4_1 p130 q130;cases e130
        replace hx130_0:=zc1 HB.out hx130_0;replace hx130_1:=zc1 HB.out hx130_1;replace hx130_2:=zc1 HB.out hx130_2;replace hx130_3:=zc1 HB.out hx130_3;replace hx130_4:=zc1 HB.out hx130_4;replace p130:=eq_true p130;replace q130:=eq_true q130;go_wp2_with (first|((with_reducible refine gate_callee (f:=188) rfl ?_);refine goesL_ (some 20) rfl rfl Tryz.func188 (by kernel_rfl) rfl #[.agg #[.int .i64 ((rd_T196 l0 x4_1).f0),.bool ((rd_T196 l0 x4_1).f1),.string ((rd_T196 l0 x4_1).f2),.string ((rd_T196 l0 x4_1).f3),.int .i64 ((rd_T196 l0 x4_1).f4)]] rfl (by(try simp only [List.map_toArray,List.map_cons,List.map_nil]);first|done|rfl|(simp only [List.length_drop,List.length_take];rfl)) ?_;(with_reducible refine(laws_toSlot.calls ((rd_T196 l0 x4_1).f0) ((rd_T196 l0 x4_1).f1) ((rd_T196 l0 x4_1).f2) ((rd_T196 l0 x4_1).f3) ((rd_T196 l0 x4_1).f4) t131 t132 t133 t134 t135 _ A8.out).mono ?_);rintro e w11 ⟨rfl,hb⟩;refine⟨_,rfl,?_⟩;have n0_:=Aside0.mk (zM (by(with_reducible repeat(first|apply zE|apply zD|apply zF));exact HO_3.out) hb);have n1_:=Aside0.mk (zN (by repeat(with_reducible first|exact HB.out|apply zI|apply zG|apply zH)) hb);clear HO_3;clear HB;have HO_3:=n0_;have HB:=n1_;clear n0_ n1_;(try clear hb);(try clear hb2);(try clear hk);(try clear hi);have p10:0≤(x4_1:Int):=of_decide_eq_true (by assumption);have q10:(x4_1:Int) < ((x3_1.length:Int):Int):=of_decide_eq_true (by assumption);obtain⟨go10,co10,eo10,gb10,gl10,cl10,HG10⟩:=Kd.R_form HO_3.out (by omega);(first|cases eo10|(injection eo10 with ea_ en_ ec_;(first|subst ea_|(injection ea_ with ea_;subst ea_));subst ec_;clear en_));have GB10:=Aside0.mk gb10;have GG10:=Aside0.mk HG10;clear gb10 gl10 HG10;obtain⟨ce10,hcl10,hM10,hcc10,hfr10⟩:=Kd.R_elem HO_3.out z94 (x4_1:Int) p10 q10;obtain rfl:=k94_openM hM10;have hx10_0:w11.cell? ⟨go10,(x4_1:Int).toNat * 5,none⟩=some (.int .i64 ((rd_T94 x3_1 x4_1).f0)):=hcc10 0 _ rfl;have hx10_1:w11.cell? ⟨go10,(x4_1:Int).toNat * 5+1,none⟩=some (.bool ((rd_T94 x3_1 x4_1).f1)):=hcc10 1 _ rfl;have hx10_2:w11.cell? ⟨go10,(x4_1:Int).toNat * 5+2,none⟩=some (.string ((rd_T94 x3_1 x4_1).f2)):=hcc10 2 _ rfl;have hx10_3:w11.cell? ⟨go10,(x4_1:Int).toNat * 5+3,none⟩=some (.string ((rd_T94 x3_1 x4_1).f3)):=hcc10 3 _ rfl;have hx10_4:w11.cell? ⟨go10,(x4_1:Int).toNat * 5+4,none⟩=some (.int .i64 ((rd_T94 x3_1 x4_1).f4)):=hcc10 4 _ rfl;have hf10_0:w11.frozen? ⟨go10,(x4_1:Int).toNat * 5,none⟩=false:=hfr10 0;have hf10_1:w11.frozen? ⟨go10,(x4_1:Int).toNat * 5+1,none⟩=false:=hfr10 1;have hf10_2:w11.frozen? ⟨go10,(x4_1:Int).toNat * 5+2,none⟩=false:=hfr10 2;have hf10_3:w11.frozen? ⟨go10,(x4_1:Int).toNat * 5+3,none⟩=false:=hfr10 3;have hf10_4:w11.frozen? ⟨go10,(x4_1:Int).toNat * 5+4,none⟩=false:=hfr10 4;clear hcl10 hcc10 hfr10 hM10;replace p10:=eq_true p10;replace q10:=eq_true q10;have HX12:=Aside0.mk (show Kd.R k94 94 w11 w.heap.size (fun _=>True) (.slice (some ⟨go10,0,none⟩) x3_1.length co10) x3_1 from(by(with_reducible repeat(first|apply zE|apply zD|apply zF));exact HO_3.out));obtain⟨ce12,hcl12,hM12,hcc12,hfr12⟩:=Kd.R_elem HX12.out z94 (x4_1:Int) (of_decide_eq_true (by assumption)) (by have h_:(x4_1:Int) < ((x3_1.length:Int):Int):=of_decide_eq_true (by assumption);first|exact h_|(have e_:=(Kd.R_reads' HO_3.out).1;omega)|simpa using h_);obtain rfl:=k94_openM hM12;have HP12:=Kd.R_seg HX12.out (x4_1:Int) (of_decide_eq_true (by assumption)) (by have h_:(x4_1:Int) < ((x3_1.length:Int):Int):=of_decide_eq_true (by assumption);first|exact h_|(have e_:=(Kd.R_reads' HO_3.out).1;omega)|simpa using h_) (seg:=[.int .i64 t131,.bool t132,.string t133,.string t134,.int .i64 t135]) (j:=0) hcl12 hcc12 (show 5≤5 from by decide) (x':=(⟨t131,t132,t133,t134,t135⟩:S94)) (k94_mkM _ _ _ (⟨t131,t132,t133,t134,t135⟩:S94) ) (fun _ hk=>hk);have hx12_0:=hcc12 0 _ rfl;(try simp only [show(k94).sz=5 from rfl,Nat.mul_one,Nat.add_zero] at hx12_0);have hf12_0:=hfr12 0;(try simp only [show(k94).sz=5 from rfl,Nat.mul_one,Nat.add_zero] at hf12_0);have hx12_1:=hcc12 1 _ rfl;(try simp only [show(k94).sz=5 from rfl,Nat.mul_one,Nat.add_zero] at hx12_1);have hf12_1:=hfr12 1;(try simp only [show(k94).sz=5 from rfl,Nat.mul_one,Nat.add_zero] at hf12_1);have hx12_2:=hcc12 2 _ rfl;(try simp only [show(k94).sz=5 from rfl,Nat.mul_one,Nat.add_zero] at hx12_2);have hf12_2:=hfr12 2;(try simp only [show(k94).sz=5 from rfl,Nat.mul_one,Nat.add_zero] at hf12_2);have hx12_3:=hcc12 3 _ rfl;(try simp only [show(k94).sz=5 from rfl,Nat.mul_one,Nat.add_zero] at hx12_3);have hf12_3:=hfr12 3;(try simp only [show(k94).sz=5 from rfl,Nat.mul_one,Nat.add_zero] at hf12_3);have hx12_4:=hcc12 4 _ rfl;(try simp only [show(k94).sz=5 from rfl,Nat.mul_one,Nat.add_zero] at hx12_4);have hf12_4:=hfr12 4;(try simp only [show(k94).sz=5 from rfl,Nat.mul_one,Nat.add_zero] at hf12_4);clear hcl12 hcc12 hfr12 hM12)|((with_reducible refine gate_store (t:=94) (p:=21) rfl ?_);refine store_event (t:=94) (p:=21) (v:=?vo_w13) (w1:=(((((w11.setCell ⟨go10,(x4_1:Int).toNat * 5,none⟩ (.int .i64 t131)).setCell ⟨go10,(x4_1:Int).toNat * 5+1,none⟩ (.bool t132)).setCell ⟨go10,(x4_1:Int).toNat * 5+2,none⟩ (.string t133)).setCell ⟨go10,(x4_1:Int).toNat * 5+3,none⟩ (.string t134)).setCell ⟨go10,(x4_1:Int).toNat * 5+4,none⟩ (.int .i64 t135))) ?hg ?ho ?hn ?hr ?_;(case ho=>rfl);(case hg=>rfl);(case hn=>rfl);(case hr=>first|(go_simp;done)|(go_simp;rfl));intro w13 hw;have hg:w11.grownBy w13 (some go10):=(by rw[hw];exact HP12.2);have hp_:Kd.R k94 94 w13 w.heap.size (fun _=>True) (.slice (some ⟨go10,0,none⟩) x3_1.length co10) y136:=(by rw[hw,Ny136.out];exact HP12.1);clear HP12;have n0_:=Aside0.mk (hp_);have n1_:=Aside0.mk ((by rw[hw];exact zJ (zJ (zJ (zJ (zJ (HB.out) GB10.out) GB10.out) GB10.out) GB10.out) GB10.out:Below w.heap.size w w13));clear HO_3;clear HB;have HO_3:=n0_;have HB:=n1_;clear n0_ n1_;clear hg hw hp_))
        go_roundg k1
        case measure=>have:=HK1.out;omega
        case rel=>exact⟨(y136),(wrap64 (x4_1+1)),(by first|rfl|simp[*]),H',⟨by have:=HK1.out;omega⟩,⟨by(with_reducible repeat(first|apply zE|apply zD|apply zF));exact HO_3.out⟩,⟨by repeat(with_reducible first|exact HB.out|apply zI|apply zG|apply zH)⟩⟩
       ·rw[if_neg c9] at H
        exact absurd H (by simp)
      ·rw[if_neg c7] at H
       exact absurd H (by simp)
     ·rw[if_neg c6] at H
      have c6b0:decide (x4_1 < (l0.length:Int))=false:=decide_eq_false c6
      clear c6;obtain rfl:=Option.some.inj H;go_wp2
      go_ret
      exact⟨_,by first|rfl|(simp[errW_none,errW_some] <;> rfl)|(simp[*,errW_none,errW_some] <;> rfl),by(with_reducible repeat(first|apply zE|apply zD|apply zF));exact HO_3.out,by repeat(with_reducible first|exact HB.out|apply zI|apply zG|apply zH)⟩
  ·rw[if_neg c3] at H
   exact absurd H (by simp)
 ·rw[if_neg c2] at H
  exact absurd H (by simp)
def laws_toArena.f (k:Nat) (l0_0:List (S196)) (a0_1:Int):Option ((List (S94)) × Int):=(laws_toSlotS.f k l0_0).bind fun t140=>(some (t140,a0_1))
set_option maxHeartbeats 8000000 in
set_option maxRecDepth 100000 in
theorem laws_toArena.calls (k:Nat) (A0_0:Option Addr) (c0_0:Nat) (l0_0:List (S196)) (a0_1:Int) (r1:List (S94)) (r2:Int) (w:World) (hr0_0:Kd.C k196 w A0_0 l0_0.length l0_0) (hc0_0:l0_0.length≤c0_0) (h:laws_toArena.f k l0_0 a0_1=some (r1,r2)) :
  Calls Tryz.prog 46 #[.agg #[.slice A0_0 l0_0.length c0_0,.int .i64 a0_1]] w fun e w'=>∃ v0_:Value,e=.returned (.agg #[v0_,.int .i64 r2])∧Kd.R k94 94 w' w.heap.size (fun _=>True) v0_ r1∧Below w.heap.size w w':=by
 have hu24:=Tryz.underlying24;have hu42:=Tryz.underlying42;have HR0_0:=Aside0.mk hr0_0
 have HC0_0:=Aside0.mk hc0_0
 clear hr0_0 hc0_0;have HB:=Aside0.mk (Below.refl w.heap.size w)
 have H:((laws_toSlotS.f k l0_0).bind fun t140=>(some (t140,a0_1)))=some (r1,r2):=h
 clear h;replace H:=Option.bind_eq_some_iff.mp H;obtain⟨t140,A20,H⟩:=H;replace H:(some (t140,a0_1))=some (r1,r2):=H
 have A2:=Aside0.mk A20
 clear A20;simp only [Option.some.injEq,Prod.mk.injEq] at H;obtain⟨rfl,rfl⟩:=H;go_enter Tryz.func46,Tryz.ntmps46
 go_wp2_with (first|((with_reducible refine gate_dst (N:=1) rfl ?_);refine yE (N:=1) (cs:=#[.slice A0_0 l0_0.length c0_0,.int .i64 a0_1]) (t:=24) fun gb137 hg w3 hbox hb=>?_;obtain⟨n0_,n2_⟩:=yX (w:=w) hg hb (by repeat(with_reducible first|exact HB.out|apply zI|apply zG|apply zH));have n1_:=Aside0.mk (hbox);have n3_:=n2_;clear HB;have HB:=n0_;have BK137:=n1_;have GW137:=n2_;have GE137:=n3_;clear n0_ n1_ n2_ n3_;clear hb hbox hg)|((with_reducible refine gate_dst (N:=2) rfl ?_);refine yE (N:=2) (cs:=#[.slice none 0 0,.int .i64 0]) (t:=42) fun gb138 hg w4 hbox hb=>?_;obtain⟨n0_,n5_,n6_⟩:=yY (g:=gb137) (o:=.cells #[.slice A0_0 l0_0.length c0_0,.int .i64 a0_1] 24 (0,0)) hg hb (by(with_reducible repeat(first|apply zA|apply zC|apply zB));exact BK137.out);obtain⟨n1_,n3_⟩:=yX (w:=w) hg hb (by repeat(with_reducible first|exact HB.out|apply zI|apply zG|apply zH|refine zJ ?_ GE137.out));have n2_:=Aside0.mk (hbox);have n4_:=n3_;clear BK137;clear HB;have BK137:=n0_;have HB:=n1_;have BK138:=n2_;have GW138:=n3_;have GE138:=n4_;have NB137_138:=n5_;have NB138_137:=n6_;clear n0_ n1_ n2_ n3_ n4_ n5_ n6_;clear hb hbox hg)|((with_reducible refine gate_dst (N:=3) rfl ?_);refine yE (N:=3) (cs:=#[.slice none 0 0,.int .i64 0]) (t:=42) fun gb139 hg w5 hbox hb=>?_;obtain⟨n0_,n6_,n7_⟩:=yY (g:=gb137) (o:=.cells #[.slice A0_0 l0_0.length c0_0,.int .i64 a0_1] 24 (0,0)) hg hb (by(with_reducible repeat(first|apply zA|apply zC|apply zB));exact BK137.out);obtain⟨n1_,n8_,n9_⟩:=yY (g:=gb138) (o:=.cells #[.slice none 0 0,.int .i64 0] 42 (0,0)) hg hb (by(with_reducible repeat(first|apply zA|apply zC|apply zB));exact BK138.out);obtain⟨n2_,n4_⟩:=yX (w:=w) hg hb (by repeat(with_reducible first|exact HB.out|apply zI|apply zG|apply zH|refine zJ ?_ GE137.out|refine zJ ?_ GE138.out));have n3_:=Aside0.mk (hbox);have n5_:=n4_;clear BK137;clear BK138;clear HB;have BK137:=n0_;have BK138:=n1_;have HB:=n2_;have BK139:=n3_;have GW139:=n4_;have GE139:=n5_;have NB137_139:=n6_;have NB139_137:=n7_;have NB138_139:=n8_;have NB139_138:=n9_;clear n0_ n1_ n2_ n3_ n4_ n5_ n6_ n7_ n8_ n9_;clear hb hbox hg;have hnb6:=NB137_138.out;have hnc6:=NB138_137.out;have hnb7:=NB137_139.out;have hnc7:=NB139_137.out;obtain⟨hcz8_0,hcz8_1,hfz8_0,hfz8_1⟩:=zb2 BK137.out)|((with_reducible refine gate_callee (f:=121) rfl ?_);refine goesL_ (some 6) rfl rfl Tryz.func121 (by kernel_rfl) rfl #[.slice A0_0 l0_0.length c0_0] rfl (by(try simp only [List.map_toArray,List.map_cons,List.map_nil]);first|done|rfl|(simp only [List.length_drop,List.length_take];rfl)) ?_;(with_reducible refine(laws_toSlotS.calls k _ _ l0_0 t140 _ ?side1 ?side2 A2.out).mono ?_);(case side1=>repeat(first|exact(Kd.C_below HR0_0.out HB.out)|(with_reducible refine Kd.C_alloc ?_ _)|(with_reducible refine Kd.C_drewN ?_ _)|(with_reducible refine Kd.C_drew ?_)));(case side2=>exact HC0_0.out);rintro e w9 ⟨v141,rfl,ho0,hb⟩;refine⟨_,rfl,?_⟩;have n0_:=Aside0.mk (Kd.R_lower ho0 (below_size (by repeat(with_reducible first|exact HB.out|apply zI|apply zG|apply zH|refine zJ ?_ GE137.out|refine zJ ?_ GE138.out|refine zJ ?_ GE139.out))));have n1_:=Aside0.mk (zK (g:=gb137) (o:=.cells #[.slice A0_0 l0_0.length c0_0,.int .i64 a0_1] 24 (0,0)) (by(with_reducible repeat(first|apply zA|apply zC|apply zB));exact BK137.out) hb);have n2_:=Aside0.mk (zK (g:=gb138) (o:=.cells #[.slice none 0 0,.int .i64 0] 42 (0,0)) (by(with_reducible repeat(first|apply zA|apply zC|apply zB));exact BK138.out) hb);have n3_:=Aside0.mk (zK (g:=gb139) (o:=.cells #[.slice none 0 0,.int .i64 0] 42 (0,0)) (by(with_reducible repeat(first|apply zA|apply zC|apply zB));exact BK139.out) hb);have n4_:=Aside0.mk (zN (by repeat(with_reducible first|exact HB.out|apply zI|apply zG|apply zH|refine zJ ?_ GE137.out|refine zJ ?_ GE138.out|refine zJ ?_ GE139.out)) hb);clear BK137;clear BK138;clear BK139;clear HB;have HO142:=n0_;have BK137:=n1_;have BK138:=n2_;have BK139:=n3_;have HB:=n4_;clear n0_ n1_ n2_ n3_ n4_;(try clear hb);(try clear hb2);(try clear hk);(try clear hi);(try clear ho0);obtain⟨Ao10,co10,eo10⟩:=Kd.R_slice HO142.out;subst eo10;have hnb11:=NB139_138.out;have hnc11:=NB138_139.out;obtain⟨hcz12_0,hcz12_1,hfz12_0,hfz12_1⟩:=zb2 BK139.out;obtain⟨hcz13_0,hcz13_1,hfz13_0,hfz13_1⟩:=zb2 BK137.out;obtain⟨hcz14_0,hcz14_1,hfz14_0,hfz14_1⟩:=zb2 BK138.out))
 refine bodyPost_ret (results_cell_row rfl _ _ gb138 42 #[.slice Ao10 t140.length co10,.int .i64 a0_1] (0,0) _ rfl (by(with_reducible repeat(first|apply zA|apply zC|apply zB));refine blk_put (cs:=#[.slice Ao10 t140.length co10,.int .i64 0]) ?_ 1 _ rfl;(with_reducible repeat(first|apply zA|apply zC|apply zB));refine blk_put (cs:=#[.slice none 0 0,.int .i64 0]) ?_ 0 _ rfl;(with_reducible repeat(first|apply zA|apply zC|apply zB));refine zT ?_ NB138_139.out _;(with_reducible repeat(first|apply zA|apply zC|apply zB));refine zT ?_ NB138_139.out _;(with_reducible repeat(first|apply zA|apply zC|apply zB));exact BK138.out) Tryz.underlying42 rfl (by kernel_rfl)) rfl ?_
 exact⟨_,by first|rfl|(simp[errW_none,errW_some] <;> rfl)|(simp[*,errW_none,errW_some] <;> rfl),by(with_reducible repeat(first|apply zE|apply zD|apply zF));exact zR (zL (p:=⟨gb138,1,none⟩) (zL (p:=⟨gb138,0,none⟩) (zL (p:=⟨gb139,1,none⟩) (zL (p:=⟨gb139,0,none⟩) (zQ (zQ HO142.out BK139.out (by decide)) BK138.out (by decide)) (fun _ hk=>hk.1.2) (.slice Ao10 t140.length co10)) (fun _ hk=>hk.1.2) (.int .i64 a0_1)) (fun _ hk=>hk.2) (.slice Ao10 t140.length co10)) (fun _ hk=>hk.2) (.int .i64 a0_1)) (fun _ hk=>trivial),by repeat(with_reducible first|exact HB.out|apply zI|apply zG|apply zH|refine zJ ?_ GE137.out|refine zJ ?_ GE138.out|refine zJ ?_ GE139.out)⟩
def laws_toCell.f (a0_0:ByteArray) (a0_1:Int):Option (ByteArray × Int):=some (a0_0,a0_1)
set_option maxHeartbeats 8000000 in
set_option maxRecDepth 100000 in
theorem laws_toCell.calls (a0_0:ByteArray) (a0_1:Int) (r1:ByteArray) (r2:Int) (w:World) (h:laws_toCell.f a0_0 a0_1=some (r1,r2)) :
  Calls Tryz.prog 189 #[.agg #[.string a0_0,.int .i64 a0_1]] w fun e w'=>e=.returned (.agg #[.string r1,.int .i64 r2])∧Below w.heap.size w w':=by
 have hu198:=Tryz.underlying198;have hu151:=Tryz.underlying151;have HB:=Aside0.mk (Below.refl w.heap.size w)
 have H:(some (a0_0,a0_1))=some (r1,r2):=h
 clear h;simp only [Option.some.injEq,Prod.mk.injEq] at H;obtain⟨rfl,rfl⟩:=H;go_enter Tryz.func189,Tryz.ntmps189
 go_wp2_with (first|((with_reducible refine gate_dst (N:=1) rfl ?_);refine yE (N:=1) (cs:=#[.string a0_0,.int .i64 a0_1]) (t:=198) fun gb143 hg w2 hbox hb=>?_;obtain⟨n0_,n2_⟩:=yX (w:=w) hg hb (by repeat(with_reducible first|exact HB.out|apply zI|apply zG|apply zH));have n1_:=Aside0.mk (hbox);have n3_:=n2_;clear HB;have HB:=n0_;have BK143:=n1_;have GW143:=n2_;have GE143:=n3_;clear n0_ n1_ n2_ n3_;clear hb hbox hg)|((with_reducible refine gate_dst (N:=2) rfl ?_);refine yE (N:=2) (cs:=#[.string (⟨#[]⟩:ByteArray),.int .i64 0]) (t:=151) fun gb144 hg w3 hbox hb=>?_;obtain⟨n0_,n5_,n6_⟩:=yY (g:=gb143) (o:=.cells #[.string a0_0,.int .i64 a0_1] 198 (0,0)) hg hb (by(with_reducible repeat(first|apply zA|apply zC|apply zB));exact BK143.out);obtain⟨n1_,n3_⟩:=yX (w:=w) hg hb (by repeat(with_reducible first|exact HB.out|apply zI|apply zG|apply zH|refine zJ ?_ GE143.out));have n2_:=Aside0.mk (hbox);have n4_:=n3_;clear BK143;clear HB;have BK143:=n0_;have HB:=n1_;have BK144:=n2_;have GW144:=n3_;have GE144:=n4_;have NB143_144:=n5_;have NB144_143:=n6_;clear n0_ n1_ n2_ n3_ n4_ n5_ n6_;clear hb hbox hg)|((with_reducible refine gate_dst (N:=3) rfl ?_);refine yE (N:=3) (cs:=#[.string (⟨#[]⟩:ByteArray),.int .i64 0]) (t:=151) fun gb145 hg w4 hbox hb=>?_;obtain⟨n0_,n6_,n7_⟩:=yY (g:=gb143) (o:=.cells #[.string a0_0,.int .i64 a0_1] 198 (0,0)) hg hb (by(with_reducible repeat(first|apply zA|apply zC|apply zB));exact BK143.out);obtain⟨n1_,n8_,n9_⟩:=yY (g:=gb144) (o:=.cells #[.string (⟨#[]⟩:ByteArray),.int .i64 0] 151 (0,0)) hg hb (by(with_reducible repeat(first|apply zA|apply zC|apply zB));exact BK144.out);obtain⟨n2_,n4_⟩:=yX (w:=w) hg hb (by repeat(with_reducible first|exact HB.out|apply zI|apply zG|apply zH|refine zJ ?_ GE143.out|refine zJ ?_ GE144.out));have n3_:=Aside0.mk (hbox);have n5_:=n4_;clear BK143;clear BK144;clear HB;have BK143:=n0_;have BK144:=n1_;have HB:=n2_;have BK145:=n3_;have GW145:=n4_;have GE145:=n5_;have NB143_145:=n6_;have NB145_143:=n7_;have NB144_145:=n8_;have NB145_144:=n9_;clear n0_ n1_ n2_ n3_ n4_ n5_ n6_ n7_ n8_ n9_;clear hb hbox hg;have hnb5:=NB143_144.out;have hnc5:=NB144_143.out;have hnb6:=NB143_145.out;have hnc6:=NB145_143.out;obtain⟨hcz7_0,hcz7_1,hfz7_0,hfz7_1⟩:=zb2 BK143.out;have hnb8:=NB145_144.out;have hnc8:=NB144_145.out;obtain⟨hcz9_0,hcz9_1,hfz9_0,hfz9_1⟩:=zb2 BK145.out;obtain⟨hcz10_0,hcz10_1,hfz10_0,hfz10_1⟩:=zb2 BK144.out))
 refine bodyPost_ret (results_cell_row rfl _ _ gb144 151 #[.string a0_0,.int .i64 a0_1] (0,0) _ rfl (by(with_reducible repeat(first|apply zA|apply zC|apply zB));refine blk_put (cs:=#[.string a0_0,.int .i64 0]) ?_ 1 _ rfl;(with_reducible repeat(first|apply zA|apply zC|apply zB));refine blk_put (cs:=#[.string (⟨#[]⟩:ByteArray),.int .i64 0]) ?_ 0 _ rfl;(with_reducible repeat(first|apply zA|apply zC|apply zB));refine zT ?_ NB144_145.out _;(with_reducible repeat(first|apply zA|apply zC|apply zB));refine zT ?_ NB144_145.out _;(with_reducible repeat(first|apply zA|apply zC|apply zB));exact BK144.out) Tryz.underlying151 rfl (by kernel_rfl)) rfl ?_
 exact⟨by first|rfl|(simp[errW_none,errW_some] <;> rfl)|(simp[*,errW_none,errW_some] <;> rfl),by repeat(with_reducible first|exact HB.out|apply zI|apply zG|apply zH|refine zJ ?_ GE143.out|refine zJ ?_ GE144.out|refine zJ ?_ GE145.out)⟩
def laws_toCellS.l0:Nat→List (S198)→List (S151)→Int→Option ((List (S151)))
|0,_,_,_=>none
|k+1,x0,x3,x4=>if x4 < (x0.length:Int) then (if 0≤x4 then ((laws_toCell.f ((rd_T198 x0 x4).f0) ((rd_T198 x0 x4).f1)).bind fun bt150=>(if x4 < (x3.length:Int) then (laws_toCellS.l0 k x0 (x3.set (x4:Int).toNat (⟨bt150.1,bt150.2⟩:S151)) (wrap64 (x4+1))) else (none))) else (none)) else (some x3)
def laws_toCellS.f (k:Nat) (l0:List (S198)):Option ((List (S151))):=if 0≤(l0.length:Int) then (if ((l0.length:Int):Int).toNat≤11728124029610 then (laws_toCellS.l0 k l0 (List.replicate ((l0.length:Int):Int).toNat z151) 0) else (none)) else (none)
set_option maxHeartbeats 8000000 in
set_option maxRecDepth 100000 in
theorem laws_toCellS.calls (k:Nat) (A0:Option Addr) (c0:Nat) (l0:List (S198)) (r:List (S151)) (w:World) (hr0:Kd.C k198 w A0 l0.length l0) (hc0:l0.length≤c0) (h:laws_toCellS.f k l0=some r) :
  Calls Tryz.prog 122 #[.slice A0 l0.length c0] w fun e w'=>∃ v0_:Value,e=.returned (v0_)∧Kd.R k151 151 w' w.heap.size (fun _=>True) v0_ r∧Below w.heap.size w w':=by
 have hu198:=Tryz.underlying198;have hu151:=Tryz.underlying151;have HR0:=Aside0.mk hr0
 have HC0:=Aside0.mk hc0
 clear hr0 hc0;have HB:=Aside0.mk (Below.refl w.heap.size w)
 have H:(if 0≤(l0.length:Int) then (if ((l0.length:Int):Int).toNat≤11728124029610 then (laws_toCellS.l0 k l0 (List.replicate ((l0.length:Int):Int).toNat z151) 0) else (none)) else (none))=some r:=h
 clear h;by_cases c2:0≤(l0.length:Int)
 ·rw[if_pos c2] at H
  have c2b0:=eq_true c2
  have c2b1:decide (0≤(l0.length:Int))=true:=decide_eq_true c2
  clear c2;by_cases c3:((l0.length:Int):Int).toNat≤11728124029610
  ·rw[if_pos c3] at H
   have c3b0:=eq_true c3
   have c3b1:decide (((l0.length:Int):Int).toNat≤11728124029610)=true:=decide_eq_true c3
   clear c3;obtain⟨y146,hy146⟩:∃ y_:List (S151),y_=(List.replicate ((l0.length:Int):Int).toNat z151):=⟨_,rfl⟩
   replace H:(laws_toCellS.l0 k l0 y146 0)=some r:=by first|(rw[hy146];with_reducible exact H)|(have H2_:=(Option.bind_some _ _).symm.trans H;rw[hy146];with_reducible exact H2_)|(have H2_:=(Option.bind_some _ _).symm.trans H;with_reducible exact H2_)|with_reducible exact H|(rw[hy146];exact H)|exact H
   have Ny146:=Aside0.mk hy146
   clear hy146;have H':=Aside0.mk H
   clear H;go_enter Tryz.func122,Tryz.ntmps122
   go_wp2_with (first|((with_reducible refine gate_dst (N:=7) rfl ?_);refine Kd.R_make k151 _ 151 rfl (N:=7) rfl 43 _ _ rfl (l0.length:Int) rfl rfl Tryz.underlying43 (.agg #[(.string ⟨#[]⟩),(.int .i64 0)]) 24 info151 rfl (by decide) (by omega) z151 (ok:=fun _=>True) (okp:=fun _=>True) (k151_mkM _ _ _ z151 ) (fun _ hk=>hk) trivial (of_decide_eq_true (by assumption)) (Nat.le_trans (Nat.mul_le_mul_right _ (of_decide_eq_true (by assumption):(l0.length:Int).toNat≤11728124029610)) (by omega)) (Below.refl _ _) (Nat.le_refl _) ?_;intro v147 w4 ho5 hb hg_ hnew_;clear hg_ hnew_;(first|rw[← Ny146.out] at ho5|(simp only [Int.reduceToNat] at ho5;rw[← Ny146.out] at ho5));have n0_:=Aside0.mk (Kd.R_lower ho5 (below_size (by repeat(with_reducible first|exact HB.out|apply zI|apply zG|apply zH))));have n1_:=Aside0.mk (zN (by repeat(with_reducible first|exact HB.out|apply zI|apply zG|apply zH)) hb);clear HB;have HO148:=n0_;have HB:=n1_;clear n0_ n1_;clear hb ho5))
   go_loopg [4] k (fun kq v4 w'=>∃ (x3_1:List (S151)) (x4_1:Int),v4=.int .i64 x4_1∧Aside0 (laws_toCellS.l0 kq l0 x3_1 x4_1=some r)∧Aside0 (kq≤k)∧Aside0 (Kd.R k151 151 w' w.heap.size (fun _=>True) v147 x3_1)∧Aside0 (Below w.heap.size w w'))
   case atStart=>exact⟨(y146),(0),(by first|rfl|simp[*]),H',⟨Nat.le_refl _⟩,⟨by(with_reducible repeat(first|apply zE|apply zD|apply zF));exact HO148.out⟩,⟨by repeat(with_reducible first|exact HB.out|apply zI|apply zG|apply zH)⟩⟩
   case round =>
    clear H';obtain⟨x3_1,x4_1,rfl,HA,HK1,HO_3,HB⟩:=hrel;cases gk with
   |zero=>exact absurd HA.out (by simp[laws_toCellS.l0])
   |succ k1 =>
     have H:=HA.out;clear HA;simp only [laws_toCellS.l0] at H;by_cases c6:x4_1 < (l0.length:Int)
     ·rw[if_pos c6] at H
      have c6b0:decide (x4_1 < (l0.length:Int))=true:=decide_eq_true c6
      clear c6;by_cases c7:0≤x4_1
      ·rw[if_pos c7] at H
       have c7b0:decide (0≤x4_1)=true:=decide_eq_true c7
       clear c7;replace H:=Option.bind_eq_some_iff.mp H;obtain⟨⟨t150,t151⟩,A80,H⟩:=H;replace H:(if x4_1 < (x3_1.length:Int) then (laws_toCellS.l0 k1 l0 (x3_1.set (x4_1:Int).toNat (⟨t150,t151⟩:S151)) (wrap64 (x4_1+1))) else (none))=some r:=H
       have A8:=Aside0.mk A80
       clear A80;by_cases c9:x4_1 < (x3_1.length:Int)
       ·rw[if_pos c9] at H
        have c9b0:decide (x4_1 < (x3_1.length:Int))=true:=decide_eq_true c9
        clear c9;obtain⟨y152,hy152⟩:∃ y_:List (S151),y_=(x3_1.set (x4_1:Int).toNat (⟨t150,t151⟩:S151)):=⟨_,rfl⟩
        replace H:(laws_toCellS.l0 k1 l0 y152 (wrap64 (x4_1+1)))=some r:=by first|(rw[hy152];with_reducible exact H)|(have H2_:=(Option.bind_some _ _).symm.trans H;rw[hy152];with_reducible exact H2_)|(have H2_:=(Option.bind_some _ _).symm.trans H;with_reducible exact H2_)|with_reducible exact H|(rw[hy152];exact H)|exact H
        have Ny152:=Aside0.mk hy152
        clear hy152;have H':=Aside0.mk H
        clear H;have p149:0≤(x4_1:Int):=of_decide_eq_true (by assumption)
        have q149:x4_1 < (l0.length:Int):=of_decide_eq_true (by assumption)
        obtain⟨ad149,e149,hx149_0,hx149_1⟩:=at_T198 HR0.out x4_1 p149 q149;cases e149
        replace hx149_0:=zc1 HB.out hx149_0;replace hx149_1:=zc1 HB.out hx149_1;replace p149:=eq_true p149;replace q149:=eq_true q149;go_wp2_with (first|((with_reducible refine gate_callee (f:=189) rfl ?_);refine goesL_ (some 20) rfl rfl Tryz.func189 (by kernel_rfl) rfl #[.agg #[.string ((rd_T198 l0 x4_1).f0),.int .i64 ((rd_T198 l0 x4_1).f1)]] rfl (by(try simp only [List.map_toArray,List.map_cons,List.map_nil]);first|done|rfl|(simp only [List.length_drop,List.length_take];rfl)) ?_;(with_reducible refine(laws_toCell.calls ((rd_T198 l0 x4_1).f0) ((rd_T198 l0 x4_1).f1) t150 t151 _ A8.out).mono ?_);rintro e w11 ⟨rfl,hb⟩;refine⟨_,rfl,?_⟩;have n0_:=Aside0.mk (zM (by(with_reducible repeat(first|apply zE|apply zD|apply zF));exact HO_3.out) hb);have n1_:=Aside0.mk (zN (by repeat(with_reducible first|exact HB.out|apply zI|apply zG|apply zH)) hb);clear HO_3;clear HB;have HO_3:=n0_;have HB:=n1_;clear n0_ n1_;(try clear hb);(try clear hb2);(try clear hk);(try clear hi);have p10:0≤(x4_1:Int):=of_decide_eq_true (by assumption);have q10:(x4_1:Int) < ((x3_1.length:Int):Int):=of_decide_eq_true (by assumption);obtain⟨go10,co10,eo10,gb10,gl10,cl10,HG10⟩:=Kd.R_form HO_3.out (by omega);(first|cases eo10|(injection eo10 with ea_ en_ ec_;(first|subst ea_|(injection ea_ with ea_;subst ea_));subst ec_;clear en_));have GB10:=Aside0.mk gb10;have GG10:=Aside0.mk HG10;clear gb10 gl10 HG10;obtain⟨ce10,hcl10,hM10,hcc10,hfr10⟩:=Kd.R_elem HO_3.out z151 (x4_1:Int) p10 q10;obtain rfl:=k151_openM hM10;have hx10_0:w11.cell? ⟨go10,(x4_1:Int).toNat * 2,none⟩=some (.string ((rd_T151 x3_1 x4_1).f0)):=hcc10 0 _ rfl;have hx10_1:w11.cell? ⟨go10,(x4_1:Int).toNat * 2+1,none⟩=some (.int .i64 ((rd_T151 x3_1 x4_1).f1)):=hcc10 1 _ rfl;have hf10_0:w11.frozen? ⟨go10,(x4_1:Int).toNat * 2,none⟩=false:=hfr10 0;have hf10_1:w11.frozen? ⟨go10,(x4_1:Int).toNat * 2+1,none⟩=false:=hfr10 1;clear hcl10 hcc10 hfr10 hM10;replace p10:=eq_true p10;replace q10:=eq_true q10;have HX12:=Aside0.mk (show Kd.R k151 151 w11 w.heap.size (fun _=>True) (.slice (some ⟨go10,0,none⟩) x3_1.length co10) x3_1 from(by(with_reducible repeat(first|apply zE|apply zD|apply zF));exact HO_3.out));obtain⟨ce12,hcl12,hM12,hcc12,hfr12⟩:=Kd.R_elem HX12.out z151 (x4_1:Int) (of_decide_eq_true (by assumption)) (by have h_:(x4_1:Int) < ((x3_1.length:Int):Int):=of_decide_eq_true (by assumption);first|exact h_|(have e_:=(Kd.R_reads' HO_3.out).1;omega)|simpa using h_);obtain rfl:=k151_openM hM12;have HP12:=Kd.R_seg HX12.out (x4_1:Int) (of_decide_eq_true (by assumption)) (by have h_:(x4_1:Int) < ((x3_1.length:Int):Int):=of_decide_eq_true (by assumption);first|exact h_|(have e_:=(Kd.R_reads' HO_3.out).1;omega)|simpa using h_) (seg:=[.string t150,.int .i64 t151]) (j:=0) hcl12 hcc12 (show 2≤2 from by decide) (x':=(⟨t150,t151⟩:S151)) (k151_mkM _ _ _ (⟨t150,t151⟩:S151) ) (fun _ hk=>hk);have hx12_0:=hcc12 0 _ rfl;(try simp only [show(k151).sz=2 from rfl,Nat.mul_one,Nat.add_zero] at hx12_0);have hf12_0:=hfr12 0;(try simp only [show(k151).sz=2 from rfl,Nat.mul_one,Nat.add_zero] at hf12_0);have hx12_1:=hcc12 1 _ rfl;(try simp only [show(k151).sz=2 from rfl,Nat.mul_one,Nat.add_zero] at hx12_1);have hf12_1:=hfr12 1;(try simp only [show(k151).sz=2 from rfl,Nat.mul_one,Nat.add_zero] at hf12_1);clear hcl12 hcc12 hfr12 hM12)|((with_reducible refine gate_store (t:=151) (p:=21) rfl ?_);refine store_event (t:=151) (p:=21) (v:=?vo_w13) (w1:=((w11.setCell ⟨go10,(x4_1:Int).toNat * 2,none⟩ (.string t150)).setCell ⟨go10,(x4_1:Int).toNat * 2+1,none⟩ (.int .i64 t151))) ?hg ?ho ?hn ?hr ?_;(case ho=>rfl);(case hg=>rfl);(case hn=>rfl);(case hr=>first|(go_simp;done)|(go_simp;rfl));intro w13 hw;have hg:w11.grownBy w13 (some go10):=(by rw[hw];exact HP12.2);have hp_:Kd.R k151 151 w13 w.heap.size (fun _=>True) (.slice (some ⟨go10,0,none⟩) x3_1.length co10) y152:=(by rw[hw,Ny152.out];exact HP12.1);clear HP12;have n0_:=Aside0.mk (hp_);have n1_:=Aside0.mk ((by rw[hw];exact zJ (zJ (HB.out) GB10.out) GB10.out:Below w.heap.size w w13));clear HO_3;clear HB;have HO_3:=n0_;have HB:=n1_;clear n0_ n1_;clear hg hw hp_))
        go_roundg k1
        case measure=>have:=HK1.out;omega
        case rel=>exact⟨(y152),(wrap64 (x4_1+1)),(by first|rfl|simp[*]),H',⟨by have:=HK1.out;omega⟩,⟨by(with_reducible repeat(first|apply zE|apply zD|apply zF));exact HO_3.out⟩,⟨by repeat(with_reducible first|exact HB.out|apply zI|apply zG|apply zH)⟩⟩
       ·rw[if_neg c9] at H
        exact absurd H (by simp)
      ·rw[if_neg c7] at H
       exact absurd H (by simp)
     ·rw[if_neg c6] at H
      have c6b0:decide (x4_1 < (l0.length:Int))=false:=decide_eq_false c6
      clear c6;obtain rfl:=Option.some.inj H;go_wp2
      go_ret
      exact⟨_,by first|rfl|(simp[errW_none,errW_some] <;> rfl)|(simp[*,errW_none,errW_some] <;> rfl),by(with_reducible repeat(first|apply zE|apply zD|apply zF));exact HO_3.out,by repeat(with_reducible first|exact HB.out|apply zI|apply zG|apply zH)⟩
  ·rw[if_neg c3] at H
   exact absurd H (by simp)
 ·rw[if_neg c2] at H
  exact absurd H (by simp)
end Go.Proofs.YtediiolcoilepaaGreat.GNear
