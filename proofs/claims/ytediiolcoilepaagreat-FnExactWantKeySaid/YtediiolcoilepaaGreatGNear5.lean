/- Walks of callees. -/
import Derived.Test.YtediiolcoilepaaGreatGNear0
import Derived.Test.YtediiolcoilepaaGreatGNear1
import Derived.Test.YtediiolcoilepaaGreatGNear3
import Derived.Test.YtediiolcoilepaaGreatGNear4
namespace Go.Proofs.YtediiolcoilepaaGreat.GNear
set_option maxHeartbeats 8000000
set_option maxRecDepth 100000
open Go.RowKit Go.Proofs.YtediiolcoilepaaGreatW.PrintWords Go.Proofs.YtediiolcoilepaaGreatW.PrintLast Go.Proofs.YtediiolcoilepaaGreatW.PrintMore
attribute [local go_sem] max2_int min2_int max_two min_two max_three min_three max_four min_four
set_option linter.unusedVariables false
set_option linter.unusedSimpArgs false
theorem zc5 {w w1:World} {a:Addr} {v:Value} (hb:Below w.heap.size w w1) (h:w.cell? a=some v):w1.cell? a=some v:=(hb.cell (World.block_lt_of_cell? w _ h)).trans h
attribute [local go_sem high] eqA151
mutual
def impl_seek.l0:Nat→List (S151)→ByteArray→Int→Int→Int→Option (Int)
|0,_,_,_,_,_=>none
|k+1,x0,x1,x5,x16,x17=>if x17 < x16 then (if 0≤x5 then (if x5 < (x0.length:Int) then (if ((rd_T151 x0 x5).f0).toList=x1.toList then (impl_seek.j1 k x0 x1 x5 x16 x17 (x1.toList != ([]:List UInt8)) ((rd_T151 x0 x5).f0) ((rd_T151 x0 x5).f1)) else (impl_seek.j1 k x0 x1 x5 x16 x17 false ((rd_T151 x0 x5).f0) ((rd_T151 x0 x5).f1))) else (none)) else (none)) else (some (-1))
def impl_seek.j1:Nat→List (S151)→ByteArray→Int→Int→Int→Bool→ByteArray→Int→Option (Int)
|0,_,_,_,_,_,_,_,_=>none
|k+1,x0,x1,x5,x16,x17,x23,x363000,x363001=>if x23=true then (some x5) else (if x363000.toList=([]:List UInt8) then (if x363001=(-1) then (some (-1)) else (if (x0.length:Int)=0 then (none) else (impl_seek.l0 k x0 x1 (Int.tmod (wrap64 (x5+1)) (x0.length:Int)) x16 (wrap64 (x17+1))))) else (if (x0.length:Int)=0 then (none) else (impl_seek.l0 k x0 x1 (Int.tmod (wrap64 (x5+1)) (x0.length:Int)) x16 (wrap64 (x17+1)))))
end
def impl_seek.f (k:Nat) (l0:List (S151)) (a1:ByteArray):Option (Int):=if (l0.length:Int)=0 then (some (-1)) else ((impl_HashOf.f k a1 0).bind fun t360=>(impl_seek.l0 k l0 a1 (Int.tmod t360 (l0.length:Int)) (l0.length:Int) 0))
theorem impl_seek.calls (k:Nat) (A0:Option Addr) (c0:Nat) (l0:List (S151)) (a1:ByteArray) (r:Int) (w:World) (hr0:Kd.C k151 w A0 l0.length l0) (hc0:l0.length≤c0) (h:impl_seek.f k l0 a1=some r) :
  Calls Tryz.prog 134 #[.slice A0 l0.length c0,.string a1] w fun e w'=>e=.returned (.int .i64 r)∧Below w.heap.size w w':=by
 have hu151:=Tryz.underlying151;have HR0:=Aside0.mk hr0;have HC0:=Aside0.mk hc0;clear hr0 hc0;have HB:=Aside0.mk (Below.refl w.heap.size w);unfold impl_seek.f at h;have H:=h;clear h;by_cases c3:(l0.length:Int)=0
 ·rw[if_pos c3] at H
  have c3b0:((l0.length:Int) == 0)=true:=beq_iff_eq.mpr c3;have c3b1:((l0.length:Int) != 0)=false:=bne_eq_false_iff_eq.mpr c3;clear c3;obtain rfl:=Option.some.inj H;go_enter Tryz.func134,Tryz.ntmps134
  go_wp2
  go_ret;exact⟨mr,mq⟩
 ·rw[if_neg c3] at H
  have c3b0:((l0.length:Int) == 0)=false:=beq_eq_false_iff_ne.mpr c3;have c3b1:((l0.length:Int) != 0)=true:=bne_iff_ne.mpr c3;have c3b2:¬ (l0 = []):=fun h_=>c3 (by rw[h_];rfl);replace H:=Option.bind_eq_some_iff.mp H;obtain⟨t360,A40,H⟩:=H;(try dsimp only at H)
  have A4:=Aside0.mk A40;clear A40;have H':=Aside0.mk H;clear H;go_enter Tryz.func134,Tryz.ntmps134;go_wp2_with (first|((with_reducible refine gate_callee (f:=206) rfl ?_);refine goesL_ (some 11) rfl rfl Tryz.func206 (by kernel_rfl) rfl #[.string a1,.int .i64 0] rfl ml ?_;(with_reducible refine(impl_HashOf.calls k a1 0 t360 _ A4.out).mono ?_);rintro e w5 ⟨rfl,hb⟩;refine⟨_,rfl,?_⟩;have n0_:=Aside0.mk (zN mq hb);clear HB;have HB:=n0_;clear n0_;(try clear hb);(try clear hb2);(try clear hk);(try clear hi)))
  go_loopg [5,17] k (fun kq v5 v17 w'=>∃ (x5_1:Int) (x17_1:Int),v5=.int .i64 x5_1∧v17=.int .i64 x17_1∧Aside0 (impl_seek.l0 kq l0 a1 x5_1 (l0.length:Int) x17_1=some r)∧Aside0 (kq≤k)∧Aside0 (Below w.heap.size w w'))
  case atStart=>exact⟨(Int.tmod t360 (l0.length:Int)),(0),mt,mt,H',⟨Nat.le_refl _⟩,⟨mq⟩⟩
  case round =>
   clear H';obtain⟨x5_1,x17_1,rfl,rfl,HA,HK1,HB⟩:=hrel;cases gk with
  |zero=>exact absurd HA.out (by simp[impl_seek.l0])
  |succ k1 =>
    have H:=HA.out;clear HA;simp only [impl_seek.l0] at H;by_cases c6:x17_1 < (l0.length:Int)
    ·rw[if_pos c6] at H
     have c6b0:decide (x17_1 < (l0.length:Int))=true:=decide_eq_true c6;clear c6;by_cases c7:0≤x5_1
     ·rw[if_pos c7] at H
      have c7b0:decide (0≤x5_1)=true:=decide_eq_true c7;clear c7;by_cases c8:x5_1 < (l0.length:Int)
      ·rw[if_pos c8] at H
       have c8b0:decide (x5_1 < (l0.length:Int))=true:=decide_eq_true c8;clear c8;have HC9:=Aside0.mk H;clear H;have p361:0≤(x5_1:Int):=mo;have q361:x5_1 < (l0.length:Int):=mo;obtain⟨ad361,e361,hx361_0,hx361_1⟩:=at_T151 (Kd.C_below HR0.out HB.out) x5_1 p361 q361;cases e361;replace p361:=eq_true p361;replace q361:=eq_true q361;go_upto_region 7 with (first|((with_reducible refine gate_dst (N:=6) rfl ?_);refine yE (N:=6) (cs:=#[.string (⟨#[]⟩:ByteArray),.int .i64 0]) (t:=151) fun gb362 hg w10 hbox hb=>?_;obtain⟨n0_,n2_⟩:=yX (w:=w) hg hb mq;have n1_:=Aside0.mk (hbox);have n3_:=n2_;clear HB;have HB:=n0_;have BK362:=n1_;have GW362:=n2_;have GE362:=n3_;clear n0_ n1_ n2_ n3_;clear hb hbox hg;obtain⟨hcz11_0,hcz11_1,hfz11_0,hfz11_1⟩:=zb2 BK362.out))
       (try simp only [Act.put,List.setIfInBounds_toArray,List.set_cons_zero,List.set_cons_succ])
       go_cut [23] (fun v23 wc=>∃ (kq:Nat) (x23_8:Bool),v23=.bool x23_8∧Aside0 (impl_seek.j1 kq l0 a1 x5_1 (l0.length:Int) x17_1 x23_8 ((rd_T151 l0 x5_1).f0) ((rd_T151 l0 x5_1).f1)=some r)∧Aside0 (kq≤k1)∧Aside0 (wc.heap[gb362]? = some (.cells #[.string ((rd_T151 l0 x5_1).f0),.int .i64 ((rd_T151 l0 x5_1).f1)] 151 (0,0)))∧Aside0 (Below w.heap.size w wc))
       case first =>
        have H:=HC9.out;clear HC9;by_cases c12:((rd_T151 l0 x5_1).f0).toList=a1.toList
        ·rw[if_pos c12] at H
         have c12b0:(((rd_T151 l0 x5_1).f0).toList == a1.toList)=true:=beq_iff_eq.mpr c12;have c12b1:(((rd_T151 l0 x5_1).f0).toList != a1.toList)=false:=bne_eq_false_iff_eq.mpr c12;clear c12;(first|rw[c12b0]|(simp only [i64_w,i32_w];rw[c12b0])|skip)
         have H':=Aside0.mk H;clear H;obtain⟨hcz13_0,hcz13_1,hfz13_0,hfz13_1⟩:=zb2 BK362.out;go_wp2
         go_meet
         case rel=>exact⟨_,((a1.toList != ([]:List UInt8))),(by first|rfl|(simp;done)|(simp[*];done)|(simp[*];generalize ByteArray.toList _=l_;cases l_ <;> rfl)),H',⟨by have:=HK1.out;first|omega|exact Nat.le_refl _⟩,⟨by(with_reducible repeat(first|apply zA|apply zC|apply zB));refine blk_put (cs:=#[.string ((rd_T151 l0 x5_1).f0),.int .i64 0]) ?_ 1 _ rfl;(with_reducible repeat(first|apply zA|apply zC|apply zB));refine blk_put (cs:=#[.string (⟨#[]⟩:ByteArray),.int .i64 0]) ?_ 0 _ rfl;(with_reducible repeat(first|apply zA|apply zC|apply zB));exact BK362.out⟩,⟨mq⟩⟩
        ·rw[if_neg c12] at H
         have c12b0:(((rd_T151 l0 x5_1).f0).toList == a1.toList)=false:=beq_eq_false_iff_ne.mpr c12;have c12b1:(((rd_T151 l0 x5_1).f0).toList != a1.toList)=true:=bne_iff_ne.mpr c12
         (first|rw[c12b0]|(simp only [i64_w,i32_w];rw[c12b0])|skip)
         have H':=Aside0.mk H;clear H;obtain⟨hcz14_0,hcz14_1,hfz14_0,hfz14_1⟩:=zb2 BK362.out;go_wp2
         go_meet
         case rel=>exact⟨_,(false),mt,H',⟨by have:=HK1.out;first|omega|exact Nat.le_refl _⟩,⟨by(with_reducible repeat(first|apply zA|apply zC|apply zB));refine blk_put (cs:=#[.string ((rd_T151 l0 x5_1).f0),.int .i64 0]) ?_ 1 _ rfl;(with_reducible repeat(first|apply zA|apply zC|apply zB));refine blk_put (cs:=#[.string (⟨#[]⟩:ByteArray),.int .i64 0]) ?_ 0 _ rfl;(with_reducible repeat(first|apply zA|apply zC|apply zB));exact BK362.out⟩,⟨mq⟩⟩
       case rest =>
        clear HC9;obtain⟨kq,x23_8,rfl,HA,HJ8,BK362,HB⟩:=hcut;cases kq with
       |zero=>exact absurd HA.out (by simp[impl_seek.j1])
       |succ kj8 =>
         have H:=HA.out;clear HA;simp only [impl_seek.j1] at H;by_cases c15:x23_8=true
         ·subst c15
          rw[if_pos rfl] at H;obtain rfl:=Option.some.inj H;go_wp2
          go_ret;exact⟨mr,mq⟩
         ·replace c15:=Bool.eq_false_iff.mpr c15
          subst c15;rw[if_neg (show ¬ (false=true) by decide)] at H;by_cases c16:((rd_T151 l0 x5_1).f0).toList=([]:List UInt8)
          ·rw[if_pos c16] at H
           have c16b0:(((rd_T151 l0 x5_1).f0).toList == ([]:List UInt8))=true:=beq_iff_eq.mpr c16;have c16b1:(((rd_T151 l0 x5_1).f0).toList != ([]:List UInt8))=false:=bne_eq_false_iff_eq.mpr c16;clear c16;by_cases c17:((rd_T151 l0 x5_1).f1)=(-1)
           ·rw[if_pos c17] at H
            have c17b0:(((rd_T151 l0 x5_1).f1) == (-1))=true:=beq_iff_eq.mpr c17;have c17b1:(((rd_T151 l0 x5_1).f1) != (-1))=false:=bne_eq_false_iff_eq.mpr c17;clear c17;obtain rfl:=Option.some.inj H;obtain⟨hcz18_0,hcz18_1,hfz18_0,hfz18_1⟩:=zb2 BK362.out;go_wp2
            go_ret;exact⟨mr,mq⟩
           ·rw[if_neg c17] at H
            have c17b0:(((rd_T151 l0 x5_1).f1) == (-1))=false:=beq_eq_false_iff_ne.mpr c17;have c17b1:(((rd_T151 l0 x5_1).f1) != (-1))=true:=bne_iff_ne.mpr c17
            by_cases c19:(l0.length:Int)=0
            ·rw[if_pos c19] at H
             exact absurd H (by simp)
            ·rw[if_neg c19] at H
             have c19b0:((l0.length:Int) == 0)=false:=beq_eq_false_iff_ne.mpr c19;have c19b1:((l0.length:Int) != 0)=true:=bne_iff_ne.mpr c19;have c19b2:¬ (l0 = []):=fun h_=>c19 (by rw[h_];rfl);have H':=Aside0.mk H;clear H;obtain⟨hcz20_0,hcz20_1,hfz20_0,hfz20_1⟩:=zb2 BK362.out;go_wp2
             go_roundg kj8
             case measure=>have:=HK1.out;have:=HJ8.out;omega
             case rel=>exact⟨(Int.tmod (wrap64 (x5_1+1)) (l0.length:Int)),(wrap64 (x17_1+1)),mt,mt,H',⟨by have:=HK1.out;have:=HJ8.out;omega⟩,⟨mq⟩⟩
          ·rw[if_neg c16] at H
           have c16b0:(((rd_T151 l0 x5_1).f0).toList == ([]:List UInt8))=false:=beq_eq_false_iff_ne.mpr c16;have c16b1:(((rd_T151 l0 x5_1).f0).toList != ([]:List UInt8))=true:=bne_iff_ne.mpr c16
           by_cases c21:(l0.length:Int)=0
           ·rw[if_pos c21] at H
            exact absurd H (by simp)
           ·rw[if_neg c21] at H
            have c21b0:((l0.length:Int) == 0)=false:=beq_eq_false_iff_ne.mpr c21;have c21b1:((l0.length:Int) != 0)=true:=bne_iff_ne.mpr c21;have c21b2:¬ (l0 = []):=fun h_=>c21 (by rw[h_];rfl);have H':=Aside0.mk H;clear H;obtain⟨hcz22_0,hcz22_1,hfz22_0,hfz22_1⟩:=zb2 BK362.out;go_wp2
            go_roundg kj8
            case measure=>have:=HK1.out;have:=HJ8.out;omega
            case rel=>exact⟨(Int.tmod (wrap64 (x5_1+1)) (l0.length:Int)),(wrap64 (x17_1+1)),mt,mt,H',⟨by have:=HK1.out;have:=HJ8.out;omega⟩,⟨mq⟩⟩
      ·rw[if_neg c8] at H
       exact absurd H (by simp)
     ·rw[if_neg c7] at H
      exact absurd H (by simp)
    ·rw[if_neg c6] at H
     have c6b0:decide (x17_1 < (l0.length:Int))=false:=decide_eq_false c6;clear c6;obtain rfl:=Option.some.inj H;go_wp2
     go_ret;exact⟨mr,mq⟩
def impl_cellsOk.l0:Nat→List (S151)→List (S151)→Int→Int→Option (Bool)
|0,_,_,_,_=>none
|k+1,x0,x5,x6,x7=>if x7 < x6 then (if 0≤x7 then (if x7 < (x5.length:Int) then (if ((rd_T151 x5 x7).f0).toList=([]:List UInt8) then (if ((rd_T151 x5 x7).f1)=(-1) then (impl_cellsOk.l0 k x0 x5 x6 (wrap64 (x7+1))) else (if ((rd_T151 x5 x7).f1)=(-2) then (impl_cellsOk.l0 k x0 x5 x6 (wrap64 (x7+1))) else (some false))) else ((impl_isKey.f ((rd_T151 x5 x7).f0)).bind fun t365=>(if t365=true then (if ((rd_T151 x5 x7).f1) < 0 then (some false) else ((impl_seek.f k x0 ((rd_T151 x5 x7).f0)).bind fun t366=>(if t366=x7 then (impl_cellsOk.l0 k x0 x5 x6 (wrap64 (x7+1))) else (some false)))) else (some false)))) else (none)) else (none)) else (some true)
def impl_cellsOk.f (k:Nat) (l0:List (S151)):Option (Bool):=impl_cellsOk.l0 k l0 l0 (l0.length:Int) 0
theorem impl_cellsOk.calls (k:Nat) (A0:Option Addr) (c0:Nat) (l0:List (S151)) (r:Bool) (w:World) (hr0:Kd.C k151 w A0 l0.length l0) (hc0:l0.length≤c0) (h:impl_cellsOk.f k l0=some r) :
  Calls Tryz.prog 192 #[.slice A0 l0.length c0] w fun e w'=>e=.returned (.bool r)∧Below w.heap.size w w':=by
 have hu151:=Tryz.underlying151;have HR0:=Aside0.mk hr0;have HC0:=Aside0.mk hc0;clear hr0 hc0;have HB:=Aside0.mk (Below.refl w.heap.size w);unfold impl_cellsOk.f at h;have H:=h;clear h;have H':=Aside0.mk H;clear H;go_enter Tryz.func192,Tryz.ntmps192
 go_wp2
 go_loopg [7] k (fun kq v7 w'=>∃ (x7_1:Int),v7=.int .i64 x7_1∧Aside0 (impl_cellsOk.l0 kq l0 l0 (l0.length:Int) x7_1=some r)∧Aside0 (kq≤k)∧Aside0 (Below w.heap.size w w'))
 case atStart=>exact⟨(0),mt,H',⟨Nat.le_refl _⟩,⟨mq⟩⟩
 case round =>
  clear H';obtain⟨x7_1,rfl,HA,HK1,HB⟩:=hrel;cases gk with
 |zero=>exact absurd HA.out (by simp[impl_cellsOk.l0])
 |succ k1 =>
   have H:=HA.out;clear HA;simp only [impl_cellsOk.l0] at H;by_cases c2:x7_1 < (l0.length:Int)
   ·rw[if_pos c2] at H
    have c2b0:decide (x7_1 < (l0.length:Int))=true:=decide_eq_true c2;clear c2;by_cases c3:0≤x7_1
    ·rw[if_pos c3] at H
     have c3b0:decide (0≤x7_1)=true:=decide_eq_true c3;clear c3;by_cases c4:x7_1 < (l0.length:Int)
     ·rw[if_pos c4] at H
      have c4b0:decide (x7_1 < (l0.length:Int))=true:=decide_eq_true c4;clear c4;by_cases c5:((rd_T151 l0 x7_1).f0).toList=([]:List UInt8)
      ·rw[if_pos c5] at H
       have c5b0:(((rd_T151 l0 x7_1).f0).toList == ([]:List UInt8))=true:=beq_iff_eq.mpr c5;have c5b1:(((rd_T151 l0 x7_1).f0).toList != ([]:List UInt8))=false:=bne_eq_false_iff_eq.mpr c5;clear c5;by_cases c6:((rd_T151 l0 x7_1).f1)=(-1)
       ·rw[if_pos c6] at H
        have c6b0:(((rd_T151 l0 x7_1).f1) == (-1))=true:=beq_iff_eq.mpr c6;have c6b1:(((rd_T151 l0 x7_1).f1) != (-1))=false:=bne_eq_false_iff_eq.mpr c6;clear c6;have H':=Aside0.mk H;clear H;have p363:0≤(x7_1:Int):=mo;have q363:x7_1 < (l0.length:Int):=mo;obtain⟨ad363,e363,hx363_0,hx363_1⟩:=at_T151 (Kd.C_below HR0.out HB.out) x7_1 p363 q363;cases e363;replace p363:=eq_true p363;replace q363:=eq_true q363;go_wp2_with (first|((with_reducible refine gate_dst (N:=4) rfl ?_);refine yE (N:=4) (cs:=#[.string (⟨#[]⟩:ByteArray),.int .i64 0]) (t:=151) fun gb364 hg w7 hbox hb=>?_;obtain⟨n0_,n2_⟩:=yX (w:=w) hg hb mq;have n1_:=Aside0.mk (hbox);have n3_:=n2_;clear HB;have HB:=n0_;have BK364:=n1_;have GW364:=n2_;have GE364:=n3_;clear n0_ n1_ n2_ n3_;clear hb hbox hg;obtain⟨hcz8_0,hcz8_1,hfz8_0,hfz8_1⟩:=zb2 BK364.out))
        go_roundg k1
        case measure=>have:=HK1.out;omega
        case rel=>exact⟨(wrap64 (x7_1+1)),mt,H',⟨by have:=HK1.out;omega⟩,⟨mq⟩⟩
       ·rw[if_neg c6] at H
        have c6b0:(((rd_T151 l0 x7_1).f1) == (-1))=false:=beq_eq_false_iff_ne.mpr c6;have c6b1:(((rd_T151 l0 x7_1).f1) != (-1))=true:=bne_iff_ne.mpr c6
        by_cases c9:((rd_T151 l0 x7_1).f1)=(-2)
        ·rw[if_pos c9] at H
         have c9b0:(((rd_T151 l0 x7_1).f1) == (-2))=true:=beq_iff_eq.mpr c9;have c9b1:(((rd_T151 l0 x7_1).f1) != (-2))=false:=bne_eq_false_iff_eq.mpr c9;clear c9;have H':=Aside0.mk H;clear H;have p363:0≤(x7_1:Int):=mo;have q363:x7_1 < (l0.length:Int):=mo;obtain⟨ad363,e363,hx363_0,hx363_1⟩:=at_T151 (Kd.C_below HR0.out HB.out) x7_1 p363 q363;cases e363;replace p363:=eq_true p363;replace q363:=eq_true q363;go_wp2_with (first|((with_reducible refine gate_dst (N:=4) rfl ?_);refine yE (N:=4) (cs:=#[.string (⟨#[]⟩:ByteArray),.int .i64 0]) (t:=151) fun gb364 hg w10 hbox hb=>?_;obtain⟨n0_,n2_⟩:=yX (w:=w) hg hb mq;have n1_:=Aside0.mk (hbox);have n3_:=n2_;clear HB;have HB:=n0_;have BK364:=n1_;have GW364:=n2_;have GE364:=n3_;clear n0_ n1_ n2_ n3_;clear hb hbox hg;obtain⟨hcz11_0,hcz11_1,hfz11_0,hfz11_1⟩:=zb2 BK364.out))
         go_roundg k1
         case measure=>have:=HK1.out;omega
         case rel=>exact⟨(wrap64 (x7_1+1)),mt,H',⟨by have:=HK1.out;omega⟩,⟨mq⟩⟩
        ·rw[if_neg c9] at H
         have c9b0:(((rd_T151 l0 x7_1).f1) == (-2))=false:=beq_eq_false_iff_ne.mpr c9;have c9b1:(((rd_T151 l0 x7_1).f1) != (-2))=true:=bne_iff_ne.mpr c9;obtain rfl:=Option.some.inj H;have p363:0≤(x7_1:Int):=mo;have q363:x7_1 < (l0.length:Int):=mo;obtain⟨ad363,e363,hx363_0,hx363_1⟩:=at_T151 (Kd.C_below HR0.out HB.out) x7_1 p363 q363;cases e363;replace p363:=eq_true p363;replace q363:=eq_true q363;go_wp2_with (first|((with_reducible refine gate_dst (N:=4) rfl ?_);refine yE (N:=4) (cs:=#[.string (⟨#[]⟩:ByteArray),.int .i64 0]) (t:=151) fun gb364 hg w12 hbox hb=>?_;obtain⟨n0_,n2_⟩:=yX (w:=w) hg hb mq;have n1_:=Aside0.mk (hbox);have n3_:=n2_;clear HB;have HB:=n0_;have BK364:=n1_;have GW364:=n2_;have GE364:=n3_;clear n0_ n1_ n2_ n3_;clear hb hbox hg;obtain⟨hcz13_0,hcz13_1,hfz13_0,hfz13_1⟩:=zb2 BK364.out));go_ret;exact⟨mr,mq⟩
      ·rw[if_neg c5] at H
       have c5b0:(((rd_T151 l0 x7_1).f0).toList == ([]:List UInt8))=false:=beq_eq_false_iff_ne.mpr c5;have c5b1:(((rd_T151 l0 x7_1).f0).toList != ([]:List UInt8))=true:=bne_iff_ne.mpr c5;replace H:=Option.bind_eq_some_iff.mp H;obtain⟨t365,A140,H⟩:=H;(try dsimp only at H)
       have A14:=Aside0.mk A140;clear A140;by_cases c15:t365=true
       ·subst c15
        rw[if_pos rfl] at H;by_cases c16:((rd_T151 l0 x7_1).f1) < 0
        ·rw[if_pos c16] at H
         have c16b0:decide (((rd_T151 l0 x7_1).f1) < 0)=true:=decide_eq_true c16;clear c16;obtain rfl:=Option.some.inj H;have p363:0≤(x7_1:Int):=mo;have q363:x7_1 < (l0.length:Int):=mo;obtain⟨ad363,e363,hx363_0,hx363_1⟩:=at_T151 (Kd.C_below HR0.out HB.out) x7_1 p363 q363;cases e363;replace p363:=eq_true p363;replace q363:=eq_true q363;go_wp2_with (first|((with_reducible refine gate_dst (N:=4) rfl ?_);refine yE (N:=4) (cs:=#[.string (⟨#[]⟩:ByteArray),.int .i64 0]) (t:=151) fun gb364 hg w17 hbox hb=>?_;obtain⟨n0_,n2_⟩:=yX (w:=w) hg hb mq;have n1_:=Aside0.mk (hbox);have n3_:=n2_;clear HB;have HB:=n0_;have BK364:=n1_;have GW364:=n2_;have GE364:=n3_;clear n0_ n1_ n2_ n3_;clear hb hbox hg;obtain⟨hcz18_0,hcz18_1,hfz18_0,hfz18_1⟩:=zb2 BK364.out)|((with_reducible refine gate_callee (f:=85) rfl ?_);refine goesL_ (some 25) rfl rfl Tryz.func85 (by kernel_rfl) rfl #[.string ((rd_T151 l0 x7_1).f0)] rfl ml ?_;(with_reducible refine(impl_isKey.calls ((rd_T151 l0 x7_1).f0) true _ A14.out).mono ?_);rintro e w' ⟨rfl,⟨nd,rfl⟩⟩;refine⟨_,rfl,?_⟩));go_ret;exact⟨mr,mq⟩
        ·rw[if_neg c16] at H
         have c16b0:decide (((rd_T151 l0 x7_1).f1) < 0)=false:=decide_eq_false c16;clear c16;replace H:=Option.bind_eq_some_iff.mp H;obtain⟨t366,A190,H⟩:=H;(try dsimp only at H)
         have A19:=Aside0.mk A190;clear A190;by_cases c20:t366=x7_1
         ·rw[if_pos c20] at H
          have c20b0:(t366 == x7_1)=true:=beq_iff_eq.mpr c20;have c20b1:(t366 != x7_1)=false:=bne_eq_false_iff_eq.mpr c20;clear c20;have H':=Aside0.mk H;clear H;have p363:0≤(x7_1:Int):=mo;have q363:x7_1 < (l0.length:Int):=mo;obtain⟨ad363,e363,hx363_0,hx363_1⟩:=at_T151 (Kd.C_below HR0.out HB.out) x7_1 p363 q363;cases e363;replace p363:=eq_true p363;replace q363:=eq_true q363;go_wp2_with (first|((with_reducible refine gate_dst (N:=4) rfl ?_);refine yE (N:=4) (cs:=#[.string (⟨#[]⟩:ByteArray),.int .i64 0]) (t:=151) fun gb364 hg w21 hbox hb=>?_;obtain⟨n0_,n2_⟩:=yX (w:=w) hg hb mq;have n1_:=Aside0.mk (hbox);have n3_:=n2_;clear HB;have HB:=n0_;have BK364:=n1_;have GW364:=n2_;have GE364:=n3_;clear n0_ n1_ n2_ n3_;clear hb hbox hg;obtain⟨hcz22_0,hcz22_1,hfz22_0,hfz22_1⟩:=zb2 BK364.out)|((with_reducible refine gate_callee (f:=85) rfl ?_);refine goesL_ (some 25) rfl rfl Tryz.func85 (by kernel_rfl) rfl #[.string ((rd_T151 l0 x7_1).f0)] rfl ml ?_;(with_reducible refine(impl_isKey.calls ((rd_T151 l0 x7_1).f0) true _ A14.out).mono ?_);rintro e w' ⟨rfl,⟨nd,rfl⟩⟩;refine⟨_,rfl,?_⟩)|(go_at_call 134;(with_reducible refine(impl_seek.calls k1 _ _ l0 ((rd_T151 l0 x7_1).f0) t366 _ ?side1 ?side2 A19.out).mono ?_);(case side1=>exact Kd.C_below HR0.out mq);(case side2=>exact HC0.out);rintro e w23 ⟨rfl,hb⟩;have n0_:=Aside0.mk (zK (g:=gb364) (o:=.cells #[.string ((rd_T151 l0 x7_1).f0),.int .i64 ((rd_T151 l0 x7_1).f1)] 151 (0,0)) (by(with_reducible repeat(first|apply zA|apply zC|apply zB));refine blk_put (cs:=#[.string ((rd_T151 l0 x7_1).f0),.int .i64 0]) ?_ 1 _ rfl;(with_reducible repeat(first|apply zA|apply zC|apply zB));refine blk_put (cs:=#[.string (⟨#[]⟩:ByteArray),.int .i64 0]) ?_ 0 _ rfl;(with_reducible repeat(first|apply zA|apply zC|apply zB));exact BK364.out) hb);have n1_:=Aside0.mk (zN mq hb);clear BK364;clear HB;have BK364:=n0_;have HB:=n1_;clear n0_ n1_;(try clear hb);(try clear hb2);(try clear hk);(try clear hi)))
          go_roundg k1
          case measure=>have:=HK1.out;omega
          case rel=>exact⟨(wrap64 (x7_1+1)),mt,H',⟨by have:=HK1.out;omega⟩,⟨mq⟩⟩
         ·rw[if_neg c20] at H
          have c20b0:(t366 == x7_1)=false:=beq_eq_false_iff_ne.mpr c20;have c20b1:(t366 != x7_1)=true:=bne_iff_ne.mpr c20;obtain rfl:=Option.some.inj H;have p363:0≤(x7_1:Int):=mo;have q363:x7_1 < (l0.length:Int):=mo;obtain⟨ad363,e363,hx363_0,hx363_1⟩:=at_T151 (Kd.C_below HR0.out HB.out) x7_1 p363 q363;cases e363;replace p363:=eq_true p363;replace q363:=eq_true q363;go_wp2_with (first|((with_reducible refine gate_dst (N:=4) rfl ?_);refine yE (N:=4) (cs:=#[.string (⟨#[]⟩:ByteArray),.int .i64 0]) (t:=151) fun gb364 hg w24 hbox hb=>?_;obtain⟨n0_,n2_⟩:=yX (w:=w) hg hb mq;have n1_:=Aside0.mk (hbox);have n3_:=n2_;clear HB;have HB:=n0_;have BK364:=n1_;have GW364:=n2_;have GE364:=n3_;clear n0_ n1_ n2_ n3_;clear hb hbox hg;obtain⟨hcz25_0,hcz25_1,hfz25_0,hfz25_1⟩:=zb2 BK364.out)|((with_reducible refine gate_callee (f:=85) rfl ?_);refine goesL_ (some 25) rfl rfl Tryz.func85 (by kernel_rfl) rfl #[.string ((rd_T151 l0 x7_1).f0)] rfl ml ?_;(with_reducible refine(impl_isKey.calls ((rd_T151 l0 x7_1).f0) true _ A14.out).mono ?_);rintro e w' ⟨rfl,⟨nd,rfl⟩⟩;refine⟨_,rfl,?_⟩)|(go_at_call 134;(with_reducible refine(impl_seek.calls k1 _ _ l0 ((rd_T151 l0 x7_1).f0) t366 _ ?side1 ?side2 A19.out).mono ?_);(case side1=>exact Kd.C_below HR0.out mq);(case side2=>exact HC0.out);rintro e w26 ⟨rfl,hb⟩;have n0_:=Aside0.mk (zK (g:=gb364) (o:=.cells #[.string ((rd_T151 l0 x7_1).f0),.int .i64 ((rd_T151 l0 x7_1).f1)] 151 (0,0)) (by(with_reducible repeat(first|apply zA|apply zC|apply zB));refine blk_put (cs:=#[.string ((rd_T151 l0 x7_1).f0),.int .i64 0]) ?_ 1 _ rfl;(with_reducible repeat(first|apply zA|apply zC|apply zB));refine blk_put (cs:=#[.string (⟨#[]⟩:ByteArray),.int .i64 0]) ?_ 0 _ rfl;(with_reducible repeat(first|apply zA|apply zC|apply zB));exact BK364.out) hb);have n1_:=Aside0.mk (zN mq hb);clear BK364;clear HB;have BK364:=n0_;have HB:=n1_;clear n0_ n1_;(try clear hb);(try clear hb2);(try clear hk);(try clear hi)));go_ret;exact⟨mr,mq⟩
       ·replace c15:=Bool.eq_false_iff.mpr c15
        subst c15;rw[if_neg (show ¬ (false=true) by decide)] at H;obtain rfl:=Option.some.inj H;have p363:0≤(x7_1:Int):=mo;have q363:x7_1 < (l0.length:Int):=mo;obtain⟨ad363,e363,hx363_0,hx363_1⟩:=at_T151 (Kd.C_below HR0.out HB.out) x7_1 p363 q363;cases e363;replace p363:=eq_true p363;replace q363:=eq_true q363;go_wp2_with (first|((with_reducible refine gate_dst (N:=4) rfl ?_);refine yE (N:=4) (cs:=#[.string (⟨#[]⟩:ByteArray),.int .i64 0]) (t:=151) fun gb364 hg w27 hbox hb=>?_;obtain⟨n0_,n2_⟩:=yX (w:=w) hg hb mq;have n1_:=Aside0.mk (hbox);have n3_:=n2_;clear HB;have HB:=n0_;have BK364:=n1_;have GW364:=n2_;have GE364:=n3_;clear n0_ n1_ n2_ n3_;clear hb hbox hg;obtain⟨hcz28_0,hcz28_1,hfz28_0,hfz28_1⟩:=zb2 BK364.out)|((with_reducible refine gate_callee (f:=85) rfl ?_);refine goesL_ (some 25) rfl rfl Tryz.func85 (by kernel_rfl) rfl #[.string ((rd_T151 l0 x7_1).f0)] rfl ml ?_;(with_reducible refine(impl_isKey.calls ((rd_T151 l0 x7_1).f0) false _ A14.out).mono ?_);rintro e w' ⟨rfl,⟨nd,rfl⟩⟩;refine⟨_,rfl,?_⟩));go_ret;exact⟨mr,mq⟩
     ·rw[if_neg c4] at H
      exact absurd H (by simp)
    ·rw[if_neg c3] at H
     exact absurd H (by simp)
   ·rw[if_neg c2] at H
    have c2b0:decide (x7_1 < (l0.length:Int))=false:=decide_eq_false c2;clear c2;obtain rfl:=Option.some.inj H;go_wp2
    go_ret;exact⟨mr,mq⟩
def impl_nones.l0:Nat→Int→List (S151)→Int→Int→Option (Int)
|0,_,_,_,_=>none
|k+1,x3,x6,x7,x8=>if x8 < x7 then (if 0≤x8 then (if x8 < (x6.length:Int) then (if ((rd_T151 x6 x8).f0).toList=([]:List UInt8) then (if ((rd_T151 x6 x8).f1)=(-1) then (impl_nones.l0 k (wrap64 (x3+1)) x6 x7 (wrap64 (x8+1))) else (impl_nones.l0 k x3 x6 x7 (wrap64 (x8+1)))) else (impl_nones.l0 k x3 x6 x7 (wrap64 (x8+1)))) else (none)) else (none)) else (some x3)
def impl_nones.f (k:Nat) (l0:List (S151)):Option (Int):=impl_nones.l0 k 0 l0 (l0.length:Int) 0
theorem impl_nones.calls (k:Nat) (A0:Option Addr) (c0:Nat) (l0:List (S151)) (r:Int) (w:World) (hr0:Kd.C k151 w A0 l0.length l0) (hc0:l0.length≤c0) (h:impl_nones.f k l0=some r) :
  Calls Tryz.prog 193 #[.slice A0 l0.length c0] w fun e w'=>e=.returned (.int .i64 r)∧Below w.heap.size w w':=by
 have hu151:=Tryz.underlying151;have HR0:=Aside0.mk hr0;have HC0:=Aside0.mk hc0;clear hr0 hc0;have HB:=Aside0.mk (Below.refl w.heap.size w);unfold impl_nones.f at h;have H:=h;clear h;have H':=Aside0.mk H;clear H;go_enter Tryz.func193,Tryz.ntmps193
 go_wp2
 go_loopg [3,8] k (fun kq v3 v8 w'=>∃ (x3_1:Int) (x8_1:Int),v3=.int .i64 x3_1∧v8=.int .i64 x8_1∧Aside0 (impl_nones.l0 kq x3_1 l0 (l0.length:Int) x8_1=some r)∧Aside0 (kq≤k)∧Aside0 (Below w.heap.size w w'))
 case atStart=>exact⟨(0),(0),mt,mt,H',⟨Nat.le_refl _⟩,⟨mq⟩⟩
 case round =>
  clear H';obtain⟨x3_1,x8_1,rfl,rfl,HA,HK1,HB⟩:=hrel;cases gk with
 |zero=>exact absurd HA.out (by simp[impl_nones.l0])
 |succ k1 =>
   have H:=HA.out;clear HA;simp only [impl_nones.l0] at H;by_cases c2:x8_1 < (l0.length:Int)
   ·rw[if_pos c2] at H
    have c2b0:decide (x8_1 < (l0.length:Int))=true:=decide_eq_true c2;clear c2;by_cases c3:0≤x8_1
    ·rw[if_pos c3] at H
     have c3b0:decide (0≤x8_1)=true:=decide_eq_true c3;clear c3;by_cases c4:x8_1 < (l0.length:Int)
     ·rw[if_pos c4] at H
      have c4b0:decide (x8_1 < (l0.length:Int))=true:=decide_eq_true c4;clear c4;by_cases c5:((rd_T151 l0 x8_1).f0).toList=([]:List UInt8)
      ·rw[if_pos c5] at H
       have c5b0:(((rd_T151 l0 x8_1).f0).toList == ([]:List UInt8))=true:=beq_iff_eq.mpr c5;have c5b1:(((rd_T151 l0 x8_1).f0).toList != ([]:List UInt8))=false:=bne_eq_false_iff_eq.mpr c5;clear c5;by_cases c6:((rd_T151 l0 x8_1).f1)=(-1)
       ·rw[if_pos c6] at H
        have c6b0:(((rd_T151 l0 x8_1).f1) == (-1))=true:=beq_iff_eq.mpr c6;have c6b1:(((rd_T151 l0 x8_1).f1) != (-1))=false:=bne_eq_false_iff_eq.mpr c6;clear c6;have H':=Aside0.mk H;clear H;have p367:0≤(x8_1:Int):=mo;have q367:x8_1 < (l0.length:Int):=mo;obtain⟨ad367,e367,hx367_0,hx367_1⟩:=at_T151 (Kd.C_below HR0.out HB.out) x8_1 p367 q367;cases e367;replace p367:=eq_true p367;replace q367:=eq_true q367;go_wp2_with (first|((with_reducible refine gate_dst (N:=5) rfl ?_);refine yE (N:=5) (cs:=#[.string (⟨#[]⟩:ByteArray),.int .i64 0]) (t:=151) fun gb368 hg w7 hbox hb=>?_;obtain⟨n0_,n2_⟩:=yX (w:=w) hg hb mq;have n1_:=Aside0.mk (hbox);have n3_:=n2_;clear HB;have HB:=n0_;have BK368:=n1_;have GW368:=n2_;have GE368:=n3_;clear n0_ n1_ n2_ n3_;clear hb hbox hg;obtain⟨hcz8_0,hcz8_1,hfz8_0,hfz8_1⟩:=zb2 BK368.out))
        go_roundg k1
        case measure=>have:=HK1.out;omega
        case rel=>exact⟨(wrap64 (x3_1+1)),(wrap64 (x8_1+1)),mt,mt,H',⟨by have:=HK1.out;omega⟩,⟨mq⟩⟩
       ·rw[if_neg c6] at H
        have c6b0:(((rd_T151 l0 x8_1).f1) == (-1))=false:=beq_eq_false_iff_ne.mpr c6;have c6b1:(((rd_T151 l0 x8_1).f1) != (-1))=true:=bne_iff_ne.mpr c6;have H':=Aside0.mk H;clear H;have p367:0≤(x8_1:Int):=mo;have q367:x8_1 < (l0.length:Int):=mo;obtain⟨ad367,e367,hx367_0,hx367_1⟩:=at_T151 (Kd.C_below HR0.out HB.out) x8_1 p367 q367;cases e367;replace p367:=eq_true p367;replace q367:=eq_true q367;go_wp2_with (first|((with_reducible refine gate_dst (N:=5) rfl ?_);refine yE (N:=5) (cs:=#[.string (⟨#[]⟩:ByteArray),.int .i64 0]) (t:=151) fun gb368 hg w9 hbox hb=>?_;obtain⟨n0_,n2_⟩:=yX (w:=w) hg hb mq;have n1_:=Aside0.mk (hbox);have n3_:=n2_;clear HB;have HB:=n0_;have BK368:=n1_;have GW368:=n2_;have GE368:=n3_;clear n0_ n1_ n2_ n3_;clear hb hbox hg;obtain⟨hcz10_0,hcz10_1,hfz10_0,hfz10_1⟩:=zb2 BK368.out))
        go_roundg k1
        case measure=>have:=HK1.out;omega
        case rel=>exact⟨(x3_1),(wrap64 (x8_1+1)),mt,mt,H',⟨by have:=HK1.out;omega⟩,⟨mq⟩⟩
      ·rw[if_neg c5] at H
       have c5b0:(((rd_T151 l0 x8_1).f0).toList == ([]:List UInt8))=false:=beq_eq_false_iff_ne.mpr c5;have c5b1:(((rd_T151 l0 x8_1).f0).toList != ([]:List UInt8))=true:=bne_iff_ne.mpr c5;have H':=Aside0.mk H;clear H;have p367:0≤(x8_1:Int):=mo;have q367:x8_1 < (l0.length:Int):=mo;obtain⟨ad367,e367,hx367_0,hx367_1⟩:=at_T151 (Kd.C_below HR0.out HB.out) x8_1 p367 q367;cases e367;replace p367:=eq_true p367;replace q367:=eq_true q367;go_wp2_with (first|((with_reducible refine gate_dst (N:=5) rfl ?_);refine yE (N:=5) (cs:=#[.string (⟨#[]⟩:ByteArray),.int .i64 0]) (t:=151) fun gb368 hg w11 hbox hb=>?_;obtain⟨n0_,n2_⟩:=yX (w:=w) hg hb mq;have n1_:=Aside0.mk (hbox);have n3_:=n2_;clear HB;have HB:=n0_;have BK368:=n1_;have GW368:=n2_;have GE368:=n3_;clear n0_ n1_ n2_ n3_;clear hb hbox hg;obtain⟨hcz12_0,hcz12_1,hfz12_0,hfz12_1⟩:=zb2 BK368.out))
       go_roundg k1
       case measure=>have:=HK1.out;omega
       case rel=>exact⟨(x3_1),(wrap64 (x8_1+1)),mt,mt,H',⟨by have:=HK1.out;omega⟩,⟨mq⟩⟩
     ·rw[if_neg c4] at H
      exact absurd H (by simp)
    ·rw[if_neg c3] at H
     exact absurd H (by simp)
   ·rw[if_neg c2] at H
    have c2b0:decide (x8_1 < (l0.length:Int))=false:=decide_eq_false c2;clear c2;obtain rfl:=Option.some.inj H;go_wp2
    go_ret;exact⟨mr,mq⟩
end Go.Proofs.YtediiolcoilepaaGreat.GNear
