/- Walks of callees. -/
import Derived.Test.YtediiolcoilepaaGreatGNear0
import Derived.Test.YtediiolcoilepaaGreatGNear8
import Derived.Test.YtediiolcoilepaaGreatGNear9
namespace Go.Proofs.YtediiolcoilepaaGreat.GNear
set_option maxHeartbeats 8000000
set_option maxRecDepth 100000
open Go.RowKit Go.Proofs.YtediiolcoilepaaGreatW.PrintWords Go.Proofs.YtediiolcoilepaaGreatW.PrintLast Go.Proofs.YtediiolcoilepaaGreatW.PrintMore
attribute [local go_sem] max2_int min2_int max_two min_two max_three min_three max_four min_four
set_option linter.unusedVariables false
set_option linter.unusedSimpArgs false
theorem zc10 {w w1:World} {a:Addr} {v:Value} (hb:Below w.heap.size w w1) (h:w.cell? a=some v):w1.cell? a=some v:=(hb.cell (World.block_lt_of_cell? w _ h)).trans h
mutual
def spec_l04Seek.l0:Nat→List (S151)→ByteArray→Int→Int→Int→Option (Int)
|0,_,_,_,_,_=>none
|k+1,x0,x1,x5,x6,x7=>if x7 < x5 then (if x5=0 then (none) else (if 0≤(Int.tmod (wrap64 (x6+x7)) x5) then (if (Int.tmod (wrap64 (x6+x7)) x5) < (x0.length:Int) then (if ((rd_T151 x0 (Int.tmod (wrap64 (x6+x7)) x5)).f0).toList=x1.toList then (spec_l04Seek.j1 k x0 x1 x5 x6 x7 (decide (((rd_T151 x0 (Int.tmod (wrap64 (x6+x7)) x5)).f1) ≥ 0)) ((rd_T151 x0 (Int.tmod (wrap64 (x6+x7)) x5)).f0) ((rd_T151 x0 (Int.tmod (wrap64 (x6+x7)) x5)).f1)) else (spec_l04Seek.j1 k x0 x1 x5 x6 x7 false ((rd_T151 x0 (Int.tmod (wrap64 (x6+x7)) x5)).f0) ((rd_T151 x0 (Int.tmod (wrap64 (x6+x7)) x5)).f1))) else (none)) else (none))) else (some (-1))
def spec_l04Seek.j1:Nat→List (S151)→ByteArray→Int→Int→Int→Bool→ByteArray→Int→Option (Int)
|0,_,_,_,_,_,_,_,_=>none
|k+1,x0,x1,x5,x6,x7,x38,x686000,x686001=>if x38=true then (if x5=0 then (none) else (some (Int.tmod (wrap64 (x6+x7)) x5))) else (if x686000.toList=([]:List UInt8) then (if x686001=(-1) then (some (-1)) else (spec_l04Seek.l0 k x0 x1 x5 x6 (wrap64 (x7+1)))) else (spec_l04Seek.l0 k x0 x1 x5 x6 (wrap64 (x7+1))))
end
def spec_l04Seek.f (k:Nat) (l0:List (S151)) (a1:ByteArray):Option (Int):=if (l0.length:Int)=0 then (some (-1)) else ((spec_HashOf.f k a1 0).bind fun t683=>(spec_l04Seek.l0 k l0 a1 (l0.length:Int) (Int.tmod t683 (l0.length:Int)) 0))
theorem spec_l04Seek.calls (k:Nat) (A0:Option Addr) (c0:Nat) (l0:List (S151)) (a1:ByteArray) (r:Int) (w:World) (hr0:Kd.C k151 w A0 l0.length l0) (hc0:l0.length≤c0) (h:spec_l04Seek.f k l0 a1=some r) :
  Calls Tryz.prog 119 #[.slice A0 l0.length c0,.string a1] w fun e w'=>e=.returned (.int .i64 r)∧Below w.heap.size w w':=by
 have hu151:=Tryz.underlying151;have HR0:=Aside0.mk hr0;have HC0:=Aside0.mk hc0;clear hr0 hc0;have HB:=Aside0.mk (Below.refl w.heap.size w);unfold spec_l04Seek.f at h;have H:=h;clear h;by_cases c3:(l0.length:Int)=0
 ·rw[if_pos c3] at H
  have c3b0:((l0.length:Int) == 0)=true:=beq_iff_eq.mpr c3;have c3b1:((l0.length:Int) != 0)=false:=bne_eq_false_iff_eq.mpr c3;clear c3;obtain rfl:=Option.some.inj H;go_enter Tryz.func119,Tryz.ntmps119
  go_wp2
  go_ret;exact⟨mr,mq⟩
 ·rw[if_neg c3] at H
  have c3b0:((l0.length:Int) == 0)=false:=beq_eq_false_iff_ne.mpr c3;have c3b1:((l0.length:Int) != 0)=true:=bne_iff_ne.mpr c3;have c3b2:¬ (l0 = []):=fun h_=>c3 (by rw[h_];rfl);replace H:=Option.bind_eq_some_iff.mp H;obtain⟨t683,A40,H⟩:=H;(try dsimp only at H)
  have A4:=Aside0.mk A40;clear A40;have H':=Aside0.mk H;clear H;go_enter Tryz.func119,Tryz.ntmps119;go_wp2_with (first|((with_reducible refine gate_callee (f:=187) rfl ?_);refine goesL_ (some 14) rfl rfl Tryz.func187 (by kernel_rfl) rfl #[.string a1,.int .i64 0] rfl ml ?_;(with_reducible refine(spec_HashOf.calls k a1 0 t683 _ A4.out).mono ?_);rintro e w' ⟨rfl,⟨nd,rfl⟩⟩;refine⟨_,rfl,?_⟩))
  go_loopg [7] k (fun kq v7 w'=>∃ (x7_1:Int),v7=.int .i64 x7_1∧Aside0 (spec_l04Seek.l0 kq l0 a1 (l0.length:Int) (Int.tmod t683 (l0.length:Int)) x7_1=some r)∧Aside0 (kq≤k)∧Aside0 (Below w.heap.size w w'))
  case atStart=>exact⟨(0),mt,H',⟨Nat.le_refl _⟩,⟨mq⟩⟩
  case round =>
   clear H';obtain⟨x7_1,rfl,HA,HK1,HB⟩:=hrel;cases gk with
  |zero=>exact absurd HA.out (by simp[spec_l04Seek.l0])
  |succ k1 =>
    have H:=HA.out;clear HA;simp only [spec_l04Seek.l0] at H;by_cases c5:x7_1 < (l0.length:Int)
    ·rw[if_pos c5] at H
     have c5b0:decide (x7_1 < (l0.length:Int))=true:=decide_eq_true c5;clear c5;by_cases c6:(l0.length:Int)=0
     ·rw[if_pos c6] at H
      exact absurd H (by simp)
     ·rw[if_neg c6] at H
      have c6b0:((l0.length:Int) == 0)=false:=beq_eq_false_iff_ne.mpr c6;have c6b1:((l0.length:Int) != 0)=true:=bne_iff_ne.mpr c6;have c6b2:¬ (l0 = []):=fun h_=>c6 (by rw[h_];rfl);obtain⟨ji7,hji7⟩:∃ j_:Int,(Int.tmod (wrap64 ((Int.tmod t683 (l0.length:Int))+x7_1)) (l0.length:Int))=j_:=⟨_,rfl⟩;replace H:(if 0≤(ji7) then (if (ji7) < (l0.length:Int) then (if ((rd_T151 l0 (ji7)).f0).toList=a1.toList then (spec_l04Seek.j1 k1 l0 a1 (l0.length:Int) (Int.tmod t683 (l0.length:Int)) x7_1 (decide (((rd_T151 l0 (ji7)).f1) ≥ 0)) ((rd_T151 l0 (ji7)).f0) ((rd_T151 l0 (ji7)).f1)) else (spec_l04Seek.j1 k1 l0 a1 (l0.length:Int) (Int.tmod t683 (l0.length:Int)) x7_1 false ((rd_T151 l0 (ji7)).f0) ((rd_T151 l0 (ji7)).f1))) else (none)) else (none))=some r:=by first|(rw[hji7] at H;exact H)|(simp only [hji7] at H ⊢;exact H)
      by_cases c8:0≤(ji7)
      ·rw[if_pos c8] at H
       have c8b0:decide (0≤(ji7))=true:=decide_eq_true c8;clear c8;by_cases c9:(ji7) < (l0.length:Int)
       ·rw[if_pos c9] at H
        have c9b0:decide ((ji7) < (l0.length:Int))=true:=decide_eq_true c9;clear c9;have HC10:=Aside0.mk H;clear H;have p684:0≤((ji7):Int):=mo;have q684:(ji7) < (l0.length:Int):=mo;obtain⟨ad684,e684,hx684_0,hx684_1⟩:=at_T151 (Kd.C_below HR0.out HB.out) (ji7) p684 q684
        cases e684;replace p684:=eq_true p684;replace q684:=eq_true q684;go_upto_region 9 with (first|((with_reducible refine gate_dst (N:=8) rfl ?_);refine yE (N:=8) (cs:=#[.string (⟨#[]⟩:ByteArray),.int .i64 0]) (t:=151) fun gb685 hg w11 hbox hb=>?_;obtain⟨n0_,n2_⟩:=yX (w:=w) hg hb mq;have n1_:=Aside0.mk (hbox);have n3_:=n2_;clear HB;have HB:=n0_;have BK685:=n1_;have GW685:=n2_;have GE685:=n3_;clear n0_ n1_ n2_ n3_;clear hb hbox hg;obtain⟨hcz12_0,hcz12_1,hfz12_0,hfz12_1⟩:=zb2 BK685.out))
        (try simp only [Act.put,List.setIfInBounds_toArray,List.set_cons_zero,List.set_cons_succ])
        go_cut [38] (fun v38 wc=>∃ (kq:Nat) (x38_9:Bool),v38=.bool x38_9∧Aside0 (spec_l04Seek.j1 kq l0 a1 (l0.length:Int) (Int.tmod t683 (l0.length:Int)) x7_1 x38_9 ((rd_T151 l0 (ji7)).f0) ((rd_T151 l0 (ji7)).f1)=some r)∧Aside0 (kq≤k1)∧Aside0 (wc.heap[gb685]? = some (.cells #[.string ((rd_T151 l0 (ji7)).f0),.int .i64 ((rd_T151 l0 (ji7)).f1)] 151 (0,0)))∧Aside0 (Below w.heap.size w wc))
        case first =>
         have H:=HC10.out;clear HC10;by_cases c13:((rd_T151 l0 (ji7)).f0).toList=a1.toList
         ·rw[if_pos c13] at H
          have c13b0:(((rd_T151 l0 (ji7)).f0).toList == a1.toList)=true:=beq_iff_eq.mpr c13;have c13b1:(((rd_T151 l0 (ji7)).f0).toList != a1.toList)=false:=bne_eq_false_iff_eq.mpr c13;clear c13;(first|rw[c13b0]|(simp only [i64_w,i32_w];rw[c13b0])|skip)
          have H':=Aside0.mk H;clear H;obtain⟨hcz14_0,hcz14_1,hfz14_0,hfz14_1⟩:=zb2 BK685.out;go_wp2
          go_meet
          case rel=>exact⟨_,(decide (((rd_T151 l0 (ji7)).f1) ≥ 0)),(by first|rfl|(simp;done)|(simp only [← hji7] <;> (first|rfl|simp))|(simp[*];done)),H',⟨by have:=HK1.out;first|omega|exact Nat.le_refl _⟩,⟨by(with_reducible repeat(first|apply zA|apply zC|apply zB));refine blk_put (cs:=#[.string ((rd_T151 l0 (ji7)).f0),.int .i64 0]) ?_ 1 _ rfl;(with_reducible repeat(first|apply zA|apply zC|apply zB));refine blk_put (cs:=#[.string (⟨#[]⟩:ByteArray),.int .i64 0]) ?_ 0 _ rfl;(with_reducible repeat(first|apply zA|apply zC|apply zB));exact BK685.out⟩,⟨mq⟩⟩
         ·rw[if_neg c13] at H
          have c13b0:(((rd_T151 l0 (ji7)).f0).toList == a1.toList)=false:=beq_eq_false_iff_ne.mpr c13;have c13b1:(((rd_T151 l0 (ji7)).f0).toList != a1.toList)=true:=bne_iff_ne.mpr c13
          (first|rw[c13b0]|(simp only [i64_w,i32_w];rw[c13b0])|skip)
          have H':=Aside0.mk H;clear H;obtain⟨hcz15_0,hcz15_1,hfz15_0,hfz15_1⟩:=zb2 BK685.out;go_wp2
          go_meet
          case rel=>exact⟨_,(false),mt,H',⟨by have:=HK1.out;first|omega|exact Nat.le_refl _⟩,⟨by(with_reducible repeat(first|apply zA|apply zC|apply zB));refine blk_put (cs:=#[.string ((rd_T151 l0 (ji7)).f0),.int .i64 0]) ?_ 1 _ rfl;(with_reducible repeat(first|apply zA|apply zC|apply zB));refine blk_put (cs:=#[.string (⟨#[]⟩:ByteArray),.int .i64 0]) ?_ 0 _ rfl;(with_reducible repeat(first|apply zA|apply zC|apply zB));exact BK685.out⟩,⟨mq⟩⟩
        case rest =>
         clear HC10;obtain⟨kq,x38_9,rfl,HA,HJ9,BK685,HB⟩:=hcut;cases kq with
        |zero=>exact absurd HA.out (by simp[spec_l04Seek.j1])
        |succ kj9 =>
          have H:=HA.out;clear HA;simp only [spec_l04Seek.j1] at H;by_cases c16:x38_9=true
          ·subst c16
           rw[if_pos rfl] at H;by_cases c17:(l0.length:Int)=0
           ·rw[if_pos c17] at H
            exact absurd H (by simp)
           ·rw[if_neg c17] at H
            have c17b0:((l0.length:Int) == 0)=false:=beq_eq_false_iff_ne.mpr c17;have c17b1:((l0.length:Int) != 0)=true:=bne_iff_ne.mpr c17;have c17b2:¬ (l0 = []):=fun h_=>c17 (by rw[h_];rfl);obtain rfl:=Option.some.inj H;go_wp2
            go_ret;exact⟨by first|rfl|(simp[] <;> rfl)|(simp only [← hji7];first|rfl|(simp[] <;> rfl))|(simp[*] <;> rfl),mq⟩
          ·replace c16:=Bool.eq_false_iff.mpr c16
           subst c16;rw[if_neg (show ¬ (false=true) by decide)] at H;by_cases c18:((rd_T151 l0 (ji7)).f0).toList=([]:List UInt8)
           ·rw[if_pos c18] at H
            have c18b0:(((rd_T151 l0 (ji7)).f0).toList == ([]:List UInt8))=true:=beq_iff_eq.mpr c18;have c18b1:(((rd_T151 l0 (ji7)).f0).toList != ([]:List UInt8))=false:=bne_eq_false_iff_eq.mpr c18;clear c18;by_cases c19:((rd_T151 l0 (ji7)).f1)=(-1)
            ·rw[if_pos c19] at H
             have c19b0:(((rd_T151 l0 (ji7)).f1) == (-1))=true:=beq_iff_eq.mpr c19;have c19b1:(((rd_T151 l0 (ji7)).f1) != (-1))=false:=bne_eq_false_iff_eq.mpr c19;clear c19;obtain rfl:=Option.some.inj H;obtain⟨hcz20_0,hcz20_1,hfz20_0,hfz20_1⟩:=zb2 BK685.out;go_wp2
             go_ret;exact⟨by first|rfl|(simp[] <;> rfl)|(simp only [← hji7];first|rfl|(simp[] <;> rfl))|(simp[*] <;> rfl),mq⟩
            ·rw[if_neg c19] at H
             have c19b0:(((rd_T151 l0 (ji7)).f1) == (-1))=false:=beq_eq_false_iff_ne.mpr c19;have c19b1:(((rd_T151 l0 (ji7)).f1) != (-1))=true:=bne_iff_ne.mpr c19;have H':=Aside0.mk H;clear H;obtain⟨hcz21_0,hcz21_1,hfz21_0,hfz21_1⟩:=zb2 BK685.out;go_wp2
             go_roundg kj9
             case measure=>have:=HK1.out;have:=HJ9.out;omega
             case rel=>exact⟨(wrap64 (x7_1+1)),mt,H',⟨by have:=HK1.out;have:=HJ9.out;omega⟩,⟨mq⟩⟩
           ·rw[if_neg c18] at H
            have c18b0:(((rd_T151 l0 (ji7)).f0).toList == ([]:List UInt8))=false:=beq_eq_false_iff_ne.mpr c18;have c18b1:(((rd_T151 l0 (ji7)).f0).toList != ([]:List UInt8))=true:=bne_iff_ne.mpr c18;have H':=Aside0.mk H;clear H;obtain⟨hcz22_0,hcz22_1,hfz22_0,hfz22_1⟩:=zb2 BK685.out;go_wp2
            go_roundg kj9
            case measure=>have:=HK1.out;have:=HJ9.out;omega
            case rel=>exact⟨(wrap64 (x7_1+1)),mt,H',⟨by have:=HK1.out;have:=HJ9.out;omega⟩,⟨mq⟩⟩
       ·rw[if_neg c9] at H
        exact absurd H (by simp)
      ·rw[if_neg c8] at H
       exact absurd H (by simp)
    ·rw[if_neg c5] at H
     have c5b0:decide (x7_1 < (l0.length:Int))=false:=decide_eq_false c5;clear c5;obtain rfl:=Option.some.inj H;go_wp2
     go_ret;exact⟨mr,mq⟩
def spec_l04Size.f (a0:Int):Option (Bool):=if a0=4 then (some true) else (if a0=8 then (some true) else (if a0=16 then (some true) else (if a0=32 then (some true) else (some (a0 == 64)))))
theorem spec_l04Size.calls (a0:Int) (r:Bool) (w:World) (h:spec_l04Size.f a0=some r) :
  Calls Tryz.prog 169 #[.int .i64 a0] w fun e w'=>e=.returned (.bool r)∧Drawn0 w w':=by
 unfold spec_l04Size.f at h;have H:=h;clear h;by_cases c2:a0=4
 ·rw[if_pos c2] at H
  have c2b0:(a0 == 4)=true:=beq_iff_eq.mpr c2;have c2b1:(a0 != 4)=false:=bne_eq_false_iff_eq.mpr c2;clear c2;obtain rfl:=Option.some.inj H;go_enter Tryz.func169,Tryz.ntmps169
  go_wp2
  go_ret;exact⟨by first|rfl|(simp;done)|(simp[*];done),md⟩
 ·rw[if_neg c2] at H
  have c2b0:(a0 == 4)=false:=beq_eq_false_iff_ne.mpr c2;have c2b1:(a0 != 4)=true:=bne_iff_ne.mpr c2
  by_cases c3:a0=8
  ·rw[if_pos c3] at H
   have c3b0:(a0 == 8)=true:=beq_iff_eq.mpr c3;have c3b1:(a0 != 8)=false:=bne_eq_false_iff_eq.mpr c3;clear c3;obtain rfl:=Option.some.inj H;go_enter Tryz.func169,Tryz.ntmps169
   go_wp2
   go_ret;exact⟨by first|rfl|(simp;done)|(simp[*];done),md⟩
  ·rw[if_neg c3] at H
   have c3b0:(a0 == 8)=false:=beq_eq_false_iff_ne.mpr c3;have c3b1:(a0 != 8)=true:=bne_iff_ne.mpr c3
   by_cases c4:a0=16
   ·rw[if_pos c4] at H
    have c4b0:(a0 == 16)=true:=beq_iff_eq.mpr c4;have c4b1:(a0 != 16)=false:=bne_eq_false_iff_eq.mpr c4;clear c4;obtain rfl:=Option.some.inj H;go_enter Tryz.func169,Tryz.ntmps169
    go_wp2
    go_ret;exact⟨by first|rfl|(simp;done)|(simp[*];done),md⟩
   ·rw[if_neg c4] at H
    have c4b0:(a0 == 16)=false:=beq_eq_false_iff_ne.mpr c4;have c4b1:(a0 != 16)=true:=bne_iff_ne.mpr c4
    by_cases c5:a0=32
    ·rw[if_pos c5] at H
     have c5b0:(a0 == 32)=true:=beq_iff_eq.mpr c5;have c5b1:(a0 != 32)=false:=bne_eq_false_iff_eq.mpr c5;clear c5;obtain rfl:=Option.some.inj H;go_enter Tryz.func169,Tryz.ntmps169
     go_wp2
     go_ret;exact⟨by first|rfl|(simp;done)|(simp[*];done),md⟩
    ·rw[if_neg c5] at H
     have c5b0:(a0 == 32)=false:=beq_eq_false_iff_ne.mpr c5;have c5b1:(a0 != 32)=true:=bne_iff_ne.mpr c5;obtain rfl:=Option.some.inj H;go_enter Tryz.func169,Tryz.ntmps169
     go_wp2
     go_ret;exact⟨by first|rfl|(simp;done)|(simp[*];done),md⟩
mutual
def spec_l04Right.l0:Nat→List (S151)→Bool→Int→Option (Bool)
|0,_,_,_=>none
|k+1,x0,x5,x6=>if x6 < (x0.length:Int) then (if 0≤x6 then (if ((rd_T151 x0 x6).f0).toList=([]:List UInt8) then (if ((rd_T151 x0 x6).f1)=(-1) then (spec_l04Right.j1 k x0 x5 x6 false ((rd_T151 x0 x6).f0) ((rd_T151 x0 x6).f1)) else (spec_l04Right.j1 k x0 x5 x6 (((rd_T151 x0 x6).f1) != (-2)) ((rd_T151 x0 x6).f0) ((rd_T151 x0 x6).f1))) else (if (((rd_T151 x0 x6).f0).size:Int) > 12 then (some false) else (if ((rd_T151 x0 x6).f1) < 0 then (some false) else ((spec_l04Seek.f k x0 ((rd_T151 x0 x6).f0)).bind fun t688=>(if t688=x6 then (spec_l04Right.l0 k x0 x5 (wrap64 (x6+1))) else (some false)))))) else (none)) else (some x5)
def spec_l04Right.j1:Nat→List (S151)→Bool→Int→Bool→ByteArray→Int→Option (Bool)
|0,_,_,_,_,_,_=>none
|k+1,x0,x5,x6,x30,x688000,x688001=>if x30=true then (some false) else (if x5=true then (spec_l04Right.l0 k x0 true (wrap64 (x6+1))) else (spec_l04Right.l0 k x0 (x688001 == (-1)) (wrap64 (x6+1))))
end
def spec_l04Right.f (k:Nat) (l0:List (S151)) (a1:Bool):Option (Bool):=spec_l04Right.l0 k l0 (!a1) 0
theorem spec_l04Right.calls (k:Nat) (A0:Option Addr) (c0:Nat) (l0:List (S151)) (a1:Bool) (r:Bool) (w:World) (hr0:Kd.C k151 w A0 l0.length l0) (hc0:l0.length≤c0) (h:spec_l04Right.f k l0 a1=some r) :
  Calls Tryz.prog 186 #[.slice A0 l0.length c0,.bool a1] w fun e w'=>e=.returned (.bool r)∧Below w.heap.size w w':=by
 have hu151:=Tryz.underlying151;have HR0:=Aside0.mk hr0;have HC0:=Aside0.mk hc0;clear hr0 hc0;have HB:=Aside0.mk (Below.refl w.heap.size w);unfold spec_l04Right.f at h;have H:=h;clear h;have H':=Aside0.mk H;clear H;go_enter Tryz.func186,Tryz.ntmps186
 go_wp2
 go_loopg [5,6] k (fun kq v5 v6 w'=>∃ (x5_1:Bool) (x6_1:Int),v5=.bool x5_1∧v6=.int .i64 x6_1∧Aside0 (spec_l04Right.l0 kq l0 x5_1 x6_1=some r)∧Aside0 (kq≤k)∧Aside0 (Below w.heap.size w w'))
 case atStart=>exact⟨(!a1),(0),mt,mt,H',⟨Nat.le_refl _⟩,⟨mq⟩⟩
 case round =>
  clear H';obtain⟨x5_1,x6_1,rfl,rfl,HA,HK1,HB⟩:=hrel;cases gk with
 |zero=>exact absurd HA.out (by simp[spec_l04Right.l0])
 |succ k1 =>
   have H:=HA.out;clear HA;simp only [spec_l04Right.l0] at H;by_cases c3:x6_1 < (l0.length:Int)
   ·rw[if_pos c3] at H
    have c3b0:decide (x6_1 < (l0.length:Int))=true:=decide_eq_true c3;clear c3;by_cases c4:0≤x6_1
    ·rw[if_pos c4] at H
     have c4b0:decide (0≤x6_1)=true:=decide_eq_true c4;clear c4;by_cases c5:((rd_T151 l0 x6_1).f0).toList=([]:List UInt8)
     ·rw[if_pos c5] at H
      have c5b0:(((rd_T151 l0 x6_1).f0).toList == ([]:List UInt8))=true:=beq_iff_eq.mpr c5;have c5b1:(((rd_T151 l0 x6_1).f0).toList != ([]:List UInt8))=false:=bne_eq_false_iff_eq.mpr c5;clear c5;have HC6:=Aside0.mk H;clear H;have p686:0≤(x6_1:Int):=mo;have q686:x6_1 < (l0.length:Int):=mo;obtain⟨ad686,e686,hx686_0,hx686_1⟩:=at_T151 (Kd.C_below HR0.out HB.out) x6_1 p686 q686;cases e686;replace p686:=eq_true p686;replace q686:=eq_true q686;go_upto_region 7 with (first|((with_reducible refine gate_dst (N:=7) rfl ?_);refine yE (N:=7) (cs:=#[.string (⟨#[]⟩:ByteArray),.int .i64 0]) (t:=151) fun gb687 hg w7 hbox hb=>?_;obtain⟨n0_,n2_⟩:=yX (w:=w) hg hb mq;have n1_:=Aside0.mk (hbox);have n3_:=n2_;clear HB;have HB:=n0_;have BK687:=n1_;have GW687:=n2_;have GE687:=n3_;clear n0_ n1_ n2_ n3_;clear hb hbox hg;obtain⟨hcz8_0,hcz8_1,hfz8_0,hfz8_1⟩:=zb2 BK687.out))
      (try simp only [Act.put,List.setIfInBounds_toArray,List.set_cons_zero,List.set_cons_succ])
      go_cut [30] (fun v30 wc=>∃ (kq:Nat) (x30_5:Bool),v30=.bool x30_5∧Aside0 (spec_l04Right.j1 kq l0 x5_1 x6_1 x30_5 ((rd_T151 l0 x6_1).f0) ((rd_T151 l0 x6_1).f1)=some r)∧Aside0 (kq≤k1)∧Aside0 (wc.heap[gb687]? = some (.cells #[.string ((rd_T151 l0 x6_1).f0),.int .i64 ((rd_T151 l0 x6_1).f1)] 151 (0,0)))∧Aside0 (Below w.heap.size w wc))
      case first =>
       have H:=HC6.out;clear HC6;by_cases c9:((rd_T151 l0 x6_1).f1)=(-1)
       ·rw[if_pos c9] at H
        have c9b0:(((rd_T151 l0 x6_1).f1) == (-1))=true:=beq_iff_eq.mpr c9;have c9b1:(((rd_T151 l0 x6_1).f1) != (-1))=false:=bne_eq_false_iff_eq.mpr c9;clear c9;(first|rw[c9b0]|(simp only [i64_w,i32_w];rw[c9b0])|skip)
        have H':=Aside0.mk H;clear H;obtain⟨hcz10_0,hcz10_1,hfz10_0,hfz10_1⟩:=zb2 BK687.out;go_wp2
        go_meet
        case rel=>exact⟨_,(false),mt,H',⟨by have:=HK1.out;first|omega|exact Nat.le_refl _⟩,⟨by(with_reducible repeat(first|apply zA|apply zC|apply zB));refine blk_put (cs:=#[.string ((rd_T151 l0 x6_1).f0),.int .i64 0]) ?_ 1 _ rfl;(with_reducible repeat(first|apply zA|apply zC|apply zB));refine blk_put (cs:=#[.string (⟨#[]⟩:ByteArray),.int .i64 0]) ?_ 0 _ rfl;(with_reducible repeat(first|apply zA|apply zC|apply zB));exact BK687.out⟩,⟨mq⟩⟩
       ·rw[if_neg c9] at H
        have c9b0:(((rd_T151 l0 x6_1).f1) == (-1))=false:=beq_eq_false_iff_ne.mpr c9;have c9b1:(((rd_T151 l0 x6_1).f1) != (-1))=true:=bne_iff_ne.mpr c9
        (first|rw[c9b0]|(simp only [i64_w,i32_w];rw[c9b0])|skip)
        have H':=Aside0.mk H;clear H;obtain⟨hcz11_0,hcz11_1,hfz11_0,hfz11_1⟩:=zb2 BK687.out;go_wp2
        go_meet
        case rel=>exact⟨_,((((rd_T151 l0 x6_1).f1) != (-2))),mt,H',⟨by have:=HK1.out;first|omega|exact Nat.le_refl _⟩,⟨by(with_reducible repeat(first|apply zA|apply zC|apply zB));refine blk_put (cs:=#[.string ((rd_T151 l0 x6_1).f0),.int .i64 0]) ?_ 1 _ rfl;(with_reducible repeat(first|apply zA|apply zC|apply zB));refine blk_put (cs:=#[.string (⟨#[]⟩:ByteArray),.int .i64 0]) ?_ 0 _ rfl;(with_reducible repeat(first|apply zA|apply zC|apply zB));exact BK687.out⟩,⟨mq⟩⟩
      case rest =>
       clear HC6;obtain⟨kq,x30_5,rfl,HA,HJ5,BK687,HB⟩:=hcut;cases kq with
      |zero=>exact absurd HA.out (by simp[spec_l04Right.j1])
      |succ kj5 =>
        have H:=HA.out;clear HA;simp only [spec_l04Right.j1] at H;by_cases c12:x30_5=true
        ·subst c12
         rw[if_pos rfl] at H;obtain rfl:=Option.some.inj H;go_wp2
         go_ret;exact⟨mr,mq⟩
        ·replace c12:=Bool.eq_false_iff.mpr c12
         subst c12;rw[if_neg (show ¬ (false=true) by decide)] at H;by_cases c13:x5_1=true
         ·subst c13
          rw[if_pos rfl] at H;have H':=Aside0.mk H;clear H;go_wp2
          go_roundg kj5
          case measure=>have:=HK1.out;have:=HJ5.out;omega
          case rel=>exact⟨(true),(wrap64 (x6_1+1)),mt,mt,H',⟨by have:=HK1.out;have:=HJ5.out;omega⟩,⟨mq⟩⟩
         ·replace c13:=Bool.eq_false_iff.mpr c13
          subst c13;rw[if_neg (show ¬ (false=true) by decide)] at H;have H':=Aside0.mk H;clear H;obtain⟨hcz14_0,hcz14_1,hfz14_0,hfz14_1⟩:=zb2 BK687.out;go_wp2
          go_roundg kj5
          case measure=>have:=HK1.out;have:=HJ5.out;omega
          case rel=>exact⟨((((rd_T151 l0 x6_1).f1) == (-1))),(wrap64 (x6_1+1)),mt,mt,H',⟨by have:=HK1.out;have:=HJ5.out;omega⟩,⟨mq⟩⟩
     ·rw[if_neg c5] at H
      have c5b0:(((rd_T151 l0 x6_1).f0).toList == ([]:List UInt8))=false:=beq_eq_false_iff_ne.mpr c5;have c5b1:(((rd_T151 l0 x6_1).f0).toList != ([]:List UInt8))=true:=bne_iff_ne.mpr c5
      by_cases c15:(((rd_T151 l0 x6_1).f0).size:Int) > 12
      ·rw[if_pos c15] at H
       have c15b0:decide (12 < (((rd_T151 l0 x6_1).f0).size:Int))=true:=decide_eq_true c15;have c15b1:decide (12 < ((rd_T151 l0 x6_1).f0).size)=true:=decide_eq_true (by omega);clear c15;obtain rfl:=Option.some.inj H;have p686:0≤(x6_1:Int):=mo;have q686:x6_1 < (l0.length:Int):=mo;obtain⟨ad686,e686,hx686_0,hx686_1⟩:=at_T151 (Kd.C_below HR0.out HB.out) x6_1 p686 q686;cases e686;replace p686:=eq_true p686;replace q686:=eq_true q686;go_wp2_with (first|((with_reducible refine gate_dst (N:=7) rfl ?_);refine yE (N:=7) (cs:=#[.string (⟨#[]⟩:ByteArray),.int .i64 0]) (t:=151) fun gb687 hg w16 hbox hb=>?_;obtain⟨n0_,n2_⟩:=yX (w:=w) hg hb mq;have n1_:=Aside0.mk (hbox);have n3_:=n2_;clear HB;have HB:=n0_;have BK687:=n1_;have GW687:=n2_;have GE687:=n3_;clear n0_ n1_ n2_ n3_;clear hb hbox hg;obtain⟨hcz17_0,hcz17_1,hfz17_0,hfz17_1⟩:=zb2 BK687.out));go_ret;exact⟨mr,mq⟩
      ·rw[if_neg c15] at H
       have c15b0:decide (12 < (((rd_T151 l0 x6_1).f0).size:Int))=false:=decide_eq_false c15;have c15b1:decide (12 < ((rd_T151 l0 x6_1).f0).size)=false:=decide_eq_false (by omega);clear c15;by_cases c18:((rd_T151 l0 x6_1).f1) < 0
       ·rw[if_pos c18] at H
        have c18b0:decide (((rd_T151 l0 x6_1).f1) < 0)=true:=decide_eq_true c18;clear c18;obtain rfl:=Option.some.inj H;have p686:0≤(x6_1:Int):=mo;have q686:x6_1 < (l0.length:Int):=mo;obtain⟨ad686,e686,hx686_0,hx686_1⟩:=at_T151 (Kd.C_below HR0.out HB.out) x6_1 p686 q686;cases e686;replace p686:=eq_true p686;replace q686:=eq_true q686;go_wp2_with (first|((with_reducible refine gate_dst (N:=7) rfl ?_);refine yE (N:=7) (cs:=#[.string (⟨#[]⟩:ByteArray),.int .i64 0]) (t:=151) fun gb687 hg w19 hbox hb=>?_;obtain⟨n0_,n2_⟩:=yX (w:=w) hg hb mq;have n1_:=Aside0.mk (hbox);have n3_:=n2_;clear HB;have HB:=n0_;have BK687:=n1_;have GW687:=n2_;have GE687:=n3_;clear n0_ n1_ n2_ n3_;clear hb hbox hg;obtain⟨hcz20_0,hcz20_1,hfz20_0,hfz20_1⟩:=zb2 BK687.out));go_ret;exact⟨mr,mq⟩
       ·rw[if_neg c18] at H
        have c18b0:decide (((rd_T151 l0 x6_1).f1) < 0)=false:=decide_eq_false c18;clear c18;replace H:=Option.bind_eq_some_iff.mp H;obtain⟨t688,A210,H⟩:=H;(try dsimp only at H)
        have A21:=Aside0.mk A210;clear A210;by_cases c22:t688=x6_1
        ·rw[if_pos c22] at H
         have c22b0:(t688 == x6_1)=true:=beq_iff_eq.mpr c22;have c22b1:(t688 != x6_1)=false:=bne_eq_false_iff_eq.mpr c22;clear c22;have H':=Aside0.mk H;clear H;have p686:0≤(x6_1:Int):=mo;have q686:x6_1 < (l0.length:Int):=mo;obtain⟨ad686,e686,hx686_0,hx686_1⟩:=at_T151 (Kd.C_below HR0.out HB.out) x6_1 p686 q686;cases e686;replace p686:=eq_true p686;replace q686:=eq_true q686;go_wp2_with (first|((with_reducible refine gate_dst (N:=7) rfl ?_);refine yE (N:=7) (cs:=#[.string (⟨#[]⟩:ByteArray),.int .i64 0]) (t:=151) fun gb687 hg w23 hbox hb=>?_;obtain⟨n0_,n2_⟩:=yX (w:=w) hg hb mq;have n1_:=Aside0.mk (hbox);have n3_:=n2_;clear HB;have HB:=n0_;have BK687:=n1_;have GW687:=n2_;have GE687:=n3_;clear n0_ n1_ n2_ n3_;clear hb hbox hg;obtain⟨hcz24_0,hcz24_1,hfz24_0,hfz24_1⟩:=zb2 BK687.out)|(go_at_call 119;(with_reducible refine(spec_l04Seek.calls k1 _ _ l0 ((rd_T151 l0 x6_1).f0) t688 _ ?side1 ?side2 A21.out).mono ?_);(case side1=>exact Kd.C_below HR0.out mq);(case side2=>exact HC0.out);rintro e w25 ⟨rfl,hb⟩;have n0_:=Aside0.mk (zK (g:=gb687) (o:=.cells #[.string ((rd_T151 l0 x6_1).f0),.int .i64 ((rd_T151 l0 x6_1).f1)] 151 (0,0)) (by(with_reducible repeat(first|apply zA|apply zC|apply zB));refine blk_put (cs:=#[.string ((rd_T151 l0 x6_1).f0),.int .i64 0]) ?_ 1 _ rfl;(with_reducible repeat(first|apply zA|apply zC|apply zB));refine blk_put (cs:=#[.string (⟨#[]⟩:ByteArray),.int .i64 0]) ?_ 0 _ rfl;(with_reducible repeat(first|apply zA|apply zC|apply zB));exact BK687.out) hb);have n1_:=Aside0.mk (zN mq hb);clear BK687;clear HB;have BK687:=n0_;have HB:=n1_;clear n0_ n1_;(try clear hb);(try clear hb2);(try clear hk);(try clear hi)))
         go_roundg k1
         case measure=>have:=HK1.out;omega
         case rel=>exact⟨(x5_1),(wrap64 (x6_1+1)),mt,mt,H',⟨by have:=HK1.out;omega⟩,⟨mq⟩⟩
        ·rw[if_neg c22] at H
         have c22b0:(t688 == x6_1)=false:=beq_eq_false_iff_ne.mpr c22;have c22b1:(t688 != x6_1)=true:=bne_iff_ne.mpr c22;obtain rfl:=Option.some.inj H;have p686:0≤(x6_1:Int):=mo;have q686:x6_1 < (l0.length:Int):=mo;obtain⟨ad686,e686,hx686_0,hx686_1⟩:=at_T151 (Kd.C_below HR0.out HB.out) x6_1 p686 q686;cases e686;replace p686:=eq_true p686;replace q686:=eq_true q686;go_wp2_with (first|((with_reducible refine gate_dst (N:=7) rfl ?_);refine yE (N:=7) (cs:=#[.string (⟨#[]⟩:ByteArray),.int .i64 0]) (t:=151) fun gb687 hg w26 hbox hb=>?_;obtain⟨n0_,n2_⟩:=yX (w:=w) hg hb mq;have n1_:=Aside0.mk (hbox);have n3_:=n2_;clear HB;have HB:=n0_;have BK687:=n1_;have GW687:=n2_;have GE687:=n3_;clear n0_ n1_ n2_ n3_;clear hb hbox hg;obtain⟨hcz27_0,hcz27_1,hfz27_0,hfz27_1⟩:=zb2 BK687.out)|(go_at_call 119;(with_reducible refine(spec_l04Seek.calls k1 _ _ l0 ((rd_T151 l0 x6_1).f0) t688 _ ?side1 ?side2 A21.out).mono ?_);(case side1=>exact Kd.C_below HR0.out mq);(case side2=>exact HC0.out);rintro e w28 ⟨rfl,hb⟩;have n0_:=Aside0.mk (zK (g:=gb687) (o:=.cells #[.string ((rd_T151 l0 x6_1).f0),.int .i64 ((rd_T151 l0 x6_1).f1)] 151 (0,0)) (by(with_reducible repeat(first|apply zA|apply zC|apply zB));refine blk_put (cs:=#[.string ((rd_T151 l0 x6_1).f0),.int .i64 0]) ?_ 1 _ rfl;(with_reducible repeat(first|apply zA|apply zC|apply zB));refine blk_put (cs:=#[.string (⟨#[]⟩:ByteArray),.int .i64 0]) ?_ 0 _ rfl;(with_reducible repeat(first|apply zA|apply zC|apply zB));exact BK687.out) hb);have n1_:=Aside0.mk (zN mq hb);clear BK687;clear HB;have BK687:=n0_;have HB:=n1_;clear n0_ n1_;(try clear hb);(try clear hb2);(try clear hk);(try clear hi)));go_ret;exact⟨mr,mq⟩
    ·rw[if_neg c4] at H
     exact absurd H (by simp)
   ·rw[if_neg c3] at H
    have c3b0:decide (x6_1 < (l0.length:Int))=false:=decide_eq_false c3;clear c3;obtain rfl:=Option.some.inj H;go_wp2
    go_ret;exact⟨mr,mq⟩
mutual
def spec_TableOk.j0:Nat→Bool→List (S151)→List (S151)→Int→Option (Bool)
|0,_,_,_,_=>none
|k+1,x46,x690000,x690001,x690002=>if x46=true then (some false) else (spec_TableOk.l0 k 0 x690000 x690001 x690002)
def spec_TableOk.l0:Nat→Int→List (S151)→List (S151)→Int→Option (Bool)
|0,_,_,_,_=>none
|k+1,x3,x690000,x690001,x690002=>if x3 < (x690001.length:Int) then (if 0≤x3 then (if x3 < x690002 then (if ((rd_T151 x690001 x3).f0).toList=([]:List UInt8) then (if ((rd_T151 x690001 x3).f1)=(-2) then (spec_TableOk.l0 k (wrap64 (x3+1)) x690000 x690001 x690002) else (some false)) else (some false)) else (if ((rd_T151 x690001 x3).f0).toList=([]:List UInt8) then (spec_TableOk.l0 k (wrap64 (x3+1)) x690000 x690001 x690002) else ((spec_l04Seek.f k x690000 ((rd_T151 x690001 x3).f0)).bind fun t699=>(if t699 ≥ 0 then (some false) else (spec_TableOk.l0 k (wrap64 (x3+1)) x690000 x690001 x690002))))) else (none)) else (some true)
end
def spec_TableOk.f (k:Nat) (l0_0:List (S151)) (l0_1:List (S151)) (a0_2:Int):Option (Bool):=(spec_l04Size.f (l0_0.length:Int)).bind fun t690=>(if t690=true then (if (l0_1.length:Int)=0 then ((spec_l01In.f a0_2 0 (l0_1.length:Int)).bind fun t691=>(if t691=true then ((spec_l04Right.f k l0_0 true).bind fun t692=>(if t692=true then ((spec_l04Right.f k l0_1 false).bind fun t693=>(spec_TableOk.j0 k (!t693) l0_0 l0_1 a0_2)) else (spec_TableOk.j0 k true l0_0 l0_1 a0_2))) else (spec_TableOk.j0 k true l0_0 l0_1 a0_2))) else (if (wrap64 (2 * (l0_1.length:Int)))=(l0_0.length:Int) then ((spec_l01In.f a0_2 0 (l0_1.length:Int)).bind fun t694=>(if t694=true then ((spec_l04Right.f k l0_0 true).bind fun t695=>(if t695=true then ((spec_l04Right.f k l0_1 false).bind fun t696=>(spec_TableOk.j0 k (!t696) l0_0 l0_1 a0_2)) else (spec_TableOk.j0 k true l0_0 l0_1 a0_2))) else (spec_TableOk.j0 k true l0_0 l0_1 a0_2))) else (spec_TableOk.j0 k true l0_0 l0_1 a0_2))) else (spec_TableOk.j0 k true l0_0 l0_1 a0_2))
theorem spec_TableOk.calls (k:Nat) (A0_0:Option Addr) (c0_0:Nat) (l0_0:List (S151)) (A0_1:Option Addr) (c0_1:Nat) (l0_1:List (S151)) (a0_2:Int) (r:Bool) (w:World) (hr0_0:Kd.C k151 w A0_0 l0_0.length l0_0) (hc0_0:l0_0.length≤c0_0) (hr0_1:Kd.C k151 w A0_1 l0_1.length l0_1) (hc0_1:l0_1.length≤c0_1) (h:spec_TableOk.f k l0_0 l0_1 a0_2=some r) :
  Calls Tryz.prog 114 #[.agg #[.slice A0_0 l0_0.length c0_0,.slice A0_1 l0_1.length c0_1,.int .i64 a0_2]] w fun e w'=>e=.returned (.bool r)∧Below w.heap.size w w':=by
 have hu45:=Tryz.underlying45;have hu151:=Tryz.underlying151;have HR0_0:=Aside0.mk hr0_0;have HC0_0:=Aside0.mk hc0_0;clear hr0_0 hc0_0;have HR0_1:=Aside0.mk hr0_1;have HC0_1:=Aside0.mk hc0_1;clear hr0_1 hc0_1;have HB:=Aside0.mk (Below.refl w.heap.size w);unfold spec_TableOk.f at h;have H:=h;clear h;have HC2:=Aside0.mk H;clear H;go_enter Tryz.func114,Tryz.ntmps114;go_upto_region 1 with (first|((with_reducible refine gate_dst (N:=1) rfl ?_);(try(refine gate_guard (by rfl) ?_;dsimp only));refine yE (N:=1) (cs:=#[.slice A0_0 l0_0.length c0_0,.slice A0_1 l0_1.length c0_1,.int .i64 a0_2]) (t:=45) fun gb689 hg w3 hbox hb=>?_;obtain⟨n0_,n2_⟩:=yX (w:=w) hg hb mq;have n1_:=Aside0.mk (hbox);have n3_:=n2_;clear HB;have HB:=n0_;have BK689:=n1_;have GW689:=n2_;have GE689:=n3_;clear n0_ n1_ n2_ n3_;clear hb hbox hg))
 (try simp only [Act.put,List.setIfInBounds_toArray,List.set_cons_zero,List.set_cons_succ])
 go_cut [46] (fun v46 wc=>∃ (kq:Nat) (x46_1:Bool),v46=.bool x46_1∧Aside0 (spec_TableOk.j0 kq x46_1 l0_0 l0_1 a0_2=some r)∧Aside0 (kq≤k)∧Aside0 (wc.heap[gb689]? = some (.cells #[(.slice A0_0 l0_0.length c0_0),(.slice A0_1 l0_1.length c0_1),.int .i64 a0_2] 45 (0,0)))∧Aside0 (Below w.heap.size w wc))
 case first =>
  have H:=HC2.out;clear HC2;replace H:=Option.bind_eq_some_iff.mp H;obtain⟨t690,A40,H⟩:=H;(try dsimp only at H)
  have A4:=Aside0.mk A40;clear A40;by_cases c5:t690=true
  ·subst c5
   rw[if_pos rfl] at H;by_cases c6:(l0_1.length:Int)=0
   ·rw[if_pos c6] at H
    have c6b0:((l0_1.length:Int) == 0)=true:=beq_iff_eq.mpr c6;have c6b1:((l0_1.length:Int) != 0)=false:=bne_eq_false_iff_eq.mpr c6;clear c6;(first|rw[c6b0]|(simp only [i64_w,i32_w];rw[c6b0])|skip)
    replace H:=Option.bind_eq_some_iff.mp H;obtain⟨t691,A70,H⟩:=H;(try dsimp only at H)
    have A7:=Aside0.mk A70;clear A70;by_cases c8:t691=true
    ·subst c8
     rw[if_pos rfl] at H;replace H:=Option.bind_eq_some_iff.mp H;obtain⟨t692,A90,H⟩:=H;(try dsimp only at H)
     have A9:=Aside0.mk A90;clear A90;by_cases c10:t692=true
     ·subst c10
      rw[if_pos rfl] at H;replace H:=Option.bind_eq_some_iff.mp H;obtain⟨t693,A110,H⟩:=H;(try dsimp only at H)
      have A11:=Aside0.mk A110;clear A110;have H':=Aside0.mk H;clear H;have hcz12_0:w3.cell? ⟨gb689,0,none⟩=some (.slice A0_0 l0_0.length c0_0):=(zO BK689.out 0).trans rfl;have hcz12_1:w3.cell? ⟨gb689,1,none⟩=some (.slice A0_1 l0_1.length c0_1):=(zO BK689.out 1).trans rfl;have hcz12_2:w3.cell? ⟨gb689,2,none⟩=some (.int .i64 a0_2):=(zO BK689.out 2).trans rfl;have hfz12_0:=zP BK689.out 0;have hfz12_1:=zP BK689.out 1;have hfz12_2:=zP BK689.out 2;go_wp2_with (first|((with_reducible refine gate_callee (f:=169) rfl ?_);refine goesL_ (some 8) rfl rfl Tryz.func169 (by kernel_rfl) rfl #[.int .i64 (l0_0.length:Int)] rfl ml ?_;(with_reducible refine(spec_l04Size.calls (l0_0.length:Int) true _ A4.out).mono ?_);rintro e w' ⟨rfl,⟨nd,rfl⟩⟩;refine⟨_,rfl,?_⟩)|(go_at_call 93;(with_reducible refine(spec_l01In.calls a0_2 0 (l0_1.length:Int) true _ A7.out).mono ?_);rintro e w' ⟨rfl,⟨nd,rfl⟩⟩)|(go_at_call 186;(with_reducible refine(spec_l04Right.calls k _ _ l0_0 true true _ ?side1 ?side2 A9.out).mono ?_);(case side1=>exact mc HR0_0.out);(case side2=>exact HC0_0.out);rintro e w13 ⟨rfl,hb⟩;have n0_:=Aside0.mk (zK (mz BK689.out) hb);have n1_:=Aside0.mk (zN mq hb);clear BK689;clear HB;have BK689:=n0_;have HB:=n1_;clear n0_ n1_;(try clear hb);(try clear hb2);(try clear hk);(try clear hi);have hcz14_0:w13.cell? ⟨gb689,0,none⟩=some (.slice A0_0 l0_0.length c0_0):=(zO BK689.out 0).trans rfl;have hcz14_1:w13.cell? ⟨gb689,1,none⟩=some (.slice A0_1 l0_1.length c0_1):=(zO BK689.out 1).trans rfl;have hcz14_2:w13.cell? ⟨gb689,2,none⟩=some (.int .i64 a0_2):=(zO BK689.out 2).trans rfl;have hfz14_0:=zP BK689.out 0;have hfz14_1:=zP BK689.out 1;have hfz14_2:=zP BK689.out 2)|(go_at_call 186;(with_reducible refine(spec_l04Right.calls k _ _ l0_1 false t693 _ ?side1 ?side2 A11.out).mono ?_);(case side1=>exact mc HR0_1.out);(case side2=>exact HC0_1.out);rintro e w15 ⟨rfl,hb⟩;have n0_:=Aside0.mk (zK (mz BK689.out) hb);have n1_:=Aside0.mk (zN mq hb);clear BK689;clear HB;have BK689:=n0_;have HB:=n1_;clear n0_ n1_;(try clear hb);(try clear hb2);(try clear hk);(try clear hi)));go_meet
      case rel=>exact⟨_,(!t693),mt,H',⟨by first|omega|exact Nat.le_refl _⟩,⟨mz BK689.out⟩,⟨mq⟩⟩
     ·replace c10:=Bool.eq_false_iff.mpr c10
      subst c10;rw[if_neg (show ¬ (false=true) by decide)] at H;have H':=Aside0.mk H;clear H;have hcz16_0:w3.cell? ⟨gb689,0,none⟩=some (.slice A0_0 l0_0.length c0_0):=(zO BK689.out 0).trans rfl;have hcz16_1:w3.cell? ⟨gb689,1,none⟩=some (.slice A0_1 l0_1.length c0_1):=(zO BK689.out 1).trans rfl;have hcz16_2:w3.cell? ⟨gb689,2,none⟩=some (.int .i64 a0_2):=(zO BK689.out 2).trans rfl;have hfz16_0:=zP BK689.out 0;have hfz16_1:=zP BK689.out 1;have hfz16_2:=zP BK689.out 2;go_wp2_with (first|((with_reducible refine gate_callee (f:=169) rfl ?_);refine goesL_ (some 8) rfl rfl Tryz.func169 (by kernel_rfl) rfl #[.int .i64 (l0_0.length:Int)] rfl ml ?_;(with_reducible refine(spec_l04Size.calls (l0_0.length:Int) true _ A4.out).mono ?_);rintro e w' ⟨rfl,⟨nd,rfl⟩⟩;refine⟨_,rfl,?_⟩)|(go_at_call 93;(with_reducible refine(spec_l01In.calls a0_2 0 (l0_1.length:Int) true _ A7.out).mono ?_);rintro e w' ⟨rfl,⟨nd,rfl⟩⟩)|(go_at_call 186;(with_reducible refine(spec_l04Right.calls k _ _ l0_0 true false _ ?side1 ?side2 A9.out).mono ?_);(case side1=>exact mc HR0_0.out);(case side2=>exact HC0_0.out);rintro e w17 ⟨rfl,hb⟩;have n0_:=Aside0.mk (zK (mz BK689.out) hb);have n1_:=Aside0.mk (zN mq hb);clear BK689;clear HB;have BK689:=n0_;have HB:=n1_;clear n0_ n1_;(try clear hb);(try clear hb2);(try clear hk);(try clear hi)));go_meet
      case rel=>exact⟨_,(true),mt,H',⟨by first|omega|exact Nat.le_refl _⟩,⟨mz BK689.out⟩,⟨mq⟩⟩
    ·replace c8:=Bool.eq_false_iff.mpr c8
     subst c8;rw[if_neg (show ¬ (false=true) by decide)] at H;have H':=Aside0.mk H;clear H;have hcz18_0:w3.cell? ⟨gb689,0,none⟩=some (.slice A0_0 l0_0.length c0_0):=(zO BK689.out 0).trans rfl;have hcz18_1:w3.cell? ⟨gb689,1,none⟩=some (.slice A0_1 l0_1.length c0_1):=(zO BK689.out 1).trans rfl;have hcz18_2:w3.cell? ⟨gb689,2,none⟩=some (.int .i64 a0_2):=(zO BK689.out 2).trans rfl;have hfz18_0:=zP BK689.out 0;have hfz18_1:=zP BK689.out 1;have hfz18_2:=zP BK689.out 2;go_wp2_with (first|((with_reducible refine gate_callee (f:=169) rfl ?_);refine goesL_ (some 8) rfl rfl Tryz.func169 (by kernel_rfl) rfl #[.int .i64 (l0_0.length:Int)] rfl ml ?_;(with_reducible refine(spec_l04Size.calls (l0_0.length:Int) true _ A4.out).mono ?_);rintro e w' ⟨rfl,⟨nd,rfl⟩⟩;refine⟨_,rfl,?_⟩)|(go_at_call 93;(with_reducible refine(spec_l01In.calls a0_2 0 (l0_1.length:Int) false _ A7.out).mono ?_);rintro e w' ⟨rfl,⟨nd,rfl⟩⟩));go_meet
     case rel=>exact⟨_,(true),mt,H',⟨by first|omega|exact Nat.le_refl _⟩,⟨mz BK689.out⟩,⟨mq⟩⟩
   ·rw[if_neg c6] at H
    have c6b0:((l0_1.length:Int) == 0)=false:=beq_eq_false_iff_ne.mpr c6;have c6b1:((l0_1.length:Int) != 0)=true:=bne_iff_ne.mpr c6;have c6b2:¬ (l0_1 = []):=fun h_=>c6 (by rw[h_];rfl)
    (first|rw[c6b0]|(simp only [i64_w,i32_w];rw[c6b0])|skip)
    by_cases c19:(wrap64 (2 * (l0_1.length:Int)))=(l0_0.length:Int)
    ·rw[if_pos c19] at H
     have c19b0:((wrap64 (2 * (l0_1.length:Int))) == (l0_0.length:Int))=true:=beq_iff_eq.mpr c19;have c19b1:((wrap64 (2 * (l0_1.length:Int))) != (l0_0.length:Int))=false:=bne_eq_false_iff_eq.mpr c19;clear c19;replace H:=Option.bind_eq_some_iff.mp H;obtain⟨t694,A200,H⟩:=H;(try dsimp only at H)
     have A20:=Aside0.mk A200;clear A200;by_cases c21:t694=true
     ·subst c21
      rw[if_pos rfl] at H;replace H:=Option.bind_eq_some_iff.mp H;obtain⟨t695,A220,H⟩:=H;(try dsimp only at H)
      have A22:=Aside0.mk A220;clear A220;by_cases c23:t695=true
      ·subst c23
       rw[if_pos rfl] at H;replace H:=Option.bind_eq_some_iff.mp H;obtain⟨t696,A240,H⟩:=H;(try dsimp only at H)
       have A24:=Aside0.mk A240;clear A240;have H':=Aside0.mk H;clear H;have hcz25_0:w3.cell? ⟨gb689,0,none⟩=some (.slice A0_0 l0_0.length c0_0):=(zO BK689.out 0).trans rfl;have hcz25_1:w3.cell? ⟨gb689,1,none⟩=some (.slice A0_1 l0_1.length c0_1):=(zO BK689.out 1).trans rfl;have hcz25_2:w3.cell? ⟨gb689,2,none⟩=some (.int .i64 a0_2):=(zO BK689.out 2).trans rfl;have hfz25_0:=zP BK689.out 0;have hfz25_1:=zP BK689.out 1;have hfz25_2:=zP BK689.out 2;go_wp2_with (first|((with_reducible refine gate_callee (f:=169) rfl ?_);refine goesL_ (some 8) rfl rfl Tryz.func169 (by kernel_rfl) rfl #[.int .i64 (l0_0.length:Int)] rfl ml ?_;(with_reducible refine(spec_l04Size.calls (l0_0.length:Int) true _ A4.out).mono ?_);rintro e w' ⟨rfl,⟨nd,rfl⟩⟩;refine⟨_,rfl,?_⟩)|(go_at_call 93;(with_reducible refine(spec_l01In.calls a0_2 0 (l0_1.length:Int) true _ A20.out).mono ?_);rintro e w' ⟨rfl,⟨nd,rfl⟩⟩)|(go_at_call 186;(with_reducible refine(spec_l04Right.calls k _ _ l0_0 true true _ ?side1 ?side2 A22.out).mono ?_);(case side1=>exact mc HR0_0.out);(case side2=>exact HC0_0.out);rintro e w26 ⟨rfl,hb⟩;have n0_:=Aside0.mk (zK (mz BK689.out) hb);have n1_:=Aside0.mk (zN mq hb);clear BK689;clear HB;have BK689:=n0_;have HB:=n1_;clear n0_ n1_;(try clear hb);(try clear hb2);(try clear hk);(try clear hi);have hcz27_0:w26.cell? ⟨gb689,0,none⟩=some (.slice A0_0 l0_0.length c0_0):=(zO BK689.out 0).trans rfl;have hcz27_1:w26.cell? ⟨gb689,1,none⟩=some (.slice A0_1 l0_1.length c0_1):=(zO BK689.out 1).trans rfl;have hcz27_2:w26.cell? ⟨gb689,2,none⟩=some (.int .i64 a0_2):=(zO BK689.out 2).trans rfl;have hfz27_0:=zP BK689.out 0;have hfz27_1:=zP BK689.out 1;have hfz27_2:=zP BK689.out 2)|(go_at_call 186;(with_reducible refine(spec_l04Right.calls k _ _ l0_1 false t696 _ ?side1 ?side2 A24.out).mono ?_);(case side1=>exact mc HR0_1.out);(case side2=>exact HC0_1.out);rintro e w28 ⟨rfl,hb⟩;have n0_:=Aside0.mk (zK (mz BK689.out) hb);have n1_:=Aside0.mk (zN mq hb);clear BK689;clear HB;have BK689:=n0_;have HB:=n1_;clear n0_ n1_;(try clear hb);(try clear hb2);(try clear hk);(try clear hi)));go_meet
       case rel=>exact⟨_,(!t696),mt,H',⟨by first|omega|exact Nat.le_refl _⟩,⟨mz BK689.out⟩,⟨mq⟩⟩
      ·replace c23:=Bool.eq_false_iff.mpr c23
       subst c23;rw[if_neg (show ¬ (false=true) by decide)] at H;have H':=Aside0.mk H;clear H;have hcz29_0:w3.cell? ⟨gb689,0,none⟩=some (.slice A0_0 l0_0.length c0_0):=(zO BK689.out 0).trans rfl;have hcz29_1:w3.cell? ⟨gb689,1,none⟩=some (.slice A0_1 l0_1.length c0_1):=(zO BK689.out 1).trans rfl;have hcz29_2:w3.cell? ⟨gb689,2,none⟩=some (.int .i64 a0_2):=(zO BK689.out 2).trans rfl;have hfz29_0:=zP BK689.out 0;have hfz29_1:=zP BK689.out 1;have hfz29_2:=zP BK689.out 2;go_wp2_with (first|((with_reducible refine gate_callee (f:=169) rfl ?_);refine goesL_ (some 8) rfl rfl Tryz.func169 (by kernel_rfl) rfl #[.int .i64 (l0_0.length:Int)] rfl ml ?_;(with_reducible refine(spec_l04Size.calls (l0_0.length:Int) true _ A4.out).mono ?_);rintro e w' ⟨rfl,⟨nd,rfl⟩⟩;refine⟨_,rfl,?_⟩)|(go_at_call 93;(with_reducible refine(spec_l01In.calls a0_2 0 (l0_1.length:Int) true _ A20.out).mono ?_);rintro e w' ⟨rfl,⟨nd,rfl⟩⟩)|(go_at_call 186;(with_reducible refine(spec_l04Right.calls k _ _ l0_0 true false _ ?side1 ?side2 A22.out).mono ?_);(case side1=>exact mc HR0_0.out);(case side2=>exact HC0_0.out);rintro e w30 ⟨rfl,hb⟩;have n0_:=Aside0.mk (zK (mz BK689.out) hb);have n1_:=Aside0.mk (zN mq hb);clear BK689;clear HB;have BK689:=n0_;have HB:=n1_;clear n0_ n1_;(try clear hb);(try clear hb2);(try clear hk);(try clear hi)));go_meet
       case rel=>exact⟨_,(true),mt,H',⟨by first|omega|exact Nat.le_refl _⟩,⟨mz BK689.out⟩,⟨mq⟩⟩
     ·replace c21:=Bool.eq_false_iff.mpr c21
      subst c21;rw[if_neg (show ¬ (false=true) by decide)] at H;have H':=Aside0.mk H;clear H;have hcz31_0:w3.cell? ⟨gb689,0,none⟩=some (.slice A0_0 l0_0.length c0_0):=(zO BK689.out 0).trans rfl;have hcz31_1:w3.cell? ⟨gb689,1,none⟩=some (.slice A0_1 l0_1.length c0_1):=(zO BK689.out 1).trans rfl;have hcz31_2:w3.cell? ⟨gb689,2,none⟩=some (.int .i64 a0_2):=(zO BK689.out 2).trans rfl;have hfz31_0:=zP BK689.out 0;have hfz31_1:=zP BK689.out 1;have hfz31_2:=zP BK689.out 2;go_wp2_with (first|((with_reducible refine gate_callee (f:=169) rfl ?_);refine goesL_ (some 8) rfl rfl Tryz.func169 (by kernel_rfl) rfl #[.int .i64 (l0_0.length:Int)] rfl ml ?_;(with_reducible refine(spec_l04Size.calls (l0_0.length:Int) true _ A4.out).mono ?_);rintro e w' ⟨rfl,⟨nd,rfl⟩⟩;refine⟨_,rfl,?_⟩)|(go_at_call 93;(with_reducible refine(spec_l01In.calls a0_2 0 (l0_1.length:Int) false _ A20.out).mono ?_);rintro e w' ⟨rfl,⟨nd,rfl⟩⟩));go_meet
      case rel=>exact⟨_,(true),mt,H',⟨by first|omega|exact Nat.le_refl _⟩,⟨mz BK689.out⟩,⟨mq⟩⟩
    ·rw[if_neg c19] at H
     have c19b0:((wrap64 (2 * (l0_1.length:Int))) == (l0_0.length:Int))=false:=beq_eq_false_iff_ne.mpr c19;have c19b1:((wrap64 (2 * (l0_1.length:Int))) != (l0_0.length:Int))=true:=bne_iff_ne.mpr c19;have H':=Aside0.mk H;clear H;have hcz32_0:w3.cell? ⟨gb689,0,none⟩=some (.slice A0_0 l0_0.length c0_0):=(zO BK689.out 0).trans rfl;have hcz32_1:w3.cell? ⟨gb689,1,none⟩=some (.slice A0_1 l0_1.length c0_1):=(zO BK689.out 1).trans rfl;have hcz32_2:w3.cell? ⟨gb689,2,none⟩=some (.int .i64 a0_2):=(zO BK689.out 2).trans rfl;have hfz32_0:=zP BK689.out 0;have hfz32_1:=zP BK689.out 1;have hfz32_2:=zP BK689.out 2;go_wp2_with (first|((with_reducible refine gate_callee (f:=169) rfl ?_);refine goesL_ (some 8) rfl rfl Tryz.func169 (by kernel_rfl) rfl #[.int .i64 (l0_0.length:Int)] rfl ml ?_;(with_reducible refine(spec_l04Size.calls (l0_0.length:Int) true _ A4.out).mono ?_);rintro e w' ⟨rfl,⟨nd,rfl⟩⟩;refine⟨_,rfl,?_⟩));go_meet
     case rel=>exact⟨_,(true),mt,H',⟨by first|omega|exact Nat.le_refl _⟩,⟨mz BK689.out⟩,⟨mq⟩⟩
  ·replace c5:=Bool.eq_false_iff.mpr c5
   subst c5;rw[if_neg (show ¬ (false=true) by decide)] at H;have H':=Aside0.mk H;clear H;have hcz33_0:w3.cell? ⟨gb689,0,none⟩=some (.slice A0_0 l0_0.length c0_0):=(zO BK689.out 0).trans rfl;have hcz33_1:w3.cell? ⟨gb689,1,none⟩=some (.slice A0_1 l0_1.length c0_1):=(zO BK689.out 1).trans rfl;have hcz33_2:w3.cell? ⟨gb689,2,none⟩=some (.int .i64 a0_2):=(zO BK689.out 2).trans rfl;have hfz33_0:=zP BK689.out 0;have hfz33_1:=zP BK689.out 1;have hfz33_2:=zP BK689.out 2;go_wp2_with (first|((with_reducible refine gate_callee (f:=169) rfl ?_);refine goesL_ (some 8) rfl rfl Tryz.func169 (by kernel_rfl) rfl #[.int .i64 (l0_0.length:Int)] rfl ml ?_;(with_reducible refine(spec_l04Size.calls (l0_0.length:Int) false _ A4.out).mono ?_);rintro e w' ⟨rfl,⟨nd,rfl⟩⟩;refine⟨_,rfl,?_⟩));go_meet
   case rel=>exact⟨_,(true),mt,H',⟨by first|omega|exact Nat.le_refl _⟩,⟨mz BK689.out⟩,⟨mq⟩⟩
 case rest =>
  clear HC2;obtain⟨kq,x46_1,rfl,HA,HJ1,BK689,HB⟩:=hcut;cases kq with
 |zero=>exact absurd HA.out (by simp[spec_TableOk.j0])
 |succ kj1 =>
   have H:=HA.out;clear HA;simp only [spec_TableOk.j0] at H;by_cases c34:x46_1=true
   ·subst c34
    rw[if_pos rfl] at H;obtain rfl:=Option.some.inj H;go_wp2
    go_ret;exact⟨mr,mq⟩
   ·replace c34:=Bool.eq_false_iff.mpr c34
    subst c34;rw[if_neg (show ¬ (false=true) by decide)] at H;have H':=Aside0.mk H;clear H;go_wp2
    go_loopg [3] kj1 (fun kq v3 w'=>∃ (x3_2:Int),v3=.int .i64 x3_2∧Aside0 (spec_TableOk.l0 kq x3_2 l0_0 l0_1 a0_2=some r)∧Aside0 (kq≤kj1)∧Aside0 (w'.heap[gb689]? = some (.cells #[(.slice A0_0 l0_0.length c0_0),(.slice A0_1 l0_1.length c0_1),.int .i64 a0_2] 45 (0,0)))∧Aside0 (Below w.heap.size w w'))
    case atStart=>exact⟨(0),mt,H',⟨Nat.le_refl _⟩,⟨mz BK689.out⟩,⟨mq⟩⟩
    case round =>
     clear H';obtain⟨x3_2,rfl,HA,HK2,BK689,HB⟩:=hrel;cases gk with
    |zero=>exact absurd HA.out (by simp[spec_TableOk.l0])
    |succ k2 =>
      have H:=HA.out;clear HA;simp only [spec_TableOk.l0] at H;by_cases c35:x3_2 < (l0_1.length:Int)
      ·rw[if_pos c35] at H
       have c35b0:decide (x3_2 < (l0_1.length:Int))=true:=decide_eq_true c35;clear c35;by_cases c36:0≤x3_2
       ·rw[if_pos c36] at H
        have c36b0:decide (0≤x3_2)=true:=decide_eq_true c36;clear c36;by_cases c37:x3_2 < a0_2
        ·rw[if_pos c37] at H
         have c37b0:decide (x3_2 < a0_2)=true:=decide_eq_true c37;clear c37;by_cases c38:((rd_T151 l0_1 x3_2).f0).toList=([]:List UInt8)
         ·rw[if_pos c38] at H
          have c38b0:(((rd_T151 l0_1 x3_2).f0).toList == ([]:List UInt8))=true:=beq_iff_eq.mpr c38;have c38b1:(((rd_T151 l0_1 x3_2).f0).toList != ([]:List UInt8))=false:=bne_eq_false_iff_eq.mpr c38;clear c38;by_cases c39:((rd_T151 l0_1 x3_2).f1)=(-2)
          ·rw[if_pos c39] at H
           have c39b0:(((rd_T151 l0_1 x3_2).f1) == (-2))=true:=beq_iff_eq.mpr c39;have c39b1:(((rd_T151 l0_1 x3_2).f1) != (-2))=false:=bne_eq_false_iff_eq.mpr c39;clear c39;have H':=Aside0.mk H;clear H;have hcz40_0:wr.cell? ⟨gb689,0,none⟩=some (.slice A0_0 l0_0.length c0_0):=(zO BK689.out 0).trans rfl;have hcz40_1:wr.cell? ⟨gb689,1,none⟩=some (.slice A0_1 l0_1.length c0_1):=(zO BK689.out 1).trans rfl;have hcz40_2:wr.cell? ⟨gb689,2,none⟩=some (.int .i64 a0_2):=(zO BK689.out 2).trans rfl;have hfz40_0:=zP BK689.out 0;have hfz40_1:=zP BK689.out 1;have hfz40_2:=zP BK689.out 2;have p697:0≤(x3_2:Int):=mo;have q697:x3_2 < (l0_1.length:Int):=mo;obtain⟨ad697,e697,hx697_0,hx697_1⟩:=at_T151 (Kd.C_below HR0_1.out HB.out) x3_2 p697 q697;cases e697;replace p697:=eq_true p697;replace q697:=eq_true q697;go_wp2_with (first|((with_reducible refine gate_dst (N:=4) rfl ?_);(try(refine gate_guard (by rfl) ?_;dsimp only));refine yE (N:=4) (cs:=#[.string (⟨#[]⟩:ByteArray),.int .i64 0]) (t:=151) fun gb698 hg w41 hbox hb=>?_;obtain⟨n0_,n5_,n6_⟩:=yY hg hb (mz BK689.out);obtain⟨n1_,n3_⟩:=yX (w:=w) hg hb mq;have n2_:=Aside0.mk (hbox);have n4_:=n3_;clear BK689;clear HB;have BK689:=n0_;have HB:=n1_;have BK698:=n2_;have GW698:=n3_;have GE698:=n4_;have NB689_698:=n5_;have NB698_689:=n6_;clear n0_ n1_ n2_ n3_ n4_ n5_ n6_;clear hb hbox hg;have hnb42:=NB698_689.out;have hnc42:=NB689_698.out;have hcz43_0:w41.cell? ⟨gb698,0,none⟩=some (.string (⟨#[]⟩:ByteArray)):=(zO BK698.out 0).trans rfl;have hcz43_1:w41.cell? ⟨gb698,1,none⟩=some (.int .i64 0):=(zO BK698.out 1).trans rfl;have hfz43_0:=zP BK698.out 0;have hfz43_1:=zP BK698.out 1;have hcz44_0:w41.cell? ⟨gb689,0,none⟩=some (.slice A0_0 l0_0.length c0_0):=(zO BK689.out 0).trans rfl;have hcz44_1:w41.cell? ⟨gb689,1,none⟩=some (.slice (some ad697) l0_1.length c0_1):=(zO BK689.out 1).trans rfl;have hcz44_2:w41.cell? ⟨gb689,2,none⟩=some (.int .i64 a0_2):=(zO BK689.out 2).trans rfl;have hfz44_0:=zP BK689.out 0;have hfz44_1:=zP BK689.out 1;have hfz44_2:=zP BK689.out 2))
           go_roundg k2
           case measure=>have:=HJ1.out;have:=HK2.out;omega
           case rel=>exact⟨(wrap64 (x3_2+1)),mt,H',⟨by have:=HJ1.out;have:=HK2.out;omega⟩,⟨by(with_reducible repeat(first|apply zA|apply zC|apply zB));refine zT ?_ NB689_698.out _;(with_reducible repeat(first|apply zA|apply zC|apply zB));refine zT ?_ NB689_698.out _;(with_reducible repeat(first|apply zA|apply zC|apply zB));exact BK689.out⟩,⟨mq⟩⟩
          ·rw[if_neg c39] at H
           have c39b0:(((rd_T151 l0_1 x3_2).f1) == (-2))=false:=beq_eq_false_iff_ne.mpr c39;have c39b1:(((rd_T151 l0_1 x3_2).f1) != (-2))=true:=bne_iff_ne.mpr c39;obtain rfl:=Option.some.inj H;have hcz45_0:wr.cell? ⟨gb689,0,none⟩=some (.slice A0_0 l0_0.length c0_0):=(zO BK689.out 0).trans rfl;have hcz45_1:wr.cell? ⟨gb689,1,none⟩=some (.slice A0_1 l0_1.length c0_1):=(zO BK689.out 1).trans rfl;have hcz45_2:wr.cell? ⟨gb689,2,none⟩=some (.int .i64 a0_2):=(zO BK689.out 2).trans rfl;have hfz45_0:=zP BK689.out 0;have hfz45_1:=zP BK689.out 1;have hfz45_2:=zP BK689.out 2;have p697:0≤(x3_2:Int):=mo;have q697:x3_2 < (l0_1.length:Int):=mo;obtain⟨ad697,e697,hx697_0,hx697_1⟩:=at_T151 (Kd.C_below HR0_1.out HB.out) x3_2 p697 q697;cases e697;replace p697:=eq_true p697;replace q697:=eq_true q697;go_wp2_with (first|((with_reducible refine gate_dst (N:=4) rfl ?_);(try(refine gate_guard (by rfl) ?_;dsimp only));refine yE (N:=4) (cs:=#[.string (⟨#[]⟩:ByteArray),.int .i64 0]) (t:=151) fun gb698 hg w46 hbox hb=>?_;obtain⟨n0_,n5_,n6_⟩:=yY hg hb (mz BK689.out);obtain⟨n1_,n3_⟩:=yX (w:=w) hg hb mq;have n2_:=Aside0.mk (hbox);have n4_:=n3_;clear BK689;clear HB;have BK689:=n0_;have HB:=n1_;have BK698:=n2_;have GW698:=n3_;have GE698:=n4_;have NB689_698:=n5_;have NB698_689:=n6_;clear n0_ n1_ n2_ n3_ n4_ n5_ n6_;clear hb hbox hg;have hnb47:=NB698_689.out;have hnc47:=NB689_698.out;have hcz48_0:w46.cell? ⟨gb698,0,none⟩=some (.string (⟨#[]⟩:ByteArray)):=(zO BK698.out 0).trans rfl;have hcz48_1:w46.cell? ⟨gb698,1,none⟩=some (.int .i64 0):=(zO BK698.out 1).trans rfl;have hfz48_0:=zP BK698.out 0;have hfz48_1:=zP BK698.out 1;have hcz49_0:w46.cell? ⟨gb689,0,none⟩=some (.slice A0_0 l0_0.length c0_0):=(zO BK689.out 0).trans rfl;have hcz49_1:w46.cell? ⟨gb689,1,none⟩=some (.slice (some ad697) l0_1.length c0_1):=(zO BK689.out 1).trans rfl;have hcz49_2:w46.cell? ⟨gb689,2,none⟩=some (.int .i64 a0_2):=(zO BK689.out 2).trans rfl;have hfz49_0:=zP BK689.out 0;have hfz49_1:=zP BK689.out 1;have hfz49_2:=zP BK689.out 2));go_ret;exact⟨mr,mq⟩
         ·rw[if_neg c38] at H
          have c38b0:(((rd_T151 l0_1 x3_2).f0).toList == ([]:List UInt8))=false:=beq_eq_false_iff_ne.mpr c38;have c38b1:(((rd_T151 l0_1 x3_2).f0).toList != ([]:List UInt8))=true:=bne_iff_ne.mpr c38;obtain rfl:=Option.some.inj H;have hcz50_0:wr.cell? ⟨gb689,0,none⟩=some (.slice A0_0 l0_0.length c0_0):=(zO BK689.out 0).trans rfl;have hcz50_1:wr.cell? ⟨gb689,1,none⟩=some (.slice A0_1 l0_1.length c0_1):=(zO BK689.out 1).trans rfl;have hcz50_2:wr.cell? ⟨gb689,2,none⟩=some (.int .i64 a0_2):=(zO BK689.out 2).trans rfl;have hfz50_0:=zP BK689.out 0;have hfz50_1:=zP BK689.out 1;have hfz50_2:=zP BK689.out 2;have p697:0≤(x3_2:Int):=mo;have q697:x3_2 < (l0_1.length:Int):=mo;obtain⟨ad697,e697,hx697_0,hx697_1⟩:=at_T151 (Kd.C_below HR0_1.out HB.out) x3_2 p697 q697;cases e697;replace p697:=eq_true p697;replace q697:=eq_true q697;go_wp2_with (first|((with_reducible refine gate_dst (N:=4) rfl ?_);(try(refine gate_guard (by rfl) ?_;dsimp only));refine yE (N:=4) (cs:=#[.string (⟨#[]⟩:ByteArray),.int .i64 0]) (t:=151) fun gb698 hg w51 hbox hb=>?_;obtain⟨n0_,n5_,n6_⟩:=yY hg hb (mz BK689.out);obtain⟨n1_,n3_⟩:=yX (w:=w) hg hb mq;have n2_:=Aside0.mk (hbox);have n4_:=n3_;clear BK689;clear HB;have BK689:=n0_;have HB:=n1_;have BK698:=n2_;have GW698:=n3_;have GE698:=n4_;have NB689_698:=n5_;have NB698_689:=n6_;clear n0_ n1_ n2_ n3_ n4_ n5_ n6_;clear hb hbox hg;have hnb52:=NB698_689.out;have hnc52:=NB689_698.out;have hcz53_0:w51.cell? ⟨gb698,0,none⟩=some (.string (⟨#[]⟩:ByteArray)):=(zO BK698.out 0).trans rfl;have hcz53_1:w51.cell? ⟨gb698,1,none⟩=some (.int .i64 0):=(zO BK698.out 1).trans rfl;have hfz53_0:=zP BK698.out 0;have hfz53_1:=zP BK698.out 1;have hcz54_0:w51.cell? ⟨gb689,0,none⟩=some (.slice A0_0 l0_0.length c0_0):=(zO BK689.out 0).trans rfl;have hcz54_1:w51.cell? ⟨gb689,1,none⟩=some (.slice (some ad697) l0_1.length c0_1):=(zO BK689.out 1).trans rfl;have hcz54_2:w51.cell? ⟨gb689,2,none⟩=some (.int .i64 a0_2):=(zO BK689.out 2).trans rfl;have hfz54_0:=zP BK689.out 0;have hfz54_1:=zP BK689.out 1;have hfz54_2:=zP BK689.out 2));go_ret;exact⟨mr,mq⟩
        ·rw[if_neg c37] at H
         have c37b0:decide (x3_2 < a0_2)=false:=decide_eq_false c37;clear c37;by_cases c55:((rd_T151 l0_1 x3_2).f0).toList=([]:List UInt8)
         ·rw[if_pos c55] at H
          have c55b0:(((rd_T151 l0_1 x3_2).f0).toList == ([]:List UInt8))=true:=beq_iff_eq.mpr c55;have c55b1:(((rd_T151 l0_1 x3_2).f0).toList != ([]:List UInt8))=false:=bne_eq_false_iff_eq.mpr c55;clear c55;have H':=Aside0.mk H;clear H;have hcz56_0:wr.cell? ⟨gb689,0,none⟩=some (.slice A0_0 l0_0.length c0_0):=(zO BK689.out 0).trans rfl;have hcz56_1:wr.cell? ⟨gb689,1,none⟩=some (.slice A0_1 l0_1.length c0_1):=(zO BK689.out 1).trans rfl;have hcz56_2:wr.cell? ⟨gb689,2,none⟩=some (.int .i64 a0_2):=(zO BK689.out 2).trans rfl;have hfz56_0:=zP BK689.out 0;have hfz56_1:=zP BK689.out 1;have hfz56_2:=zP BK689.out 2;have p697:0≤(x3_2:Int):=mo;have q697:x3_2 < (l0_1.length:Int):=mo;obtain⟨ad697,e697,hx697_0,hx697_1⟩:=at_T151 (Kd.C_below HR0_1.out HB.out) x3_2 p697 q697;cases e697;replace p697:=eq_true p697;replace q697:=eq_true q697;go_wp2_with (first|((with_reducible refine gate_dst (N:=4) rfl ?_);(try(refine gate_guard (by rfl) ?_;dsimp only));refine yE (N:=4) (cs:=#[.string (⟨#[]⟩:ByteArray),.int .i64 0]) (t:=151) fun gb698 hg w57 hbox hb=>?_;obtain⟨n0_,n5_,n6_⟩:=yY hg hb (mz BK689.out);obtain⟨n1_,n3_⟩:=yX (w:=w) hg hb mq;have n2_:=Aside0.mk (hbox);have n4_:=n3_;clear BK689;clear HB;have BK689:=n0_;have HB:=n1_;have BK698:=n2_;have GW698:=n3_;have GE698:=n4_;have NB689_698:=n5_;have NB698_689:=n6_;clear n0_ n1_ n2_ n3_ n4_ n5_ n6_;clear hb hbox hg;have hnb58:=NB698_689.out;have hnc58:=NB689_698.out;have hcz59_0:w57.cell? ⟨gb698,0,none⟩=some (.string (⟨#[]⟩:ByteArray)):=(zO BK698.out 0).trans rfl;have hcz59_1:w57.cell? ⟨gb698,1,none⟩=some (.int .i64 0):=(zO BK698.out 1).trans rfl;have hfz59_0:=zP BK698.out 0;have hfz59_1:=zP BK698.out 1;have hcz60_0:w57.cell? ⟨gb689,0,none⟩=some (.slice A0_0 l0_0.length c0_0):=(zO BK689.out 0).trans rfl;have hcz60_1:w57.cell? ⟨gb689,1,none⟩=some (.slice (some ad697) l0_1.length c0_1):=(zO BK689.out 1).trans rfl;have hcz60_2:w57.cell? ⟨gb689,2,none⟩=some (.int .i64 a0_2):=(zO BK689.out 2).trans rfl;have hfz60_0:=zP BK689.out 0;have hfz60_1:=zP BK689.out 1;have hfz60_2:=zP BK689.out 2))
          go_roundg k2
          case measure=>have:=HJ1.out;have:=HK2.out;omega
          case rel=>exact⟨(wrap64 (x3_2+1)),mt,H',⟨by have:=HJ1.out;have:=HK2.out;omega⟩,⟨by(with_reducible repeat(first|apply zA|apply zC|apply zB));refine zT ?_ NB689_698.out _;(with_reducible repeat(first|apply zA|apply zC|apply zB));refine zT ?_ NB689_698.out _;(with_reducible repeat(first|apply zA|apply zC|apply zB));exact BK689.out⟩,⟨mq⟩⟩
         ·rw[if_neg c55] at H
          have c55b0:(((rd_T151 l0_1 x3_2).f0).toList == ([]:List UInt8))=false:=beq_eq_false_iff_ne.mpr c55;have c55b1:(((rd_T151 l0_1 x3_2).f0).toList != ([]:List UInt8))=true:=bne_iff_ne.mpr c55;replace H:=Option.bind_eq_some_iff.mp H;obtain⟨t699,A610,H⟩:=H;(try dsimp only at H)
          have A61:=Aside0.mk A610;clear A610;by_cases c62:t699 ≥ 0
          ·rw[if_pos c62] at H
           have c62b0:decide (0≤t699)=true:=decide_eq_true c62;clear c62;obtain rfl:=Option.some.inj H;have hcz63_0:wr.cell? ⟨gb689,0,none⟩=some (.slice A0_0 l0_0.length c0_0):=(zO BK689.out 0).trans rfl;have hcz63_1:wr.cell? ⟨gb689,1,none⟩=some (.slice A0_1 l0_1.length c0_1):=(zO BK689.out 1).trans rfl;have hcz63_2:wr.cell? ⟨gb689,2,none⟩=some (.int .i64 a0_2):=(zO BK689.out 2).trans rfl;have hfz63_0:=zP BK689.out 0;have hfz63_1:=zP BK689.out 1;have hfz63_2:=zP BK689.out 2;have p697:0≤(x3_2:Int):=mo;have q697:x3_2 < (l0_1.length:Int):=mo;obtain⟨ad697,e697,hx697_0,hx697_1⟩:=at_T151 (Kd.C_below HR0_1.out HB.out) x3_2 p697 q697;cases e697;replace p697:=eq_true p697;replace q697:=eq_true q697;go_wp2_with (first|((with_reducible refine gate_dst (N:=4) rfl ?_);(try(refine gate_guard (by rfl) ?_;dsimp only));refine yE (N:=4) (cs:=#[.string (⟨#[]⟩:ByteArray),.int .i64 0]) (t:=151) fun gb698 hg w64 hbox hb=>?_;obtain⟨n0_,n5_,n6_⟩:=yY hg hb (mz BK689.out);obtain⟨n1_,n3_⟩:=yX (w:=w) hg hb mq;have n2_:=Aside0.mk (hbox);have n4_:=n3_;clear BK689;clear HB;have BK689:=n0_;have HB:=n1_;have BK698:=n2_;have GW698:=n3_;have GE698:=n4_;have NB689_698:=n5_;have NB698_689:=n6_;clear n0_ n1_ n2_ n3_ n4_ n5_ n6_;clear hb hbox hg;have hnb65:=NB698_689.out;have hnc65:=NB689_698.out;have hcz66_0:w64.cell? ⟨gb698,0,none⟩=some (.string (⟨#[]⟩:ByteArray)):=(zO BK698.out 0).trans rfl;have hcz66_1:w64.cell? ⟨gb698,1,none⟩=some (.int .i64 0):=(zO BK698.out 1).trans rfl;have hfz66_0:=zP BK698.out 0;have hfz66_1:=zP BK698.out 1;have hcz67_0:w64.cell? ⟨gb689,0,none⟩=some (.slice A0_0 l0_0.length c0_0):=(zO BK689.out 0).trans rfl;have hcz67_1:w64.cell? ⟨gb689,1,none⟩=some (.slice (some ad697) l0_1.length c0_1):=(zO BK689.out 1).trans rfl;have hcz67_2:w64.cell? ⟨gb689,2,none⟩=some (.int .i64 a0_2):=(zO BK689.out 2).trans rfl;have hfz67_0:=zP BK689.out 0;have hfz67_1:=zP BK689.out 1;have hfz67_2:=zP BK689.out 2)|(go_at_call 119;(with_reducible refine(spec_l04Seek.calls k2 _ _ l0_0 ((rd_T151 l0_1 x3_2).f0) t699 _ ?side1 ?side2 A61.out).mono ?_);(case side1=>exact Kd.C_below HR0_0.out mq);(case side2=>exact HC0_0.out);rintro e w68 ⟨rfl,hb⟩;have n0_:=Aside0.mk (zK (g:=gb689) (o:=.cells #[.slice A0_0 l0_0.length c0_0,.slice (some ad697) l0_1.length c0_1,.int .i64 a0_2] 45 (0,0)) (by(with_reducible repeat(first|apply zA|apply zC|apply zB));refine zT ?_ NB689_698.out _;(with_reducible repeat(first|apply zA|apply zC|apply zB));refine zT ?_ NB689_698.out _;(with_reducible repeat(first|apply zA|apply zC|apply zB));exact BK689.out) hb);have n1_:=Aside0.mk (zK (g:=gb698) (o:=.cells #[.string ((rd_T151 l0_1 x3_2).f0),.int .i64 ((rd_T151 l0_1 x3_2).f1)] 151 (0,0)) (by(with_reducible repeat(first|apply zA|apply zC|apply zB));refine blk_put (cs:=#[.string ((rd_T151 l0_1 x3_2).f0),.int .i64 0]) ?_ 1 _ rfl;(with_reducible repeat(first|apply zA|apply zC|apply zB));refine blk_put (cs:=#[.string (⟨#[]⟩:ByteArray),.int .i64 0]) ?_ 0 _ rfl;(with_reducible repeat(first|apply zA|apply zC|apply zB));exact BK698.out) hb);have n2_:=Aside0.mk (zN mq hb);clear BK689;clear BK698;clear HB;have BK689:=n0_;have BK698:=n1_;have HB:=n2_;clear n0_ n1_ n2_;(try clear hb);(try clear hb2);(try clear hk);(try clear hi)));go_ret;exact⟨mr,mq⟩
          ·rw[if_neg c62] at H
           have c62b0:decide (0≤t699)=false:=decide_eq_false c62;clear c62;have H':=Aside0.mk H;clear H;have hcz69_0:wr.cell? ⟨gb689,0,none⟩=some (.slice A0_0 l0_0.length c0_0):=(zO BK689.out 0).trans rfl;have hcz69_1:wr.cell? ⟨gb689,1,none⟩=some (.slice A0_1 l0_1.length c0_1):=(zO BK689.out 1).trans rfl;have hcz69_2:wr.cell? ⟨gb689,2,none⟩=some (.int .i64 a0_2):=(zO BK689.out 2).trans rfl;have hfz69_0:=zP BK689.out 0;have hfz69_1:=zP BK689.out 1;have hfz69_2:=zP BK689.out 2;have p697:0≤(x3_2:Int):=mo;have q697:x3_2 < (l0_1.length:Int):=mo;obtain⟨ad697,e697,hx697_0,hx697_1⟩:=at_T151 (Kd.C_below HR0_1.out HB.out) x3_2 p697 q697;cases e697;replace p697:=eq_true p697;replace q697:=eq_true q697;go_wp2_with (first|((with_reducible refine gate_dst (N:=4) rfl ?_);(try(refine gate_guard (by rfl) ?_;dsimp only));refine yE (N:=4) (cs:=#[.string (⟨#[]⟩:ByteArray),.int .i64 0]) (t:=151) fun gb698 hg w70 hbox hb=>?_;obtain⟨n0_,n5_,n6_⟩:=yY hg hb (mz BK689.out);obtain⟨n1_,n3_⟩:=yX (w:=w) hg hb mq;have n2_:=Aside0.mk (hbox);have n4_:=n3_;clear BK689;clear HB;have BK689:=n0_;have HB:=n1_;have BK698:=n2_;have GW698:=n3_;have GE698:=n4_;have NB689_698:=n5_;have NB698_689:=n6_;clear n0_ n1_ n2_ n3_ n4_ n5_ n6_;clear hb hbox hg;have hnb71:=NB698_689.out;have hnc71:=NB689_698.out;have hcz72_0:w70.cell? ⟨gb698,0,none⟩=some (.string (⟨#[]⟩:ByteArray)):=(zO BK698.out 0).trans rfl;have hcz72_1:w70.cell? ⟨gb698,1,none⟩=some (.int .i64 0):=(zO BK698.out 1).trans rfl;have hfz72_0:=zP BK698.out 0;have hfz72_1:=zP BK698.out 1;have hcz73_0:w70.cell? ⟨gb689,0,none⟩=some (.slice A0_0 l0_0.length c0_0):=(zO BK689.out 0).trans rfl;have hcz73_1:w70.cell? ⟨gb689,1,none⟩=some (.slice (some ad697) l0_1.length c0_1):=(zO BK689.out 1).trans rfl;have hcz73_2:w70.cell? ⟨gb689,2,none⟩=some (.int .i64 a0_2):=(zO BK689.out 2).trans rfl;have hfz73_0:=zP BK689.out 0;have hfz73_1:=zP BK689.out 1;have hfz73_2:=zP BK689.out 2)|(go_at_call 119;(with_reducible refine(spec_l04Seek.calls k2 _ _ l0_0 ((rd_T151 l0_1 x3_2).f0) t699 _ ?side1 ?side2 A61.out).mono ?_);(case side1=>exact Kd.C_below HR0_0.out mq);(case side2=>exact HC0_0.out);rintro e w74 ⟨rfl,hb⟩;have n0_:=Aside0.mk (zK (g:=gb689) (o:=.cells #[.slice A0_0 l0_0.length c0_0,.slice (some ad697) l0_1.length c0_1,.int .i64 a0_2] 45 (0,0)) (by(with_reducible repeat(first|apply zA|apply zC|apply zB));refine zT ?_ NB689_698.out _;(with_reducible repeat(first|apply zA|apply zC|apply zB));refine zT ?_ NB689_698.out _;(with_reducible repeat(first|apply zA|apply zC|apply zB));exact BK689.out) hb);have n1_:=Aside0.mk (zK (g:=gb698) (o:=.cells #[.string ((rd_T151 l0_1 x3_2).f0),.int .i64 ((rd_T151 l0_1 x3_2).f1)] 151 (0,0)) (by(with_reducible repeat(first|apply zA|apply zC|apply zB));refine blk_put (cs:=#[.string ((rd_T151 l0_1 x3_2).f0),.int .i64 0]) ?_ 1 _ rfl;(with_reducible repeat(first|apply zA|apply zC|apply zB));refine blk_put (cs:=#[.string (⟨#[]⟩:ByteArray),.int .i64 0]) ?_ 0 _ rfl;(with_reducible repeat(first|apply zA|apply zC|apply zB));exact BK698.out) hb);have n2_:=Aside0.mk (zN mq hb);clear BK689;clear BK698;clear HB;have BK689:=n0_;have BK698:=n1_;have HB:=n2_;clear n0_ n1_ n2_;(try clear hb);(try clear hb2);(try clear hk);(try clear hi)))
           go_roundg k2
           case measure=>have:=HJ1.out;have:=HK2.out;omega
           case rel=>exact⟨(wrap64 (x3_2+1)),mt,H',⟨by have:=HJ1.out;have:=HK2.out;omega⟩,⟨mz BK689.out⟩,⟨mq⟩⟩
       ·rw[if_neg c36] at H
        exact absurd H (by simp)
      ·rw[if_neg c35] at H
       have c35b0:decide (x3_2 < (l0_1.length:Int))=false:=decide_eq_false c35;clear c35;obtain rfl:=Option.some.inj H;have hcz75_0:wr.cell? ⟨gb689,0,none⟩=some (.slice A0_0 l0_0.length c0_0):=(zO BK689.out 0).trans rfl;have hcz75_1:wr.cell? ⟨gb689,1,none⟩=some (.slice A0_1 l0_1.length c0_1):=(zO BK689.out 1).trans rfl;have hcz75_2:wr.cell? ⟨gb689,2,none⟩=some (.int .i64 a0_2):=(zO BK689.out 2).trans rfl;have hfz75_0:=zP BK689.out 0;have hfz75_1:=zP BK689.out 1;have hfz75_2:=zP BK689.out 2
       go_wp2
       go_ret;exact⟨mr,mq⟩
end Go.Proofs.YtediiolcoilepaaGreat.GNear
