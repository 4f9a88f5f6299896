/- Walks of callees. -/
import Derived.Test.YtediiolcoilepaaGreatGNear9
namespace Go.Proofs.YtediiolcoilepaaGreat.GNear
set_option maxHeartbeats 8000000
set_option maxRecDepth 100000
open Go.RowKit YtediiolcoilepaaGreatW.PrintWords YtediiolcoilepaaGreatW.PrintLast YtediiolcoilepaaGreatW.PrintMore
attribute [local go_sem] A4b A4c A5j A5k A3u A3v A4d A4e
theorem zc10 {w w1:World} {a:Addr} {v:Value} (hb:Below w.heap.size w w1) (h:w.cell? a=some v):w1.cell? a=some v:=(hb.cell (World.block_lt_of_cell? w _ h)).trans h
mutual
def A0d.l0:Nat→List (S151)→ByteArray→Int→Int→Int→Option (Int)
|0,_,_,_,_,_=>none
|k+1,x0,x1,x5,x6,x7=>if x7 < x5 then (if x5=0 then (none) else (if 0≤(Int.tmod (wrap64 (x6+x7)) x5) then (if (Int.tmod (wrap64 (x6+x7)) x5) < (x0.length:Int) then (if ((A0c x0 (Int.tmod (wrap64 (x6+x7)) x5)).f0).toList=x1.toList then (A0d.j1 k x0 x1 x5 x6 x7 (decide (((A0c x0 (Int.tmod (wrap64 (x6+x7)) x5)).f1) ≥ 0)) ((A0c x0 (Int.tmod (wrap64 (x6+x7)) x5)).f0) ((A0c x0 (Int.tmod (wrap64 (x6+x7)) x5)).f1)) else (A0d.j1 k x0 x1 x5 x6 x7 false ((A0c x0 (Int.tmod (wrap64 (x6+x7)) x5)).f0) ((A0c x0 (Int.tmod (wrap64 (x6+x7)) x5)).f1))) else (none)) else (none))) else (some (-1))
def A0d.j1:Nat→List (S151)→ByteArray→Int→Int→Int→Bool→ByteArray→Int→Option (Int)
|0,_,_,_,_,_,_,_,_=>none
|k+1,x0,x1,x5,x6,x7,x38,x686000,x686001=>if x38=true then (if x5=0 then (none) else (some (Int.tmod (wrap64 (x6+x7)) x5))) else (if x686000.toList=([]:List UInt8) then (if x686001=(-1) then (some (-1)) else (A0d.l0 k x0 x1 x5 x6 (wrap64 (x7+1)))) else (A0d.l0 k x0 x1 x5 x6 (wrap64 (x7+1))))
end
def A0d.f (k:Nat) (l0:List (S151)) (a1:ByteArray):Option (Int):=if (l0.length:Int)=0 then (some (-1)) else ((A0r.f k a1 0).bind fun t683=>(A0d.l0 k l0 a1 (l0.length:Int) (Int.tmod t683 (l0.length:Int)) 0))
theorem A0d.calls (k:Nat) (A0:Option Addr) (c0:Nat) (l0:List (S151)) (a1:ByteArray) (r:Int) (w:World) (hr0:Kd.C k151 w A0 l0.length l0) (hc0:l0.length≤c0) (h:A0d.f k l0 a1=some r) :
  Calls Tryz.prog 119 #[.slice A0 l0.length c0,.string a1] w fun e w'=>e=.returned (.int .i64 r)∧Below w.heap.size w w':=by
 have hu151:=Tryz.underlying151;have HR0:=B98 hr0;have HC0:=B98 hc0;clear hr0 hc0;have HB:=B98 (Below.refl w.heap.size w);unfold A0d.f at h;have H:=h;clear h;by_cases c3:(l0.length:Int)=0
 ·rw[if_pos c3] at H
  have c3b0:((l0.length:Int) == 0)=true:=beq_iff_eq.mpr c3;have c3b1:((l0.length:Int) != 0)=false:=bne_eq_false_iff_eq.mpr c3;clear c3;obtain rfl:=C0d H;go_enter Tryz.func119,Tryz.ntmps119
  go_wp2
  go_ret;exact⟨mr,mq⟩
 ·rw[if_neg c3] at H
  have c3b0:((l0.length:Int) == 0)=false:=C0g.mpr c3;have c3b1:((l0.length:Int) != 0)=true:=bne_iff_ne.mpr c3;have c3b2:¬ (l0 = []):=fun h_=>c3 (by rw[h_];rfl);replace H:=C0f.mp H;obtain⟨t683,A40,H⟩:=H;(try dsimp only at H)
  have A4:=B98 A40;clear A40;have H':=B98 H;clear H;go_enter Tryz.func119,Tryz.ntmps119;go_wp2_with (first|((with_reducible refine A0j (f:=187) rfl ?_);refine A1l (some 14) rfl rfl Tryz.func187 Zk rfl #[.string a1,.int .i64 0] rfl ml ?_;(with_reducible refine(A0r.calls k a1 0 t683 _ A4.o).mono ?_);rintro e w' ⟨rfl,⟨nd,rfl⟩⟩;refine⟨_,rfl,?_⟩))
  go_loopg [7] k (fun kq v7 w'=>∃ (x7_1:Int),v7=.int .i64 x7_1∧A0a (A0d.l0 kq l0 a1 (l0.length:Int) (Int.tmod t683 (l0.length:Int)) x7_1=some r)∧A0a (kq≤k)∧A0a (Below w.heap.size w w'))
  case atStart=>exact⟨(0),mt,H',⟨Nat.le_refl _⟩,⟨mq⟩⟩
  case round =>
   clear H';obtain⟨x7_1,rfl,HA,HK1,HB⟩:=hrel;cases gk with
  |zero=>exact absurd HA.o (by simp[A0d.l0])
  |succ k1 =>
    have H:=HA.o;clear HA;simp only [A0d.l0] at H;by_cases c5:x7_1 < (l0.length:Int)
    ·rw[if_pos c5] at H
     have c5b0:decide (x7_1 < (l0.length:Int))=true:=B99 c5;clear c5;by_cases c6:(l0.length:Int)=0
     ·rw[if_pos c6] at H
      exact absurd H Zs
     ·rw[if_neg c6] at H
      have c6b0:((l0.length:Int) == 0)=false:=C0g.mpr c6;have c6b1:((l0.length:Int) != 0)=true:=bne_iff_ne.mpr c6;have c6b2:¬ (l0 = []):=fun h_=>c6 (by rw[h_];rfl);obtain⟨ji7,hji7⟩:∃ j_:Int,(Int.tmod (wrap64 ((Int.tmod t683 (l0.length:Int))+x7_1)) (l0.length:Int))=j_:=⟨_,rfl⟩;replace H:(if 0≤(ji7) then (if (ji7) < (l0.length:Int) then (if ((A0c l0 (ji7)).f0).toList=a1.toList then (A0d.j1 k1 l0 a1 (l0.length:Int) (Int.tmod t683 (l0.length:Int)) x7_1 (decide (((A0c l0 (ji7)).f1) ≥ 0)) ((A0c l0 (ji7)).f0) ((A0c l0 (ji7)).f1)) else (A0d.j1 k1 l0 a1 (l0.length:Int) (Int.tmod t683 (l0.length:Int)) x7_1 false ((A0c l0 (ji7)).f0) ((A0c l0 (ji7)).f1))) else (none)) else (none))=some r:=by first|(rw[hji7] at H;exact H)|(simp only [hji7] at H ⊢;exact H)
      by_cases c8:0≤(ji7)
      ·rw[if_pos c8] at H
       have c8b0:decide (0≤(ji7))=true:=B99 c8;clear c8;by_cases c9:(ji7) < (l0.length:Int)
       ·rw[if_pos c9] at H
        have c9b0:decide ((ji7) < (l0.length:Int))=true:=B99 c9;clear c9;have HC10:=B98 H;clear H;have p684:0≤((ji7):Int):=mo;have q684:(ji7) < (l0.length:Int):=mo;obtain⟨ad684,e684,hx684_0,hx684_1⟩:=A1t (Kd.C_below HR0.o HB.o) (ji7) p684 q684
        cases e684;replace p684:=eq_true p684;replace q684:=eq_true q684;go_upto_region 9 with (first|((with_reducible refine A0b (N:=8) rfl ?_);refine yE (N:=8) (cs:=#[.string (⟨#[]⟩:ByteArray),.int .i64 0]) (t:=151) fun gb685 hg w11 hbox hb=>?_;obtain⟨n0_,n2_⟩:=yX (w:=w) hg hb mq;have n1_:=B98 (hbox);have n3_:=n2_;clear HB;have HB:=n0_;have BK685:=n1_;have GW685:=n2_;have GE685:=n3_;clear n0_ n1_ n2_ n3_;clear hb hbox hg;obtain⟨hcz12_0,hcz12_1,hfz12_0,hfz12_1⟩:=zb2 BK685.o))
        (try simp only [Act.put,List.setIfInBounds_toArray,List.set_cons_zero,List.set_cons_succ])
        go_cut [38] (fun v38 wc=>∃ (kq:Nat) (x38_9:Bool),v38=.bool x38_9∧A0a (A0d.j1 kq l0 a1 (l0.length:Int) (Int.tmod t683 (l0.length:Int)) x7_1 x38_9 ((A0c l0 (ji7)).f0) ((A0c l0 (ji7)).f1)=some r)∧A0a (kq≤k1)∧A0a (wc.heap[gb685]? = some (.cells #[.string ((A0c l0 (ji7)).f0),.int .i64 ((A0c l0 (ji7)).f1)] 151 (0,0)))∧A0a (Below w.heap.size w wc))
        case first =>
         have H:=HC10.o;clear HC10;by_cases c13:((A0c l0 (ji7)).f0).toList=a1.toList
         ·rw[if_pos c13] at H
          have c13b0:(((A0c l0 (ji7)).f0).toList == a1.toList)=true:=beq_iff_eq.mpr c13;have c13b1:(((A0c l0 (ji7)).f0).toList != a1.toList)=false:=bne_eq_false_iff_eq.mpr c13;clear c13;(first|rw[c13b0]|(simp only [A1y,A15];rw[c13b0])|skip)
          have H':=B98 H;clear H;obtain⟨hcz14_0,hcz14_1,hfz14_0,hfz14_1⟩:=zb2 BK685.o;go_wp2
          go_meet
          case rel=>exact⟨_,(decide (((A0c l0 (ji7)).f1) ≥ 0)),(by first|rfl|(simp;done)|(simp only [← hji7] <;> (first|rfl|simp))|(simp[*];done)),H',⟨by have:=HK1.o;first|omega|exact Nat.le_refl _⟩,⟨by(with_reducible repeat(first|apply zA|apply zC|apply zB));refine A1u (cs:=#[.string ((A0c l0 (ji7)).f0),.int .i64 0]) ?_ 1 _ rfl;(with_reducible repeat(first|apply zA|apply zC|apply zB));refine A1u (cs:=#[.string (⟨#[]⟩:ByteArray),.int .i64 0]) ?_ 0 _ rfl;(with_reducible repeat(first|apply zA|apply zC|apply zB));exact BK685.o⟩,⟨mq⟩⟩
         ·rw[if_neg c13] at H
          have c13b0:(((A0c l0 (ji7)).f0).toList == a1.toList)=false:=C0g.mpr c13;have c13b1:(((A0c l0 (ji7)).f0).toList != a1.toList)=true:=bne_iff_ne.mpr c13
          (first|rw[c13b0]|(simp only [A1y,A15];rw[c13b0])|skip)
          have H':=B98 H;clear H;obtain⟨hcz15_0,hcz15_1,hfz15_0,hfz15_1⟩:=zb2 BK685.o;go_wp2
          go_meet
          case rel=>exact⟨_,(false),mt,H',⟨by have:=HK1.o;first|omega|exact Nat.le_refl _⟩,⟨by(with_reducible repeat(first|apply zA|apply zC|apply zB));refine A1u (cs:=#[.string ((A0c l0 (ji7)).f0),.int .i64 0]) ?_ 1 _ rfl;(with_reducible repeat(first|apply zA|apply zC|apply zB));refine A1u (cs:=#[.string (⟨#[]⟩:ByteArray),.int .i64 0]) ?_ 0 _ rfl;(with_reducible repeat(first|apply zA|apply zC|apply zB));exact BK685.o⟩,⟨mq⟩⟩
        case rest =>
         clear HC10;obtain⟨kq,x38_9,rfl,HA,HJ9,BK685,HB⟩:=hcut;cases kq with
        |zero=>exact absurd HA.o (by simp[A0d.j1])
        |succ kj9 =>
          have H:=HA.o;clear HA;simp only [A0d.j1] at H;by_cases c16:x38_9=true
          ·subst c16
           rw[if_pos rfl] at H;by_cases c17:(l0.length:Int)=0
           ·rw[if_pos c17] at H
            exact absurd H Zs
           ·rw[if_neg c17] at H
            have c17b0:((l0.length:Int) == 0)=false:=C0g.mpr c17;have c17b1:((l0.length:Int) != 0)=true:=bne_iff_ne.mpr c17;have c17b2:¬ (l0 = []):=fun h_=>c17 (by rw[h_];rfl);obtain rfl:=C0d H;go_wp2
            go_ret;exact⟨by first|rfl|(simp[] <;> rfl)|(simp only [← hji7];first|rfl|(simp[] <;> rfl))|(simp[*] <;> rfl),mq⟩
          ·replace c16:=Bool.eq_false_iff.mpr c16
           subst c16;rw[if_neg (show ¬ (false=true) by decide)] at H;by_cases c18:((A0c l0 (ji7)).f0).toList=([]:List UInt8)
           ·rw[if_pos c18] at H
            have c18b0:(((A0c l0 (ji7)).f0).toList == ([]:List UInt8))=true:=beq_iff_eq.mpr c18;have c18b1:(((A0c l0 (ji7)).f0).toList != ([]:List UInt8))=false:=bne_eq_false_iff_eq.mpr c18;clear c18;by_cases c19:((A0c l0 (ji7)).f1)=(-1)
            ·rw[if_pos c19] at H
             have c19b0:(((A0c l0 (ji7)).f1) == (-1))=true:=beq_iff_eq.mpr c19;have c19b1:(((A0c l0 (ji7)).f1) != (-1))=false:=bne_eq_false_iff_eq.mpr c19;clear c19;obtain rfl:=C0d H;obtain⟨hcz20_0,hcz20_1,hfz20_0,hfz20_1⟩:=zb2 BK685.o;go_wp2
             go_ret;exact⟨by first|rfl|(simp[] <;> rfl)|(simp only [← hji7];first|rfl|(simp[] <;> rfl))|(simp[*] <;> rfl),mq⟩
            ·rw[if_neg c19] at H
             have c19b0:(((A0c l0 (ji7)).f1) == (-1))=false:=C0g.mpr c19;have c19b1:(((A0c l0 (ji7)).f1) != (-1))=true:=bne_iff_ne.mpr c19;have H':=B98 H;clear H;obtain⟨hcz21_0,hcz21_1,hfz21_0,hfz21_1⟩:=zb2 BK685.o;go_wp2
             go_roundg kj9
             case measure=>have:=HK1.o;have:=HJ9.o;omega
             case rel=>exact⟨(wrap64 (x7_1+1)),mt,H',⟨by have:=HK1.o;have:=HJ9.o;omega⟩,⟨mq⟩⟩
           ·rw[if_neg c18] at H
            have c18b0:(((A0c l0 (ji7)).f0).toList == ([]:List UInt8))=false:=C0g.mpr c18;have c18b1:(((A0c l0 (ji7)).f0).toList != ([]:List UInt8))=true:=bne_iff_ne.mpr c18;have H':=B98 H;clear H;obtain⟨hcz22_0,hcz22_1,hfz22_0,hfz22_1⟩:=zb2 BK685.o;go_wp2
            go_roundg kj9
            case measure=>have:=HK1.o;have:=HJ9.o;omega
            case rel=>exact⟨(wrap64 (x7_1+1)),mt,H',⟨by have:=HK1.o;have:=HJ9.o;omega⟩,⟨mq⟩⟩
       ·rw[if_neg c9] at H
        exact absurd H Zs
      ·rw[if_neg c8] at H
       exact absurd H Zs
    ·rw[if_neg c5] at H
     have c5b0:decide (x7_1 < (l0.length:Int))=false:=C0a c5;clear c5;obtain rfl:=C0d H;go_wp2
     go_ret;exact⟨mr,mq⟩
def A3c.f (a0:Int):Option (Bool):=if a0=4 then (some true) else (if a0=8 then (some true) else (if a0=16 then (some true) else (if a0=32 then (some true) else (some (a0 == 64)))))
theorem A3c.calls (a0:Int) (r:Bool) (w:World) (h:A3c.f a0=some r) :
  Calls Tryz.prog 169 #[.int .i64 a0] w fun e w'=>e=.returned (.bool r)∧A2e w w':=by
 unfold A3c.f at h;have H:=h;clear h;by_cases c2:a0=4
 ·rw[if_pos c2] at H
  have c2b0:(a0 == 4)=true:=beq_iff_eq.mpr c2;have c2b1:(a0 != 4)=false:=bne_eq_false_iff_eq.mpr c2;clear c2;obtain rfl:=C0d H;go_enter Tryz.func169,Tryz.ntmps169
  go_wp2
  go_ret;exact⟨by first|rfl|(simp;done)|(simp[*];done),md⟩
 ·rw[if_neg c2] at H
  have c2b0:(a0 == 4)=false:=C0g.mpr c2;have c2b1:(a0 != 4)=true:=bne_iff_ne.mpr c2
  by_cases c3:a0=8
  ·rw[if_pos c3] at H
   have c3b0:(a0 == 8)=true:=beq_iff_eq.mpr c3;have c3b1:(a0 != 8)=false:=bne_eq_false_iff_eq.mpr c3;clear c3;obtain rfl:=C0d H;go_enter Tryz.func169,Tryz.ntmps169
   go_wp2
   go_ret;exact⟨by first|rfl|(simp;done)|(simp[*];done),md⟩
  ·rw[if_neg c3] at H
   have c3b0:(a0 == 8)=false:=C0g.mpr c3;have c3b1:(a0 != 8)=true:=bne_iff_ne.mpr c3
   by_cases c4:a0=16
   ·rw[if_pos c4] at H
    have c4b0:(a0 == 16)=true:=beq_iff_eq.mpr c4;have c4b1:(a0 != 16)=false:=bne_eq_false_iff_eq.mpr c4;clear c4;obtain rfl:=C0d H;go_enter Tryz.func169,Tryz.ntmps169
    go_wp2
    go_ret;exact⟨by first|rfl|(simp;done)|(simp[*];done),md⟩
   ·rw[if_neg c4] at H
    have c4b0:(a0 == 16)=false:=C0g.mpr c4;have c4b1:(a0 != 16)=true:=bne_iff_ne.mpr c4
    by_cases c5:a0=32
    ·rw[if_pos c5] at H
     have c5b0:(a0 == 32)=true:=beq_iff_eq.mpr c5;have c5b1:(a0 != 32)=false:=bne_eq_false_iff_eq.mpr c5;clear c5;obtain rfl:=C0d H;go_enter Tryz.func169,Tryz.ntmps169
     go_wp2
     go_ret;exact⟨by first|rfl|(simp;done)|(simp[*];done),md⟩
    ·rw[if_neg c5] at H
     have c5b0:(a0 == 32)=false:=C0g.mpr c5;have c5b1:(a0 != 32)=true:=bne_iff_ne.mpr c5;obtain rfl:=C0d H;go_enter Tryz.func169,Tryz.ntmps169
     go_wp2
     go_ret;exact⟨by first|rfl|(simp;done)|(simp[*];done),md⟩
mutual
def A0g.l0:Nat→List (S151)→Bool→Int→Option (Bool)
|0,_,_,_=>none
|k+1,x0,x5,x6=>if x6 < (x0.length:Int) then (if 0≤x6 then (if ((A0c x0 x6).f0).toList=([]:List UInt8) then (if ((A0c x0 x6).f1)=(-1) then (A0g.j1 k x0 x5 x6 false ((A0c x0 x6).f0) ((A0c x0 x6).f1)) else (A0g.j1 k x0 x5 x6 (((A0c x0 x6).f1) != (-2)) ((A0c x0 x6).f0) ((A0c x0 x6).f1))) else (if (((A0c x0 x6).f0).size:Int) > 12 then (some false) else (if ((A0c x0 x6).f1) < 0 then (some false) else ((A0d.f k x0 ((A0c x0 x6).f0)).bind fun t688=>(if t688=x6 then (A0g.l0 k x0 x5 (wrap64 (x6+1))) else (some false)))))) else (none)) else (some x5)
def A0g.j1:Nat→List (S151)→Bool→Int→Bool→ByteArray→Int→Option (Bool)
|0,_,_,_,_,_,_=>none
|k+1,x0,x5,x6,x30,x688000,x688001=>if x30=true then (some false) else (if x5=true then (A0g.l0 k x0 true (wrap64 (x6+1))) else (A0g.l0 k x0 (x688001 == (-1)) (wrap64 (x6+1))))
end
def A0g.f (k:Nat) (l0:List (S151)) (a1:Bool):Option (Bool):=A0g.l0 k l0 (!a1) 0
theorem A0g.calls (k:Nat) (A0:Option Addr) (c0:Nat) (l0:List (S151)) (a1:Bool) (r:Bool) (w:World) (hr0:Kd.C k151 w A0 l0.length l0) (hc0:l0.length≤c0) (h:A0g.f k l0 a1=some r) :
  Calls Tryz.prog 186 #[.slice A0 l0.length c0,.bool a1] w fun e w'=>e=.returned (.bool r)∧Below w.heap.size w w':=by
 have hu151:=Tryz.underlying151;have HR0:=B98 hr0;have HC0:=B98 hc0;clear hr0 hc0;have HB:=B98 (Below.refl w.heap.size w);unfold A0g.f at h;have H:=h;clear h;have H':=B98 H;clear H;go_enter Tryz.func186,Tryz.ntmps186
 go_wp2
 go_loopg [5,6] k (fun kq v5 v6 w'=>∃ (x5_1:Bool) (x6_1:Int),v5=.bool x5_1∧v6=.int .i64 x6_1∧A0a (A0g.l0 kq l0 x5_1 x6_1=some r)∧A0a (kq≤k)∧A0a (Below w.heap.size w w'))
 case atStart=>exact⟨(!a1),(0),mt,mt,H',⟨Nat.le_refl _⟩,⟨mq⟩⟩
 case round =>
  clear H';obtain⟨x5_1,x6_1,rfl,rfl,HA,HK1,HB⟩:=hrel;cases gk with
 |zero=>exact absurd HA.o (by simp[A0g.l0])
 |succ k1 =>
   have H:=HA.o;clear HA;simp only [A0g.l0] at H;by_cases c3:x6_1 < (l0.length:Int)
   ·rw[if_pos c3] at H
    have c3b0:decide (x6_1 < (l0.length:Int))=true:=B99 c3;clear c3;by_cases c4:0≤x6_1
    ·rw[if_pos c4] at H
     have c4b0:decide (0≤x6_1)=true:=B99 c4;clear c4;by_cases c5:((A0c l0 x6_1).f0).toList=([]:List UInt8)
     ·rw[if_pos c5] at H
      have c5b0:(((A0c l0 x6_1).f0).toList == ([]:List UInt8))=true:=beq_iff_eq.mpr c5;have c5b1:(((A0c l0 x6_1).f0).toList != ([]:List UInt8))=false:=bne_eq_false_iff_eq.mpr c5;clear c5;have HC6:=B98 H;clear H;have p686:0≤(x6_1:Int):=mo;have q686:x6_1 < (l0.length:Int):=mo;obtain⟨ad686,e686,hx686_0,hx686_1⟩:=A1t (Kd.C_below HR0.o HB.o) x6_1 p686 q686;cases e686;replace p686:=eq_true p686;replace q686:=eq_true q686;go_upto_region 7 with (first|((with_reducible refine A0b (N:=7) rfl ?_);refine yE (N:=7) (cs:=#[.string (⟨#[]⟩:ByteArray),.int .i64 0]) (t:=151) fun gb687 hg w7 hbox hb=>?_;obtain⟨n0_,n2_⟩:=yX (w:=w) hg hb mq;have n1_:=B98 (hbox);have n3_:=n2_;clear HB;have HB:=n0_;have BK687:=n1_;have GW687:=n2_;have GE687:=n3_;clear n0_ n1_ n2_ n3_;clear hb hbox hg;obtain⟨hcz8_0,hcz8_1,hfz8_0,hfz8_1⟩:=zb2 BK687.o))
      (try simp only [Act.put,List.setIfInBounds_toArray,List.set_cons_zero,List.set_cons_succ])
      go_cut [30] (fun v30 wc=>∃ (kq:Nat) (x30_5:Bool),v30=.bool x30_5∧A0a (A0g.j1 kq l0 x5_1 x6_1 x30_5 ((A0c l0 x6_1).f0) ((A0c l0 x6_1).f1)=some r)∧A0a (kq≤k1)∧A0a (wc.heap[gb687]? = some (.cells #[.string ((A0c l0 x6_1).f0),.int .i64 ((A0c l0 x6_1).f1)] 151 (0,0)))∧A0a (Below w.heap.size w wc))
      case first =>
       have H:=HC6.o;clear HC6;by_cases c9:((A0c l0 x6_1).f1)=(-1)
       ·rw[if_pos c9] at H
        have c9b0:(((A0c l0 x6_1).f1) == (-1))=true:=beq_iff_eq.mpr c9;have c9b1:(((A0c l0 x6_1).f1) != (-1))=false:=bne_eq_false_iff_eq.mpr c9;clear c9;(first|rw[c9b0]|(simp only [A1y,A15];rw[c9b0])|skip)
        have H':=B98 H;clear H;obtain⟨hcz10_0,hcz10_1,hfz10_0,hfz10_1⟩:=zb2 BK687.o;go_wp2
        go_meet
        case rel=>exact⟨_,(false),mt,H',⟨by have:=HK1.o;first|omega|exact Nat.le_refl _⟩,⟨by(with_reducible repeat(first|apply zA|apply zC|apply zB));refine A1u (cs:=#[.string ((A0c l0 x6_1).f0),.int .i64 0]) ?_ 1 _ rfl;(with_reducible repeat(first|apply zA|apply zC|apply zB));refine A1u (cs:=#[.string (⟨#[]⟩:ByteArray),.int .i64 0]) ?_ 0 _ rfl;(with_reducible repeat(first|apply zA|apply zC|apply zB));exact BK687.o⟩,⟨mq⟩⟩
       ·rw[if_neg c9] at H
        have c9b0:(((A0c l0 x6_1).f1) == (-1))=false:=C0g.mpr c9;have c9b1:(((A0c l0 x6_1).f1) != (-1))=true:=bne_iff_ne.mpr c9
        (first|rw[c9b0]|(simp only [A1y,A15];rw[c9b0])|skip)
        have H':=B98 H;clear H;obtain⟨hcz11_0,hcz11_1,hfz11_0,hfz11_1⟩:=zb2 BK687.o;go_wp2
        go_meet
        case rel=>exact⟨_,((((A0c l0 x6_1).f1) != (-2))),mt,H',⟨by have:=HK1.o;first|omega|exact Nat.le_refl _⟩,⟨by(with_reducible repeat(first|apply zA|apply zC|apply zB));refine A1u (cs:=#[.string ((A0c l0 x6_1).f0),.int .i64 0]) ?_ 1 _ rfl;(with_reducible repeat(first|apply zA|apply zC|apply zB));refine A1u (cs:=#[.string (⟨#[]⟩:ByteArray),.int .i64 0]) ?_ 0 _ rfl;(with_reducible repeat(first|apply zA|apply zC|apply zB));exact BK687.o⟩,⟨mq⟩⟩
      case rest =>
       clear HC6;obtain⟨kq,x30_5,rfl,HA,HJ5,BK687,HB⟩:=hcut;cases kq with
      |zero=>exact absurd HA.o (by simp[A0g.j1])
      |succ kj5 =>
        have H:=HA.o;clear HA;simp only [A0g.j1] at H;by_cases c12:x30_5=true
        ·subst c12
         rw[if_pos rfl] at H;obtain rfl:=C0d H;go_wp2
         go_ret;exact⟨mr,mq⟩
        ·replace c12:=Bool.eq_false_iff.mpr c12
         subst c12;rw[if_neg (show ¬ (false=true) by decide)] at H;by_cases c13:x5_1=true
         ·subst c13
          rw[if_pos rfl] at H;have H':=B98 H;clear H;go_wp2
          go_roundg kj5
          case measure=>have:=HK1.o;have:=HJ5.o;omega
          case rel=>exact⟨(true),(wrap64 (x6_1+1)),mt,mt,H',⟨by have:=HK1.o;have:=HJ5.o;omega⟩,⟨mq⟩⟩
         ·replace c13:=Bool.eq_false_iff.mpr c13
          subst c13;rw[if_neg (show ¬ (false=true) by decide)] at H;have H':=B98 H;clear H;obtain⟨hcz14_0,hcz14_1,hfz14_0,hfz14_1⟩:=zb2 BK687.o;go_wp2
          go_roundg kj5
          case measure=>have:=HK1.o;have:=HJ5.o;omega
          case rel=>exact⟨((((A0c l0 x6_1).f1) == (-1))),(wrap64 (x6_1+1)),mt,mt,H',⟨by have:=HK1.o;have:=HJ5.o;omega⟩,⟨mq⟩⟩
     ·rw[if_neg c5] at H
      have c5b0:(((A0c l0 x6_1).f0).toList == ([]:List UInt8))=false:=C0g.mpr c5;have c5b1:(((A0c l0 x6_1).f0).toList != ([]:List UInt8))=true:=bne_iff_ne.mpr c5
      by_cases c15:(((A0c l0 x6_1).f0).size:Int) > 12
      ·rw[if_pos c15] at H
       have c15b0:decide (12 < (((A0c l0 x6_1).f0).size:Int))=true:=B99 c15;have c15b1:decide (12 < ((A0c l0 x6_1).f0).size)=true:=B99 Zo;clear c15;obtain rfl:=C0d H;have p686:0≤(x6_1:Int):=mo;have q686:x6_1 < (l0.length:Int):=mo;obtain⟨ad686,e686,hx686_0,hx686_1⟩:=A1t (Kd.C_below HR0.o HB.o) x6_1 p686 q686;cases e686;replace p686:=eq_true p686;replace q686:=eq_true q686;go_wp2_with (first|((with_reducible refine A0b (N:=7) rfl ?_);refine yE (N:=7) (cs:=#[.string (⟨#[]⟩:ByteArray),.int .i64 0]) (t:=151) fun gb687 hg w16 hbox hb=>?_;obtain⟨n0_,n2_⟩:=yX (w:=w) hg hb mq;have n1_:=B98 (hbox);have n3_:=n2_;clear HB;have HB:=n0_;have BK687:=n1_;have GW687:=n2_;have GE687:=n3_;clear n0_ n1_ n2_ n3_;clear hb hbox hg;obtain⟨hcz17_0,hcz17_1,hfz17_0,hfz17_1⟩:=zb2 BK687.o));go_ret;exact⟨mr,mq⟩
      ·rw[if_neg c15] at H
       have c15b0:decide (12 < (((A0c l0 x6_1).f0).size:Int))=false:=C0a c15;have c15b1:decide (12 < ((A0c l0 x6_1).f0).size)=false:=C0a Zo;clear c15;by_cases c18:((A0c l0 x6_1).f1) < 0
       ·rw[if_pos c18] at H
        have c18b0:decide (((A0c l0 x6_1).f1) < 0)=true:=B99 c18;clear c18;obtain rfl:=C0d H;have p686:0≤(x6_1:Int):=mo;have q686:x6_1 < (l0.length:Int):=mo;obtain⟨ad686,e686,hx686_0,hx686_1⟩:=A1t (Kd.C_below HR0.o HB.o) x6_1 p686 q686;cases e686;replace p686:=eq_true p686;replace q686:=eq_true q686;go_wp2_with (first|((with_reducible refine A0b (N:=7) rfl ?_);refine yE (N:=7) (cs:=#[.string (⟨#[]⟩:ByteArray),.int .i64 0]) (t:=151) fun gb687 hg w19 hbox hb=>?_;obtain⟨n0_,n2_⟩:=yX (w:=w) hg hb mq;have n1_:=B98 (hbox);have n3_:=n2_;clear HB;have HB:=n0_;have BK687:=n1_;have GW687:=n2_;have GE687:=n3_;clear n0_ n1_ n2_ n3_;clear hb hbox hg;obtain⟨hcz20_0,hcz20_1,hfz20_0,hfz20_1⟩:=zb2 BK687.o));go_ret;exact⟨mr,mq⟩
       ·rw[if_neg c18] at H
        have c18b0:decide (((A0c l0 x6_1).f1) < 0)=false:=C0a c18;clear c18;replace H:=C0f.mp H;obtain⟨t688,A210,H⟩:=H;(try dsimp only at H)
        have A21:=B98 A210;clear A210;by_cases c22:t688=x6_1
        ·rw[if_pos c22] at H
         have c22b0:(t688 == x6_1)=true:=beq_iff_eq.mpr c22;have c22b1:(t688 != x6_1)=false:=bne_eq_false_iff_eq.mpr c22;clear c22;have H':=B98 H;clear H;have p686:0≤(x6_1:Int):=mo;have q686:x6_1 < (l0.length:Int):=mo;obtain⟨ad686,e686,hx686_0,hx686_1⟩:=A1t (Kd.C_below HR0.o HB.o) x6_1 p686 q686;cases e686;replace p686:=eq_true p686;replace q686:=eq_true q686;go_wp2_with (first|((with_reducible refine A0b (N:=7) rfl ?_);refine yE (N:=7) (cs:=#[.string (⟨#[]⟩:ByteArray),.int .i64 0]) (t:=151) fun gb687 hg w23 hbox hb=>?_;obtain⟨n0_,n2_⟩:=yX (w:=w) hg hb mq;have n1_:=B98 (hbox);have n3_:=n2_;clear HB;have HB:=n0_;have BK687:=n1_;have GW687:=n2_;have GE687:=n3_;clear n0_ n1_ n2_ n3_;clear hb hbox hg;obtain⟨hcz24_0,hcz24_1,hfz24_0,hfz24_1⟩:=zb2 BK687.o)|(go_at_call 119;(with_reducible refine(A0d.calls k1 _ _ l0 ((A0c l0 x6_1).f0) t688 _ ?side1 ?side2 A21.o).mono ?_);(case side1=>exact Kd.C_below HR0.o mq);(case side2=>exact HC0.o);rintro e w25 ⟨rfl,hb⟩;have n0_:=B98 (zK (g:=gb687) (o:=.cells #[.string ((A0c l0 x6_1).f0),.int .i64 ((A0c l0 x6_1).f1)] 151 (0,0)) (by(with_reducible repeat(first|apply zA|apply zC|apply zB));refine A1u (cs:=#[.string ((A0c l0 x6_1).f0),.int .i64 0]) ?_ 1 _ rfl;(with_reducible repeat(first|apply zA|apply zC|apply zB));refine A1u (cs:=#[.string (⟨#[]⟩:ByteArray),.int .i64 0]) ?_ 0 _ rfl;(with_reducible repeat(first|apply zA|apply zC|apply zB));exact BK687.o) hb);have n1_:=B98 (zN mq hb);clear BK687;clear HB;have BK687:=n0_;have HB:=n1_;clear n0_ n1_;(try clear hb);(try clear hb2);(try clear hk);(try clear hi)))
         go_roundg k1
         case measure=>have:=HK1.o;omega
         case rel=>exact⟨(x5_1),(wrap64 (x6_1+1)),mt,mt,H',⟨by have:=HK1.o;omega⟩,⟨mq⟩⟩
        ·rw[if_neg c22] at H
         have c22b0:(t688 == x6_1)=false:=C0g.mpr c22;have c22b1:(t688 != x6_1)=true:=bne_iff_ne.mpr c22;obtain rfl:=C0d H;have p686:0≤(x6_1:Int):=mo;have q686:x6_1 < (l0.length:Int):=mo;obtain⟨ad686,e686,hx686_0,hx686_1⟩:=A1t (Kd.C_below HR0.o HB.o) x6_1 p686 q686;cases e686;replace p686:=eq_true p686;replace q686:=eq_true q686;go_wp2_with (first|((with_reducible refine A0b (N:=7) rfl ?_);refine yE (N:=7) (cs:=#[.string (⟨#[]⟩:ByteArray),.int .i64 0]) (t:=151) fun gb687 hg w26 hbox hb=>?_;obtain⟨n0_,n2_⟩:=yX (w:=w) hg hb mq;have n1_:=B98 (hbox);have n3_:=n2_;clear HB;have HB:=n0_;have BK687:=n1_;have GW687:=n2_;have GE687:=n3_;clear n0_ n1_ n2_ n3_;clear hb hbox hg;obtain⟨hcz27_0,hcz27_1,hfz27_0,hfz27_1⟩:=zb2 BK687.o)|(go_at_call 119;(with_reducible refine(A0d.calls k1 _ _ l0 ((A0c l0 x6_1).f0) t688 _ ?side1 ?side2 A21.o).mono ?_);(case side1=>exact Kd.C_below HR0.o mq);(case side2=>exact HC0.o);rintro e w28 ⟨rfl,hb⟩;have n0_:=B98 (zK (g:=gb687) (o:=.cells #[.string ((A0c l0 x6_1).f0),.int .i64 ((A0c l0 x6_1).f1)] 151 (0,0)) (by(with_reducible repeat(first|apply zA|apply zC|apply zB));refine A1u (cs:=#[.string ((A0c l0 x6_1).f0),.int .i64 0]) ?_ 1 _ rfl;(with_reducible repeat(first|apply zA|apply zC|apply zB));refine A1u (cs:=#[.string (⟨#[]⟩:ByteArray),.int .i64 0]) ?_ 0 _ rfl;(with_reducible repeat(first|apply zA|apply zC|apply zB));exact BK687.o) hb);have n1_:=B98 (zN mq hb);clear BK687;clear HB;have BK687:=n0_;have HB:=n1_;clear n0_ n1_;(try clear hb);(try clear hb2);(try clear hk);(try clear hi)));go_ret;exact⟨mr,mq⟩
    ·rw[if_neg c4] at H
     exact absurd H Zs
   ·rw[if_neg c3] at H
    have c3b0:decide (x6_1 < (l0.length:Int))=false:=C0a c3;clear c3;obtain rfl:=C0d H;go_wp2
    go_ret;exact⟨mr,mq⟩
mutual
def A0e.j0:Nat→Bool→List (S151)→List (S151)→Int→Option (Bool)
|0,_,_,_,_=>none
|k+1,x46,x690000,x690001,x690002=>if x46=true then (some false) else (A0e.l0 k 0 x690000 x690001 x690002)
def A0e.l0:Nat→Int→List (S151)→List (S151)→Int→Option (Bool)
|0,_,_,_,_=>none
|k+1,x3,x690000,x690001,x690002=>if x3 < (x690001.length:Int) then (if 0≤x3 then (if x3 < x690002 then (if ((A0c x690001 x3).f0).toList=([]:List UInt8) then (if ((A0c x690001 x3).f1)=(-2) then (A0e.l0 k (wrap64 (x3+1)) x690000 x690001 x690002) else (some false)) else (some false)) else (if ((A0c x690001 x3).f0).toList=([]:List UInt8) then (A0e.l0 k (wrap64 (x3+1)) x690000 x690001 x690002) else ((A0d.f k x690000 ((A0c x690001 x3).f0)).bind fun t699=>(if t699 ≥ 0 then (some false) else (A0e.l0 k (wrap64 (x3+1)) x690000 x690001 x690002))))) else (none)) else (some true)
end
def A0e.f (k:Nat) (l0_0:List (S151)) (l0_1:List (S151)) (a0_2:Int):Option (Bool):=(A3c.f (l0_0.length:Int)).bind fun t690=>(if t690=true then (if (l0_1.length:Int)=0 then ((A0l.f a0_2 0 (l0_1.length:Int)).bind fun t691=>(if t691=true then ((A0g.f k l0_0 true).bind fun t692=>(if t692=true then ((A0g.f k l0_1 false).bind fun t693=>(A0e.j0 k (!t693) l0_0 l0_1 a0_2)) else (A0e.j0 k true l0_0 l0_1 a0_2))) else (A0e.j0 k true l0_0 l0_1 a0_2))) else (if (wrap64 (2 * (l0_1.length:Int)))=(l0_0.length:Int) then ((A0l.f a0_2 0 (l0_1.length:Int)).bind fun t694=>(if t694=true then ((A0g.f k l0_0 true).bind fun t695=>(if t695=true then ((A0g.f k l0_1 false).bind fun t696=>(A0e.j0 k (!t696) l0_0 l0_1 a0_2)) else (A0e.j0 k true l0_0 l0_1 a0_2))) else (A0e.j0 k true l0_0 l0_1 a0_2))) else (A0e.j0 k true l0_0 l0_1 a0_2))) else (A0e.j0 k true l0_0 l0_1 a0_2))
theorem A0e.calls (k:Nat) (A0_0:Option Addr) (c0_0:Nat) (l0_0:List (S151)) (A0_1:Option Addr) (c0_1:Nat) (l0_1:List (S151)) (a0_2:Int) (r:Bool) (w:World) (hr0_0:Kd.C k151 w A0_0 l0_0.length l0_0) (hc0_0:l0_0.length≤c0_0) (hr0_1:Kd.C k151 w A0_1 l0_1.length l0_1) (hc0_1:l0_1.length≤c0_1) (h:A0e.f k l0_0 l0_1 a0_2=some r) :
  Calls Tryz.prog 114 #[.agg #[.slice A0_0 l0_0.length c0_0,.slice A0_1 l0_1.length c0_1,.int .i64 a0_2]] w fun e w'=>e=.returned (.bool r)∧Below w.heap.size w w':=by
 have hu45:=Tryz.underlying45;have hu151:=Tryz.underlying151;have HA0:=B98 hr0_0;have HC0:=B98 hc0_0;have HA1:=B98 hr0_1;have HC1:=B98 hc0_1;have HH:=B98 h;have HS:=B98 (Nb.St.start w);have hl0:l0_0.length≤9223372036854775807:=hr0_0.2.1;have hl1:l0_1.length≤9223372036854775807:=hr0_1.2.1;have HL0:=B98 hl0;have HL1:=B98 hl1;clear hr0_0 hc0_0 hr0_1 hc0_1 h hl0 hl1;go_enter Tryz.func114,Tryz.ntmps114;go_upto_region 1 with (first|((with_reducible refine A0b (N:=1) rfl ?_);refine Nb.boxS HS (N:=1) fun g1 w1 S=>?_;clear HS;have HS:=B98 S;clear S));go_cut [46] from 5 (fun v46 wc=>∃ b,v46=.bool b∧A0a (A0e.j0 k b l0_0 l0_1 a0_2=some r)∧A0a (Nb.St w wc [Nb.Part.blk g1 45 #[.slice A0_0 l0_0.length c0_0,.slice A0_1 l0_1.length c0_1,.int .i64 a0_2]]))
 case first =>
  have H:=HH.o;clear HH;unfold A0e.f at H;obtain⟨bs,h1,H⟩:=C0f.mp H;have HB:=B98 h1;clear h1;obtain⟨ha0,ha1,ha2⟩:=HS.o.cells3 0 rfl;go_wp2_with fail;refine(A3c.calls (l0_0.length:Int) bs _ HB.o).mono ?_;rintro e w3 ⟨rfl,hb⟩;have S:=HS.o.step Zh;clear HS hb ha0 ha1 ha2;have HS:=B98 S;clear S;cases bs with
  |false =>
   have HJ:=B98 H;clear H;go_wp2_with fail;go_meet
   case rel=>exact⟨true,rfl,HJ,HS⟩
  |true =>
  rw[if_pos rfl] at H;obtain⟨ha0,ha1,ha2⟩:=HS.o.cells3 0 rfl;have ew:wrap64 (2 * (l0_1.length:Int))=wrap64 (2 * (l0_1.length:Int)):=rfl;clear ew;by_cases e0:(l0_1.length:Int)=0
  ·rw[if_pos e0] at H
   have e0a:((l0_1.length:Int) == 0)=true:=beq_iff_eq.mpr e0;have e0b:((l0_1.length:Int) != 0)=false:=by rw[bne,e0a];rfl
   clear e0;obtain⟨bi,h1,H⟩:=C0f.mp H;have HI:=B98 h1;clear h1;go_wp2_with fail;refine(A0l.calls a0_2 0 (l0_1.length:Int) bi _ HI.o).mono ?_;rintro e w4 ⟨rfl,hb⟩;have S:=HS.o.step Zh;clear HS hb ha0 ha1 ha2;have HS:=B98 S;clear S;cases bi with
   |false =>
    have HJ:=B98 H;clear H;go_wp2_with fail;go_meet
    case rel=>exact⟨true,rfl,HJ,HS⟩
   |true =>
   rw[if_pos rfl] at H;obtain⟨b0,h1,H⟩:=C0f.mp H;have HR0:=B98 h1;clear h1;obtain⟨ha0,ha1,ha2⟩:=HS.o.cells3 0 rfl;go_wp2_with fail;refine(A0g.calls k A0_0 c0_0 l0_0 true b0 _ (Kd.C_below HA0.o HS.o.below) HC0.o HR0.o).mono ?_;rintro e w5 ⟨rfl,hb⟩;have S:=HS.o.step Zh;clear HS hb ha0 ha1 ha2;have HS:=B98 S;clear S;cases b0 with
   |false =>
    have HJ:=B98 H;clear H;go_wp2_with fail;go_meet
    case rel=>exact⟨true,rfl,HJ,HS⟩
   |true =>
   rw[if_pos rfl] at H;obtain⟨b1,h1,H⟩:=C0f.mp H;have HR1:=B98 h1;clear h1;obtain⟨ha0,ha1,ha2⟩:=HS.o.cells3 0 rfl;go_wp2_with fail;refine(A0g.calls k A0_1 c0_1 l0_1 false b1 _ (Kd.C_below HA1.o HS.o.below) HC1.o HR1.o).mono ?_;rintro e w6 ⟨rfl,hb⟩;have S:=HS.o.step Zh;clear HS hb ha0 ha1 ha2;have HS:=B98 S;clear S;have HJ:=B98 H;clear H;go_wp2_with fail;go_meet
   case rel=>exact⟨_,rfl,HJ,HS⟩
  ·rw[if_neg e0] at H
   have e0a:((l0_1.length:Int) == 0)=false:=C0g.mpr e0;have e0b:((l0_1.length:Int) != 0)=true:=bne_iff_ne.mpr e0;clear e0;by_cases e1:wrap64 (2 * (l0_1.length:Int))=(l0_0.length:Int)
   ·rw[if_pos e1] at H
    have e1a:(wrap64 (2 * (l0_1.length:Int)) == (l0_0.length:Int))=true:=beq_iff_eq.mpr e1;have e1b:(wrap64 (2 * (l0_1.length:Int)) != (l0_0.length:Int))=false:=by rw[bne,e1a];rfl
    clear e1;obtain⟨bi,h1,H⟩:=C0f.mp H;have HI:=B98 h1;clear h1;go_wp2_with fail;refine(A0l.calls a0_2 0 (l0_1.length:Int) bi _ HI.o).mono ?_;rintro e w4 ⟨rfl,hb⟩;have S:=HS.o.step Zh;clear HS hb ha0 ha1 ha2;have HS:=B98 S;clear S;cases bi with
    |false =>
     have HJ:=B98 H;clear H;go_wp2_with fail;go_meet
     case rel=>exact⟨true,rfl,HJ,HS⟩
    |true =>
    rw[if_pos rfl] at H;obtain⟨b0,h1,H⟩:=C0f.mp H;have HR0:=B98 h1;clear h1;obtain⟨ha0,ha1,ha2⟩:=HS.o.cells3 0 rfl;go_wp2_with fail;refine(A0g.calls k A0_0 c0_0 l0_0 true b0 _ (Kd.C_below HA0.o HS.o.below) HC0.o HR0.o).mono ?_;rintro e w5 ⟨rfl,hb⟩;have S:=HS.o.step Zh;clear HS hb ha0 ha1 ha2;have HS:=B98 S;clear S;cases b0 with
    |false =>
     have HJ:=B98 H;clear H;go_wp2_with fail;go_meet
     case rel=>exact⟨true,rfl,HJ,HS⟩
    |true =>
    rw[if_pos rfl] at H;obtain⟨b1,h1,H⟩:=C0f.mp H;have HR1:=B98 h1;clear h1;obtain⟨ha0,ha1,ha2⟩:=HS.o.cells3 0 rfl;go_wp2_with fail;refine(A0g.calls k A0_1 c0_1 l0_1 false b1 _ (Kd.C_below HA1.o HS.o.below) HC1.o HR1.o).mono ?_;rintro e w6 ⟨rfl,hb⟩;have S:=HS.o.step Zh;clear HS hb ha0 ha1 ha2;have HS:=B98 S;clear S;have HJ:=B98 H;clear H;go_wp2_with fail;go_meet
    case rel=>exact⟨_,rfl,HJ,HS⟩
   ·rw[if_neg e1] at H
    have e1a:(wrap64 (2 * (l0_1.length:Int)) == (l0_0.length:Int))=false:=C0g.mpr e1;have e1b:(wrap64 (2 * (l0_1.length:Int)) != (l0_0.length:Int))=true:=bne_iff_ne.mpr e1;clear e1;have HJ:=B98 H;clear H;go_wp2_with fail;go_meet
    case rel=>exact⟨true,rfl,HJ,HS⟩
 case rest =>
 obtain⟨b,rfl,HJ,HS1⟩:=hcut;clear HS HH;have HS:=HS1;clear HS1;have H:=HJ.o;clear HJ;cases k with
 |zero=>simp[A0e.j0] at H
 |succ k =>
 simp only [A0e.j0] at H;cases b with
 |true =>
  rw[if_pos rfl] at H;obtain rfl:=C0d H;clear H;go_wp2_with fail;go_ret;exact⟨rfl,HS.o.below⟩
 |false =>
 rw[if_neg Zs] at H;have HH:=B98 (show A0e.l0 k ((0:Nat):Int) l0_0 l0_1 a0_2=some r from H);clear H;go_wp2_with fail;go_loopw [3] (fun v3 w'=>∃ (i kq:Nat) (ps:List Nb.Part),v3=.int .i64 i∧A0a (i≤l0_1.length)∧A0a (A0e.l0 kq (i:Int) l0_0 l0_1 a0_2=some r)∧A0a (Nb.St w w' (Nb.Part.blk g1 45 #[.slice A0_0 l0_0.length c0_0,.slice A0_1 l0_1.length c0_1,.int .i64 a0_2] :: ps))) (fun v3 _=>l0_1.length - (intOf v3).toNat)
 case atStart=>exact⟨0,k,[],rfl,⟨by omega⟩,HH,HS⟩
 case round =>
  clear HS HH;obtain⟨i,kq,ps,rfl,HI,HH,HS⟩:=hrel;have H:=HH.o;clear HH;cases kq with
  |zero=>simp[A0e.l0] at H
  |succ kq =>
  simp only [A0e.l0] at H;obtain⟨ha0,ha1,ha2⟩:=HS.o.cells3 0 rfl
  by_cases c1:i < l0_1.length
  ·have p5:(0:Int)≤(i:Int):=by omega
   have q5:(i:Int) < (l0_1.length:Int):=by omega
   rw[if_pos q5,if_pos p5] at H;obtain⟨ad,e5,hy0,hy1⟩:=A1t HA1.o (i:Int) p5 q5;cases e5;obtain⟨x,hx⟩:∃ x,x=A0c l0_1 (i:Int):=⟨_,rfl⟩;rw[← hx] at hy0 hy1 H;rw[C0k] at hy0 hy1;obtain⟨bo,hbo⟩:∃ b,i * 2=b:=⟨_,rfl⟩;rw[hbo] at hy0 hy1;have es:=w64n i (by have h1:=HA1.o.2.1;unfold maxLen at h1;omega);have hlt:=World.block_lt_of_cell? w _ hy0;have hz0:=(HS.o.below.cell hlt).trans hy0;have hz1:=(HS.o.below.cell (p:=⟨(ad.add bo).block,(ad.add bo).off+1,none⟩) hlt).trans hy1;clear hx hy0 hy1 hlt;have HI2:=B98 c1;have d1:decide ((i:Int) < (l0_1.length:Int))=true:=B99 q5;have d2:decide (i < l0_1.length)=true:=B99 c1;have H2:=B98 H;replace p5:=eq_true p5;replace q5:=eq_true q5;clear H c1;go_upto_region 7 with (first|((with_reducible refine A0b (N:=4) rfl ?_);refine Nb.boxS HS (N:=4) fun g4 w4 S=>?_;clear HS ha0 ha1 ha2;have HS:=B98 S;obtain⟨hs0,hs1⟩:=S.cells2 0 rfl;obtain⟨fs0,fs1⟩:=S.frozen2 0 rfl;obtain⟨ha0,ha1,ha2⟩:=S.cells3 1 rfl;clear S));have S:=HS.o;clear HS hs0 fs0 hs1 fs1 hz0 hz1 ha0 ha1 ha2;have S:=S.put2 (.string x.f0) (.int .i64 x.f1);obtain⟨w5,hw,S⟩:∃ w',w'=_∧Nb.St w w' _:=⟨_,rfl,S⟩;rw[← hw];clear hw;have HS:=B98 S;clear S;obtain⟨hs0,hs1⟩:=HS.o.cells2 0 rfl;obtain⟨ha0,ha1,ha2⟩:=HS.o.cells3 1 rfl;have H:=H2.o;clear H2;by_cases c2:(i:Int) < a0_2
   ·rw[if_pos c2] at H
    have c2b:decide ((i:Int) < a0_2)=true:=B99 c2;clear c2;by_cases c3:x.f0.toList=([]:List UInt8)
    ·rw[if_pos c3] at H
     have c3a:(x.f0.toList == ([]:List UInt8))=true:=beq_iff_eq.mpr c3;have c3b:(x.f0.toList != ([]:List UInt8))=false:=by rw[bne,c3a];rfl
     clear c3;by_cases c4:x.f1 = -2
     ·rw[if_pos c4] at H
      have c4a:(x.f1 == (-2))=true:=beq_iff_eq.mpr c4;have c4b:(x.f1 != (-2))=false:=by rw[bne,c4a];rfl
      clear c4;rw[es] at H;have HH:=B98 H;clear H;go_wp2_with fail;go_roundw
      case rel=>exact⟨i+1,kq,_,by rw[es],⟨by have:=HI2.o;omega⟩,HH,⟨HS.o.swap⟩⟩
      case measure=>rw[es];have:=HI2.o;simp only [intOf];omega
     ·rw[if_neg c4] at H
      have c4a:(x.f1 == (-2))=false:=C0g.mpr c4;have c4b:(x.f1 != (-2))=true:=bne_iff_ne.mpr c4;clear c4;obtain rfl:=C0d H;clear H;go_wp2_with fail;go_ret;exact⟨rfl,HS.o.below⟩
    ·rw[if_neg c3] at H
     have c3a:(x.f0.toList == ([]:List UInt8))=false:=C0g.mpr c3;have c3b:(x.f0.toList != ([]:List UInt8))=true:=bne_iff_ne.mpr c3;clear c3;obtain rfl:=C0d H;clear H;go_wp2_with fail;go_ret;exact⟨rfl,HS.o.below⟩
   ·rw[if_neg c2] at H
    have c2b:decide ((i:Int) < a0_2)=false:=C0a c2;clear c2;by_cases c3:x.f0.toList=([]:List UInt8)
    ·rw[if_pos c3] at H
     have c3a:(x.f0.toList == ([]:List UInt8))=true:=beq_iff_eq.mpr c3;have c3b:(x.f0.toList != ([]:List UInt8))=false:=by rw[bne,c3a];rfl
     clear c3;rw[es] at H;have HH:=B98 H;clear H;go_wp2_with fail;go_roundw
     case rel=>exact⟨i+1,kq,_,by rw[es],⟨by have:=HI2.o;omega⟩,HH,⟨HS.o.swap⟩⟩
     case measure=>rw[es];have:=HI2.o;simp only [intOf];omega
    ·rw[if_neg c3] at H
     have c3a:(x.f0.toList == ([]:List UInt8))=false:=C0g.mpr c3;have c3b:(x.f0.toList != ([]:List UInt8))=true:=bne_iff_ne.mpr c3;clear c3;obtain⟨q,h1,H⟩:=C0f.mp H;have HQ:=B98 h1;clear h1;go_wp2_with fail;refine(A0d.calls kq A0_0 c0_0 l0_0 x.f0 q _ (Kd.C_below HA0.o HS.o.below) HC0.o HQ.o).mono ?_;rintro e w6 ⟨rfl,hb⟩;have S:=HS.o.step Zh;clear HS hb hs0 hs1 ha0 ha1 ha2;have HS:=B98 S;clear S;by_cases c5:q ≥ 0
     ·rw[if_pos c5] at H
      have c5b:decide (0≤q)=true:=B99 c5;have c5c:decide (q ≥ 0)=true:=B99 c5;clear c5;obtain rfl:=C0d H;clear H;go_wp2_with fail;go_ret;exact⟨rfl,HS.o.below⟩
     ·rw[if_neg c5] at H
      have c5b:decide (0≤q)=false:=C0a c5;have c5c:decide (q ≥ 0)=false:=C0a c5;clear c5;rw[es] at H;have HH:=B98 H;clear H;go_wp2_with fail;go_roundw
      case rel=>exact⟨i+1,kq,_,by rw[es],⟨by have:=HI2.o;omega⟩,HH,⟨HS.o.swap⟩⟩
      case measure=>rw[es];have:=HI2.o;simp only [intOf];omega
  ·rw[if_neg Zo] at H
   have d1:decide ((i:Int) < (l0_1.length:Int))=false:=C0a Zo;have d2:decide (i < l0_1.length)=false:=C0a c1;clear c1;obtain rfl:=C0d H;clear H;go_wp2_with fail;go_ret;exact⟨rfl,HS.o.below⟩
end Go.Proofs.YtediiolcoilepaaGreat.GNear
