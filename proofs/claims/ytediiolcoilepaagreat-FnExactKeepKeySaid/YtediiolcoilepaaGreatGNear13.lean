/- Walks of callees. -/
import Derived.Laws.Cover1
import Derived.Test.YtediiolcoilepaaGreatGNear10
import Derived.Test.YtediiolcoilepaaGreatGNear7
namespace Go.Proofs.YtediiolcoilepaaGreat.GNear
set_option maxHeartbeats 8000000
set_option maxRecDepth 100000
open Go.RowKit YtediiolcoilepaaGreatW.PrintWords YtediiolcoilepaaGreatW.PrintLast YtediiolcoilepaaGreatW.PrintMore
attribute [local go_sem] A4b A4c A5j A5k A3u A3v A4d A4e
theorem zc11 {w w1:World} {a:Addr} {v:Value} (hb:Below w.heap.size w w1) (h:w.cell? a=some v):w1.cell? a=some v:=(hb.cell (World.block_lt_of_cell? w _ h)).trans h
mutual
def A0i.j0:Nat→Bool→Int→List ByteArray→Option (Bool)
|0,_,_,_=>none
|k+1,x16,x701000,x701001=>if x16=true then (some false) else (A0i.l0 k 0 x701000 x701001)
def A0i.l0:Nat→Int→Int→List ByteArray→Option (Bool)
|0,_,_,_=>none
|k+1,x3,x701000,x701001=>if x3 < (x701001.length:Int) then (if 0≤x3 then ((A0l.f ((rdOf ByteArray.empty x701001 x3).size:Int) 1 12).bind fun t703=>(if t703=true then (A0i.l1 k x3 0 x701000 x701001) else (some false))) else (none)) else (some true)
def A0i.l1:Nat→Int→Int→Int→List ByteArray→Option (Bool)
|0,_,_,_,_=>none
|k+1,x3,x4,x701000,x701001=>if x4 < x3 then (if 0≤x4 then (if x4 < (x701001.length:Int) then (if 0≤x3 then (if x3 < (x701001.length:Int) then (if (rdOf ByteArray.empty x701001 x4).toList=(rdOf ByteArray.empty x701001 x3).toList then (some false) else (A0i.l1 k x3 (wrap64 (x4+1)) x701000 x701001)) else (none)) else (none)) else (none)) else (none)) else (A0i.l0 k (wrap64 (x3+1)) x701000 x701001)
end
def A0i.f (k:Nat) (a0_0:Int) (l0_1:List ByteArray):Option (Bool):=(A0l.f a0_0 0 24).bind fun t701=>(if t701=true then (A0i.j0 k (decide ((l0_1.length:Int) > a0_0)) a0_0 l0_1) else (A0i.j0 k true a0_0 l0_1))
theorem A0i.calls (k:Nat) (a0_0:Int) (A0_1:Option Addr) (c0_1:Nat) (l0_1:List ByteArray) (r:Bool) (w:World) (hr0_1:Kd.C Kd.string w A0_1 l0_1.length l0_1) (hc0_1:l0_1.length≤c0_1) (h:A0i.f k a0_0 l0_1=some r) :
  Calls Tryz.prog 115 #[.agg #[.int .i64 a0_0,.slice A0_1 l0_1.length c0_1]] w fun e w'=>e=.returned (.bool r)∧Below w.heap.size w w':=by
 have hu46:=Tryz.underlying46;have HR0_1:=B98 hr0_1;have HC0_1:=B98 hc0_1;clear hr0_1 hc0_1;have HB:=B98 (Below.refl w.heap.size w);unfold A0i.f at h;have H:=h;clear h;have HC2:=B98 H;clear H;go_enter Tryz.func115,Tryz.ntmps115;go_upto_region 1 with (first|((with_reducible refine A0b (N:=1) rfl ?_);(try(refine A34 (by rfl) ?_;dsimp only));refine yE (N:=1) (cs:=#[.int .i64 a0_0,.slice A0_1 l0_1.length c0_1]) (t:=46) fun gb700 hg w3 hbox hb=>?_;obtain⟨n0_,n2_⟩:=yX (w:=w) hg hb mq;have n1_:=B98 (hbox);have n3_:=n2_;clear HB;have HB:=n0_;have BK700:=n1_;have GW700:=n2_;have GE700:=n3_;clear n0_ n1_ n2_ n3_;clear hb hbox hg))
 repeat(go_quiet (first|((with_reducible refine A0b (N:=1) rfl ?_);(try(refine A34 (by rfl) ?_;dsimp only));refine yE (N:=1) (cs:=#[.int .i64 a0_0,.slice A0_1 l0_1.length c0_1]) (t:=46) fun gb700 hg w3 hbox hb=>?_;obtain⟨n0_,n2_⟩:=yX (w:=w) hg hb mq;have n1_:=B98 (hbox);have n3_:=n2_;clear HB;have HB:=n0_;have BK700:=n1_;have GW700:=n2_;have GE700:=n3_;clear n0_ n1_ n2_ n3_;clear hb hbox hg));go_upto_region 1 with (first|((with_reducible refine A0b (N:=1) rfl ?_);(try(refine A34 (by rfl) ?_;dsimp only));refine yE (N:=1) (cs:=#[.int .i64 a0_0,.slice A0_1 l0_1.length c0_1]) (t:=46) fun gb700 hg w3 hbox hb=>?_;obtain⟨n0_,n2_⟩:=yX (w:=w) hg hb mq;have n1_:=B98 (hbox);have n3_:=n2_;clear HB;have HB:=n0_;have BK700:=n1_;have GW700:=n2_;have GE700:=n3_;clear n0_ n1_ n2_ n3_;clear hb hbox hg)))
 (try simp only [Act.put,List.setIfInBounds_toArray,List.set_cons_zero,List.set_cons_succ])
 go_cut [16] (fun v16 wc=>∃ (kq:Nat) (x16_1:Bool),v16=.bool x16_1∧A0a (A0i.j0 kq x16_1 a0_0 l0_1=some r)∧A0a (kq≤k)∧A0a (wc.heap[gb700]? = some (.cells #[.int .i64 a0_0,(.slice A0_1 l0_1.length c0_1)] 46 (0,0)))∧A0a (Below w.heap.size w wc))
 case first =>
  have H:=HC2.o;clear HC2;replace H:=C0f.mp H;obtain⟨t701,A40,H⟩:=H;(try dsimp only at H)
  have A4:=B98 A40;clear A40;by_cases c5:t701=true
  ·subst c5
   rw[if_pos rfl] at H;have H':=B98 H;clear H;obtain⟨hcz6_0,hcz6_1,hfz6_0,hfz6_1⟩:=zb2 BK700.o;go_wp2_with (first|(go_at_call 93;(with_reducible refine(A0l.calls a0_0 0 24 true _ A4.o).mono ?_);rintro e w' ⟨rfl,⟨nd,rfl⟩⟩;(try first|exact⟨rfl,_,World.drewN_drewN _ _ _⟩|exact⟨rfl,_,Eq.trans (World.drewN_drewN _ _ _) (congrArg (World.drewN _) (Nat.add_assoc _ _ _))⟩)))
   repeat(go_quiet (first|(go_at_call 93;(with_reducible refine(A0l.calls a0_0 0 24 true _ A4.o).mono ?_);rintro e w' ⟨rfl,⟨nd,rfl⟩⟩;(try first|exact⟨rfl,_,World.drewN_drewN _ _ _⟩|exact⟨rfl,_,Eq.trans (World.drewN_drewN _ _ _) (congrArg (World.drewN _) (Nat.add_assoc _ _ _))⟩)));try go_wp2_with (first|(go_at_call 93;(with_reducible refine(A0l.calls a0_0 0 24 true _ A4.o).mono ?_);rintro e w' ⟨rfl,⟨nd,rfl⟩⟩;(try first|exact⟨rfl,_,World.drewN_drewN _ _ _⟩|exact⟨rfl,_,Eq.trans (World.drewN_drewN _ _ _) (congrArg (World.drewN _) (Nat.add_assoc _ _ _))⟩))))
   go_meet
   case rel=>exact⟨_,(decide ((l0_1.length:Int) > a0_0)),mt,H',⟨by first|omega|exact Nat.le_refl _⟩,⟨mz BK700.o⟩,⟨mq⟩⟩
  ·replace c5:=Bool.eq_false_iff.mpr c5
   subst c5;rw[if_neg (show ¬ (false=true) by decide)] at H;have H':=B98 H;clear H;obtain⟨hcz7_0,hcz7_1,hfz7_0,hfz7_1⟩:=zb2 BK700.o;go_wp2_with (first|(go_at_call 93;(with_reducible refine(A0l.calls a0_0 0 24 false _ A4.o).mono ?_);rintro e w' ⟨rfl,⟨nd,rfl⟩⟩;(try first|exact⟨rfl,_,World.drewN_drewN _ _ _⟩|exact⟨rfl,_,Eq.trans (World.drewN_drewN _ _ _) (congrArg (World.drewN _) (Nat.add_assoc _ _ _))⟩)))
   repeat(go_quiet (first|(go_at_call 93;(with_reducible refine(A0l.calls a0_0 0 24 false _ A4.o).mono ?_);rintro e w' ⟨rfl,⟨nd,rfl⟩⟩;(try first|exact⟨rfl,_,World.drewN_drewN _ _ _⟩|exact⟨rfl,_,Eq.trans (World.drewN_drewN _ _ _) (congrArg (World.drewN _) (Nat.add_assoc _ _ _))⟩)));try go_wp2_with (first|(go_at_call 93;(with_reducible refine(A0l.calls a0_0 0 24 false _ A4.o).mono ?_);rintro e w' ⟨rfl,⟨nd,rfl⟩⟩;(try first|exact⟨rfl,_,World.drewN_drewN _ _ _⟩|exact⟨rfl,_,Eq.trans (World.drewN_drewN _ _ _) (congrArg (World.drewN _) (Nat.add_assoc _ _ _))⟩))))
   go_meet
   case rel=>exact⟨_,(true),mt,H',⟨by first|omega|exact Nat.le_refl _⟩,⟨mz BK700.o⟩,⟨mq⟩⟩
 case rest =>
  clear HC2;obtain⟨kq,x16_1,rfl,HA,HJ1,BK700,HB⟩:=hcut;cases kq with
 |zero=>exact absurd HA.o (by simp[A0i.j0])
 |succ kj1 =>
   have H:=HA.o;clear HA;simp only [A0i.j0] at H;by_cases c8:x16_1=true
   ·subst c8
    rw[if_pos rfl] at H;obtain rfl:=C0d H;go_wp2
    repeat(go_quiet (fail);try go_wp2)
    go_ret;exact⟨mr,mq⟩
   ·replace c8:=Bool.eq_false_iff.mpr c8
    subst c8;rw[if_neg (show ¬ (false=true) by decide)] at H;have H':=B98 H;clear H;go_wp2
    repeat(go_quiet (fail);try go_wp2)
    go_loopg [3] kj1 (fun kq v3 w'=>∃ (x3_2:Int),v3=.int .i64 x3_2∧A0a (A0i.l0 kq x3_2 a0_0 l0_1=some r)∧A0a (kq≤kj1)∧A0a (w'.heap[gb700]? = some (.cells #[.int .i64 a0_0,(.slice A0_1 l0_1.length c0_1)] 46 (0,0)))∧A0a (Below w.heap.size w w'))
    case atStart=>exact⟨(0),mt,H',⟨Nat.le_refl _⟩,⟨mz BK700.o⟩,⟨mq⟩⟩
    case round =>
     clear H';obtain⟨x3_2,rfl,HA,HK2,BK700,HB⟩:=hrel;cases gk with
    |zero=>exact absurd HA.o (by simp[A0i.l0])
    |succ k2 =>
      have H:=HA.o;clear HA;simp only [A0i.l0] at H;by_cases c9:x3_2 < (l0_1.length:Int)
      ·rw[if_pos c9] at H
       have c9b0:decide (x3_2 < (l0_1.length:Int))=true:=B99 c9;clear c9;by_cases c10:0≤x3_2
       ·rw[if_pos c10] at H
        have c10b0:decide (0≤x3_2)=true:=B99 c10;clear c10;replace H:=C0f.mp H;obtain⟨t703,A110,H⟩:=H;(try dsimp only at H)
        have A11:=B98 A110;clear A110;by_cases c12:t703=true
        ·subst c12
         rw[if_pos rfl] at H;have H':=B98 H;clear H;obtain⟨hcz13_0,hcz13_1,hfz13_0,hfz13_1⟩:=zb2 BK700.o;have p702:0≤(x3_2:Int):=mo;have q702:x3_2 < (l0_1.length:Int):=mo;obtain⟨ad702,e702,hx702_0⟩:=Kd.at_string HR0_1.o x3_2 p702 q702;cases e702;replace hx702_0:=zc11 HB.o hx702_0;replace p702:=eq_true p702;replace q702:=eq_true q702;go_wp2_with (first|(go_at_call 93;(with_reducible refine(A0l.calls ((rdOf ByteArray.empty l0_1 x3_2).size:Int) 1 12 true _ A11.o).mono ?_);rintro e w' ⟨rfl,⟨nd,rfl⟩⟩;(try first|exact⟨rfl,_,World.drewN_drewN _ _ _⟩|exact⟨rfl,_,Eq.trans (World.drewN_drewN _ _ _) (congrArg (World.drewN _) (Nat.add_assoc _ _ _))⟩)))
         repeat(go_quiet (first|(go_at_call 93;(with_reducible refine(A0l.calls ((rdOf ByteArray.empty l0_1 x3_2).size:Int) 1 12 true _ A11.o).mono ?_);rintro e w' ⟨rfl,⟨nd,rfl⟩⟩;(try first|exact⟨rfl,_,World.drewN_drewN _ _ _⟩|exact⟨rfl,_,Eq.trans (World.drewN_drewN _ _ _) (congrArg (World.drewN _) (Nat.add_assoc _ _ _))⟩)));try go_wp2_with (first|(go_at_call 93;(with_reducible refine(A0l.calls ((rdOf ByteArray.empty l0_1 x3_2).size:Int) 1 12 true _ A11.o).mono ?_);rintro e w' ⟨rfl,⟨nd,rfl⟩⟩;(try first|exact⟨rfl,_,World.drewN_drewN _ _ _⟩|exact⟨rfl,_,Eq.trans (World.drewN_drewN _ _ _) (congrArg (World.drewN _) (Nat.add_assoc _ _ _))⟩))))
         go_loopg [4] k2 (fun kq v4 w'=>∃ (x4_3:Int),v4=.int .i64 x4_3∧A0a (A0i.l1 kq x3_2 x4_3 a0_0 l0_1=some r)∧A0a (kq≤k2)∧A0a (w'.heap[gb700]? = some (.cells #[.int .i64 a0_0,(.slice (some ad702) l0_1.length c0_1)] 46 (0,0)))∧A0a (Below w.heap.size w w'))
         case atStart=>exact⟨(0),mt,H',⟨Nat.le_refl _⟩,⟨mz BK700.o⟩,⟨mq⟩⟩
         case round =>
          clear H';obtain⟨x4_3,rfl,HA,HK3,BK700,HB⟩:=hrel;cases gk with
         |zero=>exact absurd HA.o (by simp[A0i.l1])
         |succ k3 =>
           have H:=HA.o;clear HA;simp only [A0i.l1] at H;by_cases c14:x4_3 < x3_2
           ·rw[if_pos c14] at H
            have c14b0:decide (x4_3 < x3_2)=true:=B99 c14;clear c14;by_cases c15:0≤x4_3
            ·rw[if_pos c15] at H
             have c15b0:decide (0≤x4_3)=true:=B99 c15;clear c15;by_cases c16:x4_3 < (l0_1.length:Int)
             ·rw[if_pos c16] at H
              have c16b0:decide (x4_3 < (l0_1.length:Int))=true:=B99 c16;clear c16;by_cases c17:0≤x3_2
              ·rw[if_pos c17] at H
               have c17b0:decide (0≤x3_2)=true:=B99 c17;clear c17;by_cases c18:x3_2 < (l0_1.length:Int)
               ·rw[if_pos c18] at H
                have c18b0:decide (x3_2 < (l0_1.length:Int))=true:=B99 c18;clear c18;by_cases c19:(rdOf ByteArray.empty l0_1 x4_3).toList=(rdOf ByteArray.empty l0_1 x3_2).toList
                ·rw[if_pos c19] at H
                 have c19b0:((rdOf ByteArray.empty l0_1 x4_3).toList == (rdOf ByteArray.empty l0_1 x3_2).toList)=true:=beq_iff_eq.mpr c19;have c19b1:((rdOf ByteArray.empty l0_1 x4_3).toList != (rdOf ByteArray.empty l0_1 x3_2).toList)=false:=bne_eq_false_iff_eq.mpr c19;clear c19;obtain rfl:=C0d H;obtain⟨hcz20_0,hcz20_1,hfz20_0,hfz20_1⟩:=zb2 BK700.o;have p704:0≤(x4_3:Int):=mo;have q704:x4_3 < (l0_1.length:Int):=mo;obtain⟨ad704,e704,hx704_0⟩:=Kd.at_string HR0_1.o x4_3 p704 q704;obtain rfl:ad702=ad704:=(by injection e704);replace hx704_0:=zc11 HB.o hx704_0;replace p704:=eq_true p704;replace q704:=eq_true q704;have p705:0≤(x3_2:Int):=mo;have q705:x3_2 < (l0_1.length:Int):=mo;obtain⟨ad705,e705,hx705_0⟩:=Kd.at_string HR0_1.o x3_2 p705 q705;obtain rfl:ad702=ad705:=(by injection e705);replace hx705_0:=zc11 HB.o hx705_0;replace p705:=eq_true p705;replace q705:=eq_true q705;go_wp2
                 repeat(go_quiet (fail);try go_wp2)
                 go_ret;exact⟨mr,mq⟩
                ·rw[if_neg c19] at H
                 have c19b0:((rdOf ByteArray.empty l0_1 x4_3).toList == (rdOf ByteArray.empty l0_1 x3_2).toList)=false:=C0g.mpr c19;have c19b1:((rdOf ByteArray.empty l0_1 x4_3).toList != (rdOf ByteArray.empty l0_1 x3_2).toList)=true:=bne_iff_ne.mpr c19;have H':=B98 H;clear H;obtain⟨hcz21_0,hcz21_1,hfz21_0,hfz21_1⟩:=zb2 BK700.o;have p704:0≤(x4_3:Int):=mo;have q704:x4_3 < (l0_1.length:Int):=mo;obtain⟨ad704,e704,hx704_0⟩:=Kd.at_string HR0_1.o x4_3 p704 q704;obtain rfl:ad702=ad704:=(by injection e704);replace hx704_0:=zc11 HB.o hx704_0;replace p704:=eq_true p704;replace q704:=eq_true q704;have p705:0≤(x3_2:Int):=mo;have q705:x3_2 < (l0_1.length:Int):=mo;obtain⟨ad705,e705,hx705_0⟩:=Kd.at_string HR0_1.o x3_2 p705 q705;obtain rfl:ad702=ad705:=(by injection e705);replace hx705_0:=zc11 HB.o hx705_0;replace p705:=eq_true p705;replace q705:=eq_true q705;go_wp2
                 repeat(go_quiet (fail);try go_wp2)
                 go_roundg k3
                 case measure=>have:=HJ1.o;have:=HK2.o;have:=HK3.o;omega
                 case rel=>exact⟨(wrap64 (x4_3+1)),mt,H',⟨by have:=HJ1.o;have:=HK2.o;have:=HK3.o;omega⟩,⟨mz BK700.o⟩,⟨mq⟩⟩
               ·rw[if_neg c18] at H
                exact absurd H Zs
              ·rw[if_neg c17] at H
               exact absurd H Zs
             ·rw[if_neg c16] at H
              exact absurd H Zs
            ·rw[if_neg c15] at H
             exact absurd H Zs
           ·rw[if_neg c14] at H
            have c14b0:decide (x4_3 < x3_2)=false:=C0a c14;clear c14;have H':=B98 H;clear H;go_wp2
            repeat(go_quiet (fail);try go_wp2)
            go_roundg k3
            case measure=>have:=HJ1.o;have:=HK2.o;have:=HK3.o;omega
            case rel=>exact⟨(wrap64 (x3_2+1)),mt,H',⟨by have:=HJ1.o;have:=HK2.o;have:=HK3.o;omega⟩,⟨mz BK700.o⟩,⟨mq⟩⟩
        ·replace c12:=Bool.eq_false_iff.mpr c12
         subst c12;rw[if_neg (show ¬ (false=true) by decide)] at H;obtain rfl:=C0d H;obtain⟨hcz22_0,hcz22_1,hfz22_0,hfz22_1⟩:=zb2 BK700.o;have p702:0≤(x3_2:Int):=mo;have q702:x3_2 < (l0_1.length:Int):=mo;obtain⟨ad702,e702,hx702_0⟩:=Kd.at_string HR0_1.o x3_2 p702 q702;cases e702;replace hx702_0:=zc11 HB.o hx702_0;replace p702:=eq_true p702;replace q702:=eq_true q702;go_wp2_with (first|(go_at_call 93;(with_reducible refine(A0l.calls ((rdOf ByteArray.empty l0_1 x3_2).size:Int) 1 12 false _ A11.o).mono ?_);rintro e w' ⟨rfl,⟨nd,rfl⟩⟩;(try first|exact⟨rfl,_,World.drewN_drewN _ _ _⟩|exact⟨rfl,_,Eq.trans (World.drewN_drewN _ _ _) (congrArg (World.drewN _) (Nat.add_assoc _ _ _))⟩)))
         repeat(go_quiet (first|(go_at_call 93;(with_reducible refine(A0l.calls ((rdOf ByteArray.empty l0_1 x3_2).size:Int) 1 12 false _ A11.o).mono ?_);rintro e w' ⟨rfl,⟨nd,rfl⟩⟩;(try first|exact⟨rfl,_,World.drewN_drewN _ _ _⟩|exact⟨rfl,_,Eq.trans (World.drewN_drewN _ _ _) (congrArg (World.drewN _) (Nat.add_assoc _ _ _))⟩)));try go_wp2_with (first|(go_at_call 93;(with_reducible refine(A0l.calls ((rdOf ByteArray.empty l0_1 x3_2).size:Int) 1 12 false _ A11.o).mono ?_);rintro e w' ⟨rfl,⟨nd,rfl⟩⟩;(try first|exact⟨rfl,_,World.drewN_drewN _ _ _⟩|exact⟨rfl,_,Eq.trans (World.drewN_drewN _ _ _) (congrArg (World.drewN _) (Nat.add_assoc _ _ _))⟩))))
         go_ret;exact⟨mr,mq⟩
       ·rw[if_neg c10] at H
        exact absurd H Zs
      ·rw[if_neg c9] at H
       have c9b0:decide (x3_2 < (l0_1.length:Int))=false:=C0a c9;clear c9;obtain rfl:=C0d H;obtain⟨hcz23_0,hcz23_1,hfz23_0,hfz23_1⟩:=zb2 BK700.o;go_wp2
       repeat(go_quiet (fail);try go_wp2)
       go_ret;exact⟨mr,mq⟩
mutual
def A0v.j0:Nat→Bool→List Int→Int→Option (Bool)
|0,_,_,_=>none
|k+1,x13,x707000,x707001=>if x13=true then (some false) else (A0v.l0 k 0 x707000 x707001)
def A0v.l0:Nat→Int→List Int→Int→Option (Bool)
|0,_,_,_=>none
|k+1,x3,x707000,x707001=>if x3 < (x707000.length:Int) then (if 0≤x3 then ((A0l.f (rd x707000 x3) 0 15).bind fun t709=>(if t709=true then (A0v.l0 k (wrap64 (x3+1)) x707000 x707001) else (some false))) else (none)) else (some true)
end
def A0v.f (k:Nat) (l0_0:List Int) (a0_1:Int):Option (Bool):=if (l0_0.length:Int)=48 then ((A0l.f a0_1 0 99).bind fun t707=>(A0v.j0 k (!t707) l0_0 a0_1)) else (A0v.j0 k true l0_0 a0_1)
theorem A0v.calls (k:Nat) (A0_0:Option Addr) (c0_0:Nat) (l0_0:List Int) (a0_1:Int) (r:Bool) (w:World) (hr0_0:Kd.C (Kd.int .i64) w A0_0 l0_0.length l0_0) (hc0_0:l0_0.length≤c0_0) (h:A0v.f k l0_0 a0_1=some r) :
  Calls Tryz.prog 116 #[.agg #[.slice A0_0 l0_0.length c0_0,.int .i64 a0_1]] w fun e w'=>e=.returned (.bool r)∧Below w.heap.size w w':=by
 have hu47:=Tryz.underlying47;have HR0_0:=B98 hr0_0;have HC0_0:=B98 hc0_0;clear hr0_0 hc0_0;have HB:=B98 (Below.refl w.heap.size w);unfold A0v.f at h;have H:=h;clear h;have HC2:=B98 H;clear H;go_enter Tryz.func116,Tryz.ntmps116;go_upto_region 1 with (first|((with_reducible refine A0b (N:=1) rfl ?_);refine yE (N:=1) (cs:=#[.slice A0_0 l0_0.length c0_0,.int .i64 a0_1]) (t:=47) fun gb706 hg w3 hbox hb=>?_;obtain⟨n0_,n2_⟩:=yX (w:=w) hg hb mq;have n1_:=B98 (hbox);have n3_:=n2_;clear HB;have HB:=n0_;have BK706:=n1_;have GW706:=n2_;have GE706:=n3_;clear n0_ n1_ n2_ n3_;clear hb hbox hg))
 (try simp only [Act.put,List.setIfInBounds_toArray,List.set_cons_zero,List.set_cons_succ])
 go_cut [13] (fun v13 wc=>∃ (kq:Nat) (x13_1:Bool),v13=.bool x13_1∧A0a (A0v.j0 kq x13_1 l0_0 a0_1=some r)∧A0a (kq≤k)∧A0a (wc.heap[gb706]? = some (.cells #[(.slice A0_0 l0_0.length c0_0),.int .i64 a0_1] 47 (0,0)))∧A0a (Below w.heap.size w wc))
 case first =>
  have H:=HC2.o;clear HC2;by_cases c4:(l0_0.length:Int)=48
  ·rw[if_pos c4] at H
   have c4b0:((l0_0.length:Int) == 48)=true:=beq_iff_eq.mpr c4;have c4b1:((l0_0.length:Int) != 48)=false:=bne_eq_false_iff_eq.mpr c4;clear c4;(first|rw[c4b0]|(simp only [A1y,A15];rw[c4b0])|skip)
   replace H:=C0f.mp H;obtain⟨t707,A50,H⟩:=H;(try dsimp only at H)
   have A5:=B98 A50;clear A50;have H':=B98 H;clear H;obtain⟨hcz6_0,hcz6_1,hfz6_0,hfz6_1⟩:=zb2 BK706.o;go_wp2_with (first|(go_at_call 93;(with_reducible refine(A0l.calls a0_1 0 99 t707 _ A5.o).mono ?_);rintro e w' ⟨rfl,⟨nd,rfl⟩⟩));go_meet
   case rel=>exact⟨_,(!t707),mt,H',⟨by first|omega|exact Nat.le_refl _⟩,⟨mz BK706.o⟩,⟨mq⟩⟩
  ·rw[if_neg c4] at H
   have c4b0:((l0_0.length:Int) == 48)=false:=C0g.mpr c4;have c4b1:((l0_0.length:Int) != 48)=true:=bne_iff_ne.mpr c4
   (first|rw[c4b0]|(simp only [A1y,A15];rw[c4b0])|skip)
   have H':=B98 H;clear H;obtain⟨hcz7_0,hcz7_1,hfz7_0,hfz7_1⟩:=zb2 BK706.o;go_wp2
   go_meet
   case rel=>exact⟨_,(true),mt,H',⟨by first|omega|exact Nat.le_refl _⟩,⟨mz BK706.o⟩,⟨mq⟩⟩
 case rest =>
  clear HC2;obtain⟨kq,x13_1,rfl,HA,HJ1,BK706,HB⟩:=hcut;cases kq with
 |zero=>exact absurd HA.o (by simp[A0v.j0])
 |succ kj1 =>
   have H:=HA.o;clear HA;simp only [A0v.j0] at H;by_cases c8:x13_1=true
   ·subst c8
    rw[if_pos rfl] at H;obtain rfl:=C0d H;go_wp2
    go_ret;exact⟨mr,mq⟩
   ·replace c8:=Bool.eq_false_iff.mpr c8
    subst c8;rw[if_neg (show ¬ (false=true) by decide)] at H;have H':=B98 H;clear H;go_wp2
    go_loopg [3] kj1 (fun kq v3 w'=>∃ (x3_2:Int),v3=.int .i64 x3_2∧A0a (A0v.l0 kq x3_2 l0_0 a0_1=some r)∧A0a (kq≤kj1)∧A0a (w'.heap[gb706]? = some (.cells #[(.slice A0_0 l0_0.length c0_0),.int .i64 a0_1] 47 (0,0)))∧A0a (Below w.heap.size w w'))
    case atStart=>exact⟨(0),mt,H',⟨Nat.le_refl _⟩,⟨mz BK706.o⟩,⟨mq⟩⟩
    case round =>
     clear H';obtain⟨x3_2,rfl,HA,HK2,BK706,HB⟩:=hrel;cases gk with
    |zero=>exact absurd HA.o (by simp[A0v.l0])
    |succ k2 =>
      have H:=HA.o;clear HA;simp only [A0v.l0] at H;by_cases c9:x3_2 < (l0_0.length:Int)
      ·rw[if_pos c9] at H
       have c9b0:decide (x3_2 < (l0_0.length:Int))=true:=B99 c9;clear c9;by_cases c10:0≤x3_2
       ·rw[if_pos c10] at H
        have c10b0:decide (0≤x3_2)=true:=B99 c10;clear c10;replace H:=C0f.mp H;obtain⟨t709,A110,H⟩:=H;(try dsimp only at H)
        have A11:=B98 A110;clear A110;by_cases c12:t709=true
        ·subst c12
         rw[if_pos rfl] at H;have H':=B98 H;clear H;obtain⟨hcz13_0,hcz13_1,hfz13_0,hfz13_1⟩:=zb2 BK706.o;have p708:0≤(x3_2:Int):=mo;have q708:x3_2 < (l0_0.length:Int):=mo;obtain⟨ad708,e708,hx708_0⟩:=Kd.at_int HR0_0.o x3_2 p708 q708;cases e708;replace hx708_0:=zc11 HB.o hx708_0;replace p708:=eq_true p708;replace q708:=eq_true q708;go_wp2_with (first|((with_reducible refine A0j (f:=93) rfl ?_);refine A1l (some 26) rfl rfl Tryz.func93 Zk rfl #[.int .i64 (rd l0_0 x3_2),.int .i64 0,.int .i64 15] rfl ml ?_;(with_reducible refine(A0l.calls (rd l0_0 x3_2) 0 15 true _ A11.o).mono ?_);rintro e w' ⟨rfl,⟨nd,rfl⟩⟩;refine⟨_,rfl,?_⟩))
         go_roundg k2
         case measure=>have:=HJ1.o;have:=HK2.o;omega
         case rel=>exact⟨(wrap64 (x3_2+1)),mt,H',⟨by have:=HJ1.o;have:=HK2.o;omega⟩,⟨mz BK706.o⟩,⟨mq⟩⟩
        ·replace c12:=Bool.eq_false_iff.mpr c12
         subst c12;rw[if_neg (show ¬ (false=true) by decide)] at H;obtain rfl:=C0d H;obtain⟨hcz14_0,hcz14_1,hfz14_0,hfz14_1⟩:=zb2 BK706.o;have p708:0≤(x3_2:Int):=mo;have q708:x3_2 < (l0_0.length:Int):=mo;obtain⟨ad708,e708,hx708_0⟩:=Kd.at_int HR0_0.o x3_2 p708 q708;cases e708;replace hx708_0:=zc11 HB.o hx708_0;replace p708:=eq_true p708;replace q708:=eq_true q708;go_wp2_with (first|((with_reducible refine A0j (f:=93) rfl ?_);refine A1l (some 26) rfl rfl Tryz.func93 Zk rfl #[.int .i64 (rd l0_0 x3_2),.int .i64 0,.int .i64 15] rfl ml ?_;(with_reducible refine(A0l.calls (rd l0_0 x3_2) 0 15 false _ A11.o).mono ?_);rintro e w' ⟨rfl,⟨nd,rfl⟩⟩;refine⟨_,rfl,?_⟩));go_ret;exact⟨mr,mq⟩
       ·rw[if_neg c10] at H
        exact absurd H Zs
      ·rw[if_neg c9] at H
       have c9b0:decide (x3_2 < (l0_0.length:Int))=false:=C0a c9;clear c9;obtain rfl:=C0d H;obtain⟨hcz15_0,hcz15_1,hfz15_0,hfz15_1⟩:=zb2 BK706.o;go_wp2
       go_ret;exact⟨mr,mq⟩
def A2k.f (a0_0:Int):Option (Bool):=(A0l.f a0_0 0 4294967295).bind fun t711=>(some t711)
theorem A2k.calls (a0_0:Int) (r:Bool) (w:World) (h:A2k.f a0_0=some r) :
  Calls Tryz.prog 117 #[.agg #[.int .i64 a0_0]] w fun e w'=>e=.returned (.bool r)∧Below w.heap.size w w':=by
 have hu48:=Tryz.underlying48;have HB:=B98 (Below.refl w.heap.size w);unfold A2k.f at h;have H:=h;clear h;replace H:=C0f.mp H;obtain⟨t711,A20,H⟩:=H;(try dsimp only at H)
 have A2:=B98 A20;clear A20;obtain rfl:=C0d H;go_enter Tryz.func117,Tryz.ntmps117;go_wp2_with (first|((with_reducible refine A0b (N:=1) rfl ?_);refine yE (N:=1) (cs:=#[.int .i64 a0_0]) (t:=48) fun gb710 hg w3 hbox hb=>?_;obtain⟨n0_,n2_⟩:=yX (w:=w) hg hb mq;have n1_:=B98 (hbox);have n3_:=n2_;clear HB;have HB:=n0_;have BK710:=n1_;have GW710:=n2_;have GE710:=n3_;clear n0_ n1_ n2_ n3_;clear hb hbox hg;have hcz4_0:w3.cell? ⟨gb710,0,none⟩=some (.int .i64 a0_0):=(zO BK710.o 0).trans rfl;have hfz4_0:=zP BK710.o 0)|((with_reducible refine A0j (f:=93) rfl ?_);refine A1l (some 5) rfl rfl Tryz.func93 Zk rfl #[.int .i64 a0_0,.int .i64 0,.int .i64 4294967295] rfl ml ?_;(with_reducible refine(A0l.calls a0_0 0 4294967295 t711 _ A2.o).mono ?_);rintro e w' ⟨rfl,⟨nd,rfl⟩⟩;refine⟨_,rfl,?_⟩));go_ret;exact⟨mr,mq⟩
mutual
def A0o.l0:Nat→List ByteArray→ByteArray→List ByteArray→Int→Option (List ByteArray)
|0,_,_,_,_=>none
|k+1,x0,x1,x5,x6=>if x6 < (x0.length:Int) then (if 0≤x6 then (if (Op.bytesLess ((rdOf ByteArray.empty x0 x6).toList) x1.toList)=true then (if x5.length < 8796093022208 then (A0o.l0 k x0 x1 (x5 ++ [rdOf ByteArray.empty x0 x6]) (wrap64 (x6+1))) else (none)) else (A0o.l0 k x0 x1 x5 (wrap64 (x6+1)))) else (none)) else (if x5.length < 8796093022208 then (A0o.l1 k x0 x1 (x5 ++ [x1]) 0) else (none))
def A0o.l1:Nat→List ByteArray→ByteArray→List ByteArray→Int→Option (List ByteArray)
|0,_,_,_,_=>none
|k+1,x0,x1,x5,x7=>if x7 < (x0.length:Int) then (if 0≤x7 then (if ((Op.bytesLess ((rdOf ByteArray.empty x0 x7).toList) x1.toList)=true) then (A0o.l1 k x0 x1 x5 (wrap64 (x7+1))) else (if x5.length < 8796093022208 then (A0o.l1 k x0 x1 (x5 ++ [rdOf ByteArray.empty x0 x7]) (wrap64 (x7+1))) else (none))) else (none)) else (some x5)
end
def A0o.f (k:Nat) (l0:List ByteArray) (a1:ByteArray):Option (List ByteArray):=A0o.l0 k l0 a1 (([]:List ByteArray)) 0
theorem A0o.calls (k:Nat) (A0:Option Addr) (c0:Nat) (l0:List ByteArray) (a1:ByteArray) (r:List ByteArray) (w:World) (hr0:Kd.C Kd.string w A0 l0.length l0) (hc0:l0.length≤c0) (h:A0o.f k l0 a1=some r) :
  Calls Tryz.prog 118 #[.slice A0 l0.length c0,.string a1] w fun e w'=>∃ v0_:Value,e=.returned (v0_)∧Kd.R Kd.string 9 w' w.heap.size (fun _=>True) v0_ r∧Below w.heap.size w w':=by
 have HR0:=B98 hr0;have HC0:=B98 hc0;clear hr0 hc0;have HB:=B98 (Below.refl w.heap.size w);unfold A0o.f at h;have H:=h;clear h;obtain⟨y724,hy724⟩:∃ y_:List ByteArray,y_=(([]:List ByteArray)):=⟨_,rfl⟩;rw[← hy724] at H;have Ny724:=B98 hy724;clear hy724;have H':=B98 H;clear H;go_enter Tryz.func118,Tryz.ntmps118;go_wp2_with (first|((with_reducible refine A0b (N:=8) rfl ?_);refine Kd.R_lit Kd.string _ 9 ?hg (N:=8) ?hd (xs:=([]:List ByteArray)) (inner:=[]) (ok:=fun _=>True) (okp:=fun _=>True) ?hr ?hp (fun _ hk=>hk) trivial (Below.refl _ _) (Nat.le_refl _) Zs ?_;(case hd=>rfl);(case hg=>rfl);(case hr=>first|(go_simp;done)|(go_simp;rfl));(case hp=>exact(Reps.none _ _));intro v725 w3 ho4 hb hg_ hnew_;clear hg_ hnew_;(first|rw[← Ny724.o] at ho4|(simp only [Int.reduceToNat] at ho4;rw[← Ny724.o] at ho4));have n0_:=B98 (Kd.R_lower ho4 (A02 mq));have n1_:=B98 (zN mq hb);clear HB;have HO726:=n0_;have HB:=n1_;clear n0_ n1_;clear hb ho4))
 go_loopg [5,6] k (fun kq v5 v6 w'=>∃ (x5_1:List ByteArray) (x6_1:Int),v6=.int .i64 x6_1∧A0a (A0o.l0 kq l0 a1 x5_1 x6_1=some r)∧A0a (kq≤k)∧A0a (Kd.R Kd.string 9 w' w.heap.size (fun _=>True) v5 x5_1)∧A0a (Below w.heap.size w w'))
 case atStart=>exact⟨(y724),(0),mt,H',⟨Nat.le_refl _⟩,⟨by(with_reducible repeat(first|apply zE|apply zD|apply zF));exact HO726.o⟩,⟨mq⟩⟩
 case round =>
  clear H';obtain⟨x5_1,x6_1,rfl,HA,HK1,HO_5,HB⟩:=hrel;cases gk with
 |zero=>exact absurd HA.o (by simp[A0o.l0])
 |succ k1 =>
   have H:=HA.o;clear HA;simp only [A0o.l0] at H;by_cases c5:x6_1 < (l0.length:Int)
   ·rw[if_pos c5] at H
    have c5b0:decide (x6_1 < (l0.length:Int))=true:=B99 c5;clear c5;by_cases c6:0≤x6_1
    ·rw[if_pos c6] at H
     have c6b0:decide (0≤x6_1)=true:=B99 c6;clear c6;by_cases c7:(Op.bytesLess ((rdOf ByteArray.empty l0 x6_1).toList) a1.toList)=true
     ·rw[if_pos c7] at H
      have c7b0:(Op.bytesLess ((rdOf ByteArray.empty l0 x6_1).toList) a1.toList)=true:=c7;clear c7;by_cases c8:x5_1.length < 8796093022208
      ·rw[if_pos c8] at H
       have LMc8:=B98 c8;clear c8;obtain⟨y729,hy729⟩:∃ y_:List ByteArray,y_=(x5_1 ++ [rdOf ByteArray.empty l0 x6_1]):=⟨_,rfl⟩;rw[← hy729] at H;have Ny729:=B98 hy729;clear hy729;have H':=B98 H;clear H;have p727:0≤(x6_1:Int):=mo;have q727:x6_1 < (l0.length:Int):=mo;obtain⟨ad727,e727,hx727_0⟩:=Kd.at_string HR0.o x6_1 p727 q727;cases e727;replace hx727_0:=zc11 HB.o hx727_0;replace p727:=eq_true p727;replace q727:=eq_true q727;have p728:0≤(x6_1:Int):=mo;have q728:x6_1 < (l0.length:Int):=mo;obtain⟨ad728,e728,hx728_0⟩:=Kd.at_string HR0.o x6_1 p728 q728;obtain rfl:ad727=ad728:=(by injection e728);replace hx728_0:=zc11 HB.o hx728_0;replace p728:=eq_true p728;replace q728:=eq_true q728;go_wp2_with (first|((with_reducible refine A1c (b:=.append) (xs:=#[.tmp 21,.tmp 26]) rfl ?_);at_builtin;refine Kd.R_append Kd.string (w0:=w) w.heap.size rfl (.tmp 21) (.tmp 26) 28 9 (.string ⟨#[]⟩) 16 rfl Tryz.underlying28 A57 rfl Zd Zo u5 x5_1 (rdOf ByteArray.empty l0 x6_1) [.string (rdOf ByteArray.empty l0 x6_1)] (fun _=>True) (fun _=>False) rfl rfl ?aP (fun _ hk=>hk.elim) ?aF ?aO ?aB ?aS ?aL ?_;(case aP=>exact rfl);(case aB=>exact mq);(case aF=>exact(fun _ _=>trivial));(case aO=>exact(me HO_5.o));(case aS=>exact(A02 mq));(case aL=>have:=LMc8.o;omega);intro v730 w9 ho hb hg hat;rw[← Ny729.o] at ho;have n0_:=B98 (hb);have n1_:=B98 (ho);clear HB;clear HO_5;have HB:=n0_;have HO731:=n1_;clear n0_ n1_;clear ho hb hg hat))
       go_roundg k1
       case measure=>have:=HK1.o;omega
       case rel=>exact⟨(y729),(wrap64 (x6_1+1)),mt,H',⟨by have:=HK1.o;omega⟩,⟨by(with_reducible repeat(first|apply zE|apply zD|apply zF));exact HO731.o⟩,⟨mq⟩⟩
      ·rw[if_neg c8] at H
       exact absurd H Zs
     ·rw[if_neg c7] at H
      have c7b0:(Op.bytesLess ((rdOf ByteArray.empty l0 x6_1).toList) a1.toList)=false:=by simpa using c7
      clear c7;have H':=B98 H;clear H;have p727:0≤(x6_1:Int):=mo;have q727:x6_1 < (l0.length:Int):=mo;obtain⟨ad727,e727,hx727_0⟩:=Kd.at_string HR0.o x6_1 p727 q727;cases e727;replace hx727_0:=zc11 HB.o hx727_0;replace p727:=eq_true p727;replace q727:=eq_true q727;go_wp2
      go_roundg k1
      case measure=>have:=HK1.o;omega
      case rel=>exact⟨(x5_1),(wrap64 (x6_1+1)),mt,H',⟨by have:=HK1.o;omega⟩,⟨by(with_reducible repeat(first|apply zE|apply zD|apply zF));exact HO_5.o⟩,⟨mq⟩⟩
    ·rw[if_neg c6] at H
     exact absurd H Zs
   ·rw[if_neg c5] at H
    have c5b0:decide (x6_1 < (l0.length:Int))=false:=C0a c5;clear c5;by_cases c10:x5_1.length < 8796093022208
    ·rw[if_pos c10] at H
     have LMc10:=B98 c10;clear c10;obtain⟨y732,hy732⟩:∃ y_:List ByteArray,y_=(x5_1 ++ [a1]):=⟨_,rfl⟩;rw[← hy732] at H;have Ny732:=B98 hy732;clear hy732;have H':=B98 H;clear H;go_wp2_with (first|((with_reducible refine A1c (b:=.append) (xs:=#[.tmp 28,.tmp 30]) rfl ?_);at_builtin;refine Kd.R_append Kd.string (w0:=w) w.heap.size rfl (.tmp 28) (.tmp 30) 28 9 (.string ⟨#[]⟩) 16 rfl Tryz.underlying28 A57 rfl Zd Zo u5 x5_1 a1 [.string a1] (fun _=>True) (fun _=>False) rfl rfl ?aP (fun _ hk=>hk.elim) ?aF ?aO ?aB ?aS ?aL ?_;(case aP=>exact rfl);(case aB=>exact mq);(case aF=>exact(fun _ _=>trivial));(case aO=>exact(me HO_5.o));(case aS=>exact(A02 mq));(case aL=>have:=LMc10.o;omega);intro v733 w11 ho hb hg hat;rw[← Ny732.o] at ho;have n0_:=B98 (hb);have n1_:=B98 (ho);clear HB;clear HO_5;have HB:=n0_;have HO734:=n1_;clear n0_ n1_;clear ho hb hg hat))
     go_loopg [5,7] k1 (fun kq v5 v7 w'=>∃ (x5_2:List ByteArray) (x7_2:Int),v7=.int .i64 x7_2∧A0a (A0o.l1 kq l0 a1 x5_2 x7_2=some r)∧A0a (kq≤k1)∧A0a (Kd.R Kd.string 9 w' w.heap.size (fun _=>True) v5 x5_2)∧A0a (Below w.heap.size w w'))
     case atStart=>exact⟨(y732),(0),mt,H',⟨Nat.le_refl _⟩,⟨by(with_reducible repeat(first|apply zE|apply zD|apply zF));exact HO734.o⟩,⟨mq⟩⟩
     case round =>
      clear H';obtain⟨x5_2,x7_2,rfl,HA,HK2,HO_5,HB⟩:=hrel;cases gk with
     |zero=>exact absurd HA.o (by simp[A0o.l1])
     |succ k2 =>
       have H:=HA.o;clear HA;simp only [A0o.l1] at H;by_cases c12:x7_2 < (l0.length:Int)
       ·rw[if_pos c12] at H
        have c12b0:decide (x7_2 < (l0.length:Int))=true:=B99 c12;clear c12;by_cases c13:0≤x7_2
        ·rw[if_pos c13] at H
         have c13b0:decide (0≤x7_2)=true:=B99 c13;clear c13;by_cases c14:((Op.bytesLess ((rdOf ByteArray.empty l0 x7_2).toList) a1.toList)=true)
         ·rw[if_pos c14] at H
          have c14b0:(Op.bytesLess ((rdOf ByteArray.empty l0 x7_2).toList) a1.toList)=true:=c14;clear c14;have H':=B98 H;clear H;have p735:0≤(x7_2:Int):=mo;have q735:x7_2 < (l0.length:Int):=mo;obtain⟨ad735,e735,hx735_0⟩:=Kd.at_string HR0.o x7_2 p735 q735;cases e735;replace hx735_0:=zc11 HB.o hx735_0;replace p735:=eq_true p735;replace q735:=eq_true q735;go_wp2
          go_roundg k2
          case measure=>have:=HK1.o;have:=HK2.o;omega
          case rel=>exact⟨(x5_2),(wrap64 (x7_2+1)),mt,H',⟨by have:=HK1.o;have:=HK2.o;omega⟩,⟨by(with_reducible repeat(first|apply zE|apply zD|apply zF));exact HO_5.o⟩,⟨mq⟩⟩
         ·rw[if_neg c14] at H
          have c14b0:(Op.bytesLess ((rdOf ByteArray.empty l0 x7_2).toList) a1.toList)=false:=by simpa using c14
          clear c14;by_cases c15:x5_2.length < 8796093022208
          ·rw[if_pos c15] at H
           have LMc15:=B98 c15;clear c15;obtain⟨y737,hy737⟩:∃ y_:List ByteArray,y_=(x5_2 ++ [rdOf ByteArray.empty l0 x7_2]):=⟨_,rfl⟩;rw[← hy737] at H;have Ny737:=B98 hy737;clear hy737;have H':=B98 H;clear H;have p735:0≤(x7_2:Int):=mo;have q735:x7_2 < (l0.length:Int):=mo;obtain⟨ad735,e735,hx735_0⟩:=Kd.at_string HR0.o x7_2 p735 q735;cases e735;replace hx735_0:=zc11 HB.o hx735_0;replace p735:=eq_true p735;replace q735:=eq_true q735;have p736:0≤(x7_2:Int):=mo;have q736:x7_2 < (l0.length:Int):=mo;obtain⟨ad736,e736,hx736_0⟩:=Kd.at_string HR0.o x7_2 p736 q736;obtain rfl:ad735=ad736:=(by injection e736);replace hx736_0:=zc11 HB.o hx736_0;replace p736:=eq_true p736;replace q736:=eq_true q736;go_wp2_with (first|((with_reducible refine A1c (b:=.append) (xs:=#[.tmp 44,.tmp 49]) rfl ?_);at_builtin;refine Kd.R_append Kd.string (w0:=w) w.heap.size rfl (.tmp 44) (.tmp 49) 28 9 (.string ⟨#[]⟩) 16 rfl Tryz.underlying28 A57 rfl Zd Zo u5 x5_2 (rdOf ByteArray.empty l0 x7_2) [.string (rdOf ByteArray.empty l0 x7_2)] (fun _=>True) (fun _=>False) rfl rfl ?aP (fun _ hk=>hk.elim) ?aF ?aO ?aB ?aS ?aL ?_;(case aP=>exact rfl);(case aB=>exact mq);(case aF=>exact(fun _ _=>trivial));(case aO=>exact(me HO_5.o));(case aS=>exact(A02 mq));(case aL=>have:=LMc15.o;omega);intro v738 w16 ho hb hg hat;rw[← Ny737.o] at ho;have n0_:=B98 (hb);have n1_:=B98 (ho);clear HB;clear HO_5;have HB:=n0_;have HO739:=n1_;clear n0_ n1_;clear ho hb hg hat))
           go_roundg k2
           case measure=>have:=HK1.o;have:=HK2.o;omega
           case rel=>exact⟨(y737),(wrap64 (x7_2+1)),mt,H',⟨by have:=HK1.o;have:=HK2.o;omega⟩,⟨by(with_reducible repeat(first|apply zE|apply zD|apply zF));exact HO739.o⟩,⟨mq⟩⟩
          ·rw[if_neg c15] at H
           exact absurd H Zs
        ·rw[if_neg c13] at H
         exact absurd H Zs
       ·rw[if_neg c12] at H
        have c12b0:decide (x7_2 < (l0.length:Int))=false:=C0a c12;clear c12;obtain rfl:=C0d H;go_wp2
        go_ret;exact⟨_,mr,by(with_reducible repeat(first|apply zE|apply zD|apply zF));exact HO_5.o,mq⟩
    ·rw[if_neg c10] at H
     exact absurd H Zs
mutual
def A0z.l0:Nat→List ByteArray→Int→List (S151)→List (S151)→Int→Option (List ByteArray)
|0,_,_,_,_,_=>none
|k+1,x3,x4,x757000,x757001,x757002=>if x4 < (x757000.length:Int) then (if 0≤x4 then (if ((A0c x757000 x4).f0).toList=([]:List UInt8) then (A0z.l0 k x3 (wrap64 (x4+1)) x757000 x757001 x757002) else ((A0o.f k x3 ((A0c x757000 x4).f0)).bind fun t763=>(A0z.l0 k t763 (wrap64 (x4+1)) x757000 x757001 x757002))) else (none)) else (A0z.l1 k x3 0 x757000 x757001 x757002)
def A0z.l1:Nat→List ByteArray→Int→List (S151)→List (S151)→Int→Option (List ByteArray)
|0,_,_,_,_,_=>none
|k+1,x3,x5,x757000,x757001,x757002=>if x5 < (x757001.length:Int) then (if 0≤x5 then (if ((A0c x757001 x5).f0).toList=([]:List UInt8) then (A0z.l1 k x3 (wrap64 (x5+1)) x757000 x757001 x757002) else ((A0o.f k x3 ((A0c x757001 x5).f0)).bind fun t768=>(A0z.l1 k t768 (wrap64 (x5+1)) x757000 x757001 x757002))) else (none)) else (some x3)
end
def A0z.f (k:Nat) (l0_0:List (S151)) (l0_1:List (S151)) (a0_2:Int):Option (List ByteArray):=(some (([]:List ByteArray):List ByteArray)).bind fun y757=>((A0e.f k l0_0 l0_1 a0_2).bind fun t760=>(if t760=true then (A0z.l0 k y757 0 l0_0 l0_1 a0_2) else (some y757)))
theorem A0z.calls (k:Nat) (A0_0:Option Addr) (c0_0:Nat) (l0_0:List (S151)) (A0_1:Option Addr) (c0_1:Nat) (l0_1:List (S151)) (a0_2:Int) (r:List ByteArray) (w:World) (hr0_0:Kd.C k151 w A0_0 l0_0.length l0_0) (hc0_0:l0_0.length≤c0_0) (hr0_1:Kd.C k151 w A0_1 l0_1.length l0_1) (hc0_1:l0_1.length≤c0_1) (h:A0z.f k l0_0 l0_1 a0_2=some r) :
  Calls Tryz.prog 42 #[.agg #[.slice A0_0 l0_0.length c0_0,.slice A0_1 l0_1.length c0_1,.int .i64 a0_2]] w fun e w'=>∃ v0_:Value,e=.returned (v0_)∧Kd.R Kd.string 9 w' w.heap.size (fun _=>True) v0_ r∧Below w.heap.size w w':=by
 have hu45:=Tryz.underlying45;have HR0_0:=B98 hr0_0;have HC0_0:=B98 hc0_0;clear hr0_0 hc0_0;have HR0_1:=B98 hr0_1;have HC0_1:=B98 hc0_1;clear hr0_1 hc0_1;have HB:=B98 (Below.refl w.heap.size w);unfold A0z.f at h;have H:=h;clear h;obtain⟨y757,hy757⟩:∃ y_:List ByteArray,y_=(([]:List ByteArray)):=⟨_,rfl⟩;replace H:((A0e.f k l0_0 l0_1 a0_2).bind fun t760=>(if t760=true then (A0z.l0 k y757 0 l0_0 l0_1 a0_2) else (some y757)))=some r:=by first|(rw[hy757];with_reducible exact H)|(have H2_:=(Option.bind_some _ _).symm.trans H;rw[hy757];with_reducible exact H2_)|(have H2_:=(Option.bind_some _ _).symm.trans H;with_reducible exact H2_)|with_reducible exact H|(rw[hy757];exact H)|exact H
 have Ny757:=B98 hy757;clear hy757;replace H:=C0f.mp H;obtain⟨t760,A20,H⟩:=H;replace H:(if t760=true then (A0z.l0 k y757 0 l0_0 l0_1 a0_2) else (some y757))=some r:=H;have A2:=B98 A20;clear A20;go_enter Tryz.func42,Tryz.ntmps42;go_wp2_with (first|((with_reducible refine A0b (N:=1) rfl ?_);refine yE (N:=1) (cs:=#[.slice A0_0 l0_0.length c0_0,.slice A0_1 l0_1.length c0_1,.int .i64 a0_2]) (t:=45) fun gb756 hg w4 hbox hb=>?_;obtain⟨n0_,n2_⟩:=yX (w:=w) hg hb mq;have n1_:=B98 (hbox);have n3_:=n2_;clear HB;have HB:=n0_;have BK756:=n1_;have GW756:=n2_;have GE756:=n3_;clear n0_ n1_ n2_ n3_;clear hb hbox hg)|((with_reducible refine A0b (N:=6) rfl ?_);refine Kd.R_lit Kd.string _ 9 ?hg (N:=6) ?hd (xs:=([]:List ByteArray)) (inner:=[]) (ok:=fun _=>True) (okp:=fun _=>True) ?hr ?hp (fun _ hk=>hk) trivial (Below.refl _ _) (Nat.le_refl _) Zs ?_;(case hd=>rfl);(case hg=>rfl);(case hr=>first|(go_simp;done)|(go_simp;rfl));(case hp=>exact(Reps.none _ _));intro v758 w5 ho6 hb hg_ hnew_;clear hg_ hnew_;(first|rw[← Ny757.o] at ho6|(simp only [Int.reduceToNat] at ho6;rw[← Ny757.o] at ho6));have n0_:=B98 (Kd.R_lower ho6 (A02 mq));have n1_:=B98 (zK (mz BK756.o) hb);have n2_:=B98 (zN mq hb);clear BK756;clear HB;have HO759:=n0_;have BK756:=n1_;have HB:=n2_;clear n0_ n1_ n2_;clear hb ho6;obtain⟨hcz7_0,hcz7_1,hcz7_2,hfz7_0,hfz7_1,hfz7_2⟩:=zb3 BK756.o)|((with_reducible refine A0j (f:=114) rfl ?_);refine A1l (some 8) rfl rfl Tryz.func114 Zk rfl #[.agg #[.slice A0_0 l0_0.length c0_0,.slice A0_1 l0_1.length c0_1,.int .i64 a0_2]] rfl ml ?_;(with_reducible refine(A0e.calls k _ _ l0_0 _ _ l0_1 a0_2 t760 _ ?side1 ?side2 ?side3 ?side4 A2.o).mono ?_);(case side1=>exact mc HR0_0.o);(case side2=>exact HC0_0.o);(case side3=>exact mc HR0_1.o);(case side4=>exact HC0_1.o);rintro e w8 ⟨rfl,hb⟩;refine⟨_,rfl,?_⟩;have n0_:=B98 (zM (me HO759.o) hb);have n1_:=B98 (zK (mz BK756.o) hb);have n2_:=B98 (zN mq hb);clear HO759;clear BK756;clear HB;have HO759:=n0_;have BK756:=n1_;have HB:=n2_;clear n0_ n1_ n2_;(try clear hb);(try clear hb2);(try clear hk);(try clear hi);(refine Classical.byCases (p:=(t760=true)) (fun c3=>?zp73) (fun c3=>?zn73);(case' zn73=>(replace c3:=Bool.eq_false_iff.mpr c3);(subst c3);(have H1:(some y757)=some r:=by rw[if_neg (show ¬ (false=true) by decide)] at H;exact H);(clear H);(have H:=H1);(clear H1);(obtain rfl:=C0d H));(case' zp73=>(subst c3);(have H1:(A0z.l0 k y757 0 l0_0 l0_1 a0_2)=some r:=by rw[if_pos rfl] at H;exact H);(clear H);(have H:=H1);(clear H1);(have H':=B98 H);(clear H)))))
 ·go_loopg [3,4] k (fun kq v3 v4 w'=>∃ (x3_1:List ByteArray) (x4_1:Int),v4=.int .i64 x4_1∧A0a (A0z.l0 kq x3_1 x4_1 l0_0 l0_1 a0_2=some r)∧A0a (kq≤k)∧A0a (Kd.R Kd.string 9 w' w.heap.size (fun _=>True) v3 x3_1)∧A0a (w'.heap[gb756]? = some (.cells #[(.slice A0_0 l0_0.length c0_0),(.slice A0_1 l0_1.length c0_1),.int .i64 a0_2] 45 (0,0)))∧A0a (Below w.heap.size w w'))
  case atStart=>exact⟨(y757),(0),mt,H',⟨Nat.le_refl _⟩,⟨by(with_reducible repeat(first|apply zE|apply zD|apply zF));exact HO759.o⟩,⟨mz BK756.o⟩,⟨mq⟩⟩
  case round =>
   clear H';obtain⟨x3_1,x4_1,rfl,HA,HK1,HO_3,BK756,HB⟩:=hrel;cases gk with
  |zero=>exact absurd HA.o (by simp[A0z.l0])
  |succ k1 =>
    have H:=HA.o;clear HA;simp only [A0z.l0] at H;by_cases c9:x4_1 < (l0_0.length:Int)
    ·rw[if_pos c9] at H
     have c9b0:decide (x4_1 < (l0_0.length:Int))=true:=B99 c9;clear c9;by_cases c10:0≤x4_1
     ·rw[if_pos c10] at H
      have c10b0:decide (0≤x4_1)=true:=B99 c10;clear c10;by_cases c11:((A0c l0_0 x4_1).f0).toList=([]:List UInt8)
      ·rw[if_pos c11] at H
       have c11b0:(((A0c l0_0 x4_1).f0).toList == ([]:List UInt8))=true:=beq_iff_eq.mpr c11;have c11b1:(((A0c l0_0 x4_1).f0).toList != ([]:List UInt8))=false:=bne_eq_false_iff_eq.mpr c11;clear c11;have H':=B98 H;clear H;obtain⟨hcz12_0,hcz12_1,hcz12_2,hfz12_0,hfz12_1,hfz12_2⟩:=zb3 BK756.o;have p761:0≤(x4_1:Int):=mo;have q761:x4_1 < (l0_0.length:Int):=mo;obtain⟨ad761,e761,hx761_0,hx761_1⟩:=A1t (Kd.C_below HR0_0.o HB.o) x4_1 p761 q761;cases e761;replace p761:=eq_true p761;replace q761:=eq_true q761;go_wp2
       go_roundg k1
       case measure=>have:=HK1.o;omega
       case rel=>exact⟨(x3_1),(wrap64 (x4_1+1)),mt,H',⟨by have:=HK1.o;omega⟩,⟨by(with_reducible repeat(first|apply zE|apply zD|apply zF));exact HO_3.o⟩,⟨mz BK756.o⟩,⟨mq⟩⟩
      ·rw[if_neg c11] at H
       have c11b0:(((A0c l0_0 x4_1).f0).toList == ([]:List UInt8))=false:=C0g.mpr c11;have c11b1:(((A0c l0_0 x4_1).f0).toList != ([]:List UInt8))=true:=bne_iff_ne.mpr c11;replace H:=C0f.mp H;obtain⟨t763,A130,H⟩:=H;replace H:(A0z.l0 k1 t763 (wrap64 (x4_1+1)) l0_0 l0_1 a0_2)=some r:=H;have A13:=B98 A130;clear A130;have H':=B98 H;clear H;obtain⟨hcz14_0,hcz14_1,hcz14_2,hfz14_0,hfz14_1,hfz14_2⟩:=zb3 BK756.o;have p761:0≤(x4_1:Int):=mo;have q761:x4_1 < (l0_0.length:Int):=mo;obtain⟨ad761,e761,hx761_0,hx761_1⟩:=A1t (Kd.C_below HR0_0.o HB.o) x4_1 p761 q761;cases e761;replace p761:=eq_true p761;replace q761:=eq_true q761;have p762:0≤(x4_1:Int):=mo;have q762:x4_1 < (l0_0.length:Int):=mo;obtain⟨ad762,e762,hx762_0,hx762_1⟩:=A1t HR0_0.o x4_1 p762 q762;obtain rfl:ad761=ad762:=(by injection e762);replace hx762_0:=zc11 HB.o hx762_0;replace hx762_1:=zc11 HB.o hx762_1;replace p762:=eq_true p762;replace q762:=eq_true q762;obtain⟨Ao15,co15,eo15⟩:=Kd.R_slice HO_3.o;subst eo15;go_wp2_with (first|((with_reducible refine A0j (f:=118) rfl ?_);refine A1l (some 32) rfl rfl Tryz.func118 Zk rfl #[.slice Ao15 x3_1.length co15,.string ((A0c l0_0 x4_1).f0)] rfl ml ?_;(with_reducible refine(A0o.calls k1 _ _ x3_1 ((A0c l0_0 x4_1).f0) t763 _ ?side1 ?side2 A13.o).mono ?_);(case side1=>repeat(first|exact(Kd.R_reads' HO_3.o).2.2|(with_reducible refine Kd.C_alloc ?_ _)|(with_reducible refine Kd.C_drewN ?_ _)|(with_reducible refine Kd.C_drew ?_)));(case side2=>exact(Kd.R_reads' HO_3.o).2.1);rintro e w16 ⟨v764,rfl,ho0,hb⟩;refine⟨_,rfl,?_⟩;have n0_:=B98 (Kd.R_elder' (me HO_3.o) (Kd.R_base ho0) hb);have n1_:=B98 (Kd.R_lower (Kd.R_new' ho0 (Kd.R_lt (me HO_3.o))) (A02 mq));have n2_:=B98 (zK (mz BK756.o) hb);have n3_:=B98 (zN mq hb);clear HO_3;clear BK756;clear HB;have HO_3:=n0_;have HO765:=n1_;have BK756:=n2_;have HB:=n3_;clear n0_ n1_ n2_ n3_;(try clear hb);(try clear hb2);(try clear hk);(try clear hi);(try clear ho0)))
       go_roundg k1
       case measure=>have:=HK1.o;omega
       case rel=>exact⟨(t763),(wrap64 (x4_1+1)),mt,H',⟨by have:=HK1.o;omega⟩,⟨by(with_reducible repeat(first|apply zE|apply zD|apply zF));exact zR HO765.o (fun _ hk=>trivial)⟩,⟨mz BK756.o⟩,⟨mq⟩⟩
     ·rw[if_neg c10] at H
      exact absurd H Zs
    ·rw[if_neg c9] at H
     have c9b0:decide (x4_1 < (l0_0.length:Int))=false:=C0a c9;clear c9;have H':=B98 H;clear H;obtain⟨hcz17_0,hcz17_1,hcz17_2,hfz17_0,hfz17_1,hfz17_2⟩:=zb3 BK756.o;go_wp2
     go_loopg [3,5] k1 (fun kq v3 v5 w'=>∃ (x3_2:List ByteArray) (x5_2:Int),v5=.int .i64 x5_2∧A0a (A0z.l1 kq x3_2 x5_2 l0_0 l0_1 a0_2=some r)∧A0a (kq≤k1)∧A0a (Kd.R Kd.string 9 w' w.heap.size (fun _=>True) v3 x3_2)∧A0a (w'.heap[gb756]? = some (.cells #[(.slice A0_0 l0_0.length c0_0),(.slice A0_1 l0_1.length c0_1),.int .i64 a0_2] 45 (0,0)))∧A0a (Below w.heap.size w w'))
     case atStart=>exact⟨(x3_1),(0),mt,H',⟨Nat.le_refl _⟩,⟨by(with_reducible repeat(first|apply zE|apply zD|apply zF));exact HO_3.o⟩,⟨mz BK756.o⟩,⟨mq⟩⟩
     case round =>
      clear H';obtain⟨x3_2,x5_2,rfl,HA,HK2,HO_3,BK756,HB⟩:=hrel;cases gk with
     |zero=>exact absurd HA.o (by simp[A0z.l1])
     |succ k2 =>
       have H:=HA.o;clear HA;simp only [A0z.l1] at H;by_cases c18:x5_2 < (l0_1.length:Int)
       ·rw[if_pos c18] at H
        have c18b0:decide (x5_2 < (l0_1.length:Int))=true:=B99 c18;clear c18;by_cases c19:0≤x5_2
        ·rw[if_pos c19] at H
         have c19b0:decide (0≤x5_2)=true:=B99 c19;clear c19;by_cases c20:((A0c l0_1 x5_2).f0).toList=([]:List UInt8)
         ·rw[if_pos c20] at H
          have c20b0:(((A0c l0_1 x5_2).f0).toList == ([]:List UInt8))=true:=beq_iff_eq.mpr c20;have c20b1:(((A0c l0_1 x5_2).f0).toList != ([]:List UInt8))=false:=bne_eq_false_iff_eq.mpr c20;clear c20;have H':=B98 H;clear H;obtain⟨hcz21_0,hcz21_1,hcz21_2,hfz21_0,hfz21_1,hfz21_2⟩:=zb3 BK756.o;have p766:0≤(x5_2:Int):=mo;have q766:x5_2 < (l0_1.length:Int):=mo;obtain⟨ad766,e766,hx766_0,hx766_1⟩:=A1t (Kd.C_below HR0_1.o HB.o) x5_2 p766 q766;cases e766;replace p766:=eq_true p766;replace q766:=eq_true q766;go_wp2
          go_roundg k2
          case measure=>have:=HK1.o;have:=HK2.o;omega
          case rel=>exact⟨(x3_2),(wrap64 (x5_2+1)),mt,H',⟨by have:=HK1.o;have:=HK2.o;omega⟩,⟨by(with_reducible repeat(first|apply zE|apply zD|apply zF));exact HO_3.o⟩,⟨mz BK756.o⟩,⟨mq⟩⟩
         ·rw[if_neg c20] at H
          have c20b0:(((A0c l0_1 x5_2).f0).toList == ([]:List UInt8))=false:=C0g.mpr c20;have c20b1:(((A0c l0_1 x5_2).f0).toList != ([]:List UInt8))=true:=bne_iff_ne.mpr c20;replace H:=C0f.mp H;obtain⟨t768,A220,H⟩:=H;replace H:(A0z.l1 k2 t768 (wrap64 (x5_2+1)) l0_0 l0_1 a0_2)=some r:=H;have A22:=B98 A220;clear A220;have H':=B98 H;clear H;obtain⟨hcz23_0,hcz23_1,hcz23_2,hfz23_0,hfz23_1,hfz23_2⟩:=zb3 BK756.o;have p766:0≤(x5_2:Int):=mo;have q766:x5_2 < (l0_1.length:Int):=mo;obtain⟨ad766,e766,hx766_0,hx766_1⟩:=A1t (Kd.C_below HR0_1.o HB.o) x5_2 p766 q766;cases e766;replace p766:=eq_true p766;replace q766:=eq_true q766;have p767:0≤(x5_2:Int):=mo;have q767:x5_2 < (l0_1.length:Int):=mo;obtain⟨ad767,e767,hx767_0,hx767_1⟩:=A1t HR0_1.o x5_2 p767 q767;obtain rfl:ad766=ad767:=(by injection e767);replace hx767_0:=zc11 HB.o hx767_0;replace hx767_1:=zc11 HB.o hx767_1;replace p767:=eq_true p767;replace q767:=eq_true q767;obtain⟨Ao24,co24,eo24⟩:=Kd.R_slice HO_3.o;subst eo24;go_wp2_with (first|((with_reducible refine A0j (f:=118) rfl ?_);refine A1l (some 54) rfl rfl Tryz.func118 Zk rfl #[.slice Ao24 x3_2.length co24,.string ((A0c l0_1 x5_2).f0)] rfl ml ?_;(with_reducible refine(A0o.calls k2 _ _ x3_2 ((A0c l0_1 x5_2).f0) t768 _ ?side1 ?side2 A22.o).mono ?_);(case side1=>repeat(first|exact(Kd.R_reads' HO_3.o).2.2|(with_reducible refine Kd.C_alloc ?_ _)|(with_reducible refine Kd.C_drewN ?_ _)|(with_reducible refine Kd.C_drew ?_)));(case side2=>exact(Kd.R_reads' HO_3.o).2.1);rintro e w25 ⟨v769,rfl,ho0,hb⟩;refine⟨_,rfl,?_⟩;have n0_:=B98 (Kd.R_elder' (me HO_3.o) (Kd.R_base ho0) hb);have n1_:=B98 (Kd.R_lower (Kd.R_new' ho0 (Kd.R_lt (me HO_3.o))) (A02 mq));have n2_:=B98 (zK (mz BK756.o) hb);have n3_:=B98 (zN mq hb);clear HO_3;clear BK756;clear HB;have HO_3:=n0_;have HO770:=n1_;have BK756:=n2_;have HB:=n3_;clear n0_ n1_ n2_ n3_;(try clear hb);(try clear hb2);(try clear hk);(try clear hi);(try clear ho0)))
          go_roundg k2
          case measure=>have:=HK1.o;have:=HK2.o;omega
          case rel=>exact⟨(t768),(wrap64 (x5_2+1)),mt,H',⟨by have:=HK1.o;have:=HK2.o;omega⟩,⟨by(with_reducible repeat(first|apply zE|apply zD|apply zF));exact zR HO770.o (fun _ hk=>trivial)⟩,⟨mz BK756.o⟩,⟨mq⟩⟩
        ·rw[if_neg c19] at H
         exact absurd H Zs
       ·rw[if_neg c18] at H
        have c18b0:decide (x5_2 < (l0_1.length:Int))=false:=C0a c18;clear c18;obtain rfl:=C0d H;obtain⟨hcz26_0,hcz26_1,hcz26_2,hfz26_0,hfz26_1,hfz26_2⟩:=zb3 BK756.o;go_wp2
        go_ret;exact⟨_,mr,by(with_reducible repeat(first|apply zE|apply zD|apply zF));exact HO_3.o,mq⟩
 ·go_ret
  exact⟨_,mr,by(with_reducible repeat(first|apply zE|apply zD|apply zF));exact HO759.o,mq⟩
mutual
def A05.l0:Nat→Int→Int→List (S94)→Int→Option (Int)
|0,_,_,_,_=>none
|k+1,x3,x4,x772000,x772001=>if x4 < (x772000.length:Int) then ((A0f.f k x772000 x772001).bind fun t772=>(A05.j1 k x3 x4 t772 x772000 x772001)) else (A05.j1 k x3 x4 false x772000 x772001)
def A05.j1:Nat→Int→Int→Bool→List (S94)→Int→Option (Int)
|0,_,_,_,_,_=>none
|k+1,x3,x4,x13,x772000,x772001=>if x13=true then (if 0≤x4 then (if x4 < (x772000.length:Int) then (if (A0p x772000 x4).f1=true then (A05.l0 k (wrap64 (x3+1)) (wrap64 (x4+1)) x772000 x772001) else (A05.l0 k x3 (wrap64 (x4+1)) x772000 x772001)) else (none)) else (none)) else (some x3)
end
def A05.f (k:Nat) (l0_0:List (S94)) (a0_1:Int):Option (Int):=A05.l0 k 0 0 l0_0 a0_1
theorem A05.calls (k:Nat) (A0_0:Option Addr) (c0_0:Nat) (l0_0:List (S94)) (a0_1:Int) (r:Int) (w:World) (hr0_0:Kd.C k94 w A0_0 l0_0.length l0_0) (hc0_0:l0_0.length≤c0_0) (h:A05.f k l0_0 a0_1=some r) :
  Calls Tryz.prog 43 #[.agg #[.slice A0_0 l0_0.length c0_0,.int .i64 a0_1]] w fun e w'=>e=.returned (.int .i64 r)∧Below w.heap.size w w':=by
 have hu42:=Tryz.underlying42;have HR0_0:=B98 hr0_0;have HC0_0:=B98 hc0_0;clear hr0_0 hc0_0;have HB:=B98 (Below.refl w.heap.size w);unfold A05.f at h;have H:=h;clear h;have H':=B98 H;clear H;go_enter Tryz.func43,Tryz.ntmps43;go_wp2_with (first|((with_reducible refine A0b (N:=1) rfl ?_);refine yE (N:=1) (cs:=#[.slice A0_0 l0_0.length c0_0,.int .i64 a0_1]) (t:=42) fun gb771 hg w2 hbox hb=>?_;obtain⟨n0_,n2_⟩:=yX (w:=w) hg hb mq;have n1_:=B98 (hbox);have n3_:=n2_;clear HB;have HB:=n0_;have BK771:=n1_;have GW771:=n2_;have GE771:=n3_;clear n0_ n1_ n2_ n3_;clear hb hbox hg))
 go_loopg [3,4] k (fun kq v3 v4 w'=>∃ (x3_1:Int) (x4_1:Int),v3=.int .i64 x3_1∧v4=.int .i64 x4_1∧A0a (A05.l0 kq x3_1 x4_1 l0_0 a0_1=some r)∧A0a (kq≤k)∧A0a (w'.heap[gb771]? = some (.cells #[(.slice A0_0 l0_0.length c0_0),.int .i64 a0_1] 42 (0,0)))∧A0a (Below w.heap.size w w'))
 case atStart=>exact⟨(0),(0),mt,mt,H',⟨Nat.le_refl _⟩,⟨mz BK771.o⟩,⟨mq⟩⟩
 case round =>
  clear H';obtain⟨x3_1,x4_1,rfl,rfl,HA,HK1,BK771,HB⟩:=hrel;cases gk with
 |zero=>exact absurd HA.o (by simp[A05.l0])
 |succ k1 =>
   have H:=HA.o;clear HA;simp only [A05.l0] at H;have HC3:=B98 H;clear H;go_upto_region 3 with (fail);go_cut [13] (fun v13 wc=>∃ (kq:Nat) (x13_2:Bool),v13=.bool x13_2∧A0a (A05.j1 kq x3_1 x4_1 x13_2 l0_0 a0_1=some r)∧A0a (kq≤k1)∧A0a (wc.heap[gb771]? = some (.cells #[(.slice A0_0 l0_0.length c0_0),.int .i64 a0_1] 42 (0,0)))∧A0a (Below w.heap.size w wc))
   case first =>
    have H:=HC3.o;clear HC3;by_cases c4:x4_1 < (l0_0.length:Int)
    ·rw[if_pos c4] at H
     have c4b0:decide (x4_1 < (l0_0.length:Int))=true:=B99 c4;clear c4;(first|rw[c4b0]|(simp only [A1y,A15];rw[c4b0])|skip)
     replace H:=C0f.mp H;obtain⟨t772,A50,H⟩:=H;(try dsimp only at H)
     have A5:=B98 A50;clear A50;have H':=B98 H;clear H;obtain⟨hcz6_0,hcz6_1,hfz6_0,hfz6_1⟩:=zb2 BK771.o;go_wp2_with (first|(go_at_call 113;(with_reducible refine(A0f.calls k1 _ _ l0_0 a0_1 t772 _ ?side1 ?side2 A5.o).mono ?_);(case side1=>exact mc HR0_0.o);(case side2=>exact HC0_0.o);rintro e w7 ⟨rfl,hb⟩;have n0_:=B98 (zK (mz BK771.o) hb);have n1_:=B98 (zN mq hb);clear BK771;clear HB;have BK771:=n0_;have HB:=n1_;clear n0_ n1_;(try clear hb);(try clear hb2);(try clear hk);(try clear hi)));go_meet
     case rel=>exact⟨_,(t772),mt,H',⟨by have:=HK1.o;first|omega|exact Nat.le_refl _⟩,⟨mz BK771.o⟩,⟨mq⟩⟩
    ·rw[if_neg c4] at H
     have c4b0:decide (x4_1 < (l0_0.length:Int))=false:=C0a c4;clear c4;(first|rw[c4b0]|(simp only [A1y,A15];rw[c4b0])|skip)
     have H':=B98 H;clear H;obtain⟨hcz8_0,hcz8_1,hfz8_0,hfz8_1⟩:=zb2 BK771.o;go_wp2
     go_meet
     case rel=>exact⟨_,(false),mt,H',⟨by have:=HK1.o;first|omega|exact Nat.le_refl _⟩,⟨mz BK771.o⟩,⟨mq⟩⟩
   case rest =>
    clear HC3;obtain⟨kq,x13_2,rfl,HA,HJ2,BK771,HB⟩:=hcut;cases kq with
   |zero=>exact absurd HA.o (by simp[A05.j1])
   |succ kj2 =>
     have H:=HA.o;clear HA;simp only [A05.j1] at H;by_cases c9:x13_2=true
     ·subst c9
      rw[if_pos rfl] at H;by_cases c10:0≤x4_1
      ·rw[if_pos c10] at H
       have c10b0:decide (0≤x4_1)=true:=B99 c10;clear c10;by_cases c11:x4_1 < (l0_0.length:Int)
       ·rw[if_pos c11] at H
        have c11b0:decide (x4_1 < (l0_0.length:Int))=true:=B99 c11;clear c11;obtain⟨bq12,hbq12⟩:∃ b_:Bool,b_=((A0p l0_0 x4_1).f1):=⟨_,rfl⟩;rw[← hbq12] at H;have Nbq12:=B98 hbq12;clear hbq12;by_cases c13:bq12=true
        ·subst c13
         rw[if_pos rfl] at H;have H':=B98 H;clear H;obtain⟨hcz14_0,hcz14_1,hfz14_0,hfz14_1⟩:=zb2 BK771.o;have p773:0≤(x4_1:Int):=mo;have q773:x4_1 < (l0_0.length:Int):=mo;obtain⟨ad773,e773,hx773_0,hx773_1,hx773_2,hx773_3,hx773_4⟩:=A2d HR0_0.o x4_1 p773 q773;(try rw[← Nbq12.o] at hx773_1)
         cases e773;replace hx773_0:=zc11 HB.o hx773_0;replace hx773_1:=zc11 HB.o hx773_1;replace hx773_2:=zc11 HB.o hx773_2;replace hx773_3:=zc11 HB.o hx773_3;replace hx773_4:=zc11 HB.o hx773_4;replace p773:=eq_true p773;replace q773:=eq_true q773;go_wp2
         go_roundg kj2
         case measure=>have:=HK1.o;have:=HJ2.o;omega
         case rel=>exact⟨(wrap64 (x3_1+1)),(wrap64 (x4_1+1)),mt,mt,H',⟨by have:=HK1.o;have:=HJ2.o;omega⟩,⟨mz BK771.o⟩,⟨mq⟩⟩
        ·replace c13:=Bool.eq_false_iff.mpr c13
         subst c13;rw[if_neg (show ¬ (false=true) by decide)] at H;have H':=B98 H;clear H;obtain⟨hcz15_0,hcz15_1,hfz15_0,hfz15_1⟩:=zb2 BK771.o;have p773:0≤(x4_1:Int):=mo;have q773:x4_1 < (l0_0.length:Int):=mo;obtain⟨ad773,e773,hx773_0,hx773_1,hx773_2,hx773_3,hx773_4⟩:=A2d HR0_0.o x4_1 p773 q773;(try rw[← Nbq12.o] at hx773_1)
         cases e773;replace hx773_0:=zc11 HB.o hx773_0;replace hx773_1:=zc11 HB.o hx773_1;replace hx773_2:=zc11 HB.o hx773_2;replace hx773_3:=zc11 HB.o hx773_3;replace hx773_4:=zc11 HB.o hx773_4;replace p773:=eq_true p773;replace q773:=eq_true q773;go_wp2
         go_roundg kj2
         case measure=>have:=HK1.o;have:=HJ2.o;omega
         case rel=>exact⟨(x3_1),(wrap64 (x4_1+1)),mt,mt,H',⟨by have:=HK1.o;have:=HJ2.o;omega⟩,⟨mz BK771.o⟩,⟨mq⟩⟩
       ·rw[if_neg c11] at H
        exact absurd H Zs
      ·rw[if_neg c10] at H
       exact absurd H Zs
     ·replace c9:=Bool.eq_false_iff.mpr c9
      subst c9;rw[if_neg (show ¬ (false=true) by decide)] at H;obtain rfl:=C0d H;go_wp2
      go_ret;exact⟨mr,mq⟩
theorem zc12 {w w1:World} {a:Addr} {v:Value} (hb:Below w.heap.size w w1) (h:w.cell? a=some v):w1.cell? a=some v:=(hb.cell (World.block_lt_of_cell? w _ h)).trans h
def A0t.j0:Nat→ByteArray→Bool→List (S151)→List (S151)→Int→Option (Int × Bool)
|0,_,_,_,_,_=>none
|k+1,x1,x13,x775000,x775001,x775002=>if x13=true then (some (0,false)) else ((A0d.f k x775000 x1).bind fun t776=>(if t776 ≥ 0 then (if 0≤t776 then (if t776 < (x775000.length:Int) then (some ((A0c x775000 t776).f1,true)) else (none)) else (none)) else ((A0d.f k x775001 x1).bind fun t778=>(if t778 ≥ 0 then (if 0≤t778 then (if t778 < (x775001.length:Int) then (some ((A0c x775001 t778).f1,true)) else (none)) else (none)) else (some (0,false))))))
def A0t.f (k:Nat) (l0_0:List (S151)) (l0_1:List (S151)) (a0_2:Int) (a1:ByteArray):Option (Int × Bool):=(A0e.f k l0_0 l0_1 a0_2).bind fun t775=>(if t775=true then (A0t.j0 k a1 (a1.toList == ([]:List UInt8)) l0_0 l0_1 a0_2) else (A0t.j0 k a1 true l0_0 l0_1 a0_2))
theorem A0t.calls (k:Nat) (A0_0:Option Addr) (c0_0:Nat) (l0_0:List (S151)) (A0_1:Option Addr) (c0_1:Nat) (l0_1:List (S151)) (a0_2:Int) (a1:ByteArray) (r1:Int) (r2:Bool) (w:World) (hr0_0:Kd.C k151 w A0_0 l0_0.length l0_0) (hc0_0:l0_0.length≤c0_0) (hr0_1:Kd.C k151 w A0_1 l0_1.length l0_1) (hc0_1:l0_1.length≤c0_1) (h:A0t.f k l0_0 l0_1 a0_2 a1=some (r1,r2)) :
  Calls Tryz.prog 44 #[.agg #[.slice A0_0 l0_0.length c0_0,.slice A0_1 l0_1.length c0_1,.int .i64 a0_2],.string a1] w fun e w'=>e=.returned (.tuple #[.int .i64 r1,.bool r2])∧Below w.heap.size w w':=by
 have hu45:=Tryz.underlying45;have HR0_0:=B98 hr0_0;have HC0_0:=B98 hc0_0;clear hr0_0 hc0_0;have HR0_1:=B98 hr0_1;have HC0_1:=B98 hc0_1;clear hr0_1 hc0_1;have HB:=B98 (Below.refl w.heap.size w);unfold A0t.f at h;have H:=h;clear h;have HC3:=B98 H;clear H;go_enter Tryz.func44,Tryz.ntmps44;go_upto_region 1 with (first|((with_reducible refine A0b (N:=2) rfl ?_);refine yE (N:=2) (cs:=#[.slice A0_0 l0_0.length c0_0,.slice A0_1 l0_1.length c0_1,.int .i64 a0_2]) (t:=45) fun gb774 hg w4 hbox hb=>?_;obtain⟨n0_,n2_⟩:=yX (w:=w) hg hb mq;have n1_:=B98 (hbox);have n3_:=n2_;clear HB;have HB:=n0_;have BK774:=n1_;have GW774:=n2_;have GE774:=n3_;clear n0_ n1_ n2_ n3_;clear hb hbox hg))
 (try simp only [Act.put,List.setIfInBounds_toArray,List.set_cons_zero,List.set_cons_succ])
 go_cut [13] (fun v13 wc=>∃ (kq:Nat) (x13_2:Bool),v13=.bool x13_2∧A0a (A0t.j0 kq a1 x13_2 l0_0 l0_1 a0_2=some (r1,r2))∧A0a (kq≤k)∧A0a (wc.heap[gb774]? = some (.cells #[(.slice A0_0 l0_0.length c0_0),(.slice A0_1 l0_1.length c0_1),.int .i64 a0_2] 45 (0,0)))∧A0a (Below w.heap.size w wc))
 case first =>
  have H:=HC3.o;clear HC3;replace H:=C0f.mp H;obtain⟨t775,A50,H⟩:=H;(try dsimp only at H)
  have A5:=B98 A50;clear A50;obtain⟨hcz7_0,hcz7_1,hcz7_2,hfz7_0,hfz7_1,hfz7_2⟩:=zb3 BK774.o;go_wp2_with (first|((with_reducible refine A0j (f:=114) rfl ?_);refine A1l (some 8) rfl rfl Tryz.func114 Zk rfl #[.agg #[.slice A0_0 l0_0.length c0_0,.slice A0_1 l0_1.length c0_1,.int .i64 a0_2]] rfl ml ?_;(with_reducible refine(A0e.calls k _ _ l0_0 _ _ l0_1 a0_2 t775 _ ?side1 ?side2 ?side3 ?side4 A5.o).mono ?_);(case side1=>exact mc HR0_0.o);(case side2=>exact HC0_0.o);(case side3=>exact mc HR0_1.o);(case side4=>exact HC0_1.o);rintro e w8 ⟨rfl,hb⟩;refine⟨_,rfl,?_⟩;have n0_:=B98 (zK (mz BK774.o) hb);have n1_:=B98 (zN mq hb);clear BK774;clear HB;have BK774:=n0_;have HB:=n1_;clear n0_ n1_;(try clear hb);(try clear hb2);(try clear hk);(try clear hi);(refine Classical.byCases (p:=(t775=true)) (fun c6=>?zp74) (fun c6=>?zn74);(case' zn74=>(replace c6:=Bool.eq_false_iff.mpr c6);(subst c6);(have H1:(A0t.j0 k a1 true l0_0 l0_1 a0_2)=some (r1,r2):=by rw[if_neg (show ¬ (false=true) by decide)] at H;exact H);(clear H);(have H:=H1);(clear H1);(have H':=B98 H);(clear H);(obtain⟨hcz9_0,hcz9_1,hcz9_2,hfz9_0,hfz9_1,hfz9_2⟩:=zb3 BK774.o));(case' zp74=>(subst c6);(have H1:(A0t.j0 k a1 (a1.toList == ([]:List UInt8)) l0_0 l0_1 a0_2)=some (r1,r2):=by rw[if_pos rfl] at H;exact H);(clear H);(have H:=H1);(clear H1);(have H':=B98 H);(clear H);(obtain⟨hcz7_0,hcz7_1,hcz7_2,hfz7_0,hfz7_1,hfz7_2⟩:=zb3 BK774.o)))))
  ·go_meet
   case rel=>exact⟨_,((a1.toList == ([]:List UInt8))),mt,H',⟨by first|omega|exact Nat.le_refl _⟩,⟨mz BK774.o⟩,⟨mq⟩⟩
  ·go_meet
   case rel=>exact⟨_,(true),mt,H',⟨by first|omega|exact Nat.le_refl _⟩,⟨mz BK774.o⟩,⟨mq⟩⟩
 case rest =>
  clear HC3;obtain⟨kq,x13_2,rfl,HA,HJ2,BK774,HB⟩:=hcut;cases kq with
 |zero=>exact absurd HA.o (by simp[A0t.j0])
 |succ kj2 =>
   have H:=HA.o;clear HA;simp only [A0t.j0] at H;by_cases c11:x13_2=true
   ·subst c11
    rw[if_pos rfl] at H;simp only [Option.some.injEq,Prod.mk.injEq] at H;obtain⟨rfl,rfl⟩:=H;go_wp2
    go_ret2
    exact⟨mr,mq⟩
   ·replace c11:=Bool.eq_false_iff.mpr c11
    subst c11;rw[if_neg (show ¬ (false=true) by decide)] at H;replace H:=C0f.mp H;obtain⟨t776,A120,H⟩:=H;(try dsimp only at H)
    have A12:=B98 A120;clear A120;by_cases c13:t776 ≥ 0
    ·rw[if_pos c13] at H
     have c13b0:decide (0≤t776)=true:=B99 c13;clear c13;by_cases c14:0≤t776
     ·rw[if_pos c14] at H
      have c14b0:decide (0≤t776)=true:=B99 c14;clear c14;by_cases c15:t776 < (l0_0.length:Int)
      ·rw[if_pos c15] at H
       have c15b0:decide (t776 < (l0_0.length:Int))=true:=B99 c15;clear c15;simp only [Option.some.injEq,Prod.mk.injEq] at H;obtain⟨rfl,rfl⟩:=H;obtain⟨hcz16_0,hcz16_1,hcz16_2,hfz16_0,hfz16_1,hfz16_2⟩:=zb3 BK774.o;go_wp2_with (first|((with_reducible refine A0j (f:=119) rfl ?_);refine A1l (some 17) rfl rfl Tryz.func119 Zk rfl #[.slice A0_0 l0_0.length c0_0,.string a1] rfl ml ?_;(with_reducible refine(A0d.calls kj2 _ _ l0_0 a1 t776 _ ?side1 ?side2 A12.o).mono ?_);(case side1=>exact mc HR0_0.o);(case side2=>exact HC0_0.o);rintro e w17 ⟨rfl,hb⟩;refine⟨_,rfl,?_⟩;have n0_:=B98 (zK (mz BK774.o) hb);have n1_:=B98 (zN mq hb);clear BK774;clear HB;have BK774:=n0_;have HB:=n1_;clear n0_ n1_;(try clear hb);(try clear hb2);(try clear hk);(try clear hi);obtain⟨hcz18_0,hcz18_1,hcz18_2,hfz18_0,hfz18_1,hfz18_2⟩:=zb3 BK774.o;have p777:0≤(t776:Int):=mo;have q777:t776 < (l0_0.length:Int):=mo;obtain⟨ad777,e777,hx777_0,hx777_1⟩:=A1t (Kd.C_below HR0_0.o HB.o) t776 p777 q777;cases e777;replace p777:=eq_true p777;replace q777:=eq_true q777))
       go_ret2
       exact⟨mr,mq⟩
      ·rw[if_neg c15] at H
       exact absurd H Zs
     ·rw[if_neg c14] at H
      exact absurd H Zs
    ·rw[if_neg c13] at H
     have c13b0:decide (0≤t776)=false:=C0a c13;clear c13;replace H:=C0f.mp H;obtain⟨t778,A190,H⟩:=H;(try dsimp only at H)
     have A19:=B98 A190;clear A190;by_cases c20:t778 ≥ 0
     ·rw[if_pos c20] at H
      have c20b0:decide (0≤t778)=true:=B99 c20;clear c20;by_cases c21:0≤t778
      ·rw[if_pos c21] at H
       have c21b0:decide (0≤t778)=true:=B99 c21;clear c21;by_cases c22:t778 < (l0_1.length:Int)
       ·rw[if_pos c22] at H
        have c22b0:decide (t778 < (l0_1.length:Int))=true:=B99 c22;clear c22;simp only [Option.some.injEq,Prod.mk.injEq] at H;obtain⟨rfl,rfl⟩:=H;obtain⟨hcz23_0,hcz23_1,hcz23_2,hfz23_0,hfz23_1,hfz23_2⟩:=zb3 BK774.o;go_wp2_with (first|((with_reducible refine A0j (f:=119) rfl ?_);refine A1l (some 17) rfl rfl Tryz.func119 Zk rfl #[.slice A0_0 l0_0.length c0_0,.string a1] rfl ml ?_;(with_reducible refine(A0d.calls kj2 _ _ l0_0 a1 t776 _ ?side1 ?side2 A12.o).mono ?_);(case side1=>exact mc HR0_0.o);(case side2=>exact HC0_0.o);rintro e w24 ⟨rfl,hb⟩;refine⟨_,rfl,?_⟩;have n0_:=B98 (zK (mz BK774.o) hb);have n1_:=B98 (zN mq hb);clear BK774;clear HB;have BK774:=n0_;have HB:=n1_;clear n0_ n1_;(try clear hb);(try clear hb2);(try clear hk);(try clear hi);obtain⟨hcz25_0,hcz25_1,hcz25_2,hfz25_0,hfz25_1,hfz25_2⟩:=zb3 BK774.o)|((with_reducible refine A0j (f:=119) rfl ?_);refine A1l (some 29) rfl rfl Tryz.func119 Zk rfl #[.slice A0_1 l0_1.length c0_1,.string a1] rfl ml ?_;(with_reducible refine(A0d.calls kj2 _ _ l0_1 a1 t778 _ ?side1 ?side2 A19.o).mono ?_);(case side1=>exact mc HR0_1.o);(case side2=>exact HC0_1.o);rintro e w26 ⟨rfl,hb⟩;refine⟨_,rfl,?_⟩;have n0_:=B98 (zK (mz BK774.o) hb);have n1_:=B98 (zN mq hb);clear BK774;clear HB;have BK774:=n0_;have HB:=n1_;clear n0_ n1_;(try clear hb);(try clear hb2);(try clear hk);(try clear hi);obtain⟨hcz27_0,hcz27_1,hcz27_2,hfz27_0,hfz27_1,hfz27_2⟩:=zb3 BK774.o;have p779:0≤(t778:Int):=mo;have q779:t778 < (l0_1.length:Int):=mo;obtain⟨ad779,e779,hx779_0,hx779_1⟩:=A1t (Kd.C_below HR0_1.o HB.o) t778 p779 q779;cases e779;replace p779:=eq_true p779;replace q779:=eq_true q779))
        go_ret2
        exact⟨mr,mq⟩
       ·rw[if_neg c22] at H
        exact absurd H Zs
      ·rw[if_neg c21] at H
       exact absurd H Zs
     ·rw[if_neg c20] at H
      have c20b0:decide (0≤t778)=false:=C0a c20;clear c20;simp only [Option.some.injEq,Prod.mk.injEq] at H;obtain⟨rfl,rfl⟩:=H;obtain⟨hcz28_0,hcz28_1,hcz28_2,hfz28_0,hfz28_1,hfz28_2⟩:=zb3 BK774.o;go_wp2_with (first|((with_reducible refine A0j (f:=119) rfl ?_);refine A1l (some 17) rfl rfl Tryz.func119 Zk rfl #[.slice A0_0 l0_0.length c0_0,.string a1] rfl ml ?_;(with_reducible refine(A0d.calls kj2 _ _ l0_0 a1 t776 _ ?side1 ?side2 A12.o).mono ?_);(case side1=>exact mc HR0_0.o);(case side2=>exact HC0_0.o);rintro e w29 ⟨rfl,hb⟩;refine⟨_,rfl,?_⟩;have n0_:=B98 (zK (mz BK774.o) hb);have n1_:=B98 (zN mq hb);clear BK774;clear HB;have BK774:=n0_;have HB:=n1_;clear n0_ n1_;(try clear hb);(try clear hb2);(try clear hk);(try clear hi);obtain⟨hcz30_0,hcz30_1,hcz30_2,hfz30_0,hfz30_1,hfz30_2⟩:=zb3 BK774.o)|((with_reducible refine A0j (f:=119) rfl ?_);refine A1l (some 29) rfl rfl Tryz.func119 Zk rfl #[.slice A0_1 l0_1.length c0_1,.string a1] rfl ml ?_;(with_reducible refine(A0d.calls kj2 _ _ l0_1 a1 t778 _ ?side1 ?side2 A19.o).mono ?_);(case side1=>exact mc HR0_1.o);(case side2=>exact HC0_1.o);rintro e w31 ⟨rfl,hb⟩;refine⟨_,rfl,?_⟩;have n0_:=B98 (zK (mz BK774.o) hb);have n1_:=B98 (zN mq hb);clear BK774;clear HB;have BK774:=n0_;have HB:=n1_;clear n0_ n1_;(try clear hb);(try clear hb2);(try clear hk);(try clear hi)))
      go_ret2
      exact⟨mr,mq⟩
def A06.j0:Nat→Int→Bool→List (S94)→Int→Option (Int)
|0,_,_,_,_=>none
|k+1,x1,x20,x781000,x781001=>if x20=true then (some (-1)) else (if 0≤(Int.tmod x1 24) then (if (Int.tmod x1 24) < (x781000.length:Int) then (if ((A0p x781000 (Int.tmod x1 24)).f1=true) then (if ((A0p x781000 (Int.tmod x1 24)).f0)=(wrap64 (Int.tdiv x1 24)) then (some (Int.tmod x1 24)) else (some (-1))) else (some (-1))) else (none)) else (none))
def A06.f (k:Nat) (l0_0:List (S94)) (a0_1:Int) (a1:Int):Option (Int):=(A0f.f k l0_0 a0_1).bind fun t781=>(if t781=true then (if a1 < 0 then (A06.j0 k a1 true l0_0 a0_1) else (A06.j0 k a1 (decide ((Int.tmod a1 24) ≥ (l0_0.length:Int))) l0_0 a0_1)) else (A06.j0 k a1 true l0_0 a0_1))
theorem A06.calls (k:Nat) (A0_0:Option Addr) (c0_0:Nat) (l0_0:List (S94)) (a0_1:Int) (a1:Int) (r:Int) (w:World) (hr0_0:Kd.C k94 w A0_0 l0_0.length l0_0) (hc0_0:l0_0.length≤c0_0) (h:A06.f k l0_0 a0_1 a1=some r) :
  Calls Tryz.prog 120 #[.agg #[.slice A0_0 l0_0.length c0_0,.int .i64 a0_1],.int .i64 a1] w fun e w'=>e=.returned (.int .i64 r)∧Below w.heap.size w w':=by
 have hu42:=Tryz.underlying42;have HR0_0:=B98 hr0_0;have HC0_0:=B98 hc0_0;clear hr0_0 hc0_0;have HB:=B98 (Below.refl w.heap.size w);unfold A06.f at h;have H:=h;clear h;have HC3:=B98 H;clear H;go_enter Tryz.func120,Tryz.ntmps120;go_upto_region 1 with (first|((with_reducible refine A0b (N:=2) rfl ?_);(try(refine A34 (by rfl) ?_;dsimp only));refine yE (N:=2) (cs:=#[.slice A0_0 l0_0.length c0_0,.int .i64 a0_1]) (t:=42) fun gb780 hg w4 hbox hb=>?_;obtain⟨n0_,n2_⟩:=yX (w:=w) hg hb mq;have n1_:=B98 (hbox);have n3_:=n2_;clear HB;have HB:=n0_;have BK780:=n1_;have GW780:=n2_;have GE780:=n3_;clear n0_ n1_ n2_ n3_;clear hb hbox hg))
 (try simp only [Act.put,List.setIfInBounds_toArray,List.set_cons_zero,List.set_cons_succ])
 go_cut [20] (fun v20 wc=>∃ (kq:Nat) (x20_2:Bool),v20=.bool x20_2∧A0a (A06.j0 kq a1 x20_2 l0_0 a0_1=some r)∧A0a (kq≤k)∧A0a (wc.heap[gb780]? = some (.cells #[(.slice A0_0 l0_0.length c0_0),.int .i64 a0_1] 42 (0,0)))∧A0a (Below w.heap.size w wc))
 case first =>
  have H:=HC3.o;clear HC3;replace H:=C0f.mp H;obtain⟨t781,A50,H⟩:=H;(try dsimp only at H)
  have A5:=B98 A50;clear A50;obtain⟨hcz8_0,hcz8_1,hfz8_0,hfz8_1⟩:=zb2 BK780.o;go_wp2_with (first|((with_reducible refine A0j (f:=113) rfl ?_);refine A1l (some 7) rfl rfl Tryz.func113 Zk rfl #[.agg #[.slice A0_0 l0_0.length c0_0,.int .i64 a0_1]] rfl ml ?_;(with_reducible refine(A0f.calls k _ _ l0_0 a0_1 t781 _ ?side1 ?side2 A5.o).mono ?_);(case side1=>exact mc HR0_0.o);(case side2=>exact HC0_0.o);rintro e w9 ⟨rfl,hb⟩;refine⟨_,rfl,?_⟩;have n0_:=B98 (zK (mz BK780.o) hb);have n1_:=B98 (zN mq hb);clear BK780;clear HB;have BK780:=n0_;have HB:=n1_;clear n0_ n1_;(try clear hb);(try clear hb2);(try clear hk);(try clear hi);obtain⟨hcz12_0,hcz12_1,hfz12_0,hfz12_1⟩:=zb2 BK780.o;(refine Classical.byCases (p:=(t781=true)) (fun c6=>?zp76) (fun c6=>?zn76);(case' zn76=>(replace c6:=Bool.eq_false_iff.mpr c6);(subst c6);(have H1:(A06.j0 k a1 true l0_0 a0_1)=some r:=by rw[if_neg (show ¬ (false=true) by decide)] at H;exact H);(clear H);(have H:=H1);(clear H1);(have H':=B98 H);(clear H);(obtain⟨hcz13_0,hcz13_1,hfz13_0,hfz13_1⟩:=zb2 BK780.o));(case' zp76=>(subst c6);(have H1:(if a1 < 0 then (A06.j0 k a1 true l0_0 a0_1) else (A06.j0 k a1 (decide ((Int.tmod a1 24) ≥ (l0_0.length:Int))) l0_0 a0_1))=some r:=by rw[if_pos rfl] at H;exact H);(clear H);(have H:=H1);(clear H1);(refine Classical.byCases (p:=(a1 < 0)) (fun c7=>?zp75) (fun c7=>?zn75);(case' zn75=>(rw[if_neg c7] at H);(have c7b0:decide (a1 < 0)=false:=C0a c7);(clear c7);((first|rw[c7b0]|(simp only [A1y,A15];rw[c7b0])|skip));(have H':=B98 H);(clear H);(obtain⟨hcz10_0,hcz10_1,hfz10_0,hfz10_1⟩:=zb2 BK780.o));(case' zp75=>(rw[if_pos c7] at H);(have c7b0:decide (a1 < 0)=true:=B99 c7);(clear c7);((first|rw[c7b0]|(simp only [A1y,A15];rw[c7b0])|skip));(have H':=B98 H);(clear H);(obtain⟨hcz8_0,hcz8_1,hfz8_0,hfz8_1⟩:=zb2 BK780.o)))))))
  ·go_meet
   case rel=>exact⟨_,(true),mt,H',⟨by first|omega|exact Nat.le_refl _⟩,⟨mz BK780.o⟩,⟨mq⟩⟩
  ·go_meet
   case rel=>exact⟨_,(decide ((Int.tmod a1 24) ≥ (l0_0.length:Int))),mt,H',⟨by first|omega|exact Nat.le_refl _⟩,⟨mz BK780.o⟩,⟨mq⟩⟩
  ·go_meet
   case rel=>exact⟨_,(true),mt,H',⟨by first|omega|exact Nat.le_refl _⟩,⟨mz BK780.o⟩,⟨mq⟩⟩
 case rest =>
  clear HC3;obtain⟨kq,x20_2,rfl,HA,HJ2,BK780,HB⟩:=hcut;cases kq with
 |zero=>exact absurd HA.o (by simp[A06.j0])
 |succ kj2 =>
   have H:=HA.o;clear HA;simp only [A06.j0] at H;by_cases c15:x20_2=true
   ·subst c15
    rw[if_pos rfl] at H;obtain rfl:=C0d H;go_wp2
    go_ret;exact⟨mr,mq⟩
   ·replace c15:=Bool.eq_false_iff.mpr c15
    subst c15;rw[if_neg (show ¬ (false=true) by decide)] at H;obtain⟨ji16,hji16⟩:∃ j_:Int,(Int.tmod a1 24)=j_:=⟨_,rfl⟩;replace H:(if 0≤(ji16) then (if (ji16) < (l0_0.length:Int) then (if ((A0p l0_0 (ji16)).f1=true) then (if ((A0p l0_0 (ji16)).f0)=(wrap64 (Int.tdiv a1 24)) then (some ji16) else (some (-1))) else (some (-1))) else (none)) else (none))=some r:=by first|(rw[hji16] at H;exact H)|(simp only [hji16] at H ⊢;exact H)
    by_cases c17:0≤(ji16)
    ·rw[if_pos c17] at H
     have c17b0:decide (0≤(ji16))=true:=B99 c17;clear c17;by_cases c18:(ji16) < (l0_0.length:Int)
     ·rw[if_pos c18] at H
      have c18b0:decide ((ji16) < (l0_0.length:Int))=true:=B99 c18;clear c18;obtain⟨bq19,hbq19⟩:∃ b_:Bool,b_=((A0p l0_0 (ji16)).f1):=⟨_,rfl⟩;rw[← hbq19] at H;have Nbq19:=B98 hbq19;clear hbq19;by_cases c20:(bq19=true)
      ·subst c20
       rw[if_pos rfl] at H;by_cases c21:((A0p l0_0 (ji16)).f0)=(wrap64 (Int.tdiv a1 24))
       ·rw[if_pos c21] at H
        have c21b0:(((A0p l0_0 (ji16)).f0) == (wrap64 (Int.tdiv a1 24)))=true:=beq_iff_eq.mpr c21;have c21b1:(((A0p l0_0 (ji16)).f0) != (wrap64 (Int.tdiv a1 24)))=false:=bne_eq_false_iff_eq.mpr c21;clear c21;obtain rfl:=C0d H;obtain⟨hcz22_0,hcz22_1,hfz22_0,hfz22_1⟩:=zb2 BK780.o;have p782:0≤((ji16):Int):=mo;have q782:(ji16) < (l0_0.length:Int):=mo;obtain⟨ad782,e782,hx782_0,hx782_1,hx782_2,hx782_3,hx782_4⟩:=A2d HR0_0.o (ji16) p782 q782
        (try rw[← Nbq19.o] at hx782_1)
        cases e782;replace hx782_0:=zc12 HB.o hx782_0;replace hx782_1:=zc12 HB.o hx782_1;replace hx782_2:=zc12 HB.o hx782_2;replace hx782_3:=zc12 HB.o hx782_3;replace hx782_4:=zc12 HB.o hx782_4;replace p782:=eq_true p782;replace q782:=eq_true q782;have p783:0≤((ji16):Int):=mo
        have q783:(ji16) < (l0_0.length:Int):=mo;obtain⟨ad783,e783,hx783_0,hx783_1,hx783_2,hx783_3,hx783_4⟩:=A2d HR0_0.o (ji16) p783 q783
        (try rw[← Nbq19.o] at hx783_1)
        obtain rfl:ad782=ad783:=(by injection e783);replace hx783_0:=zc12 HB.o hx783_0;replace hx783_1:=zc12 HB.o hx783_1;replace hx783_2:=zc12 HB.o hx783_2;replace hx783_3:=zc12 HB.o hx783_3;replace hx783_4:=zc12 HB.o hx783_4;replace p783:=eq_true p783;replace q783:=eq_true q783;go_wp2
        go_ret;exact⟨by first|rfl|(simp[] <;> rfl)|(simp only [← hji16];first|rfl|(simp[] <;> rfl))|(simp[*] <;> rfl),mq⟩
       ·rw[if_neg c21] at H
        have c21b0:(((A0p l0_0 (ji16)).f0) == (wrap64 (Int.tdiv a1 24)))=false:=C0g.mpr c21;have c21b1:(((A0p l0_0 (ji16)).f0) != (wrap64 (Int.tdiv a1 24)))=true:=bne_iff_ne.mpr c21;obtain rfl:=C0d H;obtain⟨hcz23_0,hcz23_1,hfz23_0,hfz23_1⟩:=zb2 BK780.o;have p782:0≤((ji16):Int):=mo;have q782:(ji16) < (l0_0.length:Int):=mo;obtain⟨ad782,e782,hx782_0,hx782_1,hx782_2,hx782_3,hx782_4⟩:=A2d HR0_0.o (ji16) p782 q782
        (try rw[← Nbq19.o] at hx782_1)
        cases e782;replace hx782_0:=zc12 HB.o hx782_0;replace hx782_1:=zc12 HB.o hx782_1;replace hx782_2:=zc12 HB.o hx782_2;replace hx782_3:=zc12 HB.o hx782_3;replace hx782_4:=zc12 HB.o hx782_4;replace p782:=eq_true p782;replace q782:=eq_true q782;have p783:0≤((ji16):Int):=mo
        have q783:(ji16) < (l0_0.length:Int):=mo;obtain⟨ad783,e783,hx783_0,hx783_1,hx783_2,hx783_3,hx783_4⟩:=A2d HR0_0.o (ji16) p783 q783
        (try rw[← Nbq19.o] at hx783_1)
        obtain rfl:ad782=ad783:=(by injection e783);replace hx783_0:=zc12 HB.o hx783_0;replace hx783_1:=zc12 HB.o hx783_1;replace hx783_2:=zc12 HB.o hx783_2;replace hx783_3:=zc12 HB.o hx783_3;replace hx783_4:=zc12 HB.o hx783_4;replace p783:=eq_true p783;replace q783:=eq_true q783;go_wp2
        go_ret;exact⟨by first|rfl|(simp[] <;> rfl)|(simp only [← hji16];first|rfl|(simp[] <;> rfl))|(simp[*] <;> rfl),mq⟩
      ·replace c20:=Bool.eq_false_iff.mpr c20
       subst c20;rw[if_neg (show ¬ (false=true) by decide)] at H;obtain rfl:=C0d H;obtain⟨hcz24_0,hcz24_1,hfz24_0,hfz24_1⟩:=zb2 BK780.o;have p782:0≤((ji16):Int):=mo;have q782:(ji16) < (l0_0.length:Int):=mo;obtain⟨ad782,e782,hx782_0,hx782_1,hx782_2,hx782_3,hx782_4⟩:=A2d HR0_0.o (ji16) p782 q782
       (try rw[← Nbq19.o] at hx782_1)
       cases e782;replace hx782_0:=zc12 HB.o hx782_0;replace hx782_1:=zc12 HB.o hx782_1;replace hx782_2:=zc12 HB.o hx782_2;replace hx782_3:=zc12 HB.o hx782_3;replace hx782_4:=zc12 HB.o hx782_4;replace p782:=eq_true p782;replace q782:=eq_true q782;go_wp2
       go_ret;exact⟨by first|rfl|(simp[] <;> rfl)|(simp only [← hji16];first|rfl|(simp[] <;> rfl))|(simp[*] <;> rfl),mq⟩
     ·rw[if_neg c18] at H
      exact absurd H Zs
    ·rw[if_neg c17] at H
     exact absurd H Zs
def A4h.f (k:Nat) (l0_0:List (S94)) (a0_1:Int) (a1:Int):Option (ByteArray × ByteArray × Bool):=(A06.f k l0_0 a0_1 a1).bind fun t785=>(if t785 < 0 then (some ((⟨#[]⟩:ByteArray),(⟨#[]⟩:ByteArray),false)) else (if 0≤t785 then (if t785 < (l0_0.length:Int) then (some ((A0p l0_0 t785).f2,(A0p l0_0 t785).f3,true)) else (none)) else (none)))
theorem A4h.calls (k:Nat) (A0_0:Option Addr) (c0_0:Nat) (l0_0:List (S94)) (a0_1:Int) (a1:Int) (r1:ByteArray) (r2:ByteArray) (r3:Bool) (w:World) (hr0_0:Kd.C k94 w A0_0 l0_0.length l0_0) (hc0_0:l0_0.length≤c0_0) (h:A4h.f k l0_0 a0_1 a1=some (r1,r2,r3)) :
  Calls Tryz.prog 45 #[.agg #[.slice A0_0 l0_0.length c0_0,.int .i64 a0_1],.int .i64 a1] w fun e w'=>e=.returned (.tuple #[.string r1,.string r2,.bool r3])∧Below w.heap.size w w':=by
 have hu42:=Tryz.underlying42;have HR0_0:=B98 hr0_0;have HC0_0:=B98 hc0_0;clear hr0_0 hc0_0;have HB:=B98 (Below.refl w.heap.size w);unfold A4h.f at h;have H:=h;clear h;replace H:=C0f.mp H;obtain⟨t785,A30,H⟩:=H;(try dsimp only at H)
 have A3:=B98 A30;clear A30;by_cases c4:t785 < 0
 ·rw[if_pos c4] at H
  have c4b0:decide (t785 < 0)=true:=B99 c4;clear c4;simp only [Option.some.injEq,Prod.mk.injEq] at H;obtain⟨rfl,rfl,rfl⟩:=H;go_enter Tryz.func45,Tryz.ntmps45;go_wp2_with (first|((with_reducible refine A0b (N:=2) rfl ?_);refine yE (N:=2) (cs:=#[.slice A0_0 l0_0.length c0_0,.int .i64 a0_1]) (t:=42) fun gb784 hg w5 hbox hb=>?_;obtain⟨n0_,n2_⟩:=yX (w:=w) hg hb mq;have n1_:=B98 (hbox);have n3_:=n2_;clear HB;have HB:=n0_;have BK784:=n1_;have GW784:=n2_;have GE784:=n3_;clear n0_ n1_ n2_ n3_;clear hb hbox hg;obtain⟨hcz6_0,hcz6_1,hfz6_0,hfz6_1⟩:=zb2 BK784.o)|(go_at_call 120;(with_reducible refine(A06.calls k _ _ l0_0 a0_1 a1 t785 _ ?side1 ?side2 A3.o).mono ?_);(case side1=>exact mc HR0_0.o);(case side2=>exact HC0_0.o);rintro e w7 ⟨rfl,hb⟩;have n0_:=B98 (zK (mz BK784.o) hb);have n1_:=B98 (zN mq hb);clear BK784;clear HB;have BK784:=n0_;have HB:=n1_;clear n0_ n1_;(try clear hb);(try clear hb2);(try clear hk);(try clear hi)))
  repeat(go_quiet (first|(go_at_call 120;(with_reducible refine(A06.calls k _ _ l0_0 a0_1 a1 t785 _ ?side1 ?side2 A3.o).mono ?_);(case side1=>exact mc HR0_0.o);(case side2=>exact HC0_0.o);rintro e w7 ⟨rfl,hb⟩;have n0_:=B98 (zK (mz BK784.o) hb);have n1_:=B98 (zN mq hb);clear BK784;clear HB;have BK784:=n0_;have HB:=n1_;clear n0_ n1_;(try clear hb);(try clear hb2);(try clear hk);(try clear hi)));try go_wp2_with (first|(go_at_call 120;(with_reducible refine(A06.calls k _ _ l0_0 a0_1 a1 t785 _ ?side1 ?side2 A3.o).mono ?_);(case side1=>exact mc HR0_0.o);(case side2=>exact HC0_0.o);rintro e w7 ⟨rfl,hb⟩;have n0_:=B98 (zK (mz BK784.o) hb);have n1_:=B98 (zN mq hb);clear BK784;clear HB;have BK784:=n0_;have HB:=n1_;clear n0_ n1_;(try clear hb);(try clear hb2);(try clear hk);(try clear hi))))
  go_ret3
  exact⟨mr,mq⟩
 ·rw[if_neg c4] at H
  have c4b0:decide (t785 < 0)=false:=C0a c4;clear c4;by_cases c8:0≤t785
  ·rw[if_pos c8] at H
   have c8b0:decide (0≤t785)=true:=B99 c8;clear c8;by_cases c9:t785 < (l0_0.length:Int)
   ·rw[if_pos c9] at H
    have c9b0:decide (t785 < (l0_0.length:Int))=true:=B99 c9;clear c9;simp only [Option.some.injEq,Prod.mk.injEq] at H;obtain⟨rfl,rfl,rfl⟩:=H;go_enter Tryz.func45,Tryz.ntmps45;go_wp2_with (first|((with_reducible refine A0b (N:=2) rfl ?_);refine yE (N:=2) (cs:=#[.slice A0_0 l0_0.length c0_0,.int .i64 a0_1]) (t:=42) fun gb784 hg w10 hbox hb=>?_;obtain⟨n0_,n2_⟩:=yX (w:=w) hg hb mq;have n1_:=B98 (hbox);have n3_:=n2_;clear HB;have HB:=n0_;have BK784:=n1_;have GW784:=n2_;have GE784:=n3_;clear n0_ n1_ n2_ n3_;clear hb hbox hg;obtain⟨hcz11_0,hcz11_1,hfz11_0,hfz11_1⟩:=zb2 BK784.o)|(go_at_call 120;(with_reducible refine(A06.calls k _ _ l0_0 a0_1 a1 t785 _ ?side1 ?side2 A3.o).mono ?_);(case side1=>exact mc HR0_0.o);(case side2=>exact HC0_0.o);rintro e w12 ⟨rfl,hb⟩;have n0_:=B98 (zK (mz BK784.o) hb);have n1_:=B98 (zN mq hb);clear BK784;clear HB;have BK784:=n0_;have HB:=n1_;clear n0_ n1_;(try clear hb);(try clear hb2);(try clear hk);(try clear hi);obtain⟨hcz13_0,hcz13_1,hfz13_0,hfz13_1⟩:=zb2 BK784.o;have p786:0≤(t785:Int):=mo;have q786:t785 < (l0_0.length:Int):=mo;obtain⟨ad786,e786,hx786_0,hx786_1,hx786_2,hx786_3,hx786_4⟩:=A2d (Kd.C_below HR0_0.o HB.o) t785 p786 q786;cases e786;replace p786:=eq_true p786;replace q786:=eq_true q786;have p787:0≤(t785:Int):=mo;have q787:t785 < (l0_0.length:Int):=mo;obtain⟨ad787,e787,hx787_0,hx787_1,hx787_2,hx787_3,hx787_4⟩:=A2d HR0_0.o t785 p787 q787;obtain rfl:ad786=ad787:=(by injection e787);replace hx787_0:=zc12 HB.o hx787_0;replace hx787_1:=zc12 HB.o hx787_1;replace hx787_2:=zc12 HB.o hx787_2;replace hx787_3:=zc12 HB.o hx787_3;replace hx787_4:=zc12 HB.o hx787_4;replace p787:=eq_true p787;replace q787:=eq_true q787))
    repeat(go_quiet (first|(go_at_call 120;(with_reducible refine(A06.calls k _ _ l0_0 a0_1 a1 t785 _ ?side1 ?side2 A3.o).mono ?_);(case side1=>exact mc HR0_0.o);(case side2=>exact HC0_0.o);rintro e w12 ⟨rfl,hb⟩;have n0_:=B98 (zK (mz BK784.o) hb);have n1_:=B98 (zN mq hb);clear BK784;clear HB;have BK784:=n0_;have HB:=n1_;clear n0_ n1_;(try clear hb);(try clear hb2);(try clear hk);(try clear hi);obtain⟨hcz13_0,hcz13_1,hfz13_0,hfz13_1⟩:=zb2 BK784.o;have p786:0≤(t785:Int):=mo;have q786:t785 < (l0_0.length:Int):=mo;obtain⟨ad786,e786,hx786_0,hx786_1,hx786_2,hx786_3,hx786_4⟩:=A2d (Kd.C_below HR0_0.o HB.o) t785 p786 q786;cases e786;replace p786:=eq_true p786;replace q786:=eq_true q786;have p787:0≤(t785:Int):=mo;have q787:t785 < (l0_0.length:Int):=mo;obtain⟨ad787,e787,hx787_0,hx787_1,hx787_2,hx787_3,hx787_4⟩:=A2d HR0_0.o t785 p787 q787;obtain rfl:ad786=ad787:=(by injection e787);replace hx787_0:=zc12 HB.o hx787_0;replace hx787_1:=zc12 HB.o hx787_1;replace hx787_2:=zc12 HB.o hx787_2;replace hx787_3:=zc12 HB.o hx787_3;replace hx787_4:=zc12 HB.o hx787_4;replace p787:=eq_true p787;replace q787:=eq_true q787));try go_wp2_with (first|(go_at_call 120;(with_reducible refine(A06.calls k _ _ l0_0 a0_1 a1 t785 _ ?side1 ?side2 A3.o).mono ?_);(case side1=>exact mc HR0_0.o);(case side2=>exact HC0_0.o);rintro e w12 ⟨rfl,hb⟩;have n0_:=B98 (zK (mz BK784.o) hb);have n1_:=B98 (zN mq hb);clear BK784;clear HB;have BK784:=n0_;have HB:=n1_;clear n0_ n1_;(try clear hb);(try clear hb2);(try clear hk);(try clear hi);obtain⟨hcz13_0,hcz13_1,hfz13_0,hfz13_1⟩:=zb2 BK784.o;have p786:0≤(t785:Int):=mo;have q786:t785 < (l0_0.length:Int):=mo;obtain⟨ad786,e786,hx786_0,hx786_1,hx786_2,hx786_3,hx786_4⟩:=A2d (Kd.C_below HR0_0.o HB.o) t785 p786 q786;cases e786;replace p786:=eq_true p786;replace q786:=eq_true q786;have p787:0≤(t785:Int):=mo;have q787:t785 < (l0_0.length:Int):=mo;obtain⟨ad787,e787,hx787_0,hx787_1,hx787_2,hx787_3,hx787_4⟩:=A2d HR0_0.o t785 p787 q787;obtain rfl:ad786=ad787:=(by injection e787);replace hx787_0:=zc12 HB.o hx787_0;replace hx787_1:=zc12 HB.o hx787_1;replace hx787_2:=zc12 HB.o hx787_2;replace hx787_3:=zc12 HB.o hx787_3;replace hx787_4:=zc12 HB.o hx787_4;replace p787:=eq_true p787;replace q787:=eq_true q787)))
    go_ret3
    exact⟨mr,mq⟩
   ·rw[if_neg c9] at H
    exact absurd H Zs
  ·rw[if_neg c8] at H
   exact absurd H Zs
theorem zc13 {w w1:World} {a:Addr} {v:Value} (hb:Below w.heap.size w w1) (h:w.cell? a=some v):w1.cell? a=some v:=(hb.cell (World.block_lt_of_cell? w _ h)).trans h
def A2b.f (k:Nat) (a0:ByteArray):Option (Int):=(A0w.f k a0 7).bind fun t574=>((A0w.f k a0 8).bind fun t575=>(if 0≤(IntKind.u64.wrap (Int.tmod t574 32)) then (if 0≤(IntKind.u64.wrap (Int.tmod t575 32)) then (some (Go.bits .or .i64 (shl .i64 1 (IntKind.u64.wrap (Int.tmod t574 32))) (shl .i64 1 (IntKind.u64.wrap (Int.tmod t575 32))))) else (none)) else (none)))
theorem A2b.calls (k:Nat) (a0:ByteArray) (r:Int) (w:World) (h:A2b.f k a0=some r) :
  Calls Tryz.prog 214 #[.string a0] w fun e w'=>e=.returned (.int .i64 r)∧Below w.heap.size w w':=by
 have HB:=B98 (Below.refl w.heap.size w);have H:((A0w.f k a0 7).bind fun t574=>((A0w.f k a0 8).bind fun t575=>(if 0≤(IntKind.u64.wrap (Int.tmod t574 32)) then (if 0≤(IntKind.u64.wrap (Int.tmod t575 32)) then (some (Go.bits .or .i64 (shl .i64 1 (IntKind.u64.wrap (Int.tmod t574 32))) (shl .i64 1 (IntKind.u64.wrap (Int.tmod t575 32))))) else (none)) else (none))))=some r:=h;clear h;replace H:=C0f.mp H;obtain⟨t574,A20,H⟩:=H;replace H:((A0w.f k a0 8).bind fun t575=>(if 0≤(IntKind.u64.wrap (Int.tmod t574 32)) then (if 0≤(IntKind.u64.wrap (Int.tmod t575 32)) then (some (Go.bits .or .i64 (shl .i64 1 (IntKind.u64.wrap (Int.tmod t574 32))) (shl .i64 1 (IntKind.u64.wrap (Int.tmod t575 32))))) else (none)) else (none)))=some r:=H;have A2:=B98 A20;clear A20;replace H:=C0f.mp H;obtain⟨t575,A30,H⟩:=H;replace H:(if 0≤(IntKind.u64.wrap (Int.tmod t574 32)) then (if 0≤(IntKind.u64.wrap (Int.tmod t575 32)) then (some (Go.bits .or .i64 (shl .i64 1 (IntKind.u64.wrap (Int.tmod t574 32))) (shl .i64 1 (IntKind.u64.wrap (Int.tmod t575 32))))) else (none)) else (none))=some r:=H;have A3:=B98 A30;clear A30;obtain⟨ji4,hji4⟩:∃ j_:Int,(IntKind.u64.wrap (Int.tmod t574 32))=j_:=⟨_,rfl⟩;replace H:(if 0≤(ji4) then (if 0≤(IntKind.u64.wrap (Int.tmod t575 32)) then (some (Go.bits .or .i64 (shl .i64 1 (ji4)) (shl .i64 1 (IntKind.u64.wrap (Int.tmod t575 32))))) else (none)) else (none))=some r:=by first|(rw[hji4] at H;exact H)|(simp only [hji4] at H ⊢;exact H)
 (try rw[hji4] at A2)
 (try rw[hji4] at A3)
 go_enter Tryz.func214,Tryz.ntmps214;go_wp2_with (first|((with_reducible refine A0j (f:=206) rfl ?_);refine A1l (some 6) rfl rfl Tryz.func206 Zk rfl #[.string a0,.int .i64 7] rfl ml ?_;(with_reducible refine(A0w.calls k a0 7 t574 _ A2.o).mono ?_);rintro e w10 ⟨rfl,hb⟩;refine⟨_,rfl,?_⟩;have n0_:=B98 (zN mq hb);clear HB;have HB:=n0_;clear n0_;(try clear hb);(try clear hb2);(try clear hk);(try clear hi))|((with_reducible refine A0j (f:=206) rfl ?_);refine A1l (some 9) rfl rfl Tryz.func206 Zk rfl #[.string a0,.int .i64 8] rfl ml ?_;(with_reducible refine(A0w.calls k a0 8 t575 _ A3.o).mono ?_);rintro e w11 ⟨rfl,hb⟩;refine⟨_,rfl,?_⟩;have n0_:=B98 (zN mq hb);clear HB;have HB:=n0_;clear n0_;(try clear hb);(try clear hb2);(try clear hk);(try clear hi);(refine Classical.byCases (p:=(0≤(ji4))) (fun c5=>?zp64) (fun c5=>?zn64);(case' zn64=>(rw[if_neg c5] at H);(exact absurd H Zs));(case' zp64=>(rw[if_pos c5] at H);(have c5b0:=eq_true c5);(have c5b1:decide (0≤(ji4))=true:=B99 c5);(clear c5);(obtain⟨ji6,hji6⟩:∃ j_:Int,(shl .i64 1 (ji4))=j_:=⟨_,rfl⟩);(replace H:(if 0≤(IntKind.u64.wrap (Int.tmod t575 32)) then (some (Go.bits .or .i64 (ji6) (shl .i64 1 (IntKind.u64.wrap (Int.tmod t575 32))))) else (none))=some r:=by first|(rw[hji6] at H;exact H)|(simp only [hji6] at H ⊢;exact H));((try rw[hji6] at A2));((try rw[hji6] at A3));(have hji6_:(IntKind.i64.wrap (1 * 2 ^ min (ji4).toNat 64))=ji6:=hji6);(have hji6z:(ji4)≤64→(IntKind.i64.wrap (1 * 2 ^ (ji4).toNat))=ji6:=B0p hji6);(have hji6u:(IntKind.i64.wrap (2 ^ min (ji4).toNat 64))=ji6:=by have h_:=hji6_;rw[Int.one_mul] at h_;exact h_);(have hji6v:(ji4)≤64→(IntKind.i64.wrap (2 ^ (ji4).toNat))=ji6:=fun hle_=>by have h_:=hji6z hle_;rw[Int.one_mul] at h_;exact h_);(have hji6y:(wrap64 (1 * 2 ^ min (ji4).toNat 64))=ji6:=(A1y _).symm.trans hji6_);(have hji6x:(ji4)≤64→(wrap64 (1 * 2 ^ (ji4).toNat))=ji6:=fun h_=>(A1y _).symm.trans (hji6z h_));(obtain⟨ji7,hji7⟩:∃ j_:Int,(IntKind.u64.wrap (Int.tmod t575 32))=j_:=⟨_,rfl⟩);(replace H:(if 0≤(ji7) then (some (Go.bits .or .i64 (ji6) (shl .i64 1 (ji7)))) else (none))=some r:=by first|(rw[hji7] at H;exact H)|(simp only [hji7] at H ⊢;exact H));((try rw[hji7] at A2));((try rw[hji7] at A3));(refine Classical.byCases (p:=(0≤(ji7))) (fun c8=>?zp63) (fun c8=>?zn63);(case' zn63=>(rw[if_neg c8] at H);(exact absurd H Zs));(case' zp63=>(rw[if_pos c8] at H);(have c8b0:=eq_true c8);(have c8b1:decide (0≤(ji7))=true:=B99 c8);(clear c8);(obtain⟨ji9,hji9⟩:∃ j_:Int,(shl .i64 1 (ji7))=j_:=⟨_,rfl⟩);(replace H:(some (Go.bits .or .i64 (ji6) (ji9)))=some r:=by first|(rw[hji9] at H;exact H)|(simp only [hji9] at H ⊢;exact H));((try rw[hji9] at A2));((try rw[hji9] at A3));(have hji9_:(IntKind.i64.wrap (1 * 2 ^ min (ji7).toNat 64))=ji9:=hji9);(have hji9z:(ji7)≤64→(IntKind.i64.wrap (1 * 2 ^ (ji7).toNat))=ji9:=B0p hji9);(have hji9u:(IntKind.i64.wrap (2 ^ min (ji7).toNat 64))=ji9:=by have h_:=hji9_;rw[Int.one_mul] at h_;exact h_);(have hji9v:(ji7)≤64→(IntKind.i64.wrap (2 ^ (ji7).toNat))=ji9:=fun hle_=>by have h_:=hji9z hle_;rw[Int.one_mul] at h_;exact h_);(have hji9y:(wrap64 (1 * 2 ^ min (ji7).toNat 64))=ji9:=(A1y _).symm.trans hji9_);(have hji9x:(ji7)≤64→(wrap64 (1 * 2 ^ (ji7).toNat))=ji9:=fun h_=>(A1y _).symm.trans (hji9z h_));(obtain rfl:=C0d H)))))))
 ·go_ret
  exact⟨by first|rfl|(simp[] <;> rfl)|(simp only [← hji4,← hji6,← hji7,← hji9];first|rfl|(simp[] <;> rfl))|(simp[*] <;> rfl),mq⟩
def A2z.f (k:Nat) (a0_0:Int) (a1:ByteArray):Option (Bool):=(A2b.f k a1).bind fun t577=>((A1r.f a0_0).bind fun t578=>(if t578=true then (some ((Go.bits .and .i64 a0_0 t577) == t577)) else (some false)))
theorem A2z.calls (k:Nat) (a0_0:Int) (a1:ByteArray) (r:Bool) (w:World) (h:A2z.f k a0_0 a1=some r) :
  Calls Tryz.prog 162 #[.agg #[.int .i64 a0_0],.string a1] w fun e w'=>e=.returned (.bool r)∧Below w.heap.size w w':=by
 have hu48:=Tryz.underlying48;have HB:=B98 (Below.refl w.heap.size w);have H:((A2b.f k a1).bind fun t577=>((A1r.f a0_0).bind fun t578=>(if t578=true then (some ((Go.bits .and .i64 a0_0 t577) == t577)) else (some false))))=some r:=h;clear h;replace H:=C0f.mp H;obtain⟨t577,A30,H⟩:=H;replace H:((A1r.f a0_0).bind fun t578=>(if t578=true then (some ((Go.bits .and .i64 a0_0 t577) == t577)) else (some false)))=some r:=H;have A3:=B98 A30;clear A30;replace H:=C0f.mp H;obtain⟨t578,A40,H⟩:=H;replace H:(if t578=true then (some ((Go.bits .and .i64 a0_0 t577) == t577)) else (some false))=some r:=H;have A4:=B98 A40;clear A40;go_enter Tryz.func162,Tryz.ntmps162;go_wp2_with (first|((with_reducible refine A0b (N:=2) rfl ?_);refine yE (N:=2) (cs:=#[.int .i64 a0_0]) (t:=48) fun gb576 hg w6 hbox hb=>?_;obtain⟨n0_,n2_⟩:=yX (w:=w) hg hb mq;have n1_:=B98 (hbox);have n3_:=n2_;clear HB;have HB:=n0_;have BK576:=n1_;have GW576:=n2_;have GE576:=n3_;clear n0_ n1_ n2_ n3_;clear hb hbox hg)|((with_reducible refine A0j (f:=214) rfl ?_);refine A1l (some 7) rfl rfl Tryz.func214 Zk rfl #[.string a1] rfl ml ?_;(with_reducible refine(A2b.calls k a1 t577 _ A3.o).mono ?_);rintro e w7 ⟨rfl,hb⟩;refine⟨_,rfl,?_⟩;have n0_:=B98 (zK (mz BK576.o) hb);have n1_:=B98 (zN mq hb);clear BK576;clear HB;have BK576:=n0_;have HB:=n1_;clear n0_ n1_;(try clear hb);(try clear hb2);(try clear hk);(try clear hi);have hcz8_0:w7.cell? ⟨gb576,0,none⟩=some (.int .i64 a0_0):=(zO BK576.o 0).trans rfl;have hfz8_0:=zP BK576.o 0)|((with_reducible refine A0j (f:=129) rfl ?_);refine A1l (some 9) rfl rfl Tryz.func129 Zk rfl #[.agg #[.int .i64 a0_0]] rfl ml ?_;(with_reducible refine(A1r.calls a0_0 t578 _ A4.o).mono ?_);rintro e w9 ⟨rfl,hb⟩;refine⟨_,rfl,?_⟩;have n0_:=B98 (zK (mz BK576.o) hb);have n1_:=B98 (zN mq hb);clear BK576;clear HB;have BK576:=n0_;have HB:=n1_;clear n0_ n1_;(try clear hb);(try clear hb2);(try clear hk);(try clear hi);have hcz10_0:w9.cell? ⟨gb576,0,none⟩=some (.int .i64 a0_0):=(zO BK576.o 0).trans rfl;have hfz10_0:=zP BK576.o 0;(refine Classical.byCases (p:=(t578=true)) (fun c5=>?zp65) (fun c5=>?zn65);(case' zn65=>(replace c5:=Bool.eq_false_iff.mpr c5);(subst c5);(have H1:(some false)=some r:=by rw[if_neg (show ¬ (false=true) by decide)] at H;exact H);(clear H);(have H:=H1);(clear H1);(obtain rfl:=C0d H));(case' zp65=>(subst c5);(have H1:(some ((Go.bits .and .i64 a0_0 t577) == t577))=some r:=by rw[if_pos rfl] at H;exact H);(clear H);(have H:=H1);(clear H1);(obtain rfl:=C0d H)))))
 ·go_ret
  exact⟨mr,mq⟩
 ·go_ret
  exact⟨mr,mq⟩
def A3p.f (k:Nat) (a0_0:Int) (a1:ByteArray):Option (Int):=(A1r.f a0_0).bind fun t581=>(if t581=true then ((A2b.f k a1).bind fun t582=>(some (Go.bits .or .i64 a0_0 t582))) else (some a0_0))
theorem A3p.calls (k:Nat) (a0_0:Int) (a1:ByteArray) (r:Int) (w:World) (h:A3p.f k a0_0 a1=some r) :
  Calls Tryz.prog 163 #[.agg #[.int .i64 a0_0],.string a1] w fun e w'=>e=.returned (.agg #[.int .i64 r])∧Below w.heap.size w w':=by
 have hu48:=Tryz.underlying48;have HB:=B98 (Below.refl w.heap.size w);have H:((A1r.f a0_0).bind fun t581=>(if t581=true then ((A2b.f k a1).bind fun t582=>(some (Go.bits .or .i64 a0_0 t582))) else (some a0_0)))=some r:=h;clear h;replace H:=C0f.mp H;obtain⟨t581,A30,H⟩:=H;replace H:(if t581=true then ((A2b.f k a1).bind fun t582=>(some (Go.bits .or .i64 a0_0 t582))) else (some a0_0))=some r:=H;have A3:=B98 A30;clear A30;by_cases c4:t581=true
 ·subst c4
  have H1:((A2b.f k a1).bind fun t582=>(some (Go.bits .or .i64 a0_0 t582)))=some r:=by rw[if_pos rfl] at H;exact H
  clear H;have H:=H1;clear H1;replace H:=C0f.mp H;obtain⟨t582,A50,H⟩:=H;replace H:(some (Go.bits .or .i64 a0_0 t582))=some r:=H;have A5:=B98 A50;clear A50;obtain rfl:=C0d H;go_enter Tryz.func163,Tryz.ntmps163
  try go_wp2_with (first|((with_reducible refine A0b (N:=2) rfl ?_);refine yE (N:=2) (cs:=#[.int .i64 a0_0]) (t:=48) fun gb579 hg w6 hbox hb=>?_;obtain⟨n0_,n2_⟩:=yX (w:=w) hg hb mq;have n1_:=B98 (hbox);have n3_:=n2_;clear HB;have HB:=n0_;have BK579:=n1_;have GW579:=n2_;have GE579:=n3_;clear n0_ n1_ n2_ n3_;clear hb hbox hg)|((with_reducible refine A0b (N:=4) rfl ?_);refine yE (N:=4) (cs:=#[.int .i64 0]) (t:=48) fun gb580 hg w7 hbox hb=>?_;obtain⟨n0_,n5_,n6_⟩:=yY hg hb (mz BK579.o);obtain⟨n1_,n3_⟩:=yX (w:=w) hg hb mq;have n2_:=B98 (hbox);have n4_:=n3_;clear BK579;clear HB;have BK579:=n0_;have HB:=n1_;have BK580:=n2_;have GW580:=n3_;have GE580:=n4_;have NB579_580:=n5_;have NB580_579:=n6_;clear n0_ n1_ n2_ n3_ n4_ n5_ n6_;clear hb hbox hg;have hnb8:=NB579_580.o;have hnc8:=NB580_579.o;have hcz9_0:w7.cell? ⟨gb579,0,none⟩=some (.int .i64 a0_0):=(zO BK579.o 0).trans rfl;have hfz9_0:=zP BK579.o 0)|((with_reducible refine A0j (f:=129) rfl ?_);refine A1l (some 6) rfl rfl Tryz.func129 Zk rfl #[.agg #[.int .i64 a0_0]] rfl ml ?_;(with_reducible refine(A1r.calls a0_0 true _ A3.o).mono ?_);rintro e w10 ⟨rfl,hb⟩;refine⟨_,rfl,?_⟩;have n0_:=B98 (zK (mz BK579.o) hb);have n1_:=B98 (zK (mz BK580.o) hb);have n2_:=B98 (zN mq hb);clear BK579;clear BK580;clear HB;have BK579:=n0_;have BK580:=n1_;have HB:=n2_;clear n0_ n1_ n2_;(try clear hb);(try clear hb2);(try clear hk);(try clear hi)))
  have n0_:=B98 (zC BK579.o);have n1_:=B98 (zC BK580.o);have n2_:=B98 (zH HB.o);clear BK579;clear BK580;clear HB;have BK579:=n0_;have BK580:=n1_;have HB:=n2_;clear n0_ n1_ n2_;refine A5c (n:=7) (S:=fun w'=>w'.cell? ⟨gb579,0,none⟩=some (.int .i64 a0_0)) (ds:=[6]) #[false,false,false,false,false,false,false] Zk rfl rfl ((zO BK579.o 0).trans rfl) (fun hHeld=>?_);generalize w10.drew=w11 at BK579 BK580 HB hHeld ⊢;refine B48 (i:=0) (N:=some 7) (v:=?_) (a':=?_) #[true,false,false,false,false,false,false] rfl rfl Zk (fun _ _ _ h=>h) (Or.inl ⟨by rfl,?_⟩) ?_ ?_;rotate_left
  ·intro w'
   go_simp
   with_reducible rfl
  rotate_left
  ·simp only [Act.put,List.setIfInBounds_toArray,List.set_cons_zero,List.set_cons_succ,A1y,A15]
   rfl
  refine B48 (i:=2) (N:=some 9) (v:=?_) (a':=?_) #[true,false,true,false,false,false,false] rfl rfl Zk (fun _ _ _ h=>h) (Or.inl ⟨by rfl,?_⟩) ?_ ?_;rotate_left
  ·intro w'
   go_simp
   with_reducible rfl
  rotate_left
  ·simp only [Act.put,List.setIfInBounds_toArray,List.set_cons_zero,List.set_cons_succ,A1y,A15]
   rfl
  refine B93 (i:=1) (N:=some 8) (v:=?_) (a':=?_) #[true,true,true,false,false,false,false] rfl rfl Zk (fun _ _ _ h=>h) (Or.inl ⟨by rfl,?_⟩) hHeld ?_ ?_;rotate_left
  ·intro w' s0
   go_simp
   with_reducible rfl
  rotate_left
  ·simp only [Act.put,List.setIfInBounds_toArray,List.set_cons_zero,List.set_cons_succ,A1y,A15]
   rfl
  refine one_ (i:=3) (N:=some 10) #[true,true,true,true,false,false,false] rfl rfl Zk Zd (fun K hK=>?_);refine A5i Tryz.func214 Zk rfl #[.string a1] (by rfl) rfl rfl ml ?_
  with_reducible refine(A2b.calls k a1 t582 _ A5.o).mono ?_
  rintro e w12 ⟨rfl,hb⟩;refine⟨_,rfl,?_⟩;have n0_:=B98 (zK (mz BK579.o) hb);have n1_:=B98 (zK (mz BK580.o) hb);have n2_:=B98 (zN mq hb);clear BK579;clear BK580;clear HB;have BK579:=n0_;have BK580:=n1_;have HB:=n2_;clear n0_ n1_ n2_;(try clear hb)
  (try clear hb2)
  (try clear hk)
  (try clear hi)
  refine hK.out _ _ ((zO BK579.o 0).trans rfl) (fun hHeld=>?_);clear hK K;refine A2y (a':=?_) ?_ ?_;rotate_left
  ·show Act.put _ (some 10) _=_
   simp only [Act.put,List.setIfInBounds_toArray,List.set_cons_zero,List.set_cons_succ,A1y,A15];rfl
  refine B48 (i:=4) (N:=some 11) (v:=?_) (a':=?_) #[true,true,true,true,true,false,false] rfl rfl Zk (fun _ _ _ h=>h) (Or.inl ⟨by rfl,?_⟩) ?_ ?_;rotate_left
  ·intro w'
   go_simp
   with_reducible rfl
  rotate_left
  ·simp only [Act.put,List.setIfInBounds_toArray,List.set_cons_zero,List.set_cons_succ,A1y,A15]
   rfl
  refine B48 (i:=5) (N:=some 12) (v:=?_) (a':=?_) #[true,true,true,true,true,true,false] rfl rfl Zk (fun _ _ _ h=>h) (Or.inl ⟨by rfl,?_⟩) ?_ ?_;rotate_left
  ·intro w'
   go_simp
   with_reducible rfl
  rotate_left
  ·simp only [Act.put,List.setIfInBounds_toArray,List.set_cons_zero,List.set_cons_succ,A1y,A15]
   rfl
  refine B49 (i:=6) (N:=none) #[true,true,true,true,true,true,true] rfl rfl Zk Zd (fun K hK=>?_);have hs13:w12.cell? ⟨gb579,0,none⟩=some (.int .i64 a0_0):=(zO BK579.o 0).trans rfl;have hfs13:=zP BK579.o 0;have hns13_1:=NB580_579.o;have hms13_1:=NB579_580.o;refine A8l (w1:=?_) (by rfl) rfl ?_ ?_;rotate_left
  ·go_simp
   rfl
  refine hK.out _ _ ?_;clear hK K;refine A7d Zk ?_;have hcz14_0:w12.cell? ⟨gb579,0,none⟩=some (.int .i64 a0_0):=(zO BK579.o 0).trans rfl;have hfz14_0:=zP BK579.o 0;have hcz15_0:w12.cell? ⟨gb580,0,none⟩=some (.int .i64 0):=(zO BK580.o 0).trans rfl;have hfz15_0:=zP BK580.o 0
  try go_wp2
  refine bodyPost_ret (results_cell_row rfl _ _ gb580 48 #[.int .i64 (Go.bits .or .i64 a0_0 t582)] (0,0) _ rfl (by(with_reducible repeat(first|apply zA|apply zC|apply zB));refine A1u (cs:=#[.int .i64 0]) ?_ 0 _ rfl;(with_reducible repeat(first|apply zA|apply zC|apply zB));refine zT ?_ NB580_579.o _;(with_reducible repeat(first|apply zA|apply zC|apply zB));exact BK580.o) Tryz.underlying48 rfl Zk) rfl ?_;exact⟨mr,mq⟩
 ·replace c4:=Bool.eq_false_iff.mpr c4
  subst c4;have H1:(some a0_0)=some r:=by rw[if_neg (show ¬ (false=true) by decide)] at H;exact H
  clear H;have H:=H1;clear H1;obtain rfl:=C0d H;go_enter Tryz.func163,Tryz.ntmps163;go_wp2_with (first|((with_reducible refine A0b (N:=2) rfl ?_);refine yE (N:=2) (cs:=#[.int .i64 a0_0]) (t:=48) fun gb579 hg w16 hbox hb=>?_;obtain⟨n0_,n2_⟩:=yX (w:=w) hg hb mq;have n1_:=B98 (hbox);have n3_:=n2_;clear HB;have HB:=n0_;have BK579:=n1_;have GW579:=n2_;have GE579:=n3_;clear n0_ n1_ n2_ n3_;clear hb hbox hg)|((with_reducible refine A0b (N:=4) rfl ?_);refine yE (N:=4) (cs:=#[.int .i64 0]) (t:=48) fun gb580 hg w17 hbox hb=>?_;obtain⟨n0_,n5_,n6_⟩:=yY hg hb (mz BK579.o);obtain⟨n1_,n3_⟩:=yX (w:=w) hg hb mq;have n2_:=B98 (hbox);have n4_:=n3_;clear BK579;clear HB;have BK579:=n0_;have HB:=n1_;have BK580:=n2_;have GW580:=n3_;have GE580:=n4_;have NB579_580:=n5_;have NB580_579:=n6_;clear n0_ n1_ n2_ n3_ n4_ n5_ n6_;clear hb hbox hg;have hnb18:=NB579_580.o;have hnc18:=NB580_579.o;have hcz19_0:w17.cell? ⟨gb579,0,none⟩=some (.int .i64 a0_0):=(zO BK579.o 0).trans rfl;have hfz19_0:=zP BK579.o 0)|((with_reducible refine A0j (f:=129) rfl ?_);refine A1l (some 6) rfl rfl Tryz.func129 Zk rfl #[.agg #[.int .i64 a0_0]] rfl ml ?_;(with_reducible refine(A1r.calls a0_0 false _ A3.o).mono ?_);rintro e w20 ⟨rfl,hb⟩;refine⟨_,rfl,?_⟩;have n0_:=B98 (zK (mz BK579.o) hb);have n1_:=B98 (zK (mz BK580.o) hb);have n2_:=B98 (zN mq hb);clear BK579;clear BK580;clear HB;have BK579:=n0_;have BK580:=n1_;have HB:=n2_;clear n0_ n1_ n2_;(try clear hb);(try clear hb2);(try clear hk);(try clear hi);have hcz21_0:w20.cell? ⟨gb579,0,none⟩=some (.int .i64 a0_0):=(zO BK579.o 0).trans rfl;have hfz21_0:=zP BK579.o 0;have hcz22_0:w20.cell? ⟨gb580,0,none⟩=some (.int .i64 0):=(zO BK580.o 0).trans rfl;have hfz22_0:=zP BK580.o 0));refine bodyPost_ret (results_cell_row rfl _ _ gb580 48 #[.int .i64 a0_0] (0,0) _ rfl (by(with_reducible repeat(first|apply zA|apply zC|apply zB));refine A1u (cs:=#[.int .i64 0]) ?_ 0 _ rfl;(with_reducible repeat(first|apply zA|apply zC|apply zB));exact BK580.o) Tryz.underlying48 rfl Zk) rfl ?_;exact⟨mr,mq⟩
def A23.f (k:Nat) (a0:ByteArray) (a1:Int):Option (Int):=(A0w.f k a0 a1).bind fun t583=>(some (wrap64 ((wrap64 (a1 * 16))+(Int.tmod t583 16))))
theorem A23.calls (k:Nat) (a0:ByteArray) (a1:Int) (r:Int) (w:World) (h:A23.f k a0 a1=some r) :
  Calls Tryz.prog 215 #[.string a0,.int .i64 a1] w fun e w'=>e=.returned (.int .i64 r)∧Below w.heap.size w w':=by
 have HB:=B98 (Below.refl w.heap.size w);have H:((A0w.f k a0 a1).bind fun t583=>(some (wrap64 ((wrap64 (a1 * 16))+(Int.tmod t583 16)))))=some r:=h;clear h;replace H:=C0f.mp H;obtain⟨t583,A30,H⟩:=H;replace H:(some (wrap64 ((wrap64 (a1 * 16))+(Int.tmod t583 16))))=some r:=H;have A3:=B98 A30;clear A30;obtain rfl:=C0d H;go_enter Tryz.func215,Tryz.ntmps215;go_wp2_with (first|((with_reducible refine A0j (f:=206) rfl ?_);refine A1l (some 9) rfl rfl Tryz.func206 Zk rfl #[.string a0,.int .i64 a1] rfl ml ?_;(with_reducible refine(A0w.calls k a0 a1 t583 _ A3.o).mono ?_);rintro e w4 ⟨rfl,hb⟩;refine⟨_,rfl,?_⟩;have n0_:=B98 (zN mq hb);clear HB;have HB:=n0_;clear n0_;(try clear hb);(try clear hb2);(try clear hk);(try clear hi)));go_ret;exact⟨mr,mq⟩
def A2o.f (a0:Int) (a1:Int):Option (Bool):=if a1=0 then (none) else (some ((Int.tmod (wrap64 (Int.tdiv a0 a1)) 2) == 1))
theorem A2o.calls (a0:Int) (a1:Int) (r:Bool) (w:World) (h:A2o.f a0 a1=some r) :
  Calls Tryz.prog 219 #[.int .i64 a0,.int .i64 a1] w fun e w'=>e=.returned (.bool r)∧A2e w w':=by
 have H:(if a1=0 then (none) else (some ((Int.tmod (wrap64 (Int.tdiv a0 a1)) 2) == 1)))=some r:=h;clear h;by_cases c3:a1=0
 ·rw[if_pos c3] at H
  exact absurd H Zs
 ·rw[if_neg c3] at H
  have c3b0:(a1 == 0)=false:=C0g.mpr c3;have c3b1:(a1 != 0)=true:=bne_iff_ne.mpr c3;obtain rfl:=C0d H;go_enter Tryz.func219,Tryz.ntmps219
  go_wp2
  go_ret;exact⟨by first|rfl|(simp;done)|(simp[*];done),md⟩
def A1d.l0:Nat→ByteArray→Int→Int→Int→Option (Int)
|0,_,_,_,_=>none
|k+1,x0,x1,x5,x6=>(A0r.f k x0 x1).bind fun t901=>(if x6 < (Int.tmod t901 32) then (A1d.l0 k x0 x1 (wrap64 (2 * x5)) (wrap64 (x6+1))) else (some x5))
def A1d.f (k:Nat) (a0:ByteArray) (a1:Int):Option (Int):=A1d.l0 k a0 a1 1 0
theorem A1d.calls (k:Nat) (a0:ByteArray) (a1:Int) (r:Int) (w:World) (h:A1d.f k a0 a1=some r) :
  Calls Tryz.prog 220 #[.string a0,.int .i64 a1] w fun e w'=>e=.returned (.int .i64 r)∧A2e w w':=by
 have H:(A1d.l0 k a0 a1 1 0)=some r:=h;clear h;have H':=B98 H;clear H;go_enter Tryz.func220,Tryz.ntmps220
 go_wp2
 go_loopg [5,6] k (fun kq v5 v6 w'=>∃ (x5_1:Int) (x6_1:Int),v5=.int .i64 x5_1∧v6=.int .i64 x6_1∧A0a (A1d.l0 kq a0 a1 x5_1 x6_1=some r)∧A0a (kq≤k)∧A2e w w')
 case atStart=>exact⟨(1),(0),mt,mt,H',⟨Nat.le_refl _⟩,md⟩
 case round =>
  clear H';obtain⟨x5_1,x6_1,rfl,rfl,HA,HK1,⟨m1,rfl⟩⟩:=hrel;cases gk with
 |zero=>exact absurd HA.o (by simp[A1d.l0])
 |succ k1 =>
   have H:=HA.o;clear HA;simp only [A1d.l0] at H;replace H:=C0f.mp H;obtain⟨t901,A30,H⟩:=H;replace H:(if x6_1 < (Int.tmod t901 32) then (A1d.l0 k1 a0 a1 (wrap64 (2 * x5_1)) (wrap64 (x6_1+1))) else (some x5_1))=some r:=H;have A3:=B98 A30;clear A30;by_cases c4:x6_1 < (Int.tmod t901 32)
   ·rw[if_pos c4] at H
    have c4b0:decide (x6_1 < (Int.tmod t901 32))=true:=B99 c4;clear c4;have H':=B98 H;clear H;go_wp2_with (first|((with_reducible refine A0j (f:=187) rfl ?_);refine A1l (some 10) rfl rfl Tryz.func187 Zk rfl #[.string a0,.int .i64 a1] rfl ml ?_;(with_reducible refine(A0r.calls k1 a0 a1 t901 _ A3.o).mono ?_);rintro e w' ⟨rfl,⟨nd,rfl⟩⟩;refine⟨_,rfl,?_⟩))
    go_roundg k1
    case measure=>have:=HK1.o;omega
    case rel=>exact⟨(wrap64 (2 * x5_1)),(wrap64 (x6_1+1)),mt,mt,H',⟨by have:=HK1.o;omega⟩,md⟩
   ·rw[if_neg c4] at H
    have c4b0:decide (x6_1 < (Int.tmod t901 32))=false:=C0a c4;clear c4;obtain rfl:=C0d H;go_wp2_with (first|((with_reducible refine A0j (f:=187) rfl ?_);refine A1l (some 10) rfl rfl Tryz.func187 Zk rfl #[.string a0,.int .i64 a1] rfl ml ?_;(with_reducible refine(A0r.calls k1 a0 a1 t901 _ A3.o).mono ?_);rintro e w' ⟨rfl,⟨nd,rfl⟩⟩;refine⟨_,rfl,?_⟩));go_ret;exact⟨by first|rfl|(simp;done)|(simp[*];done),md⟩
def A3y.f (k:Nat) (a0:ByteArray) (a1:Int):Option (Int):=(A0r.f k a0 a1).bind fun t913=>(some (wrap64 ((wrap64 (a1 * 16))+(Int.tmod t913 16))))
theorem A3y.calls (k:Nat) (a0:ByteArray) (a1:Int) (r:Int) (w:World) (h:A3y.f k a0 a1=some r) :
  Calls Tryz.prog 221 #[.string a0,.int .i64 a1] w fun e w'=>e=.returned (.int .i64 r)∧A2e w w':=by
 have H:((A0r.f k a0 a1).bind fun t913=>(some (wrap64 ((wrap64 (a1 * 16))+(Int.tmod t913 16)))))=some r:=h;clear h;replace H:=C0f.mp H;obtain⟨t913,A30,H⟩:=H;replace H:(some (wrap64 ((wrap64 (a1 * 16))+(Int.tmod t913 16))))=some r:=H;have A3:=B98 A30;clear A30;obtain rfl:=C0d H;go_enter Tryz.func221,Tryz.ntmps221;go_wp2_with (first|((with_reducible refine A0j (f:=187) rfl ?_);refine A1l (some 9) rfl rfl Tryz.func187 Zk rfl #[.string a0,.int .i64 a1] rfl ml ?_;(with_reducible refine(A0r.calls k a0 a1 t913 _ A3.o).mono ?_);rintro e w' ⟨rfl,⟨nd,rfl⟩⟩;refine⟨_,rfl,?_⟩));go_ret;exact⟨by first|rfl|(simp;done)|(simp[*];done),md⟩
def A09.l0:Nat→ByteArray→Int→Int→List ByteArray→Option (Bool)
|0,_,_,_,_=>none
|k+1,x1,x5,x934000,x934001=>if x5 < (x934001.length:Int) then (if 0≤x5 then (if (rdOf ByteArray.empty x934001 x5).toList=x1.toList then (some true) else (A09.l0 k x1 (wrap64 (x5+1)) x934000 x934001)) else (none)) else (some false)
def A09.f (k:Nat) (a0_0:Int) (l0_1:List ByteArray) (a1:ByteArray):Option (Bool):=A09.l0 k a1 0 a0_0 l0_1
theorem A09.calls (k:Nat) (a0_0:Int) (A0_1:Option Addr) (c0_1:Nat) (l0_1:List ByteArray) (a1:ByteArray) (r:Bool) (w:World) (hr0_1:Kd.C Kd.string w A0_1 l0_1.length l0_1) (hc0_1:l0_1.length≤c0_1) (h:A09.f k a0_0 l0_1 a1=some r) :
  Calls Tryz.prog 181 #[.agg #[.int .i64 a0_0,.slice A0_1 l0_1.length c0_1],.string a1] w fun e w'=>e=.returned (.bool r)∧Below w.heap.size w w':=by
 have hu46:=Tryz.underlying46;have HR0_1:=B98 hr0_1;have HC0_1:=B98 hc0_1;clear hr0_1 hc0_1;have HB:=B98 (Below.refl w.heap.size w);have H:(A09.l0 k a1 0 a0_0 l0_1)=some r:=h;clear h;have H':=B98 H;clear H;go_enter Tryz.func181,Tryz.ntmps181;go_wp2_with (first|((with_reducible refine A0b (N:=2) rfl ?_);refine yE (N:=2) (cs:=#[.int .i64 a0_0,.slice A0_1 l0_1.length c0_1]) (t:=46) fun gb933 hg w3 hbox hb=>?_;obtain⟨n0_,n2_⟩:=yX (w:=w) hg hb mq;have n1_:=B98 (hbox);have n3_:=n2_;clear HB;have HB:=n0_;have BK933:=n1_;have GW933:=n2_;have GE933:=n3_;clear n0_ n1_ n2_ n3_;clear hb hbox hg))
 go_loopg [5] k (fun kq v5 w'=>∃ (x5_1:Int),v5=.int .i64 x5_1∧A0a (A09.l0 kq a1 x5_1 a0_0 l0_1=some r)∧A0a (kq≤k)∧A0a (w'.heap[gb933]? = some (.cells #[.int .i64 a0_0,(.slice A0_1 l0_1.length c0_1)] 46 (0,0)))∧A0a (Below w.heap.size w w'))
 case atStart=>exact⟨(0),mt,H',⟨Nat.le_refl _⟩,⟨mz BK933.o⟩,⟨mq⟩⟩
 case round =>
  clear H';obtain⟨x5_1,rfl,HA,HK1,BK933,HB⟩:=hrel;cases gk with
 |zero=>exact absurd HA.o (by simp[A09.l0])
 |succ k1 =>
   have H:=HA.o;clear HA;simp only [A09.l0] at H;by_cases c4:x5_1 < (l0_1.length:Int)
   ·rw[if_pos c4] at H
    have c4b0:decide (x5_1 < (l0_1.length:Int))=true:=B99 c4;clear c4;by_cases c5:0≤x5_1
    ·rw[if_pos c5] at H
     have c5b0:decide (0≤x5_1)=true:=B99 c5;clear c5;by_cases c6:(rdOf ByteArray.empty l0_1 x5_1).toList=a1.toList
     ·rw[if_pos c6] at H
      have c6b0:((rdOf ByteArray.empty l0_1 x5_1).toList == a1.toList)=true:=beq_iff_eq.mpr c6;have c6b1:((rdOf ByteArray.empty l0_1 x5_1).toList != a1.toList)=false:=bne_eq_false_iff_eq.mpr c6;clear c6;obtain rfl:=C0d H;obtain⟨hcz7_0,hcz7_1,hfz7_0,hfz7_1⟩:=zb2 BK933.o;have p934:0≤(x5_1:Int):=mo;have q934:x5_1 < (l0_1.length:Int):=mo;obtain⟨ad934,e934,hx934_0⟩:=Kd.at_string HR0_1.o x5_1 p934 q934;cases e934;replace hx934_0:=zc13 HB.o hx934_0;replace p934:=eq_true p934;replace q934:=eq_true q934;go_wp2
      go_ret;exact⟨mr,mq⟩
     ·rw[if_neg c6] at H
      have c6b0:((rdOf ByteArray.empty l0_1 x5_1).toList == a1.toList)=false:=C0g.mpr c6;have c6b1:((rdOf ByteArray.empty l0_1 x5_1).toList != a1.toList)=true:=bne_iff_ne.mpr c6;have H':=B98 H;clear H;obtain⟨hcz8_0,hcz8_1,hfz8_0,hfz8_1⟩:=zb2 BK933.o;have p934:0≤(x5_1:Int):=mo;have q934:x5_1 < (l0_1.length:Int):=mo;obtain⟨ad934,e934,hx934_0⟩:=Kd.at_string HR0_1.o x5_1 p934 q934;cases e934;replace hx934_0:=zc13 HB.o hx934_0;replace p934:=eq_true p934;replace q934:=eq_true q934;go_wp2
      go_roundg k1
      case measure=>have:=HK1.o;omega
      case rel=>exact⟨(wrap64 (x5_1+1)),mt,H',⟨by have:=HK1.o;omega⟩,⟨mz BK933.o⟩,⟨mq⟩⟩
    ·rw[if_neg c5] at H
     exact absurd H Zs
   ·rw[if_neg c4] at H
    have c4b0:decide (x5_1 < (l0_1.length:Int))=false:=C0a c4;clear c4;obtain rfl:=C0d H;obtain⟨hcz9_0,hcz9_1,hfz9_0,hfz9_1⟩:=zb2 BK933.o;go_wp2
    go_ret;exact⟨mr,mq⟩
def A1e.l0:Nat→Int→List (S151)→Int→Option ((List (S151)))
|0,_,_,_=>none
|k+1,x0,x3,x4=>if x4 < x0 then (if x3.length < 5864062014805 then (A1e.l0 k x0 (x3 ++ [(⟨(⟨#[]⟩:ByteArray),(-1)⟩:S151)]) (wrap64 (x4+1))) else (none)) else (some x3)
def A1e.f (k:Nat) (a0:Int):Option ((List (S151))):=A1e.l0 k a0 (([]:List (S151))) 0
theorem A1e.calls (k:Nat) (a0:Int) (r:List (S151)) (w:World) (h:A1e.f k a0=some r) :
  Calls Tryz.prog 170 #[.int .i64 a0] w fun e w'=>∃ v0_:Value,e=.returned (v0_)∧Kd.R k151 151 w' w.heap.size (fun _=>True) v0_ r∧Below w.heap.size w w':=by
 have hu151:=Tryz.underlying151;have HB:=B98 (Below.refl w.heap.size w);have H:(A1e.l0 k a0 (([]:List (S151))) 0)=some r:=h;clear h;obtain⟨y1051,hy1051⟩:∃ y_:List (S151),y_=(([]:List (S151))):=⟨_,rfl⟩;replace H:(A1e.l0 k a0 y1051 0)=some r:=by first|(rw[hy1051];with_reducible exact H)|(have H2_:=(Option.bind_some _ _).symm.trans H;rw[hy1051];with_reducible exact H2_)|(have H2_:=(Option.bind_some _ _).symm.trans H;with_reducible exact H2_)|with_reducible exact H|(rw[hy1051];exact H)|exact H
 have Ny1051:=B98 hy1051;clear hy1051;have H':=B98 H;clear H;go_enter Tryz.func170,Tryz.ntmps170;go_wp2_with (first|((with_reducible refine A0b (N:=5) rfl ?_);refine Kd.R_lit k151 _ 151 ?hg (N:=5) ?hd (xs:=([]:List (S151))) (inner:=[]) (ok:=fun _=>True) (okp:=fun _=>True) ?hr ?hp (fun _ hk=>hk) trivial (Below.refl _ _) (Nat.le_refl _) Zs ?_;(case hd=>rfl);(case hg=>rfl);(case hr=>first|(go_simp;done)|(go_simp;rfl));(case hp=>exact(Reps.none _ _));intro v1052 w2 ho3 hb hg_ hnew_;clear hg_ hnew_;(first|rw[← Ny1051.o] at ho3|(simp only [Int.reduceToNat] at ho3;rw[← Ny1051.o] at ho3));have n0_:=B98 (Kd.R_lower ho3 (A02 mq));have n1_:=B98 (zN mq hb);clear HB;have HO1053:=n0_;have HB:=n1_;clear n0_ n1_;clear hb ho3))
 go_loopg [3,4] k (fun kq v3 v4 w'=>∃ (x3_1:List (S151)) (x4_1:Int),v4=.int .i64 x4_1∧A0a (A1e.l0 kq a0 x3_1 x4_1=some r)∧A0a (kq≤k)∧A0a (Kd.R k151 151 w' w.heap.size (fun _=>True) v3 x3_1)∧A0a (Below w.heap.size w w'))
 case atStart=>exact⟨(y1051),(0),mt,H',⟨Nat.le_refl _⟩,⟨by(with_reducible repeat(first|apply zE|apply zD|apply zF));exact HO1053.o⟩,⟨mq⟩⟩
 case round =>
  clear H';obtain⟨x3_1,x4_1,rfl,HA,HK1,HO_3,HB⟩:=hrel;cases gk with
 |zero=>exact absurd HA.o (by simp[A1e.l0])
 |succ k1 =>
   have H:=HA.o;clear HA;simp only [A1e.l0] at H;by_cases c4:x4_1 < a0
   ·rw[if_pos c4] at H
    have c4b0:decide (x4_1 < a0)=true:=B99 c4;clear c4;by_cases c5:x3_1.length < 5864062014805
    ·rw[if_pos c5] at H
     have LMc5:=B98 c5;clear c5;obtain⟨y1054,hy1054⟩:∃ y_:List (S151),y_=(x3_1 ++ [(⟨(⟨#[]⟩:ByteArray),(-1)⟩:S151)]):=⟨_,rfl⟩;replace H:(A1e.l0 k1 a0 y1054 (wrap64 (x4_1+1)))=some r:=by first|(rw[hy1054];with_reducible exact H)|(have H2_:=(Option.bind_some _ _).symm.trans H;rw[hy1054];with_reducible exact H2_)|(have H2_:=(Option.bind_some _ _).symm.trans H;with_reducible exact H2_)|with_reducible exact H|(rw[hy1054];exact H)|exact H
     have Ny1054:=B98 hy1054;clear hy1054;have H':=B98 H;clear H;go_wp2_with (first|((with_reducible refine A1c (b:=.append) (xs:=#[.tmp 11,.tmp 13]) rfl ?_);at_builtin;refine Kd.R_append k151 (w0:=w) w.heap.size rfl (.tmp 11) (.tmp 13) 43 151 (.agg #[(.string ⟨#[]⟩),(.int .i64 0)]) 24 rfl Tryz.underlying43 A4y rfl Zd Zo u3 x3_1 (⟨(⟨#[]⟩:ByteArray),(-1)⟩:S151) [.string (⟨#[]⟩:ByteArray),.int .i64 (-1)] (fun _=>True) (fun _=>False) rfl rfl ?aP (fun _ hk=>hk.elim) ?aF ?aO ?aB ?aS ?aL ?_;(case aP=>exact A54 _ _ _ (⟨(⟨#[]⟩:ByteArray),(-1)⟩:S151));(case aB=>exact mq);(case aF=>exact(fun _ _=>trivial));(case aO=>exact(me HO_3.o));(case aS=>exact(A02 mq));(case aL=>have:=LMc5.o;omega);intro v1055 w6 ho hb hg hat;rw[← Ny1054.o] at ho;have n0_:=B98 (hb);have n1_:=B98 (ho);clear HB;clear HO_3;have HB:=n0_;have HO1056:=n1_;clear n0_ n1_;clear ho hb hg hat))
     go_roundg k1
     case measure=>have:=HK1.o;omega
     case rel=>exact⟨(y1054),(wrap64 (x4_1+1)),mt,H',⟨by have:=HK1.o;omega⟩,⟨by(with_reducible repeat(first|apply zE|apply zD|apply zF));exact HO1056.o⟩,⟨mq⟩⟩
    ·rw[if_neg c5] at H
     exact absurd H Zs
   ·rw[if_neg c4] at H
    have c4b0:decide (x4_1 < a0)=false:=C0a c4;clear c4;obtain rfl:=C0d H;go_wp2
    go_ret;exact⟨_,mr,by(with_reducible repeat(first|apply zE|apply zD|apply zF));exact HO_3.o,mq⟩
end Go.Proofs.YtediiolcoilepaaGreat.GNear
