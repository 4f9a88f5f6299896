/- Walks of callees. -/
import Derived.Laws.Cover1
import Derived.Test.YtediiolcoilepaaGreatGNear0
import Derived.Test.YtediiolcoilepaaGreatGNear8
import Derived.Test.YtediiolcoilepaaGreatGNear9
import Derived.Test.YtediiolcoilepaaGreatGNear10
namespace Go.Proofs.YtediiolcoilepaaGreat.GNear
set_option maxHeartbeats 8000000
set_option maxRecDepth 100000
open Go.RowKit Go.Proofs.YtediiolcoilepaaGreatW.PrintWords Go.Proofs.YtediiolcoilepaaGreatW.PrintLast Go.Proofs.YtediiolcoilepaaGreatW.PrintMore
attribute [local go_sem] max2_int min2_int max_two min_two max_three min_three max_four min_four
set_option linter.unusedVariables false
set_option linter.unusedSimpArgs false
theorem zc11 {w w1:World} {a:Addr} {v:Value} (hb:Below w.heap.size w w1) (h:w.cell? a=some v):w1.cell? a=some v:=(hb.cell (World.block_lt_of_cell? w _ h)).trans h
mutual
def spec_QueueOk.j0:Nat→Bool→Int→List ByteArray→Option (Bool)
|0,_,_,_=>none
|k+1,x16,x701000,x701001=>if x16=true then (some false) else (spec_QueueOk.l0 k 0 x701000 x701001)
def spec_QueueOk.l0:Nat→Int→Int→List ByteArray→Option (Bool)
|0,_,_,_=>none
|k+1,x3,x701000,x701001=>if x3 < (x701001.length:Int) then (if 0≤x3 then ((spec_l01In.f ((rdOf ByteArray.empty x701001 x3).size:Int) 1 12).bind fun t703=>(if t703=true then (spec_QueueOk.l1 k x3 0 x701000 x701001) else (some false))) else (none)) else (some true)
def spec_QueueOk.l1:Nat→Int→Int→Int→List ByteArray→Option (Bool)
|0,_,_,_,_=>none
|k+1,x3,x4,x701000,x701001=>if x4 < x3 then (if 0≤x4 then (if x4 < (x701001.length:Int) then (if 0≤x3 then (if x3 < (x701001.length:Int) then (if (rdOf ByteArray.empty x701001 x4).toList=(rdOf ByteArray.empty x701001 x3).toList then (some false) else (spec_QueueOk.l1 k x3 (wrap64 (x4+1)) x701000 x701001)) else (none)) else (none)) else (none)) else (none)) else (spec_QueueOk.l0 k (wrap64 (x3+1)) x701000 x701001)
end
def spec_QueueOk.f (k:Nat) (a0_0:Int) (l0_1:List ByteArray):Option (Bool):=(spec_l01In.f a0_0 0 24).bind fun t701=>(if t701=true then (spec_QueueOk.j0 k (decide ((l0_1.length:Int) > a0_0)) a0_0 l0_1) else (spec_QueueOk.j0 k true a0_0 l0_1))
theorem spec_QueueOk.calls (k:Nat) (a0_0:Int) (A0_1:Option Addr) (c0_1:Nat) (l0_1:List ByteArray) (r:Bool) (w:World) (hr0_1:Kd.C Kd.string w A0_1 l0_1.length l0_1) (hc0_1:l0_1.length≤c0_1) (h:spec_QueueOk.f k a0_0 l0_1=some r) :
  Calls Tryz.prog 115 #[.agg #[.int .i64 a0_0,.slice A0_1 l0_1.length c0_1]] w fun e w'=>e=.returned (.bool r)∧Below w.heap.size w w':=by
 have hu46:=Tryz.underlying46;have HR0_1:=Aside0.mk hr0_1;have HC0_1:=Aside0.mk hc0_1;clear hr0_1 hc0_1;have HB:=Aside0.mk (Below.refl w.heap.size w);unfold spec_QueueOk.f at h;have H:=h;clear h;have HC2:=Aside0.mk H;clear H;go_enter Tryz.func115,Tryz.ntmps115;go_upto_region 1 with (first|((with_reducible refine gate_dst (N:=1) rfl ?_);(try(refine gate_guard (by rfl) ?_;dsimp only));refine yE (N:=1) (cs:=#[.int .i64 a0_0,.slice A0_1 l0_1.length c0_1]) (t:=46) fun gb700 hg w3 hbox hb=>?_;obtain⟨n0_,n2_⟩:=yX (w:=w) hg hb mq;have n1_:=Aside0.mk (hbox);have n3_:=n2_;clear HB;have HB:=n0_;have BK700:=n1_;have GW700:=n2_;have GE700:=n3_;clear n0_ n1_ n2_ n3_;clear hb hbox hg))
 repeat(go_quiet (first|((with_reducible refine gate_dst (N:=1) rfl ?_);(try(refine gate_guard (by rfl) ?_;dsimp only));refine yE (N:=1) (cs:=#[.int .i64 a0_0,.slice A0_1 l0_1.length c0_1]) (t:=46) fun gb700 hg w3 hbox hb=>?_;obtain⟨n0_,n2_⟩:=yX (w:=w) hg hb mq;have n1_:=Aside0.mk (hbox);have n3_:=n2_;clear HB;have HB:=n0_;have BK700:=n1_;have GW700:=n2_;have GE700:=n3_;clear n0_ n1_ n2_ n3_;clear hb hbox hg));go_upto_region 1 with (first|((with_reducible refine gate_dst (N:=1) rfl ?_);(try(refine gate_guard (by rfl) ?_;dsimp only));refine yE (N:=1) (cs:=#[.int .i64 a0_0,.slice A0_1 l0_1.length c0_1]) (t:=46) fun gb700 hg w3 hbox hb=>?_;obtain⟨n0_,n2_⟩:=yX (w:=w) hg hb mq;have n1_:=Aside0.mk (hbox);have n3_:=n2_;clear HB;have HB:=n0_;have BK700:=n1_;have GW700:=n2_;have GE700:=n3_;clear n0_ n1_ n2_ n3_;clear hb hbox hg)))
 (try simp only [Act.put,List.setIfInBounds_toArray,List.set_cons_zero,List.set_cons_succ])
 go_cut [16] (fun v16 wc=>∃ (kq:Nat) (x16_1:Bool),v16=.bool x16_1∧Aside0 (spec_QueueOk.j0 kq x16_1 a0_0 l0_1=some r)∧Aside0 (kq≤k)∧Aside0 (wc.heap[gb700]? = some (.cells #[.int .i64 a0_0,(.slice A0_1 l0_1.length c0_1)] 46 (0,0)))∧Aside0 (Below w.heap.size w wc))
 case first =>
  have H:=HC2.out;clear HC2;replace H:=Option.bind_eq_some_iff.mp H;obtain⟨t701,A40,H⟩:=H;(try dsimp only at H)
  have A4:=Aside0.mk A40;clear A40;by_cases c5:t701=true
  ·subst c5
   rw[if_pos rfl] at H;have H':=Aside0.mk H;clear H;obtain⟨hcz6_0,hcz6_1,hfz6_0,hfz6_1⟩:=zb2 BK700.out;go_wp2_with (first|(go_at_call 93;(with_reducible refine(spec_l01In.calls a0_0 0 24 true _ A4.out).mono ?_);rintro e w' ⟨rfl,⟨nd,rfl⟩⟩;(try first|exact⟨rfl,_,World.drewN_drewN _ _ _⟩|exact⟨rfl,_,Eq.trans (World.drewN_drewN _ _ _) (congrArg (World.drewN _) (Nat.add_assoc _ _ _))⟩)))
   repeat(go_quiet (first|(go_at_call 93;(with_reducible refine(spec_l01In.calls a0_0 0 24 true _ A4.out).mono ?_);rintro e w' ⟨rfl,⟨nd,rfl⟩⟩;(try first|exact⟨rfl,_,World.drewN_drewN _ _ _⟩|exact⟨rfl,_,Eq.trans (World.drewN_drewN _ _ _) (congrArg (World.drewN _) (Nat.add_assoc _ _ _))⟩)));try go_wp2_with (first|(go_at_call 93;(with_reducible refine(spec_l01In.calls a0_0 0 24 true _ A4.out).mono ?_);rintro e w' ⟨rfl,⟨nd,rfl⟩⟩;(try first|exact⟨rfl,_,World.drewN_drewN _ _ _⟩|exact⟨rfl,_,Eq.trans (World.drewN_drewN _ _ _) (congrArg (World.drewN _) (Nat.add_assoc _ _ _))⟩))))
   go_meet
   case rel=>exact⟨_,(decide ((l0_1.length:Int) > a0_0)),mt,H',⟨by first|omega|exact Nat.le_refl _⟩,⟨mz BK700.out⟩,⟨mq⟩⟩
  ·replace c5:=Bool.eq_false_iff.mpr c5
   subst c5;rw[if_neg (show ¬ (false=true) by decide)] at H;have H':=Aside0.mk H;clear H;obtain⟨hcz7_0,hcz7_1,hfz7_0,hfz7_1⟩:=zb2 BK700.out;go_wp2_with (first|(go_at_call 93;(with_reducible refine(spec_l01In.calls a0_0 0 24 false _ A4.out).mono ?_);rintro e w' ⟨rfl,⟨nd,rfl⟩⟩;(try first|exact⟨rfl,_,World.drewN_drewN _ _ _⟩|exact⟨rfl,_,Eq.trans (World.drewN_drewN _ _ _) (congrArg (World.drewN _) (Nat.add_assoc _ _ _))⟩)))
   repeat(go_quiet (first|(go_at_call 93;(with_reducible refine(spec_l01In.calls a0_0 0 24 false _ A4.out).mono ?_);rintro e w' ⟨rfl,⟨nd,rfl⟩⟩;(try first|exact⟨rfl,_,World.drewN_drewN _ _ _⟩|exact⟨rfl,_,Eq.trans (World.drewN_drewN _ _ _) (congrArg (World.drewN _) (Nat.add_assoc _ _ _))⟩)));try go_wp2_with (first|(go_at_call 93;(with_reducible refine(spec_l01In.calls a0_0 0 24 false _ A4.out).mono ?_);rintro e w' ⟨rfl,⟨nd,rfl⟩⟩;(try first|exact⟨rfl,_,World.drewN_drewN _ _ _⟩|exact⟨rfl,_,Eq.trans (World.drewN_drewN _ _ _) (congrArg (World.drewN _) (Nat.add_assoc _ _ _))⟩))))
   go_meet
   case rel=>exact⟨_,(true),mt,H',⟨by first|omega|exact Nat.le_refl _⟩,⟨mz BK700.out⟩,⟨mq⟩⟩
 case rest =>
  clear HC2;obtain⟨kq,x16_1,rfl,HA,HJ1,BK700,HB⟩:=hcut;cases kq with
 |zero=>exact absurd HA.out (by simp[spec_QueueOk.j0])
 |succ kj1 =>
   have H:=HA.out;clear HA;simp only [spec_QueueOk.j0] at H;by_cases c8:x16_1=true
   ·subst c8
    rw[if_pos rfl] at H;obtain rfl:=Option.some.inj H;go_wp2
    repeat(go_quiet (fail);try go_wp2)
    go_ret;exact⟨mr,mq⟩
   ·replace c8:=Bool.eq_false_iff.mpr c8
    subst c8;rw[if_neg (show ¬ (false=true) by decide)] at H;have H':=Aside0.mk H;clear H;go_wp2
    repeat(go_quiet (fail);try go_wp2)
    go_loopg [3] kj1 (fun kq v3 w'=>∃ (x3_2:Int),v3=.int .i64 x3_2∧Aside0 (spec_QueueOk.l0 kq x3_2 a0_0 l0_1=some r)∧Aside0 (kq≤kj1)∧Aside0 (w'.heap[gb700]? = some (.cells #[.int .i64 a0_0,(.slice A0_1 l0_1.length c0_1)] 46 (0,0)))∧Aside0 (Below w.heap.size w w'))
    case atStart=>exact⟨(0),mt,H',⟨Nat.le_refl _⟩,⟨mz BK700.out⟩,⟨mq⟩⟩
    case round =>
     clear H';obtain⟨x3_2,rfl,HA,HK2,BK700,HB⟩:=hrel;cases gk with
    |zero=>exact absurd HA.out (by simp[spec_QueueOk.l0])
    |succ k2 =>
      have H:=HA.out;clear HA;simp only [spec_QueueOk.l0] at H;by_cases c9:x3_2 < (l0_1.length:Int)
      ·rw[if_pos c9] at H
       have c9b0:decide (x3_2 < (l0_1.length:Int))=true:=decide_eq_true c9;clear c9;by_cases c10:0≤x3_2
       ·rw[if_pos c10] at H
        have c10b0:decide (0≤x3_2)=true:=decide_eq_true c10;clear c10;replace H:=Option.bind_eq_some_iff.mp H;obtain⟨t703,A110,H⟩:=H;(try dsimp only at H)
        have A11:=Aside0.mk A110;clear A110;by_cases c12:t703=true
        ·subst c12
         rw[if_pos rfl] at H;have H':=Aside0.mk H;clear H;obtain⟨hcz13_0,hcz13_1,hfz13_0,hfz13_1⟩:=zb2 BK700.out;have p702:0≤(x3_2:Int):=mo;have q702:x3_2 < (l0_1.length:Int):=mo;obtain⟨ad702,e702,hx702_0⟩:=Kd.at_string HR0_1.out x3_2 p702 q702;cases e702;replace hx702_0:=zc11 HB.out hx702_0;replace p702:=eq_true p702;replace q702:=eq_true q702;go_wp2_with (first|(go_at_call 93;(with_reducible refine(spec_l01In.calls ((rdOf ByteArray.empty l0_1 x3_2).size:Int) 1 12 true _ A11.out).mono ?_);rintro e w' ⟨rfl,⟨nd,rfl⟩⟩;(try first|exact⟨rfl,_,World.drewN_drewN _ _ _⟩|exact⟨rfl,_,Eq.trans (World.drewN_drewN _ _ _) (congrArg (World.drewN _) (Nat.add_assoc _ _ _))⟩)))
         repeat(go_quiet (first|(go_at_call 93;(with_reducible refine(spec_l01In.calls ((rdOf ByteArray.empty l0_1 x3_2).size:Int) 1 12 true _ A11.out).mono ?_);rintro e w' ⟨rfl,⟨nd,rfl⟩⟩;(try first|exact⟨rfl,_,World.drewN_drewN _ _ _⟩|exact⟨rfl,_,Eq.trans (World.drewN_drewN _ _ _) (congrArg (World.drewN _) (Nat.add_assoc _ _ _))⟩)));try go_wp2_with (first|(go_at_call 93;(with_reducible refine(spec_l01In.calls ((rdOf ByteArray.empty l0_1 x3_2).size:Int) 1 12 true _ A11.out).mono ?_);rintro e w' ⟨rfl,⟨nd,rfl⟩⟩;(try first|exact⟨rfl,_,World.drewN_drewN _ _ _⟩|exact⟨rfl,_,Eq.trans (World.drewN_drewN _ _ _) (congrArg (World.drewN _) (Nat.add_assoc _ _ _))⟩))))
         go_loopg [4] k2 (fun kq v4 w'=>∃ (x4_3:Int),v4=.int .i64 x4_3∧Aside0 (spec_QueueOk.l1 kq x3_2 x4_3 a0_0 l0_1=some r)∧Aside0 (kq≤k2)∧Aside0 (w'.heap[gb700]? = some (.cells #[.int .i64 a0_0,(.slice (some ad702) l0_1.length c0_1)] 46 (0,0)))∧Aside0 (Below w.heap.size w w'))
         case atStart=>exact⟨(0),mt,H',⟨Nat.le_refl _⟩,⟨mz BK700.out⟩,⟨mq⟩⟩
         case round =>
          clear H';obtain⟨x4_3,rfl,HA,HK3,BK700,HB⟩:=hrel;cases gk with
         |zero=>exact absurd HA.out (by simp[spec_QueueOk.l1])
         |succ k3 =>
           have H:=HA.out;clear HA;simp only [spec_QueueOk.l1] at H;by_cases c14:x4_3 < x3_2
           ·rw[if_pos c14] at H
            have c14b0:decide (x4_3 < x3_2)=true:=decide_eq_true c14;clear c14;by_cases c15:0≤x4_3
            ·rw[if_pos c15] at H
             have c15b0:decide (0≤x4_3)=true:=decide_eq_true c15;clear c15;by_cases c16:x4_3 < (l0_1.length:Int)
             ·rw[if_pos c16] at H
              have c16b0:decide (x4_3 < (l0_1.length:Int))=true:=decide_eq_true c16;clear c16;by_cases c17:0≤x3_2
              ·rw[if_pos c17] at H
               have c17b0:decide (0≤x3_2)=true:=decide_eq_true c17;clear c17;by_cases c18:x3_2 < (l0_1.length:Int)
               ·rw[if_pos c18] at H
                have c18b0:decide (x3_2 < (l0_1.length:Int))=true:=decide_eq_true c18;clear c18;by_cases c19:(rdOf ByteArray.empty l0_1 x4_3).toList=(rdOf ByteArray.empty l0_1 x3_2).toList
                ·rw[if_pos c19] at H
                 have c19b0:((rdOf ByteArray.empty l0_1 x4_3).toList == (rdOf ByteArray.empty l0_1 x3_2).toList)=true:=beq_iff_eq.mpr c19;have c19b1:((rdOf ByteArray.empty l0_1 x4_3).toList != (rdOf ByteArray.empty l0_1 x3_2).toList)=false:=bne_eq_false_iff_eq.mpr c19;clear c19;obtain rfl:=Option.some.inj H;obtain⟨hcz20_0,hcz20_1,hfz20_0,hfz20_1⟩:=zb2 BK700.out;have p704:0≤(x4_3:Int):=mo;have q704:x4_3 < (l0_1.length:Int):=mo;obtain⟨ad704,e704,hx704_0⟩:=Kd.at_string HR0_1.out x4_3 p704 q704;obtain rfl:ad702=ad704:=(by injection e704);replace hx704_0:=zc11 HB.out hx704_0;replace p704:=eq_true p704;replace q704:=eq_true q704;have p705:0≤(x3_2:Int):=mo;have q705:x3_2 < (l0_1.length:Int):=mo;obtain⟨ad705,e705,hx705_0⟩:=Kd.at_string HR0_1.out x3_2 p705 q705;obtain rfl:ad702=ad705:=(by injection e705);replace hx705_0:=zc11 HB.out hx705_0;replace p705:=eq_true p705;replace q705:=eq_true q705;go_wp2
                 repeat(go_quiet (fail);try go_wp2)
                 go_ret;exact⟨mr,mq⟩
                ·rw[if_neg c19] at H
                 have c19b0:((rdOf ByteArray.empty l0_1 x4_3).toList == (rdOf ByteArray.empty l0_1 x3_2).toList)=false:=beq_eq_false_iff_ne.mpr c19;have c19b1:((rdOf ByteArray.empty l0_1 x4_3).toList != (rdOf ByteArray.empty l0_1 x3_2).toList)=true:=bne_iff_ne.mpr c19;have H':=Aside0.mk H;clear H;obtain⟨hcz21_0,hcz21_1,hfz21_0,hfz21_1⟩:=zb2 BK700.out;have p704:0≤(x4_3:Int):=mo;have q704:x4_3 < (l0_1.length:Int):=mo;obtain⟨ad704,e704,hx704_0⟩:=Kd.at_string HR0_1.out x4_3 p704 q704;obtain rfl:ad702=ad704:=(by injection e704);replace hx704_0:=zc11 HB.out hx704_0;replace p704:=eq_true p704;replace q704:=eq_true q704;have p705:0≤(x3_2:Int):=mo;have q705:x3_2 < (l0_1.length:Int):=mo;obtain⟨ad705,e705,hx705_0⟩:=Kd.at_string HR0_1.out x3_2 p705 q705;obtain rfl:ad702=ad705:=(by injection e705);replace hx705_0:=zc11 HB.out hx705_0;replace p705:=eq_true p705;replace q705:=eq_true q705;go_wp2
                 repeat(go_quiet (fail);try go_wp2)
                 go_roundg k3
                 case measure=>have:=HJ1.out;have:=HK2.out;have:=HK3.out;omega
                 case rel=>exact⟨(wrap64 (x4_3+1)),mt,H',⟨by have:=HJ1.out;have:=HK2.out;have:=HK3.out;omega⟩,⟨mz BK700.out⟩,⟨mq⟩⟩
               ·rw[if_neg c18] at H
                exact absurd H (by simp)
              ·rw[if_neg c17] at H
               exact absurd H (by simp)
             ·rw[if_neg c16] at H
              exact absurd H (by simp)
            ·rw[if_neg c15] at H
             exact absurd H (by simp)
           ·rw[if_neg c14] at H
            have c14b0:decide (x4_3 < x3_2)=false:=decide_eq_false c14;clear c14;have H':=Aside0.mk H;clear H;go_wp2
            repeat(go_quiet (fail);try go_wp2)
            go_roundg k3
            case measure=>have:=HJ1.out;have:=HK2.out;have:=HK3.out;omega
            case rel=>exact⟨(wrap64 (x3_2+1)),mt,H',⟨by have:=HJ1.out;have:=HK2.out;have:=HK3.out;omega⟩,⟨mz BK700.out⟩,⟨mq⟩⟩
        ·replace c12:=Bool.eq_false_iff.mpr c12
         subst c12;rw[if_neg (show ¬ (false=true) by decide)] at H;obtain rfl:=Option.some.inj H;obtain⟨hcz22_0,hcz22_1,hfz22_0,hfz22_1⟩:=zb2 BK700.out;have p702:0≤(x3_2:Int):=mo;have q702:x3_2 < (l0_1.length:Int):=mo;obtain⟨ad702,e702,hx702_0⟩:=Kd.at_string HR0_1.out x3_2 p702 q702;cases e702;replace hx702_0:=zc11 HB.out hx702_0;replace p702:=eq_true p702;replace q702:=eq_true q702;go_wp2_with (first|(go_at_call 93;(with_reducible refine(spec_l01In.calls ((rdOf ByteArray.empty l0_1 x3_2).size:Int) 1 12 false _ A11.out).mono ?_);rintro e w' ⟨rfl,⟨nd,rfl⟩⟩;(try first|exact⟨rfl,_,World.drewN_drewN _ _ _⟩|exact⟨rfl,_,Eq.trans (World.drewN_drewN _ _ _) (congrArg (World.drewN _) (Nat.add_assoc _ _ _))⟩)))
         repeat(go_quiet (first|(go_at_call 93;(with_reducible refine(spec_l01In.calls ((rdOf ByteArray.empty l0_1 x3_2).size:Int) 1 12 false _ A11.out).mono ?_);rintro e w' ⟨rfl,⟨nd,rfl⟩⟩;(try first|exact⟨rfl,_,World.drewN_drewN _ _ _⟩|exact⟨rfl,_,Eq.trans (World.drewN_drewN _ _ _) (congrArg (World.drewN _) (Nat.add_assoc _ _ _))⟩)));try go_wp2_with (first|(go_at_call 93;(with_reducible refine(spec_l01In.calls ((rdOf ByteArray.empty l0_1 x3_2).size:Int) 1 12 false _ A11.out).mono ?_);rintro e w' ⟨rfl,⟨nd,rfl⟩⟩;(try first|exact⟨rfl,_,World.drewN_drewN _ _ _⟩|exact⟨rfl,_,Eq.trans (World.drewN_drewN _ _ _) (congrArg (World.drewN _) (Nat.add_assoc _ _ _))⟩))))
         go_ret;exact⟨mr,mq⟩
       ·rw[if_neg c10] at H
        exact absurd H (by simp)
      ·rw[if_neg c9] at H
       have c9b0:decide (x3_2 < (l0_1.length:Int))=false:=decide_eq_false c9;clear c9;obtain rfl:=Option.some.inj H;obtain⟨hcz23_0,hcz23_1,hfz23_0,hfz23_1⟩:=zb2 BK700.out;go_wp2
       repeat(go_quiet (fail);try go_wp2)
       go_ret;exact⟨mr,mq⟩
mutual
def spec_SketchOk.j0:Nat→Bool→List Int→Int→Option (Bool)
|0,_,_,_=>none
|k+1,x13,x707000,x707001=>if x13=true then (some false) else (spec_SketchOk.l0 k 0 x707000 x707001)
def spec_SketchOk.l0:Nat→Int→List Int→Int→Option (Bool)
|0,_,_,_=>none
|k+1,x3,x707000,x707001=>if x3 < (x707000.length:Int) then (if 0≤x3 then ((spec_l01In.f (rd x707000 x3) 0 15).bind fun t709=>(if t709=true then (spec_SketchOk.l0 k (wrap64 (x3+1)) x707000 x707001) else (some false))) else (none)) else (some true)
end
def spec_SketchOk.f (k:Nat) (l0_0:List Int) (a0_1:Int):Option (Bool):=if (l0_0.length:Int)=48 then ((spec_l01In.f a0_1 0 99).bind fun t707=>(spec_SketchOk.j0 k (!t707) l0_0 a0_1)) else (spec_SketchOk.j0 k true l0_0 a0_1)
theorem spec_SketchOk.calls (k:Nat) (A0_0:Option Addr) (c0_0:Nat) (l0_0:List Int) (a0_1:Int) (r:Bool) (w:World) (hr0_0:Kd.C (Kd.int .i64) w A0_0 l0_0.length l0_0) (hc0_0:l0_0.length≤c0_0) (h:spec_SketchOk.f k l0_0 a0_1=some r) :
  Calls Tryz.prog 116 #[.agg #[.slice A0_0 l0_0.length c0_0,.int .i64 a0_1]] w fun e w'=>e=.returned (.bool r)∧Below w.heap.size w w':=by
 have hu47:=Tryz.underlying47;have HR0_0:=Aside0.mk hr0_0;have HC0_0:=Aside0.mk hc0_0;clear hr0_0 hc0_0;have HB:=Aside0.mk (Below.refl w.heap.size w);unfold spec_SketchOk.f at h;have H:=h;clear h;have HC2:=Aside0.mk H;clear H;go_enter Tryz.func116,Tryz.ntmps116;go_upto_region 1 with (first|((with_reducible refine gate_dst (N:=1) rfl ?_);refine yE (N:=1) (cs:=#[.slice A0_0 l0_0.length c0_0,.int .i64 a0_1]) (t:=47) fun gb706 hg w3 hbox hb=>?_;obtain⟨n0_,n2_⟩:=yX (w:=w) hg hb mq;have n1_:=Aside0.mk (hbox);have n3_:=n2_;clear HB;have HB:=n0_;have BK706:=n1_;have GW706:=n2_;have GE706:=n3_;clear n0_ n1_ n2_ n3_;clear hb hbox hg))
 (try simp only [Act.put,List.setIfInBounds_toArray,List.set_cons_zero,List.set_cons_succ])
 go_cut [13] (fun v13 wc=>∃ (kq:Nat) (x13_1:Bool),v13=.bool x13_1∧Aside0 (spec_SketchOk.j0 kq x13_1 l0_0 a0_1=some r)∧Aside0 (kq≤k)∧Aside0 (wc.heap[gb706]? = some (.cells #[(.slice A0_0 l0_0.length c0_0),.int .i64 a0_1] 47 (0,0)))∧Aside0 (Below w.heap.size w wc))
 case first =>
  have H:=HC2.out;clear HC2;by_cases c4:(l0_0.length:Int)=48
  ·rw[if_pos c4] at H
   have c4b0:((l0_0.length:Int) == 48)=true:=beq_iff_eq.mpr c4;have c4b1:((l0_0.length:Int) != 48)=false:=bne_eq_false_iff_eq.mpr c4;clear c4;(first|rw[c4b0]|(simp only [i64_w,i32_w];rw[c4b0])|skip)
   replace H:=Option.bind_eq_some_iff.mp H;obtain⟨t707,A50,H⟩:=H;(try dsimp only at H)
   have A5:=Aside0.mk A50;clear A50;have H':=Aside0.mk H;clear H;obtain⟨hcz6_0,hcz6_1,hfz6_0,hfz6_1⟩:=zb2 BK706.out;go_wp2_with (first|(go_at_call 93;(with_reducible refine(spec_l01In.calls a0_1 0 99 t707 _ A5.out).mono ?_);rintro e w' ⟨rfl,⟨nd,rfl⟩⟩));go_meet
   case rel=>exact⟨_,(!t707),mt,H',⟨by first|omega|exact Nat.le_refl _⟩,⟨mz BK706.out⟩,⟨mq⟩⟩
  ·rw[if_neg c4] at H
   have c4b0:((l0_0.length:Int) == 48)=false:=beq_eq_false_iff_ne.mpr c4;have c4b1:((l0_0.length:Int) != 48)=true:=bne_iff_ne.mpr c4
   (first|rw[c4b0]|(simp only [i64_w,i32_w];rw[c4b0])|skip)
   have H':=Aside0.mk H;clear H;obtain⟨hcz7_0,hcz7_1,hfz7_0,hfz7_1⟩:=zb2 BK706.out;go_wp2
   go_meet
   case rel=>exact⟨_,(true),mt,H',⟨by first|omega|exact Nat.le_refl _⟩,⟨mz BK706.out⟩,⟨mq⟩⟩
 case rest =>
  clear HC2;obtain⟨kq,x13_1,rfl,HA,HJ1,BK706,HB⟩:=hcut;cases kq with
 |zero=>exact absurd HA.out (by simp[spec_SketchOk.j0])
 |succ kj1 =>
   have H:=HA.out;clear HA;simp only [spec_SketchOk.j0] at H;by_cases c8:x13_1=true
   ·subst c8
    rw[if_pos rfl] at H;obtain rfl:=Option.some.inj H;go_wp2
    go_ret;exact⟨mr,mq⟩
   ·replace c8:=Bool.eq_false_iff.mpr c8
    subst c8;rw[if_neg (show ¬ (false=true) by decide)] at H;have H':=Aside0.mk H;clear H;go_wp2
    go_loopg [3] kj1 (fun kq v3 w'=>∃ (x3_2:Int),v3=.int .i64 x3_2∧Aside0 (spec_SketchOk.l0 kq x3_2 l0_0 a0_1=some r)∧Aside0 (kq≤kj1)∧Aside0 (w'.heap[gb706]? = some (.cells #[(.slice A0_0 l0_0.length c0_0),.int .i64 a0_1] 47 (0,0)))∧Aside0 (Below w.heap.size w w'))
    case atStart=>exact⟨(0),mt,H',⟨Nat.le_refl _⟩,⟨mz BK706.out⟩,⟨mq⟩⟩
    case round =>
     clear H';obtain⟨x3_2,rfl,HA,HK2,BK706,HB⟩:=hrel;cases gk with
    |zero=>exact absurd HA.out (by simp[spec_SketchOk.l0])
    |succ k2 =>
      have H:=HA.out;clear HA;simp only [spec_SketchOk.l0] at H;by_cases c9:x3_2 < (l0_0.length:Int)
      ·rw[if_pos c9] at H
       have c9b0:decide (x3_2 < (l0_0.length:Int))=true:=decide_eq_true c9;clear c9;by_cases c10:0≤x3_2
       ·rw[if_pos c10] at H
        have c10b0:decide (0≤x3_2)=true:=decide_eq_true c10;clear c10;replace H:=Option.bind_eq_some_iff.mp H;obtain⟨t709,A110,H⟩:=H;(try dsimp only at H)
        have A11:=Aside0.mk A110;clear A110;by_cases c12:t709=true
        ·subst c12
         rw[if_pos rfl] at H;have H':=Aside0.mk H;clear H;obtain⟨hcz13_0,hcz13_1,hfz13_0,hfz13_1⟩:=zb2 BK706.out;have p708:0≤(x3_2:Int):=mo;have q708:x3_2 < (l0_0.length:Int):=mo;obtain⟨ad708,e708,hx708_0⟩:=Kd.at_int HR0_0.out x3_2 p708 q708;cases e708;replace hx708_0:=zc11 HB.out hx708_0;replace p708:=eq_true p708;replace q708:=eq_true q708;go_wp2_with (first|((with_reducible refine gate_callee (f:=93) rfl ?_);refine goesL_ (some 26) rfl rfl Tryz.func93 (by kernel_rfl) rfl #[.int .i64 (rd l0_0 x3_2),.int .i64 0,.int .i64 15] rfl ml ?_;(with_reducible refine(spec_l01In.calls (rd l0_0 x3_2) 0 15 true _ A11.out).mono ?_);rintro e w' ⟨rfl,⟨nd,rfl⟩⟩;refine⟨_,rfl,?_⟩))
         go_roundg k2
         case measure=>have:=HJ1.out;have:=HK2.out;omega
         case rel=>exact⟨(wrap64 (x3_2+1)),mt,H',⟨by have:=HJ1.out;have:=HK2.out;omega⟩,⟨mz BK706.out⟩,⟨mq⟩⟩
        ·replace c12:=Bool.eq_false_iff.mpr c12
         subst c12;rw[if_neg (show ¬ (false=true) by decide)] at H;obtain rfl:=Option.some.inj H;obtain⟨hcz14_0,hcz14_1,hfz14_0,hfz14_1⟩:=zb2 BK706.out;have p708:0≤(x3_2:Int):=mo;have q708:x3_2 < (l0_0.length:Int):=mo;obtain⟨ad708,e708,hx708_0⟩:=Kd.at_int HR0_0.out x3_2 p708 q708;cases e708;replace hx708_0:=zc11 HB.out hx708_0;replace p708:=eq_true p708;replace q708:=eq_true q708;go_wp2_with (first|((with_reducible refine gate_callee (f:=93) rfl ?_);refine goesL_ (some 26) rfl rfl Tryz.func93 (by kernel_rfl) rfl #[.int .i64 (rd l0_0 x3_2),.int .i64 0,.int .i64 15] rfl ml ?_;(with_reducible refine(spec_l01In.calls (rd l0_0 x3_2) 0 15 false _ A11.out).mono ?_);rintro e w' ⟨rfl,⟨nd,rfl⟩⟩;refine⟨_,rfl,?_⟩));go_ret;exact⟨mr,mq⟩
       ·rw[if_neg c10] at H
        exact absurd H (by simp)
      ·rw[if_neg c9] at H
       have c9b0:decide (x3_2 < (l0_0.length:Int))=false:=decide_eq_false c9;clear c9;obtain rfl:=Option.some.inj H;obtain⟨hcz15_0,hcz15_1,hfz15_0,hfz15_1⟩:=zb2 BK706.out;go_wp2
       go_ret;exact⟨mr,mq⟩
def spec_DoorOk.f (a0_0:Int):Option (Bool):=(spec_l01In.f a0_0 0 4294967295).bind fun t711=>(some t711)
theorem spec_DoorOk.calls (a0_0:Int) (r:Bool) (w:World) (h:spec_DoorOk.f a0_0=some r) :
  Calls Tryz.prog 117 #[.agg #[.int .i64 a0_0]] w fun e w'=>e=.returned (.bool r)∧Below w.heap.size w w':=by
 have hu48:=Tryz.underlying48;have HB:=Aside0.mk (Below.refl w.heap.size w);unfold spec_DoorOk.f at h;have H:=h;clear h;replace H:=Option.bind_eq_some_iff.mp H;obtain⟨t711,A20,H⟩:=H;(try dsimp only at H)
 have A2:=Aside0.mk A20;clear A20;obtain rfl:=Option.some.inj H;go_enter Tryz.func117,Tryz.ntmps117;go_wp2_with (first|((with_reducible refine gate_dst (N:=1) rfl ?_);refine yE (N:=1) (cs:=#[.int .i64 a0_0]) (t:=48) fun gb710 hg w3 hbox hb=>?_;obtain⟨n0_,n2_⟩:=yX (w:=w) hg hb mq;have n1_:=Aside0.mk (hbox);have n3_:=n2_;clear HB;have HB:=n0_;have BK710:=n1_;have GW710:=n2_;have GE710:=n3_;clear n0_ n1_ n2_ n3_;clear hb hbox hg;have hcz4_0:w3.cell? ⟨gb710,0,none⟩=some (.int .i64 a0_0):=(zO BK710.out 0).trans rfl;have hfz4_0:=zP BK710.out 0)|((with_reducible refine gate_callee (f:=93) rfl ?_);refine goesL_ (some 5) rfl rfl Tryz.func93 (by kernel_rfl) rfl #[.int .i64 a0_0,.int .i64 0,.int .i64 4294967295] rfl ml ?_;(with_reducible refine(spec_l01In.calls a0_0 0 4294967295 t711 _ A2.out).mono ?_);rintro e w' ⟨rfl,⟨nd,rfl⟩⟩;refine⟨_,rfl,?_⟩));go_ret;exact⟨mr,mq⟩
mutual
def spec_l04Insert.l0:Nat→List ByteArray→ByteArray→List ByteArray→Int→Option (List ByteArray)
|0,_,_,_,_=>none
|k+1,x0,x1,x5,x6=>if x6 < (x0.length:Int) then (if 0≤x6 then (if (Op.bytesLess ((rdOf ByteArray.empty x0 x6).toList) x1.toList)=true then (if x5.length < 8796093022208 then (spec_l04Insert.l0 k x0 x1 (x5 ++ [rdOf ByteArray.empty x0 x6]) (wrap64 (x6+1))) else (none)) else (spec_l04Insert.l0 k x0 x1 x5 (wrap64 (x6+1)))) else (none)) else (if x5.length < 8796093022208 then (spec_l04Insert.l1 k x0 x1 (x5 ++ [x1]) 0) else (none))
def spec_l04Insert.l1:Nat→List ByteArray→ByteArray→List ByteArray→Int→Option (List ByteArray)
|0,_,_,_,_=>none
|k+1,x0,x1,x5,x7=>if x7 < (x0.length:Int) then (if 0≤x7 then (if ((Op.bytesLess ((rdOf ByteArray.empty x0 x7).toList) x1.toList)=true) then (spec_l04Insert.l1 k x0 x1 x5 (wrap64 (x7+1))) else (if x5.length < 8796093022208 then (spec_l04Insert.l1 k x0 x1 (x5 ++ [rdOf ByteArray.empty x0 x7]) (wrap64 (x7+1))) else (none))) else (none)) else (some x5)
end
def spec_l04Insert.f (k:Nat) (l0:List ByteArray) (a1:ByteArray):Option (List ByteArray):=spec_l04Insert.l0 k l0 a1 (([]:List ByteArray)) 0
theorem spec_l04Insert.calls (k:Nat) (A0:Option Addr) (c0:Nat) (l0:List ByteArray) (a1:ByteArray) (r:List ByteArray) (w:World) (hr0:Kd.C Kd.string w A0 l0.length l0) (hc0:l0.length≤c0) (h:spec_l04Insert.f k l0 a1=some r) :
  Calls Tryz.prog 118 #[.slice A0 l0.length c0,.string a1] w fun e w'=>∃ v0_:Value,e=.returned (v0_)∧Kd.R Kd.string 9 w' w.heap.size (fun _=>True) v0_ r∧Below w.heap.size w w':=by
 have HR0:=Aside0.mk hr0;have HC0:=Aside0.mk hc0;clear hr0 hc0;have HB:=Aside0.mk (Below.refl w.heap.size w);unfold spec_l04Insert.f at h;have H:=h;clear h;obtain⟨y724,hy724⟩:∃ y_:List ByteArray,y_=(([]:List ByteArray)):=⟨_,rfl⟩;rw[← hy724] at H;have Ny724:=Aside0.mk hy724;clear hy724;have H':=Aside0.mk H;clear H;go_enter Tryz.func118,Tryz.ntmps118;go_wp2_with (first|((with_reducible refine gate_dst (N:=8) rfl ?_);refine Kd.R_lit Kd.string _ 9 ?hg (N:=8) ?hd (xs:=([]:List ByteArray)) (inner:=[]) (ok:=fun _=>True) (okp:=fun _=>True) ?hr ?hp (fun _ hk=>hk) trivial (Below.refl _ _) (Nat.le_refl _) (by simp) ?_;(case hd=>rfl);(case hg=>rfl);(case hr=>first|(go_simp;done)|(go_simp;rfl));(case hp=>exact(Reps.none _ _));intro v725 w3 ho4 hb hg_ hnew_;clear hg_ hnew_;(first|rw[← Ny724.out] at ho4|(simp only [Int.reduceToNat] at ho4;rw[← Ny724.out] at ho4));have n0_:=Aside0.mk (Kd.R_lower ho4 (below_size mq));have n1_:=Aside0.mk (zN mq hb);clear HB;have HO726:=n0_;have HB:=n1_;clear n0_ n1_;clear hb ho4))
 go_loopg [5,6] k (fun kq v5 v6 w'=>∃ (x5_1:List ByteArray) (x6_1:Int),v6=.int .i64 x6_1∧Aside0 (spec_l04Insert.l0 kq l0 a1 x5_1 x6_1=some r)∧Aside0 (kq≤k)∧Aside0 (Kd.R Kd.string 9 w' w.heap.size (fun _=>True) v5 x5_1)∧Aside0 (Below w.heap.size w w'))
 case atStart=>exact⟨(y724),(0),mt,H',⟨Nat.le_refl _⟩,⟨by(with_reducible repeat(first|apply zE|apply zD|apply zF));exact HO726.out⟩,⟨mq⟩⟩
 case round =>
  clear H';obtain⟨x5_1,x6_1,rfl,HA,HK1,HO_5,HB⟩:=hrel;cases gk with
 |zero=>exact absurd HA.out (by simp[spec_l04Insert.l0])
 |succ k1 =>
   have H:=HA.out;clear HA;simp only [spec_l04Insert.l0] at H;by_cases c5:x6_1 < (l0.length:Int)
   ·rw[if_pos c5] at H
    have c5b0:decide (x6_1 < (l0.length:Int))=true:=decide_eq_true c5;clear c5;by_cases c6:0≤x6_1
    ·rw[if_pos c6] at H
     have c6b0:decide (0≤x6_1)=true:=decide_eq_true c6;clear c6;by_cases c7:(Op.bytesLess ((rdOf ByteArray.empty l0 x6_1).toList) a1.toList)=true
     ·rw[if_pos c7] at H
      have c7b0:(Op.bytesLess ((rdOf ByteArray.empty l0 x6_1).toList) a1.toList)=true:=c7;clear c7;by_cases c8:x5_1.length < 8796093022208
      ·rw[if_pos c8] at H
       have LMc8:=Aside0.mk c8;clear c8;obtain⟨y729,hy729⟩:∃ y_:List ByteArray,y_=(x5_1 ++ [rdOf ByteArray.empty l0 x6_1]):=⟨_,rfl⟩;rw[← hy729] at H;have Ny729:=Aside0.mk hy729;clear hy729;have H':=Aside0.mk H;clear H;have p727:0≤(x6_1:Int):=mo;have q727:x6_1 < (l0.length:Int):=mo;obtain⟨ad727,e727,hx727_0⟩:=Kd.at_string HR0.out x6_1 p727 q727;cases e727;replace hx727_0:=zc11 HB.out hx727_0;replace p727:=eq_true p727;replace q727:=eq_true q727;have p728:0≤(x6_1:Int):=mo;have q728:x6_1 < (l0.length:Int):=mo;obtain⟨ad728,e728,hx728_0⟩:=Kd.at_string HR0.out x6_1 p728 q728;obtain rfl:ad727=ad728:=(by injection e728);replace hx728_0:=zc11 HB.out hx728_0;replace p728:=eq_true p728;replace q728:=eq_true q728;go_wp2_with (first|((with_reducible refine gate_builtin (b:=.append) (xs:=#[.tmp 21,.tmp 26]) rfl ?_);at_builtin;refine Kd.R_append Kd.string (w0:=w) w.heap.size rfl (.tmp 21) (.tmp 26) 28 9 (.string ⟨#[]⟩) 16 rfl Tryz.underlying28 info9 rfl (by decide) (by omega) u5 x5_1 (rdOf ByteArray.empty l0 x6_1) [.string (rdOf ByteArray.empty l0 x6_1)] (fun _=>True) (fun _=>False) rfl rfl ?aP (fun _ hk=>hk.elim) ?aF ?aO ?aB ?aS ?aL ?_;(case aP=>exact rfl);(case aB=>exact mq);(case aF=>exact(fun _ _=>trivial));(case aO=>exact(me HO_5.out));(case aS=>exact(below_size mq));(case aL=>have:=LMc8.out;omega);intro v730 w9 ho hb hg hat;rw[← Ny729.out] at ho;have n0_:=Aside0.mk (hb);have n1_:=Aside0.mk (ho);clear HB;clear HO_5;have HB:=n0_;have HO731:=n1_;clear n0_ n1_;clear ho hb hg hat))
       go_roundg k1
       case measure=>have:=HK1.out;omega
       case rel=>exact⟨(y729),(wrap64 (x6_1+1)),mt,H',⟨by have:=HK1.out;omega⟩,⟨by(with_reducible repeat(first|apply zE|apply zD|apply zF));exact HO731.out⟩,⟨mq⟩⟩
      ·rw[if_neg c8] at H
       exact absurd H (by simp)
     ·rw[if_neg c7] at H
      have c7b0:(Op.bytesLess ((rdOf ByteArray.empty l0 x6_1).toList) a1.toList)=false:=by simpa using c7
      clear c7;have H':=Aside0.mk H;clear H;have p727:0≤(x6_1:Int):=mo;have q727:x6_1 < (l0.length:Int):=mo;obtain⟨ad727,e727,hx727_0⟩:=Kd.at_string HR0.out x6_1 p727 q727;cases e727;replace hx727_0:=zc11 HB.out hx727_0;replace p727:=eq_true p727;replace q727:=eq_true q727;go_wp2
      go_roundg k1
      case measure=>have:=HK1.out;omega
      case rel=>exact⟨(x5_1),(wrap64 (x6_1+1)),mt,H',⟨by have:=HK1.out;omega⟩,⟨by(with_reducible repeat(first|apply zE|apply zD|apply zF));exact HO_5.out⟩,⟨mq⟩⟩
    ·rw[if_neg c6] at H
     exact absurd H (by simp)
   ·rw[if_neg c5] at H
    have c5b0:decide (x6_1 < (l0.length:Int))=false:=decide_eq_false c5;clear c5;by_cases c10:x5_1.length < 8796093022208
    ·rw[if_pos c10] at H
     have LMc10:=Aside0.mk c10;clear c10;obtain⟨y732,hy732⟩:∃ y_:List ByteArray,y_=(x5_1 ++ [a1]):=⟨_,rfl⟩;rw[← hy732] at H;have Ny732:=Aside0.mk hy732;clear hy732;have H':=Aside0.mk H;clear H;go_wp2_with (first|((with_reducible refine gate_builtin (b:=.append) (xs:=#[.tmp 28,.tmp 30]) rfl ?_);at_builtin;refine Kd.R_append Kd.string (w0:=w) w.heap.size rfl (.tmp 28) (.tmp 30) 28 9 (.string ⟨#[]⟩) 16 rfl Tryz.underlying28 info9 rfl (by decide) (by omega) u5 x5_1 a1 [.string a1] (fun _=>True) (fun _=>False) rfl rfl ?aP (fun _ hk=>hk.elim) ?aF ?aO ?aB ?aS ?aL ?_;(case aP=>exact rfl);(case aB=>exact mq);(case aF=>exact(fun _ _=>trivial));(case aO=>exact(me HO_5.out));(case aS=>exact(below_size mq));(case aL=>have:=LMc10.out;omega);intro v733 w11 ho hb hg hat;rw[← Ny732.out] at ho;have n0_:=Aside0.mk (hb);have n1_:=Aside0.mk (ho);clear HB;clear HO_5;have HB:=n0_;have HO734:=n1_;clear n0_ n1_;clear ho hb hg hat))
     go_loopg [5,7] k1 (fun kq v5 v7 w'=>∃ (x5_2:List ByteArray) (x7_2:Int),v7=.int .i64 x7_2∧Aside0 (spec_l04Insert.l1 kq l0 a1 x5_2 x7_2=some r)∧Aside0 (kq≤k1)∧Aside0 (Kd.R Kd.string 9 w' w.heap.size (fun _=>True) v5 x5_2)∧Aside0 (Below w.heap.size w w'))
     case atStart=>exact⟨(y732),(0),mt,H',⟨Nat.le_refl _⟩,⟨by(with_reducible repeat(first|apply zE|apply zD|apply zF));exact HO734.out⟩,⟨mq⟩⟩
     case round =>
      clear H';obtain⟨x5_2,x7_2,rfl,HA,HK2,HO_5,HB⟩:=hrel;cases gk with
     |zero=>exact absurd HA.out (by simp[spec_l04Insert.l1])
     |succ k2 =>
       have H:=HA.out;clear HA;simp only [spec_l04Insert.l1] at H;by_cases c12:x7_2 < (l0.length:Int)
       ·rw[if_pos c12] at H
        have c12b0:decide (x7_2 < (l0.length:Int))=true:=decide_eq_true c12;clear c12;by_cases c13:0≤x7_2
        ·rw[if_pos c13] at H
         have c13b0:decide (0≤x7_2)=true:=decide_eq_true c13;clear c13;by_cases c14:((Op.bytesLess ((rdOf ByteArray.empty l0 x7_2).toList) a1.toList)=true)
         ·rw[if_pos c14] at H
          have c14b0:(Op.bytesLess ((rdOf ByteArray.empty l0 x7_2).toList) a1.toList)=true:=c14;clear c14;have H':=Aside0.mk H;clear H;have p735:0≤(x7_2:Int):=mo;have q735:x7_2 < (l0.length:Int):=mo;obtain⟨ad735,e735,hx735_0⟩:=Kd.at_string HR0.out x7_2 p735 q735;cases e735;replace hx735_0:=zc11 HB.out hx735_0;replace p735:=eq_true p735;replace q735:=eq_true q735;go_wp2
          go_roundg k2
          case measure=>have:=HK1.out;have:=HK2.out;omega
          case rel=>exact⟨(x5_2),(wrap64 (x7_2+1)),mt,H',⟨by have:=HK1.out;have:=HK2.out;omega⟩,⟨by(with_reducible repeat(first|apply zE|apply zD|apply zF));exact HO_5.out⟩,⟨mq⟩⟩
         ·rw[if_neg c14] at H
          have c14b0:(Op.bytesLess ((rdOf ByteArray.empty l0 x7_2).toList) a1.toList)=false:=by simpa using c14
          clear c14;by_cases c15:x5_2.length < 8796093022208
          ·rw[if_pos c15] at H
           have LMc15:=Aside0.mk c15;clear c15;obtain⟨y737,hy737⟩:∃ y_:List ByteArray,y_=(x5_2 ++ [rdOf ByteArray.empty l0 x7_2]):=⟨_,rfl⟩;rw[← hy737] at H;have Ny737:=Aside0.mk hy737;clear hy737;have H':=Aside0.mk H;clear H;have p735:0≤(x7_2:Int):=mo;have q735:x7_2 < (l0.length:Int):=mo;obtain⟨ad735,e735,hx735_0⟩:=Kd.at_string HR0.out x7_2 p735 q735;cases e735;replace hx735_0:=zc11 HB.out hx735_0;replace p735:=eq_true p735;replace q735:=eq_true q735;have p736:0≤(x7_2:Int):=mo;have q736:x7_2 < (l0.length:Int):=mo;obtain⟨ad736,e736,hx736_0⟩:=Kd.at_string HR0.out x7_2 p736 q736;obtain rfl:ad735=ad736:=(by injection e736);replace hx736_0:=zc11 HB.out hx736_0;replace p736:=eq_true p736;replace q736:=eq_true q736;go_wp2_with (first|((with_reducible refine gate_builtin (b:=.append) (xs:=#[.tmp 44,.tmp 49]) rfl ?_);at_builtin;refine Kd.R_append Kd.string (w0:=w) w.heap.size rfl (.tmp 44) (.tmp 49) 28 9 (.string ⟨#[]⟩) 16 rfl Tryz.underlying28 info9 rfl (by decide) (by omega) u5 x5_2 (rdOf ByteArray.empty l0 x7_2) [.string (rdOf ByteArray.empty l0 x7_2)] (fun _=>True) (fun _=>False) rfl rfl ?aP (fun _ hk=>hk.elim) ?aF ?aO ?aB ?aS ?aL ?_;(case aP=>exact rfl);(case aB=>exact mq);(case aF=>exact(fun _ _=>trivial));(case aO=>exact(me HO_5.out));(case aS=>exact(below_size mq));(case aL=>have:=LMc15.out;omega);intro v738 w16 ho hb hg hat;rw[← Ny737.out] at ho;have n0_:=Aside0.mk (hb);have n1_:=Aside0.mk (ho);clear HB;clear HO_5;have HB:=n0_;have HO739:=n1_;clear n0_ n1_;clear ho hb hg hat))
           go_roundg k2
           case measure=>have:=HK1.out;have:=HK2.out;omega
           case rel=>exact⟨(y737),(wrap64 (x7_2+1)),mt,H',⟨by have:=HK1.out;have:=HK2.out;omega⟩,⟨by(with_reducible repeat(first|apply zE|apply zD|apply zF));exact HO739.out⟩,⟨mq⟩⟩
          ·rw[if_neg c15] at H
           exact absurd H (by simp)
        ·rw[if_neg c13] at H
         exact absurd H (by simp)
       ·rw[if_neg c12] at H
        have c12b0:decide (x7_2 < (l0.length:Int))=false:=decide_eq_false c12;clear c12;obtain rfl:=Option.some.inj H;go_wp2
        go_ret;exact⟨_,mr,by(with_reducible repeat(first|apply zE|apply zD|apply zF));exact HO_5.out,mq⟩
    ·rw[if_neg c10] at H
     exact absurd H (by simp)
mutual
def spec_KeysOf.l0:Nat→List ByteArray→Int→List (S151)→List (S151)→Int→Option (List ByteArray)
|0,_,_,_,_,_=>none
|k+1,x3,x4,x757000,x757001,x757002=>if x4 < (x757000.length:Int) then (if 0≤x4 then (if ((rd_T151 x757000 x4).f0).toList=([]:List UInt8) then (spec_KeysOf.l0 k x3 (wrap64 (x4+1)) x757000 x757001 x757002) else ((spec_l04Insert.f k x3 ((rd_T151 x757000 x4).f0)).bind fun t763=>(spec_KeysOf.l0 k t763 (wrap64 (x4+1)) x757000 x757001 x757002))) else (none)) else (spec_KeysOf.l1 k x3 0 x757000 x757001 x757002)
def spec_KeysOf.l1:Nat→List ByteArray→Int→List (S151)→List (S151)→Int→Option (List ByteArray)
|0,_,_,_,_,_=>none
|k+1,x3,x5,x757000,x757001,x757002=>if x5 < (x757001.length:Int) then (if 0≤x5 then (if ((rd_T151 x757001 x5).f0).toList=([]:List UInt8) then (spec_KeysOf.l1 k x3 (wrap64 (x5+1)) x757000 x757001 x757002) else ((spec_l04Insert.f k x3 ((rd_T151 x757001 x5).f0)).bind fun t768=>(spec_KeysOf.l1 k t768 (wrap64 (x5+1)) x757000 x757001 x757002))) else (none)) else (some x3)
end
def spec_KeysOf.f (k:Nat) (l0_0:List (S151)) (l0_1:List (S151)) (a0_2:Int):Option (List ByteArray):=(some (([]:List ByteArray):List ByteArray)).bind fun y757=>((spec_TableOk.f k l0_0 l0_1 a0_2).bind fun t760=>(if t760=true then (spec_KeysOf.l0 k y757 0 l0_0 l0_1 a0_2) else (some y757)))
theorem spec_KeysOf.calls (k:Nat) (A0_0:Option Addr) (c0_0:Nat) (l0_0:List (S151)) (A0_1:Option Addr) (c0_1:Nat) (l0_1:List (S151)) (a0_2:Int) (r:List ByteArray) (w:World) (hr0_0:Kd.C k151 w A0_0 l0_0.length l0_0) (hc0_0:l0_0.length≤c0_0) (hr0_1:Kd.C k151 w A0_1 l0_1.length l0_1) (hc0_1:l0_1.length≤c0_1) (h:spec_KeysOf.f k l0_0 l0_1 a0_2=some r) :
  Calls Tryz.prog 42 #[.agg #[.slice A0_0 l0_0.length c0_0,.slice A0_1 l0_1.length c0_1,.int .i64 a0_2]] w fun e w'=>∃ v0_:Value,e=.returned (v0_)∧Kd.R Kd.string 9 w' w.heap.size (fun _=>True) v0_ r∧Below w.heap.size w w':=by
 have hu45:=Tryz.underlying45;have HR0_0:=Aside0.mk hr0_0;have HC0_0:=Aside0.mk hc0_0;clear hr0_0 hc0_0;have HR0_1:=Aside0.mk hr0_1;have HC0_1:=Aside0.mk hc0_1;clear hr0_1 hc0_1;have HB:=Aside0.mk (Below.refl w.heap.size w);unfold spec_KeysOf.f at h;have H:=h;clear h;obtain⟨y757,hy757⟩:∃ y_:List ByteArray,y_=(([]:List ByteArray)):=⟨_,rfl⟩;replace H:((spec_TableOk.f k l0_0 l0_1 a0_2).bind fun t760=>(if t760=true then (spec_KeysOf.l0 k y757 0 l0_0 l0_1 a0_2) else (some y757)))=some r:=by first|(rw[hy757];with_reducible exact H)|(have H2_:=(Option.bind_some _ _).symm.trans H;rw[hy757];with_reducible exact H2_)|(have H2_:=(Option.bind_some _ _).symm.trans H;with_reducible exact H2_)|with_reducible exact H|(rw[hy757];exact H)|exact H
 have Ny757:=Aside0.mk hy757;clear hy757;replace H:=Option.bind_eq_some_iff.mp H;obtain⟨t760,A20,H⟩:=H;replace H:(if t760=true then (spec_KeysOf.l0 k y757 0 l0_0 l0_1 a0_2) else (some y757))=some r:=H;have A2:=Aside0.mk A20;clear A20;go_enter Tryz.func42,Tryz.ntmps42;go_wp2_with (first|((with_reducible refine gate_dst (N:=1) rfl ?_);refine yE (N:=1) (cs:=#[.slice A0_0 l0_0.length c0_0,.slice A0_1 l0_1.length c0_1,.int .i64 a0_2]) (t:=45) fun gb756 hg w4 hbox hb=>?_;obtain⟨n0_,n2_⟩:=yX (w:=w) hg hb mq;have n1_:=Aside0.mk (hbox);have n3_:=n2_;clear HB;have HB:=n0_;have BK756:=n1_;have GW756:=n2_;have GE756:=n3_;clear n0_ n1_ n2_ n3_;clear hb hbox hg)|((with_reducible refine gate_dst (N:=6) rfl ?_);refine Kd.R_lit Kd.string _ 9 ?hg (N:=6) ?hd (xs:=([]:List ByteArray)) (inner:=[]) (ok:=fun _=>True) (okp:=fun _=>True) ?hr ?hp (fun _ hk=>hk) trivial (Below.refl _ _) (Nat.le_refl _) (by simp) ?_;(case hd=>rfl);(case hg=>rfl);(case hr=>first|(go_simp;done)|(go_simp;rfl));(case hp=>exact(Reps.none _ _));intro v758 w5 ho6 hb hg_ hnew_;clear hg_ hnew_;(first|rw[← Ny757.out] at ho6|(simp only [Int.reduceToNat] at ho6;rw[← Ny757.out] at ho6));have n0_:=Aside0.mk (Kd.R_lower ho6 (below_size mq));have n1_:=Aside0.mk (zK (mz BK756.out) hb);have n2_:=Aside0.mk (zN mq hb);clear BK756;clear HB;have HO759:=n0_;have BK756:=n1_;have HB:=n2_;clear n0_ n1_ n2_;clear hb ho6;obtain⟨hcz7_0,hcz7_1,hcz7_2,hfz7_0,hfz7_1,hfz7_2⟩:=zb3 BK756.out)|((with_reducible refine gate_callee (f:=114) rfl ?_);refine goesL_ (some 8) rfl rfl Tryz.func114 (by kernel_rfl) rfl #[.agg #[.slice A0_0 l0_0.length c0_0,.slice A0_1 l0_1.length c0_1,.int .i64 a0_2]] rfl ml ?_;(with_reducible refine(spec_TableOk.calls k _ _ l0_0 _ _ l0_1 a0_2 t760 _ ?side1 ?side2 ?side3 ?side4 A2.out).mono ?_);(case side1=>exact mc HR0_0.out);(case side2=>exact HC0_0.out);(case side3=>exact mc HR0_1.out);(case side4=>exact HC0_1.out);rintro e w8 ⟨rfl,hb⟩;refine⟨_,rfl,?_⟩;have n0_:=Aside0.mk (zM (me HO759.out) hb);have n1_:=Aside0.mk (zK (mz BK756.out) hb);have n2_:=Aside0.mk (zN mq hb);clear HO759;clear BK756;clear HB;have HO759:=n0_;have BK756:=n1_;have HB:=n2_;clear n0_ n1_ n2_;(try clear hb);(try clear hb2);(try clear hk);(try clear hi);(refine Classical.byCases (p:=(t760=true)) (fun c3=>?zp73) (fun c3=>?zn73);(case' zn73=>(replace c3:=Bool.eq_false_iff.mpr c3);(subst c3);(have H1:(some y757)=some r:=by rw[if_neg (show ¬ (false=true) by decide)] at H;exact H);(clear H);(have H:=H1);(clear H1);(obtain rfl:=Option.some.inj H));(case' zp73=>(subst c3);(have H1:(spec_KeysOf.l0 k y757 0 l0_0 l0_1 a0_2)=some r:=by rw[if_pos rfl] at H;exact H);(clear H);(have H:=H1);(clear H1);(have H':=Aside0.mk H);(clear H)))))
 ·go_loopg [3,4] k (fun kq v3 v4 w'=>∃ (x3_1:List ByteArray) (x4_1:Int),v4=.int .i64 x4_1∧Aside0 (spec_KeysOf.l0 kq x3_1 x4_1 l0_0 l0_1 a0_2=some r)∧Aside0 (kq≤k)∧Aside0 (Kd.R Kd.string 9 w' w.heap.size (fun _=>True) v3 x3_1)∧Aside0 (w'.heap[gb756]? = some (.cells #[(.slice A0_0 l0_0.length c0_0),(.slice A0_1 l0_1.length c0_1),.int .i64 a0_2] 45 (0,0)))∧Aside0 (Below w.heap.size w w'))
  case atStart=>exact⟨(y757),(0),mt,H',⟨Nat.le_refl _⟩,⟨by(with_reducible repeat(first|apply zE|apply zD|apply zF));exact HO759.out⟩,⟨mz BK756.out⟩,⟨mq⟩⟩
  case round =>
   clear H';obtain⟨x3_1,x4_1,rfl,HA,HK1,HO_3,BK756,HB⟩:=hrel;cases gk with
  |zero=>exact absurd HA.out (by simp[spec_KeysOf.l0])
  |succ k1 =>
    have H:=HA.out;clear HA;simp only [spec_KeysOf.l0] at H;by_cases c9:x4_1 < (l0_0.length:Int)
    ·rw[if_pos c9] at H
     have c9b0:decide (x4_1 < (l0_0.length:Int))=true:=decide_eq_true c9;clear c9;by_cases c10:0≤x4_1
     ·rw[if_pos c10] at H
      have c10b0:decide (0≤x4_1)=true:=decide_eq_true c10;clear c10;by_cases c11:((rd_T151 l0_0 x4_1).f0).toList=([]:List UInt8)
      ·rw[if_pos c11] at H
       have c11b0:(((rd_T151 l0_0 x4_1).f0).toList == ([]:List UInt8))=true:=beq_iff_eq.mpr c11;have c11b1:(((rd_T151 l0_0 x4_1).f0).toList != ([]:List UInt8))=false:=bne_eq_false_iff_eq.mpr c11;clear c11;have H':=Aside0.mk H;clear H;obtain⟨hcz12_0,hcz12_1,hcz12_2,hfz12_0,hfz12_1,hfz12_2⟩:=zb3 BK756.out;have p761:0≤(x4_1:Int):=mo;have q761:x4_1 < (l0_0.length:Int):=mo;obtain⟨ad761,e761,hx761_0,hx761_1⟩:=at_T151 (Kd.C_below HR0_0.out HB.out) x4_1 p761 q761;cases e761;replace p761:=eq_true p761;replace q761:=eq_true q761;go_wp2
       go_roundg k1
       case measure=>have:=HK1.out;omega
       case rel=>exact⟨(x3_1),(wrap64 (x4_1+1)),mt,H',⟨by have:=HK1.out;omega⟩,⟨by(with_reducible repeat(first|apply zE|apply zD|apply zF));exact HO_3.out⟩,⟨mz BK756.out⟩,⟨mq⟩⟩
      ·rw[if_neg c11] at H
       have c11b0:(((rd_T151 l0_0 x4_1).f0).toList == ([]:List UInt8))=false:=beq_eq_false_iff_ne.mpr c11;have c11b1:(((rd_T151 l0_0 x4_1).f0).toList != ([]:List UInt8))=true:=bne_iff_ne.mpr c11;replace H:=Option.bind_eq_some_iff.mp H;obtain⟨t763,A130,H⟩:=H;replace H:(spec_KeysOf.l0 k1 t763 (wrap64 (x4_1+1)) l0_0 l0_1 a0_2)=some r:=H;have A13:=Aside0.mk A130;clear A130;have H':=Aside0.mk H;clear H;obtain⟨hcz14_0,hcz14_1,hcz14_2,hfz14_0,hfz14_1,hfz14_2⟩:=zb3 BK756.out;have p761:0≤(x4_1:Int):=mo;have q761:x4_1 < (l0_0.length:Int):=mo;obtain⟨ad761,e761,hx761_0,hx761_1⟩:=at_T151 (Kd.C_below HR0_0.out HB.out) x4_1 p761 q761;cases e761;replace p761:=eq_true p761;replace q761:=eq_true q761;have p762:0≤(x4_1:Int):=mo;have q762:x4_1 < (l0_0.length:Int):=mo;obtain⟨ad762,e762,hx762_0,hx762_1⟩:=at_T151 HR0_0.out x4_1 p762 q762;obtain rfl:ad761=ad762:=(by injection e762);replace hx762_0:=zc11 HB.out hx762_0;replace hx762_1:=zc11 HB.out hx762_1;replace p762:=eq_true p762;replace q762:=eq_true q762;obtain⟨Ao15,co15,eo15⟩:=Kd.R_slice HO_3.out;subst eo15;go_wp2_with (first|((with_reducible refine gate_callee (f:=118) rfl ?_);refine goesL_ (some 32) rfl rfl Tryz.func118 (by kernel_rfl) rfl #[.slice Ao15 x3_1.length co15,.string ((rd_T151 l0_0 x4_1).f0)] rfl ml ?_;(with_reducible refine(spec_l04Insert.calls k1 _ _ x3_1 ((rd_T151 l0_0 x4_1).f0) t763 _ ?side1 ?side2 A13.out).mono ?_);(case side1=>repeat(first|exact(Kd.R_reads' HO_3.out).2.2|(with_reducible refine Kd.C_alloc ?_ _)|(with_reducible refine Kd.C_drewN ?_ _)|(with_reducible refine Kd.C_drew ?_)));(case side2=>exact(Kd.R_reads' HO_3.out).2.1);rintro e w16 ⟨v764,rfl,ho0,hb⟩;refine⟨_,rfl,?_⟩;have n0_:=Aside0.mk (Kd.R_elder' (me HO_3.out) (Kd.R_base ho0) hb);have n1_:=Aside0.mk (Kd.R_lower (Kd.R_new' ho0 (Kd.R_lt (me HO_3.out))) (below_size mq));have n2_:=Aside0.mk (zK (mz BK756.out) hb);have n3_:=Aside0.mk (zN mq hb);clear HO_3;clear BK756;clear HB;have HO_3:=n0_;have HO765:=n1_;have BK756:=n2_;have HB:=n3_;clear n0_ n1_ n2_ n3_;(try clear hb);(try clear hb2);(try clear hk);(try clear hi);(try clear ho0)))
       go_roundg k1
       case measure=>have:=HK1.out;omega
       case rel=>exact⟨(t763),(wrap64 (x4_1+1)),mt,H',⟨by have:=HK1.out;omega⟩,⟨by(with_reducible repeat(first|apply zE|apply zD|apply zF));exact zR HO765.out (fun _ hk=>trivial)⟩,⟨mz BK756.out⟩,⟨mq⟩⟩
     ·rw[if_neg c10] at H
      exact absurd H (by simp)
    ·rw[if_neg c9] at H
     have c9b0:decide (x4_1 < (l0_0.length:Int))=false:=decide_eq_false c9;clear c9;have H':=Aside0.mk H;clear H;obtain⟨hcz17_0,hcz17_1,hcz17_2,hfz17_0,hfz17_1,hfz17_2⟩:=zb3 BK756.out;go_wp2
     go_loopg [3,5] k1 (fun kq v3 v5 w'=>∃ (x3_2:List ByteArray) (x5_2:Int),v5=.int .i64 x5_2∧Aside0 (spec_KeysOf.l1 kq x3_2 x5_2 l0_0 l0_1 a0_2=some r)∧Aside0 (kq≤k1)∧Aside0 (Kd.R Kd.string 9 w' w.heap.size (fun _=>True) v3 x3_2)∧Aside0 (w'.heap[gb756]? = some (.cells #[(.slice A0_0 l0_0.length c0_0),(.slice A0_1 l0_1.length c0_1),.int .i64 a0_2] 45 (0,0)))∧Aside0 (Below w.heap.size w w'))
     case atStart=>exact⟨(x3_1),(0),mt,H',⟨Nat.le_refl _⟩,⟨by(with_reducible repeat(first|apply zE|apply zD|apply zF));exact HO_3.out⟩,⟨mz BK756.out⟩,⟨mq⟩⟩
     case round =>
      clear H';obtain⟨x3_2,x5_2,rfl,HA,HK2,HO_3,BK756,HB⟩:=hrel;cases gk with
     |zero=>exact absurd HA.out (by simp[spec_KeysOf.l1])
     |succ k2 =>
       have H:=HA.out;clear HA;simp only [spec_KeysOf.l1] at H;by_cases c18:x5_2 < (l0_1.length:Int)
       ·rw[if_pos c18] at H
        have c18b0:decide (x5_2 < (l0_1.length:Int))=true:=decide_eq_true c18;clear c18;by_cases c19:0≤x5_2
        ·rw[if_pos c19] at H
         have c19b0:decide (0≤x5_2)=true:=decide_eq_true c19;clear c19;by_cases c20:((rd_T151 l0_1 x5_2).f0).toList=([]:List UInt8)
         ·rw[if_pos c20] at H
          have c20b0:(((rd_T151 l0_1 x5_2).f0).toList == ([]:List UInt8))=true:=beq_iff_eq.mpr c20;have c20b1:(((rd_T151 l0_1 x5_2).f0).toList != ([]:List UInt8))=false:=bne_eq_false_iff_eq.mpr c20;clear c20;have H':=Aside0.mk H;clear H;obtain⟨hcz21_0,hcz21_1,hcz21_2,hfz21_0,hfz21_1,hfz21_2⟩:=zb3 BK756.out;have p766:0≤(x5_2:Int):=mo;have q766:x5_2 < (l0_1.length:Int):=mo;obtain⟨ad766,e766,hx766_0,hx766_1⟩:=at_T151 (Kd.C_below HR0_1.out HB.out) x5_2 p766 q766;cases e766;replace p766:=eq_true p766;replace q766:=eq_true q766;go_wp2
          go_roundg k2
          case measure=>have:=HK1.out;have:=HK2.out;omega
          case rel=>exact⟨(x3_2),(wrap64 (x5_2+1)),mt,H',⟨by have:=HK1.out;have:=HK2.out;omega⟩,⟨by(with_reducible repeat(first|apply zE|apply zD|apply zF));exact HO_3.out⟩,⟨mz BK756.out⟩,⟨mq⟩⟩
         ·rw[if_neg c20] at H
          have c20b0:(((rd_T151 l0_1 x5_2).f0).toList == ([]:List UInt8))=false:=beq_eq_false_iff_ne.mpr c20;have c20b1:(((rd_T151 l0_1 x5_2).f0).toList != ([]:List UInt8))=true:=bne_iff_ne.mpr c20;replace H:=Option.bind_eq_some_iff.mp H;obtain⟨t768,A220,H⟩:=H;replace H:(spec_KeysOf.l1 k2 t768 (wrap64 (x5_2+1)) l0_0 l0_1 a0_2)=some r:=H;have A22:=Aside0.mk A220;clear A220;have H':=Aside0.mk H;clear H;obtain⟨hcz23_0,hcz23_1,hcz23_2,hfz23_0,hfz23_1,hfz23_2⟩:=zb3 BK756.out;have p766:0≤(x5_2:Int):=mo;have q766:x5_2 < (l0_1.length:Int):=mo;obtain⟨ad766,e766,hx766_0,hx766_1⟩:=at_T151 (Kd.C_below HR0_1.out HB.out) x5_2 p766 q766;cases e766;replace p766:=eq_true p766;replace q766:=eq_true q766;have p767:0≤(x5_2:Int):=mo;have q767:x5_2 < (l0_1.length:Int):=mo;obtain⟨ad767,e767,hx767_0,hx767_1⟩:=at_T151 HR0_1.out x5_2 p767 q767;obtain rfl:ad766=ad767:=(by injection e767);replace hx767_0:=zc11 HB.out hx767_0;replace hx767_1:=zc11 HB.out hx767_1;replace p767:=eq_true p767;replace q767:=eq_true q767;obtain⟨Ao24,co24,eo24⟩:=Kd.R_slice HO_3.out;subst eo24;go_wp2_with (first|((with_reducible refine gate_callee (f:=118) rfl ?_);refine goesL_ (some 54) rfl rfl Tryz.func118 (by kernel_rfl) rfl #[.slice Ao24 x3_2.length co24,.string ((rd_T151 l0_1 x5_2).f0)] rfl ml ?_;(with_reducible refine(spec_l04Insert.calls k2 _ _ x3_2 ((rd_T151 l0_1 x5_2).f0) t768 _ ?side1 ?side2 A22.out).mono ?_);(case side1=>repeat(first|exact(Kd.R_reads' HO_3.out).2.2|(with_reducible refine Kd.C_alloc ?_ _)|(with_reducible refine Kd.C_drewN ?_ _)|(with_reducible refine Kd.C_drew ?_)));(case side2=>exact(Kd.R_reads' HO_3.out).2.1);rintro e w25 ⟨v769,rfl,ho0,hb⟩;refine⟨_,rfl,?_⟩;have n0_:=Aside0.mk (Kd.R_elder' (me HO_3.out) (Kd.R_base ho0) hb);have n1_:=Aside0.mk (Kd.R_lower (Kd.R_new' ho0 (Kd.R_lt (me HO_3.out))) (below_size mq));have n2_:=Aside0.mk (zK (mz BK756.out) hb);have n3_:=Aside0.mk (zN mq hb);clear HO_3;clear BK756;clear HB;have HO_3:=n0_;have HO770:=n1_;have BK756:=n2_;have HB:=n3_;clear n0_ n1_ n2_ n3_;(try clear hb);(try clear hb2);(try clear hk);(try clear hi);(try clear ho0)))
          go_roundg k2
          case measure=>have:=HK1.out;have:=HK2.out;omega
          case rel=>exact⟨(t768),(wrap64 (x5_2+1)),mt,H',⟨by have:=HK1.out;have:=HK2.out;omega⟩,⟨by(with_reducible repeat(first|apply zE|apply zD|apply zF));exact zR HO770.out (fun _ hk=>trivial)⟩,⟨mz BK756.out⟩,⟨mq⟩⟩
        ·rw[if_neg c19] at H
         exact absurd H (by simp)
       ·rw[if_neg c18] at H
        have c18b0:decide (x5_2 < (l0_1.length:Int))=false:=decide_eq_false c18;clear c18;obtain rfl:=Option.some.inj H;obtain⟨hcz26_0,hcz26_1,hcz26_2,hfz26_0,hfz26_1,hfz26_2⟩:=zb3 BK756.out;go_wp2
        go_ret;exact⟨_,mr,by(with_reducible repeat(first|apply zE|apply zD|apply zF));exact HO_3.out,mq⟩
 ·go_ret
  exact⟨_,mr,by(with_reducible repeat(first|apply zE|apply zD|apply zF));exact HO759.out,mq⟩
mutual
def spec_UsedOf.l0:Nat→Int→Int→List (S94)→Int→Option (Int)
|0,_,_,_,_=>none
|k+1,x3,x4,x772000,x772001=>if x4 < (x772000.length:Int) then ((spec_ArenaOk.f k x772000 x772001).bind fun t772=>(spec_UsedOf.j1 k x3 x4 t772 x772000 x772001)) else (spec_UsedOf.j1 k x3 x4 false x772000 x772001)
def spec_UsedOf.j1:Nat→Int→Int→Bool→List (S94)→Int→Option (Int)
|0,_,_,_,_,_=>none
|k+1,x3,x4,x13,x772000,x772001=>if x13=true then (if 0≤x4 then (if x4 < (x772000.length:Int) then (if (rd_T94 x772000 x4).f1=true then (spec_UsedOf.l0 k (wrap64 (x3+1)) (wrap64 (x4+1)) x772000 x772001) else (spec_UsedOf.l0 k x3 (wrap64 (x4+1)) x772000 x772001)) else (none)) else (none)) else (some x3)
end
def spec_UsedOf.f (k:Nat) (l0_0:List (S94)) (a0_1:Int):Option (Int):=spec_UsedOf.l0 k 0 0 l0_0 a0_1
theorem spec_UsedOf.calls (k:Nat) (A0_0:Option Addr) (c0_0:Nat) (l0_0:List (S94)) (a0_1:Int) (r:Int) (w:World) (hr0_0:Kd.C k94 w A0_0 l0_0.length l0_0) (hc0_0:l0_0.length≤c0_0) (h:spec_UsedOf.f k l0_0 a0_1=some r) :
  Calls Tryz.prog 43 #[.agg #[.slice A0_0 l0_0.length c0_0,.int .i64 a0_1]] w fun e w'=>e=.returned (.int .i64 r)∧Below w.heap.size w w':=by
 have hu42:=Tryz.underlying42;have HR0_0:=Aside0.mk hr0_0;have HC0_0:=Aside0.mk hc0_0;clear hr0_0 hc0_0;have HB:=Aside0.mk (Below.refl w.heap.size w);unfold spec_UsedOf.f at h;have H:=h;clear h;have H':=Aside0.mk H;clear H;go_enter Tryz.func43,Tryz.ntmps43;go_wp2_with (first|((with_reducible refine gate_dst (N:=1) rfl ?_);refine yE (N:=1) (cs:=#[.slice A0_0 l0_0.length c0_0,.int .i64 a0_1]) (t:=42) fun gb771 hg w2 hbox hb=>?_;obtain⟨n0_,n2_⟩:=yX (w:=w) hg hb mq;have n1_:=Aside0.mk (hbox);have n3_:=n2_;clear HB;have HB:=n0_;have BK771:=n1_;have GW771:=n2_;have GE771:=n3_;clear n0_ n1_ n2_ n3_;clear hb hbox hg))
 go_loopg [3,4] k (fun kq v3 v4 w'=>∃ (x3_1:Int) (x4_1:Int),v3=.int .i64 x3_1∧v4=.int .i64 x4_1∧Aside0 (spec_UsedOf.l0 kq x3_1 x4_1 l0_0 a0_1=some r)∧Aside0 (kq≤k)∧Aside0 (w'.heap[gb771]? = some (.cells #[(.slice A0_0 l0_0.length c0_0),.int .i64 a0_1] 42 (0,0)))∧Aside0 (Below w.heap.size w w'))
 case atStart=>exact⟨(0),(0),mt,mt,H',⟨Nat.le_refl _⟩,⟨mz BK771.out⟩,⟨mq⟩⟩
 case round =>
  clear H';obtain⟨x3_1,x4_1,rfl,rfl,HA,HK1,BK771,HB⟩:=hrel;cases gk with
 |zero=>exact absurd HA.out (by simp[spec_UsedOf.l0])
 |succ k1 =>
   have H:=HA.out;clear HA;simp only [spec_UsedOf.l0] at H;have HC3:=Aside0.mk H;clear H;go_upto_region 3 with (fail);go_cut [13] (fun v13 wc=>∃ (kq:Nat) (x13_2:Bool),v13=.bool x13_2∧Aside0 (spec_UsedOf.j1 kq x3_1 x4_1 x13_2 l0_0 a0_1=some r)∧Aside0 (kq≤k1)∧Aside0 (wc.heap[gb771]? = some (.cells #[(.slice A0_0 l0_0.length c0_0),.int .i64 a0_1] 42 (0,0)))∧Aside0 (Below w.heap.size w wc))
   case first =>
    have H:=HC3.out;clear HC3;by_cases c4:x4_1 < (l0_0.length:Int)
    ·rw[if_pos c4] at H
     have c4b0:decide (x4_1 < (l0_0.length:Int))=true:=decide_eq_true c4;clear c4;(first|rw[c4b0]|(simp only [i64_w,i32_w];rw[c4b0])|skip)
     replace H:=Option.bind_eq_some_iff.mp H;obtain⟨t772,A50,H⟩:=H;(try dsimp only at H)
     have A5:=Aside0.mk A50;clear A50;have H':=Aside0.mk H;clear H;obtain⟨hcz6_0,hcz6_1,hfz6_0,hfz6_1⟩:=zb2 BK771.out;go_wp2_with (first|(go_at_call 113;(with_reducible refine(spec_ArenaOk.calls k1 _ _ l0_0 a0_1 t772 _ ?side1 ?side2 A5.out).mono ?_);(case side1=>exact mc HR0_0.out);(case side2=>exact HC0_0.out);rintro e w7 ⟨rfl,hb⟩;have n0_:=Aside0.mk (zK (mz BK771.out) hb);have n1_:=Aside0.mk (zN mq hb);clear BK771;clear HB;have BK771:=n0_;have HB:=n1_;clear n0_ n1_;(try clear hb);(try clear hb2);(try clear hk);(try clear hi)));go_meet
     case rel=>exact⟨_,(t772),mt,H',⟨by have:=HK1.out;first|omega|exact Nat.le_refl _⟩,⟨mz BK771.out⟩,⟨mq⟩⟩
    ·rw[if_neg c4] at H
     have c4b0:decide (x4_1 < (l0_0.length:Int))=false:=decide_eq_false c4;clear c4;(first|rw[c4b0]|(simp only [i64_w,i32_w];rw[c4b0])|skip)
     have H':=Aside0.mk H;clear H;obtain⟨hcz8_0,hcz8_1,hfz8_0,hfz8_1⟩:=zb2 BK771.out;go_wp2
     go_meet
     case rel=>exact⟨_,(false),mt,H',⟨by have:=HK1.out;first|omega|exact Nat.le_refl _⟩,⟨mz BK771.out⟩,⟨mq⟩⟩
   case rest =>
    clear HC3;obtain⟨kq,x13_2,rfl,HA,HJ2,BK771,HB⟩:=hcut;cases kq with
   |zero=>exact absurd HA.out (by simp[spec_UsedOf.j1])
   |succ kj2 =>
     have H:=HA.out;clear HA;simp only [spec_UsedOf.j1] at H;by_cases c9:x13_2=true
     ·subst c9
      rw[if_pos rfl] at H;by_cases c10:0≤x4_1
      ·rw[if_pos c10] at H
       have c10b0:decide (0≤x4_1)=true:=decide_eq_true c10;clear c10;by_cases c11:x4_1 < (l0_0.length:Int)
       ·rw[if_pos c11] at H
        have c11b0:decide (x4_1 < (l0_0.length:Int))=true:=decide_eq_true c11;clear c11;obtain⟨bq12,hbq12⟩:∃ b_:Bool,b_=((rd_T94 l0_0 x4_1).f1):=⟨_,rfl⟩;rw[← hbq12] at H;have Nbq12:=Aside0.mk hbq12;clear hbq12;by_cases c13:bq12=true
        ·subst c13
         rw[if_pos rfl] at H;have H':=Aside0.mk H;clear H;obtain⟨hcz14_0,hcz14_1,hfz14_0,hfz14_1⟩:=zb2 BK771.out;have p773:0≤(x4_1:Int):=mo;have q773:x4_1 < (l0_0.length:Int):=mo;obtain⟨ad773,e773,hx773_0,hx773_1,hx773_2,hx773_3,hx773_4⟩:=at_T94 HR0_0.out x4_1 p773 q773;(try rw[← Nbq12.out] at hx773_1)
         cases e773;replace hx773_0:=zc11 HB.out hx773_0;replace hx773_1:=zc11 HB.out hx773_1;replace hx773_2:=zc11 HB.out hx773_2;replace hx773_3:=zc11 HB.out hx773_3;replace hx773_4:=zc11 HB.out hx773_4;replace p773:=eq_true p773;replace q773:=eq_true q773;go_wp2
         go_roundg kj2
         case measure=>have:=HK1.out;have:=HJ2.out;omega
         case rel=>exact⟨(wrap64 (x3_1+1)),(wrap64 (x4_1+1)),mt,mt,H',⟨by have:=HK1.out;have:=HJ2.out;omega⟩,⟨mz BK771.out⟩,⟨mq⟩⟩
        ·replace c13:=Bool.eq_false_iff.mpr c13
         subst c13;rw[if_neg (show ¬ (false=true) by decide)] at H;have H':=Aside0.mk H;clear H;obtain⟨hcz15_0,hcz15_1,hfz15_0,hfz15_1⟩:=zb2 BK771.out;have p773:0≤(x4_1:Int):=mo;have q773:x4_1 < (l0_0.length:Int):=mo;obtain⟨ad773,e773,hx773_0,hx773_1,hx773_2,hx773_3,hx773_4⟩:=at_T94 HR0_0.out x4_1 p773 q773;(try rw[← Nbq12.out] at hx773_1)
         cases e773;replace hx773_0:=zc11 HB.out hx773_0;replace hx773_1:=zc11 HB.out hx773_1;replace hx773_2:=zc11 HB.out hx773_2;replace hx773_3:=zc11 HB.out hx773_3;replace hx773_4:=zc11 HB.out hx773_4;replace p773:=eq_true p773;replace q773:=eq_true q773;go_wp2
         go_roundg kj2
         case measure=>have:=HK1.out;have:=HJ2.out;omega
         case rel=>exact⟨(x3_1),(wrap64 (x4_1+1)),mt,mt,H',⟨by have:=HK1.out;have:=HJ2.out;omega⟩,⟨mz BK771.out⟩,⟨mq⟩⟩
       ·rw[if_neg c11] at H
        exact absurd H (by simp)
      ·rw[if_neg c10] at H
       exact absurd H (by simp)
     ·replace c9:=Bool.eq_false_iff.mpr c9
      subst c9;rw[if_neg (show ¬ (false=true) by decide)] at H;obtain rfl:=Option.some.inj H;go_wp2
      go_ret;exact⟨mr,mq⟩
end Go.Proofs.YtediiolcoilepaaGreat.GNear
