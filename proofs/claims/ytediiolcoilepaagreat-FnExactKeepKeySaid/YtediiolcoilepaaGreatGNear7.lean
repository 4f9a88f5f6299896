/- Walks of callees. -/
import Derived.Test.YtediiolcoilepaaGreatGNear5
namespace Go.Proofs.YtediiolcoilepaaGreat.GNear
set_option maxHeartbeats 8000000
set_option maxRecDepth 100000
open Go.RowKit YtediiolcoilepaaGreatW.PrintWords YtediiolcoilepaaGreatW.PrintLast YtediiolcoilepaaGreatW.PrintMore
attribute [local go_sem] A4b A4c A5j A5k A3u A3v A4d A4e
theorem zc6 {w w1:World} {a:Addr} {v:Value} (hb:Below w.heap.size w w1) (h:w.cell? a=some v):w1.cell? a=some v:=(hb.cell (World.block_lt_of_cell? w _ h)).trans h
attribute [local go_sem high] B7h
mutual
def A0m.j0:Nat→Bool→List (S151)→List (S151)→Int→Option (Bool)
|0,_,_,_,_=>none
|k+1,x36,x370000,x370001,x370002=>if x36=true then (some false) else (if 0≤x370002 then (if x370002≤(x370001.length:Int) then ((some (x370001.take (x370002:Int).toNat:List (S151))).bind fun y373=>(A0m.l0 k y373 (y373.length:Int) 0 x370000 x370001 x370002)) else (none)) else (none))
def A0m.l0:Nat→List (S151)→Int→Int→List (S151)→List (S151)→Int→Option (Bool)
|0,_,_,_,_,_,_=>none
|k+1,x41,x42,x43,x370000,x370001,x370002=>if x43 < x42 then (if 0≤x43 then (if x43 < (x41.length:Int) then (if (!((((A0c x41 x43).f0).toList) == ([]:List UInt8))||(!(((A0c x41 x43).f1) == (-2))))=true then (some false) else (A0m.l0 k x41 x42 (wrap64 (x43+1)) x370000 x370001 x370002)) else (none)) else (none)) else ((A0x.f k x370000 x370001 x370002).bind fun t379=>(A0m.l1 k t379 1 x370000 x370001 x370002))
def A0m.l1:Nat→List ByteArray→Int→List (S151)→List (S151)→Int→Option (Bool)
|0,_,_,_,_,_=>none
|k+1,x5,x6,x370000,x370001,x370002=>if x6 < (x5.length:Int) then (if 0≤x6 then (if 0≤(wrap64 (x6 - 1)) then (if (wrap64 (x6 - 1)) < (x5.length:Int) then (if (rdOf ByteArray.empty x5 x6).toList=(rdOf ByteArray.empty x5 (wrap64 (x6 - 1))).toList then (some false) else (A0m.l1 k x5 (wrap64 (x6+1)) x370000 x370001 x370002)) else (none)) else (none)) else (none)) else ((A0y.f k x370000).bind fun t384=>(if t384=true then ((A0y.f k x370001).bind fun t385=>(if t385=true then ((A1n.f k x370000).bind fun t386=>(some (decide (t386 > 0)))) else (some false))) else (some false)))
end
def A0m.f (k:Nat) (l0_0:List (S151)) (l0_1:List (S151)) (a0_2:Int):Option (Bool):=(A29.f (l0_0.length:Int)).bind fun t370=>(if t370=true then (if (l0_1.length:Int)=0 then ((A0n.f a0_2 0 (l0_1.length:Int)).bind fun t371=>(A0m.j0 k (!t371) l0_0 l0_1 a0_2)) else (if (wrap64 (2 * (l0_1.length:Int)))=(l0_0.length:Int) then ((A0n.f a0_2 0 (l0_1.length:Int)).bind fun t372=>(A0m.j0 k (!t372) l0_0 l0_1 a0_2)) else (A0m.j0 k true l0_0 l0_1 a0_2))) else (A0m.j0 k true l0_0 l0_1 a0_2))
theorem A0m.calls (k:Nat) (A0_0:Option Addr) (c0_0:Nat) (l0_0:List (S151)) (A0_1:Option Addr) (c0_1:Nat) (l0_1:List (S151)) (a0_2:Int) (r:Bool) (w:World) (hr0_0:Kd.C k151 w A0_0 l0_0.length l0_0) (hc0_0:l0_0.length≤c0_0) (hr0_1:Kd.C k151 w A0_1 l0_1.length l0_1) (hc0_1:l0_1.length≤c0_1) (h:A0m.f k l0_0 l0_1 a0_2=some r) :
  Calls Tryz.prog 126 #[.agg #[.slice A0_0 l0_0.length c0_0,.slice A0_1 l0_1.length c0_1,.int .i64 a0_2]] w fun e w'=>e=.returned (.bool r)∧Below w.heap.size w w':=by
 have hu45:=Tryz.underlying45;have hu151:=Tryz.underlying151;have HA0:=B98 hr0_0;have HC0:=B98 hc0_0;have HA1:=B98 hr0_1;have HC1:=B98 hc0_1;have HH:=B98 h;have HS:=B98 (Nb.St.start w);clear hr0_0 hc0_0 hr0_1 hc0_1 h;go_enter Tryz.func126,Tryz.ntmps126;go_upto_region 1 with (first|((with_reducible refine A0b (N:=1) rfl ?_);refine Nb.boxS HS (N:=1) fun g1 w1 S=>?_;clear HS;have HS:=B98 S;clear S));go_cut [36] from 7 (fun v36 wc=>∃ b,v36=.bool b∧A0a (A0m.j0 k b l0_0 l0_1 a0_2=some r)∧A0a (Nb.St w wc [Nb.Part.blk g1 45 #[.slice A0_0 l0_0.length c0_0,.slice A0_1 l0_1.length c0_1,.int .i64 a0_2]]))
 case first =>
  have H:=HH.o;clear HH;unfold A0m.f at H;obtain⟨bs,h1,H⟩:=C0f.mp H;have HB:=B98 h1;clear h1;obtain⟨ha0,ha1,ha2⟩:=HS.o.cells3 0 rfl;go_wp2_with fail;refine(A29.calls (l0_0.length:Int) bs _ HB.o).mono ?_;rintro e w3 ⟨rfl,hb⟩;have S:=HS.o.step Zh;clear HS hb ha0 ha1 ha2;have HS:=B98 S;clear S;cases bs with
  |false =>
   have HJ:=B98 H;clear H;go_wp2_with fail;go_meet
   case rel=>exact⟨true,rfl,HJ,HS⟩
  |true =>
  rw[if_pos rfl] at H;obtain⟨ha0,ha1,ha2⟩:=HS.o.cells3 0 rfl
  by_cases e0:(l0_1.length:Int)=0
  ·rw[if_pos e0] at H
   have e0a:((l0_1.length:Int) == 0)=true:=beq_iff_eq.mpr e0;have e0b:((l0_1.length:Int) != 0)=false:=by rw[bne,e0a];rfl
   clear e0;obtain⟨bi,h1,H⟩:=C0f.mp H;have HI:=B98 h1;clear h1;go_wp2_with fail;refine(A0n.calls a0_2 0 (l0_1.length:Int) bi _ HI.o).mono ?_;rintro e w4 ⟨rfl,hb⟩;have S:=HS.o.step Zh;clear HS hb ha0 ha1 ha2;have HS:=B98 S;clear S;have HJ:=B98 H;clear H;go_wp2_with fail;go_meet
   case rel=>exact⟨_,rfl,HJ,HS⟩
  ·rw[if_neg e0] at H
   have e0a:((l0_1.length:Int) == 0)=false:=C0g.mpr e0;have e0b:((l0_1.length:Int) != 0)=true:=bne_iff_ne.mpr e0;clear e0;by_cases e1:wrap64 (2 * (l0_1.length:Int))=(l0_0.length:Int)
   ·rw[if_pos e1] at H
    have e1a:(wrap64 (2 * (l0_1.length:Int)) == (l0_0.length:Int))=true:=beq_iff_eq.mpr e1;have e1b:(wrap64 (2 * (l0_1.length:Int)) != (l0_0.length:Int))=false:=by rw[bne,e1a];rfl
    clear e1;obtain⟨bi,h1,H⟩:=C0f.mp H;have HI:=B98 h1;clear h1;go_wp2_with fail;refine(A0n.calls a0_2 0 (l0_1.length:Int) bi _ HI.o).mono ?_;rintro e w4 ⟨rfl,hb⟩;have S:=HS.o.step Zh;clear HS hb ha0 ha1 ha2;have HS:=B98 S;clear S;have HJ:=B98 H;clear H;go_wp2_with fail;go_meet
    case rel=>exact⟨_,rfl,HJ,HS⟩
   ·rw[if_neg e1] at H
    have e1a:(wrap64 (2 * (l0_1.length:Int)) == (l0_0.length:Int))=false:=C0g.mpr e1;have e1b:(wrap64 (2 * (l0_1.length:Int)) != (l0_0.length:Int))=true:=bne_iff_ne.mpr e1;clear e1;have HJ:=B98 H;clear H;go_wp2_with fail;go_meet
    case rel=>exact⟨true,rfl,HJ,HS⟩
 case rest =>
 obtain⟨b,rfl,HJ,HS1⟩:=hcut;clear HS HH;have HS:=HS1;clear HS1;have H:=HJ.o;clear HJ;cases k with
 |zero=>simp[A0m.j0] at H
 |succ k =>
 simp only [A0m.j0] at H;cases b with
 |true =>
  rw[if_pos rfl] at H;obtain rfl:=C0d H;clear H;go_wp2_with fail;go_ret;exact⟨rfl,HS.o.below⟩
 |false =>
 rw[if_neg Zs] at H;by_cases m0:0≤a0_2
 case neg=>rw[if_neg m0] at H;cases H
 rw[if_pos m0] at H;by_cases m1:a0_2≤(l0_1.length:Int)
 case neg=>rw[if_neg m1] at H;cases H
 rw[if_pos m1] at H;obtain⟨m,rfl⟩:=Int.eq_ofNat_of_zero_le m0;have H:A0m.l0 k (l0_1.take m) ((l0_1.take m).length:Int) ((0:Nat):Int) l0_0 l0_1 (m:Int)=some r:=H;have hm:m≤l0_1.length:=by omega
 have HY:=B98 (Kd.C_take HA1.o hm);obtain⟨Y,hY⟩:∃ y,y=l0_1.take m:=⟨_,rfl⟩;rw[← hY] at H HY;have hyl:Y.length=m:=by rw[hY,List.length_take];omega
 have HYL:=B98 hyl;have hcap1:(m:Int)≤(c0_1:Int):=by have:=HC1.o;omega
 have hcap2:m≤c0_1:=by omega
 have HH:=B98 H;have HM:=B98 hm;clear H hY m1 hyl hm;obtain⟨ha0,ha1,ha2⟩:=HS.o.cells3 0 rfl;go_wp2_with fail;clear ha0 ha1 ha2 hcap1 hcap2;go_loopw [43] (fun v43 w'=>∃ (i kq:Nat) (ps:List Nb.Part),v43=.int .i64 i∧A0a (i≤m)∧A0a (A0m.l0 kq Y (Y.length:Int) (i:Int) l0_0 l0_1 (m:Int)=some r)∧A0a (Nb.St w w' (Nb.Part.blk g1 45 #[.slice A0_0 l0_0.length c0_0,.slice A0_1 l0_1.length c0_1,.int .i64 (m:Int)] :: ps))) (fun v43 _=>m - (intOf v43).toNat)
 case atStart=>exact⟨0,k,[],rfl,⟨by omega⟩,HH,HS⟩
 case round =>
  clear HS HH;obtain⟨i,kq,ps,rfl,HI,HH,HS⟩:=hrel;have H:=HH.o;clear HH;cases kq with
  |zero=>simp[A0m.l0] at H
  |succ kq =>
  simp only [A0m.l0] at H;by_cases c1:i < m
  ·have p5:(0:Int)≤(i:Int):=by omega
   have q5:(i:Int) < (Y.length:Int):=by have:=HYL.o;omega
   have q6:(i:Int) < (m:Int):=by omega
   rw[if_pos q5,if_pos p5,if_pos q5] at H;obtain⟨ad,e5,hy0,hy1⟩:=A1t HY.o (i:Int) p5 q5;cases e5;obtain⟨x,hx⟩:∃ x,x=A0c Y (i:Int):=⟨_,rfl⟩;rw[← hx] at hy0 hy1 H;rw[C0k] at hy0 hy1;obtain⟨bo,hbo⟩:∃ b,i * 2=b:=⟨_,rfl⟩;rw[hbo] at hy0 hy1;have es:=w64n i (by have h1:=HY.o.2.1;unfold maxLen at h1;omega);have hlt:=World.block_lt_of_cell? w _ hy0;have hz0:=(HS.o.below.cell hlt).trans hy0;have hz1:=(HS.o.below.cell (p:=⟨(ad.add bo).block,(ad.add bo).off+1,none⟩) hlt).trans hy1;clear hx hy0 hy1 hlt;have HI2:=B98 c1;have d1:decide ((i:Int) < (m:Int))=true:=B99 q6;have d2:decide (i < m)=true:=B99 c1;have H2:=B98 H;replace p5:=eq_true p5;replace q6:=eq_true q6;clear H c1 q5;go_upto_region 6 with (first|((with_reducible refine A0b (N:=4) rfl ?_);refine Nb.boxS HS (N:=4) fun g4 w4 S=>?_;clear HS;have HS:=B98 S;obtain⟨hs0,hs1⟩:=S.cells2 0 rfl;obtain⟨fs0,fs1⟩:=S.frozen2 0 rfl;clear S));have S:=HS.o;clear HS hs0 fs0 hs1 fs1 hz0 hz1;have S:=S.put2 (.string x.f0) (.int .i64 x.f1);obtain⟨w5,hw,S⟩:∃ w',w'=_∧Nb.St w w' _:=⟨_,rfl,S⟩;rw[← hw];clear hw;have HS:=B98 S;clear S;obtain⟨hs0,hs1⟩:=HS.o.cells2 0 rfl;have H:=H2.o;clear H2;by_cases c3:x.f0.toList=([]:List UInt8)
   ·by_cases c4:x.f1 = -2
    ·skip
     have c3a:(x.f0.toList == ([]:List UInt8))=true:=beq_iff_eq.mpr c3;have c3b:(x.f0.toList != ([]:List UInt8))=false:=by rw[bne,c3a];rfl
     have c4a:(x.f1 == (-2))=true:=beq_iff_eq.mpr c4;have c4b:(x.f1 != (-2))=false:=by rw[bne,c4a];rfl
     rw[if_neg (by simp[c3,c4]),es] at H;have HH:=B98 H;clear H c3 c4;go_wp2_with fail;go_roundw
     case rel=>exact⟨i+1,kq,_,by rw[es],⟨by have:=HI2.o;omega⟩,HH,⟨HS.o.swap⟩⟩
     case measure=>rw[es];have:=HI2.o;simp only [intOf];omega
    ·rw[if_pos (by simp[c4])] at H
     have c3a:(x.f0.toList == ([]:List UInt8))=true:=beq_iff_eq.mpr c3;have c3b:(x.f0.toList != ([]:List UInt8))=false:=by rw[bne,c3a];rfl
     have c4a:(x.f1 == (-2))=false:=C0g.mpr c4;have c4b:(x.f1 != (-2))=true:=bne_iff_ne.mpr c4;clear c3 c4;obtain rfl:=C0d H;clear H;go_wp2_with fail;go_ret;exact⟨rfl,HS.o.below⟩
   ·rw[if_pos (by simp[c3])] at H
    have c3a:(x.f0.toList == ([]:List UInt8))=false:=C0g.mpr c3;have c3b:(x.f0.toList != ([]:List UInt8))=true:=bne_iff_ne.mpr c3;clear c3;obtain rfl:=C0d H;clear H;go_wp2_with fail;go_ret;exact⟨rfl,HS.o.below⟩
  ·have hi:i=m:=by have:=HI.o;omega
   subst hi;rw[if_neg (by have:=HYL.o;omega)] at H;have d1:decide ((i:Int) < (i:Int))=false:=C0a Zo;have d2:decide (i < i)=false:=C0a Zo;clear c1;obtain⟨ks,h1,H⟩:=C0f.mp H;have HK:=B98 h1;clear h1;obtain⟨ha0,ha1,ha2⟩:=HS.o.cells3 0 rfl;go_wp2_with fail;refine(A0x.calls kq _ A0_0 c0_0 l0_0 _ A0_1 c0_1 l0_1 (i:Int) ks _ (Kd.V_mk HC0.o (Kd.C_F A45 (Kd.C_below HA0.o HS.o.below))) (Kd.V_mk HC1.o (Kd.C_F A45 (Kd.C_below HA1.o HS.o.below))) HK.o).mono ?_;rintro e w4 ⟨v,rfl,hr,hb⟩;have S:=HS.o.new_row rfl hb hr;obtain⟨Ak,ck,rfl⟩:=Kd.R_slice hr;clear HS hr hb ha0 ha1 ha2;have HS:=B98 S;have HKL:=B98 (S.at_C 0 rfl).2.2.2.1;clear S;have HH:=B98 (show A0m.l1 kq ks ((1:Nat):Int) l0_0 l0_1 (i:Int)=some r from H);clear H;go_wp2_with fail;go_loopw [6] (fun v6 w'=>∃ (j kq:Nat),v6=.int .i64 j∧A0a (1≤j∧(j≤ks.length ∨ j=1))∧A0a (A0m.l1 kq ks (j:Int) l0_0 l0_1 (i:Int)=some r)∧A0a (Nb.St w w' (Nb.Part.row Kd.string 9 (.slice Ak ks.length ck) ks :: Nb.Part.blk g1 45 #[.slice A0_0 l0_0.length c0_0,.slice A0_1 l0_1.length c0_1,.int .i64 (i:Int)] :: ps))) (fun v6 _=>ks.length+1 - (intOf v6).toNat)
   case atStart=>exact⟨1,kq,rfl,⟨by omega⟩,HH,HS⟩
   case round =>
    clear HS HH HI;obtain⟨j,kq,rfl,HI,HH,HS⟩:=hrel;have H:=HH.o;clear HH;cases kq with
    |zero=>simp[A0m.l1] at H
    |succ kq =>
    simp only [A0m.l1] at H;by_cases c1:j < ks.length
    ·have p5:(0:Int)≤(j:Int):=by omega
     have q5:(j:Int) < (ks.length:Int):=by omega
     have ew:wrap64 ((j:Int) - 1)=((j - 1:Nat):Int):=by have:=HI.o;have h1:=HKL.o;unfold maxLen at h1;unfold wrap64;omega
     have es:wrap64 ((j:Int)+1)=((j+1:Nat):Int):=w64n j (by have h1:=HKL.o;unfold maxLen at h1;omega);rw[ew] at H;have p6:(0:Int)≤((j - 1:Nat):Int):=by omega
     have q6:((j - 1:Nat):Int) < (ks.length:Int):=by omega
     rw[if_pos q5,if_pos p5,if_pos p6,if_pos q6] at H;obtain⟨go,co,eo,-,-,-,-⟩:=Kd.R_form (HS.o.at_R 0 rfl) Zo;obtain⟨rfl,-,rfl⟩:=Value.slice.inj eo;obtain⟨hx5,hf5⟩:=Kd.R_celln ByteArray.empty (HS.o.at_R 0 rfl) (j:Int) p5 q5;obtain⟨hx6,hf6⟩:=Kd.R_celln ByteArray.empty (HS.o.at_R 0 rfl) ((j - 1:Nat):Int) p6 q6;rw[C0k] at hx5 hf5 hx6 hf6;obtain⟨s,hs⟩:∃ s,s=rdOf ByteArray.empty ks (j:Int):=⟨_,rfl⟩;obtain⟨t,ht⟩:∃ t,t=rdOf ByteArray.empty ks ((j - 1:Nat):Int):=⟨_,rfl⟩;rw[← hs,← ht] at H;replace hx5:wr.cell? ⟨go,j,none⟩=some (.string s):=by rw[hs];exact hx5
     replace hx6:wr.cell? ⟨go,j - 1,none⟩=some (.string t):=by rw[ht];exact hx6
     have d1:decide ((j:Int) < (ks.length:Int))=true:=B99 q5;have d2:decide (j < ks.length)=true:=B99 c1;have HI2:=B98 c1;obtain⟨j1,hj1⟩:∃ q,q=j - 1:=⟨_,rfl⟩;rw[← hj1] at hx6 p6 q6 ew;have q7:j1 < ks.length:=by omega
     clear hs ht hf5 hf6 eo hj1;by_cases c3:s.toList=t.toList
     ·rw[if_pos c3] at H
      have c3a:(s.toList == t.toList)=true:=beq_iff_eq.mpr c3;clear c3;obtain rfl:=C0d H;clear H;go_wp2_with fail;go_region;go_wp2_with fail;go_ret;exact⟨rfl,HS.o.drew.below⟩
     ·rw[if_neg c3,es] at H
      have c3a:(s.toList == t.toList)=false:=C0g.mpr c3;clear c3;have HH:=B98 H;clear H;go_wp2_with fail;go_region;go_wp2_with fail;go_roundw
      case rel=>exact⟨j+1,kq,by rw[es],⟨by have:=HI2.o;omega⟩,HH,⟨HS.o.drew⟩⟩
      case measure=>rw[es];have:=HI2.o;simp only [intOf];omega
    ·rw[if_neg Zo] at H
     have d1:decide ((j:Int) < (ks.length:Int))=false:=C0a Zo;have d2:decide (j < ks.length)=false:=C0a c1;clear c1;obtain⟨b0,h1,H⟩:=C0f.mp H;have HQ0:=B98 h1;clear h1;obtain⟨ha0,ha1,ha2⟩:=HS.o.cells3 1 rfl;go_wp2_with fail;refine(A0y.calls kq A0_0 c0_0 l0_0 b0 _ (Kd.C_below HA0.o HS.o.below) HC0.o HQ0.o).mono ?_;rintro e w6 ⟨rfl,hb⟩;have S:=HS.o.step Zh;clear HS hb ha0 ha1 ha2;have HS:=B98 S;clear S;cases b0 with
     |false =>
      rw[if_neg Zs] at H;obtain rfl:=C0d H;clear H;go_wp2_with fail;go_ret;exact⟨rfl,HS.o.below⟩
     |true =>
     rw[if_pos rfl] at H;obtain⟨b1,h1,H⟩:=C0f.mp H;have HQ1:=B98 h1;clear h1;obtain⟨ha0,ha1,ha2⟩:=HS.o.cells3 1 rfl;go_wp2_with fail;refine(A0y.calls kq A0_1 c0_1 l0_1 b1 _ (Kd.C_below HA1.o HS.o.below) HC1.o HQ1.o).mono ?_;rintro e w7 ⟨rfl,hb⟩;have S:=HS.o.step Zh;clear HS hb ha0 ha1 ha2;have HS:=B98 S;clear S;cases b1 with
     |false =>
      rw[if_neg Zs] at H;obtain rfl:=C0d H;clear H;go_wp2_with fail;go_ret;exact⟨rfl,HS.o.below⟩
     |true =>
     rw[if_pos rfl] at H;obtain⟨q,h1,H⟩:=C0f.mp H;have HQ2:=B98 h1;clear h1;obtain⟨ha0,ha1,ha2⟩:=HS.o.cells3 1 rfl;go_wp2_with fail;refine(A1n.calls kq A0_0 c0_0 l0_0 q _ (Kd.C_below HA0.o HS.o.below) HC0.o HQ2.o).mono ?_;rintro e w8 ⟨rfl,hb⟩;have S:=HS.o.step Zh;clear HS hb ha0 ha1 ha2;have HS:=B98 S;clear S;obtain rfl:=C0d H;clear H;go_wp2_with fail;go_ret;exact⟨rfl,HS.o.below⟩
def A0h.l0:Nat→List ByteArray→ByteArray→Int→Int→Option (Int)
|0,_,_,_,_=>none
|k+1,x0,x1,x7,x8=>if x8 < x7 then (if 0≤x8 then (if x8 < (x0.length:Int) then (if x1.toList=(rdOf ByteArray.empty x0 x8).toList then (some x8) else (A0h.l0 k x0 x1 x7 (wrap64 (x8+1)))) else (none)) else (none)) else (some (-1))
def A0h.f (k:Nat) (l0:List ByteArray) (a1:ByteArray):Option (Int):=A0h.l0 k l0 a1 (l0.length:Int) 0
theorem A0h.calls (k:Nat) (A0:Option Addr) (c0:Nat) (l0:List ByteArray) (a1:ByteArray) (r:Int) (w:World) (hr0:Kd.C Kd.string w A0 l0.length l0) (hc0:l0.length≤c0) (h:A0h.f k l0 a1=some r) :
  Calls Tryz.prog 148 #[.slice A0 l0.length c0,.string a1] w fun e w'=>e=.returned (.int .i64 r)∧A2e w w':=by
 have HR0:=B98 hr0;have HC0:=B98 hc0;clear hr0 hc0;unfold A0h.f at h;have H:=h;clear h;have H':=B98 H;clear H;go_enter Tryz.func148,Tryz.ntmps148
 go_wp2
 go_loopg [8] k (fun kq v8 w'=>∃ (x8_1:Int),v8=.int .i64 x8_1∧A0a (A0h.l0 kq l0 a1 (l0.length:Int) x8_1=some r)∧A0a (kq≤k)∧A2e w w')
 case atStart=>exact⟨(0),mt,H',⟨Nat.le_refl _⟩,md⟩
 case round =>
  clear H';obtain⟨x8_1,rfl,HA,HK1,⟨m1,rfl⟩⟩:=hrel;cases gk with
 |zero=>exact absurd HA.o (by simp[A0h.l0])
 |succ k1 =>
   have H:=HA.o;clear HA;simp only [A0h.l0] at H;by_cases c3:x8_1 < (l0.length:Int)
   ·rw[if_pos c3] at H
    have c3b0:decide (x8_1 < (l0.length:Int))=true:=B99 c3;clear c3;by_cases c4:0≤x8_1
    ·rw[if_pos c4] at H
     have c4b0:decide (0≤x8_1)=true:=B99 c4;clear c4;by_cases c5:x8_1 < (l0.length:Int)
     ·rw[if_pos c5] at H
      have c5b0:decide (x8_1 < (l0.length:Int))=true:=B99 c5;clear c5;by_cases c6:a1.toList=(rdOf ByteArray.empty l0 x8_1).toList
      ·rw[if_pos c6] at H
       have c6b0:(a1.toList == (rdOf ByteArray.empty l0 x8_1).toList)=true:=beq_iff_eq.mpr c6;have c6b1:(a1.toList != (rdOf ByteArray.empty l0 x8_1).toList)=false:=bne_eq_false_iff_eq.mpr c6;clear c6;obtain rfl:=C0d H;have p387:0≤(x8_1:Int):=mo;have q387:x8_1 < (l0.length:Int):=mo;obtain⟨ad387,e387,hx387_0⟩:=Kd.at_string HR0.o x8_1 p387 q387;cases e387;replace p387:=eq_true p387;replace q387:=eq_true q387;go_wp2
       go_ret;exact⟨by first|rfl|(simp;done)|(simp[*];done),md⟩
      ·rw[if_neg c6] at H
       have c6b0:(a1.toList == (rdOf ByteArray.empty l0 x8_1).toList)=false:=C0g.mpr c6;have c6b1:(a1.toList != (rdOf ByteArray.empty l0 x8_1).toList)=true:=bne_iff_ne.mpr c6;have H':=B98 H;clear H;have p387:0≤(x8_1:Int):=mo;have q387:x8_1 < (l0.length:Int):=mo;obtain⟨ad387,e387,hx387_0⟩:=Kd.at_string HR0.o x8_1 p387 q387;cases e387;replace p387:=eq_true p387;replace q387:=eq_true q387;go_wp2
       go_roundg k1
       case measure=>have:=HK1.o;omega
       case rel=>exact⟨(wrap64 (x8_1+1)),mt,H',⟨by have:=HK1.o;omega⟩,md⟩
     ·rw[if_neg c5] at H
      exact absurd H Zs
    ·rw[if_neg c4] at H
     exact absurd H Zs
   ·rw[if_neg c3] at H
    have c3b0:decide (x8_1 < (l0.length:Int))=false:=C0a c3;clear c3;obtain rfl:=C0d H;go_wp2
    go_ret;exact⟨by first|rfl|(simp;done)|(simp[*];done),md⟩
def A08.l0:Nat→List ByteArray→Int→Int→Int→List ByteArray→Option (Bool)
|0,_,_,_,_,_=>none
|k+1,x6,x7,x8,x389000,x389001=>if x8 < x7 then (if 0≤x8 then (if x8 < (x6.length:Int) then ((A1j.f (rdOf ByteArray.empty x6 x8)).bind fun t391=>(if t391=true then ((A0h.f k x389001 (rdOf ByteArray.empty x6 x8)).bind fun t392=>(if t392=x8 then (A08.l0 k x6 x7 (wrap64 (x8+1)) x389000 x389001) else (some false))) else (some false))) else (none)) else (none)) else ((A0n.f x389000 0 24).bind fun t389=>(if t389=true then (some (decide ((x389001.length:Int)≤x389000))) else (some false)))
def A08.f (k:Nat) (a0_0:Int) (l0_1:List ByteArray):Option (Bool):=A08.l0 k l0_1 (l0_1.length:Int) 0 a0_0 l0_1
theorem A08.calls (k:Nat) (a0_0:Int) (A0_1:Option Addr) (c0_1:Nat) (l0_1:List ByteArray) (r:Bool) (w:World) (hr0_1:Kd.C Kd.string w A0_1 l0_1.length l0_1) (hc0_1:l0_1.length≤c0_1) (h:A08.f k a0_0 l0_1=some r) :
  Calls Tryz.prog 127 #[.agg #[.int .i64 a0_0,.slice A0_1 l0_1.length c0_1]] w fun e w'=>e=.returned (.bool r)∧Below w.heap.size w w':=by
 have hu46:=Tryz.underlying46;have HR0_1:=B98 hr0_1;have HC0_1:=B98 hc0_1;clear hr0_1 hc0_1;have HB:=B98 (Below.refl w.heap.size w);unfold A08.f at h;have H:=h;clear h;have H':=B98 H;clear H;go_enter Tryz.func127,Tryz.ntmps127;go_wp2_with (first|((with_reducible refine A0b (N:=1) rfl ?_);(try(refine A34 (by rfl) ?_;dsimp only));refine yE (N:=1) (cs:=#[.int .i64 a0_0,.slice A0_1 l0_1.length c0_1]) (t:=46) fun gb388 hg w2 hbox hb=>?_;obtain⟨n0_,n2_⟩:=yX (w:=w) hg hb mq;have n1_:=B98 (hbox);have n3_:=n2_;clear HB;have HB:=n0_;have BK388:=n1_;have GW388:=n2_;have GE388:=n3_;clear n0_ n1_ n2_ n3_;clear hb hbox hg;obtain⟨hcz3_0,hcz3_1,hfz3_0,hfz3_1⟩:=zb2 BK388.o))
 go_loopg [8] k (fun kq v8 w'=>∃ (x8_1:Int),v8=.int .i64 x8_1∧A0a (A08.l0 kq l0_1 (l0_1.length:Int) x8_1 a0_0 l0_1=some r)∧A0a (kq≤k)∧A0a (w'.heap[gb388]? = some (.cells #[.int .i64 a0_0,(.slice A0_1 l0_1.length c0_1)] 46 (0,0)))∧A0a (Below w.heap.size w w'))
 case atStart=>exact⟨(0),mt,H',⟨Nat.le_refl _⟩,⟨mz BK388.o⟩,⟨mq⟩⟩
 case round =>
  clear H';obtain⟨x8_1,rfl,HA,HK1,BK388,HB⟩:=hrel;cases gk with
 |zero=>exact absurd HA.o (by simp[A08.l0])
 |succ k1 =>
   have H:=HA.o;clear HA;simp only [A08.l0] at H;by_cases c4:x8_1 < (l0_1.length:Int)
   ·rw[if_pos c4] at H
    have c4b0:decide (x8_1 < (l0_1.length:Int))=true:=B99 c4;clear c4;by_cases c5:0≤x8_1
    ·rw[if_pos c5] at H
     have c5b0:decide (0≤x8_1)=true:=B99 c5;clear c5;by_cases c6:x8_1 < (l0_1.length:Int)
     ·rw[if_pos c6] at H
      have c6b0:decide (x8_1 < (l0_1.length:Int))=true:=B99 c6;clear c6;replace H:=C0f.mp H;obtain⟨t391,A70,H⟩:=H;(try dsimp only at H)
      have A7:=B98 A70;clear A70;by_cases c8:t391=true
      ·subst c8
       rw[if_pos rfl] at H;replace H:=C0f.mp H;obtain⟨t392,A90,H⟩:=H;(try dsimp only at H)
       have A9:=B98 A90;clear A90;by_cases c10:t392=x8_1
       ·rw[if_pos c10] at H
        have c10b0:(t392 == x8_1)=true:=beq_iff_eq.mpr c10;have c10b1:(t392 != x8_1)=false:=bne_eq_false_iff_eq.mpr c10;clear c10;have H':=B98 H;clear H;have p390:0≤(x8_1:Int):=mo;have q390:x8_1 < (l0_1.length:Int):=mo;obtain⟨ad390,e390,hx390_0⟩:=Kd.at_string HR0_1.o x8_1 p390 q390;cases e390;replace hx390_0:=zc6 HB.o hx390_0;replace p390:=eq_true p390;replace q390:=eq_true q390;go_wp2_with (first|((with_reducible refine A0j (f:=85) rfl ?_);refine A1l (some 14) rfl rfl Tryz.func85 Zk rfl #[.string (rdOf ByteArray.empty l0_1 x8_1)] rfl ml ?_;(with_reducible refine(A1j.calls (rdOf ByteArray.empty l0_1 x8_1) true _ A7.o).mono ?_);rintro e w' ⟨rfl,⟨nd,rfl⟩⟩;refine⟨_,rfl,?_⟩;obtain⟨hcz11_0,hcz11_1,hfz11_0,hfz11_1⟩:=zb2 BK388.o)|(go_at_call 148;(with_reducible refine(A0h.calls k1 _ _ l0_1 (rdOf ByteArray.empty l0_1 x8_1) t392 _ ?side1 ?side2 A9.o).mono ?_);(case side1=>exact mc HR0_1.o);(case side2=>exact HC0_1.o);rintro e w' ⟨rfl,⟨nd,rfl⟩⟩))
        go_roundg k1
        case measure=>have:=HK1.o;omega
        case rel=>exact⟨(wrap64 (x8_1+1)),mt,H',⟨by have:=HK1.o;omega⟩,⟨mz BK388.o⟩,⟨mq⟩⟩
       ·rw[if_neg c10] at H
        have c10b0:(t392 == x8_1)=false:=C0g.mpr c10;have c10b1:(t392 != x8_1)=true:=bne_iff_ne.mpr c10;obtain rfl:=C0d H;have p390:0≤(x8_1:Int):=mo;have q390:x8_1 < (l0_1.length:Int):=mo;obtain⟨ad390,e390,hx390_0⟩:=Kd.at_string HR0_1.o x8_1 p390 q390;cases e390;replace hx390_0:=zc6 HB.o hx390_0;replace p390:=eq_true p390;replace q390:=eq_true q390;go_wp2_with (first|((with_reducible refine A0j (f:=85) rfl ?_);refine A1l (some 14) rfl rfl Tryz.func85 Zk rfl #[.string (rdOf ByteArray.empty l0_1 x8_1)] rfl ml ?_;(with_reducible refine(A1j.calls (rdOf ByteArray.empty l0_1 x8_1) true _ A7.o).mono ?_);rintro e w' ⟨rfl,⟨nd,rfl⟩⟩;refine⟨_,rfl,?_⟩;obtain⟨hcz12_0,hcz12_1,hfz12_0,hfz12_1⟩:=zb2 BK388.o)|(go_at_call 148;(with_reducible refine(A0h.calls k1 _ _ l0_1 (rdOf ByteArray.empty l0_1 x8_1) t392 _ ?side1 ?side2 A9.o).mono ?_);(case side1=>exact mc HR0_1.o);(case side2=>exact HC0_1.o);rintro e w' ⟨rfl,⟨nd,rfl⟩⟩));go_ret;exact⟨mr,mq⟩
      ·replace c8:=Bool.eq_false_iff.mpr c8
       subst c8;rw[if_neg (show ¬ (false=true) by decide)] at H;obtain rfl:=C0d H;have p390:0≤(x8_1:Int):=mo;have q390:x8_1 < (l0_1.length:Int):=mo;obtain⟨ad390,e390,hx390_0⟩:=Kd.at_string HR0_1.o x8_1 p390 q390;cases e390;replace hx390_0:=zc6 HB.o hx390_0;replace p390:=eq_true p390;replace q390:=eq_true q390;go_wp2_with (first|((with_reducible refine A0j (f:=85) rfl ?_);refine A1l (some 14) rfl rfl Tryz.func85 Zk rfl #[.string (rdOf ByteArray.empty l0_1 x8_1)] rfl ml ?_;(with_reducible refine(A1j.calls (rdOf ByteArray.empty l0_1 x8_1) false _ A7.o).mono ?_);rintro e w' ⟨rfl,⟨nd,rfl⟩⟩;refine⟨_,rfl,?_⟩));go_ret;exact⟨mr,mq⟩
     ·rw[if_neg c6] at H
      exact absurd H Zs
    ·rw[if_neg c5] at H
     exact absurd H Zs
   ·rw[if_neg c4] at H
    have c4b0:decide (x8_1 < (l0_1.length:Int))=false:=C0a c4;clear c4;replace H:=C0f.mp H;obtain⟨t389,A130,H⟩:=H;(try dsimp only at H)
    have A13:=B98 A130;clear A130;by_cases c14:t389=true
    ·subst c14
     rw[if_pos rfl] at H;obtain rfl:=C0d H;obtain⟨hcz15_0,hcz15_1,hfz15_0,hfz15_1⟩:=zb2 BK388.o;go_wp2_with (first|((with_reducible refine A0j (f:=89) rfl ?_);refine A1l (some 27) rfl rfl Tryz.func89 Zk rfl #[.int .i64 a0_0,.int .i64 0,.int .i64 24] rfl ml ?_;(with_reducible refine(A0n.calls a0_0 0 24 true _ A13.o).mono ?_);rintro e w' ⟨rfl,⟨nd,rfl⟩⟩;refine⟨_,rfl,?_⟩));go_ret;exact⟨mr,mq⟩
    ·replace c14:=Bool.eq_false_iff.mpr c14
     subst c14;rw[if_neg (show ¬ (false=true) by decide)] at H;obtain rfl:=C0d H;obtain⟨hcz16_0,hcz16_1,hfz16_0,hfz16_1⟩:=zb2 BK388.o;go_wp2_with (first|((with_reducible refine A0j (f:=89) rfl ?_);refine A1l (some 27) rfl rfl Tryz.func89 Zk rfl #[.int .i64 a0_0,.int .i64 0,.int .i64 24] rfl ml ?_;(with_reducible refine(A0n.calls a0_0 0 24 false _ A13.o).mono ?_);rintro e w' ⟨rfl,⟨nd,rfl⟩⟩;refine⟨_,rfl,?_⟩));go_ret;exact⟨mr,mq⟩
def A1b.l0:Nat→List Int→Int→Int→List Int→Int→Option (Bool)
|0,_,_,_,_,_=>none
|k+1,x6,x7,x8,x394000,x394001=>if x8 < x7 then (if 0≤x8 then (if x8 < (x6.length:Int) then ((A0n.f (rd x6 x8) 0 15).bind fun t395=>(if t395=true then (A1b.l0 k x6 x7 (wrap64 (x8+1)) x394000 x394001) else (some false))) else (none)) else (none)) else (if (x394000.length:Int)=48 then ((A0n.f x394001 0 99).bind fun t396=>(some t396)) else (some false))
def A1b.f (k:Nat) (l0_0:List Int) (a0_1:Int):Option (Bool):=A1b.l0 k l0_0 (l0_0.length:Int) 0 l0_0 a0_1
theorem A1b.calls (k:Nat) (A0_0:Option Addr) (c0_0:Nat) (l0_0:List Int) (a0_1:Int) (r:Bool) (w:World) (hr0_0:Kd.C (Kd.int .i64) w A0_0 l0_0.length l0_0) (hc0_0:l0_0.length≤c0_0) (h:A1b.f k l0_0 a0_1=some r) :
  Calls Tryz.prog 128 #[.agg #[.slice A0_0 l0_0.length c0_0,.int .i64 a0_1]] w fun e w'=>e=.returned (.bool r)∧Below w.heap.size w w':=by
 have hu47:=Tryz.underlying47;have HR0_0:=B98 hr0_0;have HC0_0:=B98 hc0_0;clear hr0_0 hc0_0;have HB:=B98 (Below.refl w.heap.size w);unfold A1b.f at h;have H:=h;clear h;have H':=B98 H;clear H;go_enter Tryz.func128,Tryz.ntmps128;go_wp2_with (first|((with_reducible refine A0b (N:=1) rfl ?_);refine yE (N:=1) (cs:=#[.slice A0_0 l0_0.length c0_0,.int .i64 a0_1]) (t:=47) fun gb393 hg w2 hbox hb=>?_;obtain⟨n0_,n2_⟩:=yX (w:=w) hg hb mq;have n1_:=B98 (hbox);have n3_:=n2_;clear HB;have HB:=n0_;have BK393:=n1_;have GW393:=n2_;have GE393:=n3_;clear n0_ n1_ n2_ n3_;clear hb hbox hg;obtain⟨hcz3_0,hcz3_1,hfz3_0,hfz3_1⟩:=zb2 BK393.o))
 go_loopg [8] k (fun kq v8 w'=>∃ (x8_1:Int),v8=.int .i64 x8_1∧A0a (A1b.l0 kq l0_0 (l0_0.length:Int) x8_1 l0_0 a0_1=some r)∧A0a (kq≤k)∧A0a (w'.heap[gb393]? = some (.cells #[(.slice A0_0 l0_0.length c0_0),.int .i64 a0_1] 47 (0,0)))∧A0a (Below w.heap.size w w'))
 case atStart=>exact⟨(0),mt,H',⟨Nat.le_refl _⟩,⟨mz BK393.o⟩,⟨mq⟩⟩
 case round =>
  clear H';obtain⟨x8_1,rfl,HA,HK1,BK393,HB⟩:=hrel;cases gk with
 |zero=>exact absurd HA.o (by simp[A1b.l0])
 |succ k1 =>
   have H:=HA.o;clear HA;simp only [A1b.l0] at H;by_cases c4:x8_1 < (l0_0.length:Int)
   ·rw[if_pos c4] at H
    have c4b0:decide (x8_1 < (l0_0.length:Int))=true:=B99 c4;clear c4;by_cases c5:0≤x8_1
    ·rw[if_pos c5] at H
     have c5b0:decide (0≤x8_1)=true:=B99 c5;clear c5;by_cases c6:x8_1 < (l0_0.length:Int)
     ·rw[if_pos c6] at H
      have c6b0:decide (x8_1 < (l0_0.length:Int))=true:=B99 c6;clear c6;replace H:=C0f.mp H;obtain⟨t395,A70,H⟩:=H;(try dsimp only at H)
      have A7:=B98 A70;clear A70;by_cases c8:t395=true
      ·subst c8
       rw[if_pos rfl] at H;have H':=B98 H;clear H;have p394:0≤(x8_1:Int):=mo;have q394:x8_1 < (l0_0.length:Int):=mo;obtain⟨ad394,e394,hx394_0⟩:=Kd.at_int HR0_0.o x8_1 p394 q394;cases e394;replace hx394_0:=zc6 HB.o hx394_0;replace p394:=eq_true p394;replace q394:=eq_true q394;go_wp2_with (first|((with_reducible refine A0j (f:=89) rfl ?_);refine A1l (some 13) rfl rfl Tryz.func89 Zk rfl #[.int .i64 (rd l0_0 x8_1),.int .i64 0,.int .i64 15] rfl ml ?_;(with_reducible refine(A0n.calls (rd l0_0 x8_1) 0 15 true _ A7.o).mono ?_);rintro e w' ⟨rfl,⟨nd,rfl⟩⟩;refine⟨_,rfl,?_⟩))
       go_roundg k1
       case measure=>have:=HK1.o;omega
       case rel=>exact⟨(wrap64 (x8_1+1)),mt,H',⟨by have:=HK1.o;omega⟩,⟨mz BK393.o⟩,⟨mq⟩⟩
      ·replace c8:=Bool.eq_false_iff.mpr c8
       subst c8;rw[if_neg (show ¬ (false=true) by decide)] at H;obtain rfl:=C0d H;have p394:0≤(x8_1:Int):=mo;have q394:x8_1 < (l0_0.length:Int):=mo;obtain⟨ad394,e394,hx394_0⟩:=Kd.at_int HR0_0.o x8_1 p394 q394;cases e394;replace hx394_0:=zc6 HB.o hx394_0;replace p394:=eq_true p394;replace q394:=eq_true q394;go_wp2_with (first|((with_reducible refine A0j (f:=89) rfl ?_);refine A1l (some 13) rfl rfl Tryz.func89 Zk rfl #[.int .i64 (rd l0_0 x8_1),.int .i64 0,.int .i64 15] rfl ml ?_;(with_reducible refine(A0n.calls (rd l0_0 x8_1) 0 15 false _ A7.o).mono ?_);rintro e w' ⟨rfl,⟨nd,rfl⟩⟩;refine⟨_,rfl,?_⟩));go_ret;exact⟨mr,mq⟩
     ·rw[if_neg c6] at H
      exact absurd H Zs
    ·rw[if_neg c5] at H
     exact absurd H Zs
   ·rw[if_neg c4] at H
    have c4b0:decide (x8_1 < (l0_0.length:Int))=false:=C0a c4;clear c4;by_cases c9:(l0_0.length:Int)=48
    ·rw[if_pos c9] at H
     have c9b0:((l0_0.length:Int) == 48)=true:=beq_iff_eq.mpr c9;have c9b1:((l0_0.length:Int) != 48)=false:=bne_eq_false_iff_eq.mpr c9;clear c9;replace H:=C0f.mp H;obtain⟨t396,A100,H⟩:=H;(try dsimp only at H)
     have A10:=B98 A100;clear A100;obtain rfl:=C0d H;obtain⟨hcz11_0,hcz11_1,hfz11_0,hfz11_1⟩:=zb2 BK393.o;go_wp2_with (first|(go_at_call 89;(with_reducible refine(A0n.calls a0_1 0 99 t396 _ A10.o).mono ?_);rintro e w' ⟨rfl,⟨nd,rfl⟩⟩));go_ret;exact⟨mr,mq⟩
    ·rw[if_neg c9] at H
     have c9b0:((l0_0.length:Int) == 48)=false:=C0g.mpr c9;have c9b1:((l0_0.length:Int) != 48)=true:=bne_iff_ne.mpr c9;obtain rfl:=C0d H;obtain⟨hcz12_0,hcz12_1,hfz12_0,hfz12_1⟩:=zb2 BK393.o;go_wp2
     go_ret;exact⟨mr,mq⟩
def A1r.f (a0_0:Int):Option (Bool):=(A0n.f a0_0 0 4294967295).bind fun t398=>(some t398)
theorem A1r.calls (a0_0:Int) (r:Bool) (w:World) (h:A1r.f a0_0=some r) :
  Calls Tryz.prog 129 #[.agg #[.int .i64 a0_0]] w fun e w'=>e=.returned (.bool r)∧Below w.heap.size w w':=by
 have hu48:=Tryz.underlying48;have HB:=B98 (Below.refl w.heap.size w);unfold A1r.f at h;have H:=h;clear h;replace H:=C0f.mp H;obtain⟨t398,A20,H⟩:=H;(try dsimp only at H)
 have A2:=B98 A20;clear A20;obtain rfl:=C0d H;go_enter Tryz.func129,Tryz.ntmps129;go_wp2_with (first|((with_reducible refine A0b (N:=1) rfl ?_);refine yE (N:=1) (cs:=#[.int .i64 a0_0]) (t:=48) fun gb397 hg w3 hbox hb=>?_;obtain⟨n0_,n2_⟩:=yX (w:=w) hg hb mq;have n1_:=B98 (hbox);have n3_:=n2_;clear HB;have HB:=n0_;have BK397:=n1_;have GW397:=n2_;have GE397:=n3_;clear n0_ n1_ n2_ n3_;clear hb hbox hg;have hcz4_0:w3.cell? ⟨gb397,0,none⟩=some (.int .i64 a0_0):=(zO BK397.o 0).trans rfl;have hfz4_0:=zP BK397.o 0)|((with_reducible refine A0j (f:=89) rfl ?_);refine A1l (some 5) rfl rfl Tryz.func89 Zk rfl #[.int .i64 a0_0,.int .i64 0,.int .i64 4294967295] rfl ml ?_;(with_reducible refine(A0n.calls a0_0 0 4294967295 t398 _ A2.o).mono ?_);rintro e w' ⟨rfl,⟨nd,rfl⟩⟩;refine⟨_,rfl,?_⟩));go_ret;exact⟨mr,mq⟩
def A3i.f :Option (List Int × Int):=if 48≤35184372088832 then (some ((List.replicate 48 0),0)) else (none)
theorem A3i.calls  (r1:List Int) (r2:Int) (w:World) (h:A3i.f  = some (r1,r2)) :
  Calls Tryz.prog 90 #[] w fun e w'=>∃ v0_:Value,e=.returned (.agg #[v0_,.int .i64 r2])∧Kd.R (Kd.int .i64) 3 w' w.heap.size (fun _=>True) v0_ r1∧Below w.heap.size w w':=by
 have hu47:=Tryz.underlying47;have HB:=B98 (Below.refl w.heap.size w);unfold A3i.f at h;have H:=h;clear h;by_cases c1:48≤35184372088832
 ·rw[if_pos c1] at H
  have c1b0:=eq_true c1;have c1b1:decide (48≤35184372088832)=true:=B99 c1;clear c1;obtain⟨y408,hy408⟩:∃ y_:List Int,y_=(List.replicate 48 0):=⟨_,rfl⟩;rw[← hy408] at H;have Ny408:=B98 hy408;clear hy408;simp only [Option.some.injEq,Prod.mk.injEq] at H;obtain⟨rfl,rfl⟩:=H;go_enter Tryz.func90,Tryz.ntmps90;go_wp2_with (first|((with_reducible refine A0b (N:=0) rfl ?_);refine yE (N:=0) (cs:=#[.slice none 0 0,.int .i64 0]) (t:=47) fun gb407 hg w2 hbox hb=>?_;obtain⟨n0_,n2_⟩:=yX (w:=w) hg hb mq;have n1_:=B98 (hbox);have n3_:=n2_;clear HB;have HB:=n0_;have BK407:=n1_;have GW407:=n2_;have GE407:=n3_;clear n0_ n1_ n2_ n3_;clear hb hbox hg)|((with_reducible refine A0b (N:=1) rfl ?_);refine Kd.R_make (Kd.int .i64) _ 3 rfl (N:=1) rfl 31 _ _ rfl 48 rfl rfl Tryz.underlying31 (.int .i64 0) 8 B5q rfl Zd Zo 0 (ok:=fun _=>True) (okp:=fun _=>True) rfl (fun _ hk=>hk) trivial Zo Zo (Below.refl _ _) (Nat.le_refl _) ?_;intro v409 w3 ho4 hb hg_ hnew_;clear hg_ hnew_;(first|rw[← Ny408.o] at ho4|(simp only [Int.reduceToNat] at ho4;rw[← Ny408.o] at ho4));have n0_:=B98 (Kd.R_lower ho4 (A02 mq));have n1_:=B98 (zK (mz BK407.o) hb);have n2_:=B98 (zN mq hb);clear BK407;clear HB;have HO410:=n0_;have BK407:=n1_;have HB:=n2_;clear n0_ n1_ n2_;clear hb ho4;obtain⟨Ao5,co5,eo5⟩:=Kd.R_slice HO410.o;subst eo5;obtain⟨hcz6_0,hcz6_1,hfz6_0,hfz6_1⟩:=zb2 BK407.o));refine bodyPost_ret (results_cell_row rfl _ _ gb407 47 #[.slice Ao5 y408.length co5,.int .i64 0] (0,0) _ rfl (by(with_reducible repeat(first|apply zA|apply zC|apply zB));refine A1u (cs:=#[.slice Ao5 y408.length co5,.int .i64 0]) ?_ 1 _ rfl;(with_reducible repeat(first|apply zA|apply zC|apply zB));refine A1u (cs:=#[.slice none 0 0,.int .i64 0]) ?_ 0 _ rfl;(with_reducible repeat(first|apply zA|apply zC|apply zB));exact BK407.o) Tryz.underlying47 rfl Zk) rfl ?_;exact⟨_,mr,by(with_reducible repeat(first|apply zE|apply zD|apply zF));exact zR (zL (p:=⟨gb407,1,none⟩) (zL (p:=⟨gb407,0,none⟩) (zQ HO410.o BK407.o Zd) (fun _ hk=>hk.2) (.slice Ao5 y408.length co5)) (fun _ hk=>hk.2) (.int .i64 0)) (fun _ hk=>trivial),mq⟩
 ·rw[if_neg c1] at H
  exact absurd H Zs
def A16.l0:Nat→Int→Int→Int→List (S94)→Int→Option ((List (S94)) × Int × Bool)
|0,_,_,_,_,_=>none
|k+1,x0,x10,x11,x414000,x414001=>if x11 < x10 then (if x414000.length < 2513169434916 then (A16.l0 k x0 x10 (wrap64 (x11+1)) (x414000 ++ [(⟨0,false,(⟨#[]⟩:ByteArray),(⟨#[]⟩:ByteArray),wrap64 (x11+1)⟩:S94)]) x414001) else (none)) else (if 0≤(wrap64 (x0 - 1)) then (if (wrap64 (x0 - 1)) < (x414000.length:Int) then (some ((x414000.set ((wrap64 (x0 - 1)):Int).toNat (⟨(A0p x414000 (wrap64 (x0 - 1))).f0,(A0p x414000 (wrap64 (x0 - 1))).f1,(A0p x414000 (wrap64 (x0 - 1))).f2,(A0p x414000 (wrap64 (x0 - 1))).f3,(-1)⟩:S94)),x414001,true)) else (none)) else (none))
def A16.f (k:Nat) (a0:Int):Option ((List (S94)) × Int × Bool):=(A0n.f a0 1 24).bind fun t412=>(if t412=true then (A16.l0 k a0 a0 0 ([]:List (S94)) 0) else (some (([]:List (S94)),0,false)))
theorem A16.calls (k:Nat) (a0:Int) (r1:List (S94)) (r2:Int) (r3:Bool) (w:World) (h:A16.f k a0=some (r1,r2,r3)) :
  Calls Tryz.prog 91 #[.int .i64 a0] w fun e w'=>∃ v0_:Value,e=.returned (.tuple #[.agg #[v0_,.int .i64 r2],.bool r3])∧Kd.R k94 94 w' w.heap.size (fun _=>True) v0_ r1∧Below w.heap.size w w':=by
 have hu42:=Tryz.underlying42;have hu94:=Tryz.underlying94;have HB:=B98 (Below.refl w.heap.size w);unfold A16.f at h;have H:=h;clear h;replace H:=C0f.mp H;obtain⟨t412,A20,H⟩:=H;(try dsimp only at H)
 have A2:=B98 A20;clear A20;by_cases c3:t412=true
 ·subst c3
  rw[if_pos rfl] at H;have H':=B98 H;clear H;go_enter Tryz.func91,Tryz.ntmps91;go_wp2_with (first|((with_reducible refine A0b (N:=2) rfl ?_);refine yE (N:=2) (cs:=#[.slice none 0 0,.int .i64 0]) (t:=42) fun gb411 hg w4 hbox hb=>?_;obtain⟨n0_,n2_⟩:=yX (w:=w) hg hb mq;have n1_:=B98 (hbox);have n3_:=n2_;clear HB;have HB:=n0_;have BK411:=n1_;have GW411:=n2_;have GE411:=n3_;clear n0_ n1_ n2_ n3_;clear hb hbox hg)|((with_reducible refine A0j (f:=89) rfl ?_);refine A1l (some 7) rfl rfl Tryz.func89 Zk rfl #[.int .i64 a0,.int .i64 1,.int .i64 24] rfl ml ?_;(with_reducible refine(A0n.calls a0 1 24 true _ A2.o).mono ?_);rintro e w' ⟨rfl,⟨nd,rfl⟩⟩;refine⟨_,rfl,?_⟩)|((with_reducible refine A0b (N:=4) rfl ?_);refine yE (N:=4) (cs:=#[.slice none 0 0,.int .i64 0]) (t:=42) fun gb413 hg w5 hbox hb=>?_;obtain⟨n0_,n5_,n6_⟩:=yY hg hb (mz BK411.o);obtain⟨n1_,n3_⟩:=yX (w:=w) hg hb mq;have n2_:=B98 (hbox);have n4_:=n3_;clear BK411;clear HB;have BK411:=n0_;have HB:=n1_;have BK413:=n2_;have GW413:=n3_;have GE413:=n4_;have NB411_413:=n5_;have NB413_411:=n6_;clear n0_ n1_ n2_ n3_ n4_ n5_ n6_;clear hb hbox hg))
  go_loopg [11] k (fun kq v11 w'=>∃ (x11_1:Int) (x414000_1:List (S94)) (u414000:Value),v11=.int .i64 x11_1∧A0a (A16.l0 kq a0 a0 x11_1 x414000_1 0=some (r1,r2,r3))∧A0a (kq≤k)∧A0a (Kd.R k94 94 w' w.heap.size (fun _=>True) u414000 x414000_1)∧A0a (w'.heap[gb411]? = some (.cells #[(.slice none 0 0),.int .i64 0] 42 (0,0)))∧A0a (w'.heap[gb413]? = some (.cells #[u414000,.int .i64 0] 42 (0,0)))∧A0a (Below w.heap.size w w'))
  case atStart=>exact⟨(0),(([]:List (S94))),(.slice none 0 0),mt,H',⟨Nat.le_refl _⟩,⟨by first|exact Kd.R_nil _ _ _ _ _|exact Kd.N_nil _ _ _ _ _|exact Kd.V_nil _ _ _ _ _|exact Kd.Q_nil _ _ _ _ _|exact Kd.S_nil _ _ _ _ _⟩,⟨mz BK411.o⟩,⟨mz BK413.o⟩,⟨mq⟩⟩
  case round =>
   clear H';obtain⟨x11_1,x414000_1,u414000,rfl,HA,HK1,HO_414000,BK411,BK413,HB⟩:=hrel;cases gk with
  |zero=>exact absurd HA.o (by simp[A16.l0])
  |succ k1 =>
    have H:=HA.o;clear HA;simp only [A16.l0] at H;by_cases c6:x11_1 < a0
    ·rw[if_pos c6] at H
     have c6b0:decide (x11_1 < a0)=true:=B99 c6;clear c6;by_cases c7:x414000_1.length < 2513169434916
     ·rw[if_pos c7] at H
      have LMc7:=B98 c7;clear c7;obtain⟨y414,hy414⟩:∃ y_:List (S94),y_=(x414000_1 ++ [(⟨0,false,(⟨#[]⟩:ByteArray),(⟨#[]⟩:ByteArray),wrap64 (x11_1+1)⟩:S94)]):=⟨_,rfl⟩;rw[← hy414] at H;have Ny414:=B98 hy414;clear hy414;have H':=B98 H;clear H;have hnb8:=NB413_411.o;have hnc8:=NB411_413.o;obtain⟨hcz9_0,hcz9_1,hfz9_0,hfz9_1⟩:=zb2 BK413.o;go_wp2_with (first|((with_reducible refine A1c (b:=.append) (xs:=#[.tmp 15,.tmp 19]) rfl ?_);at_builtin;refine Kd.R_append k94 (w0:=w) w.heap.size rfl (.tmp 15) (.tmp 19) 40 94 (.agg #[(.int .i64 0),(.bool false),(.string ⟨#[]⟩),(.string ⟨#[]⟩),(.int .i64 0)]) 56 rfl Tryz.underlying40 B1l rfl Zd Zo u414000 x414000_1 (⟨0,false,(⟨#[]⟩:ByteArray),(⟨#[]⟩:ByteArray),wrap64 (x11_1+1)⟩:S94) [.int .i64 0,.bool false,.string (⟨#[]⟩:ByteArray),.string (⟨#[]⟩:ByteArray),.int .i64 (wrap64 (x11_1+1))] (fun _=>True) (fun _=>False) rfl rfl ?aP (fun _ hk=>hk.elim) ?aF ?aO ?aB ?aS ?aL ?_;(case aP=>exact A86 _ _ _ (⟨0,false,(⟨#[]⟩:ByteArray),(⟨#[]⟩:ByteArray),wrap64 (x11_1+1)⟩:S94));(case aB=>exact mq);(case aF=>exact(fun _ _=>trivial));(case aO=>exact(me HO_414000.o));(case aS=>exact(A02 mq));(case aL=>have:=LMc7.o;omega);intro v415 w10 ho hb hg hat;rw[← Ny414.o] at ho;have n0_:=B98 (A5a (g:=gb411) (o:=.cells #[.slice none 0 0,.int .i64 0] 42 (0,0)) (mz BK411.o) hg (Kd.R_ne HO_414000.o BK411.o Zd));have n1_:=B98 (A5a (g:=gb413) (o:=.cells #[u414000,.int .i64 0] 42 (0,0)) (mz BK413.o) hg (Kd.R_ne HO_414000.o BK413.o Zd));have n2_:=B98 (hb);have n3_:=B98 (ho);clear BK411;clear BK413;clear HB;clear HO_414000;have BK411:=n0_;have BK413:=n1_;have HB:=n2_;have HO416:=n3_;clear n0_ n1_ n2_ n3_;clear ho hb hg hat;obtain⟨Ao11,co11,eo11⟩:=Kd.R_slice HO416.o;subst eo11;obtain⟨hcz12_0,hcz12_1,hfz12_0,hfz12_1⟩:=zb2 BK413.o))
      go_roundg k1
      case measure=>have:=HK1.o;omega
      case rel=>exact⟨(wrap64 (x11_1+1)),(y414),(.slice Ao11 y414.length co11),mt,H',⟨by have:=HK1.o;omega⟩,⟨by(with_reducible repeat(first|apply zE|apply zD|apply zF));exact zR (zL (p:=⟨gb413,0,none⟩) (zQ HO416.o BK413.o Zd) (fun _ hk=>hk.2) (.slice Ao11 y414.length co11)) (fun _ hk=>trivial)⟩,⟨by(with_reducible repeat(first|apply zA|apply zC|apply zB));refine zT ?_ NB411_413.o _;(with_reducible repeat(first|apply zA|apply zC|apply zB));exact BK411.o⟩,⟨by(with_reducible repeat(first|apply zA|apply zC|apply zB));refine A1u (cs:=#[u414000,.int .i64 0]) ?_ 0 _ rfl;(with_reducible repeat(first|apply zA|apply zC|apply zB));exact BK413.o⟩,⟨mq⟩⟩
     ·rw[if_neg c7] at H
      exact absurd H Zs
    ·rw[if_neg c6] at H
     have c6b0:decide (x11_1 < a0)=false:=C0a c6;clear c6;obtain⟨ji13,hji13⟩:∃ j_:Int,(wrap64 (a0 - 1))=j_:=⟨_,rfl⟩;replace H:(if 0≤(ji13) then (if (ji13) < (x414000_1.length:Int) then (some ((x414000_1.set ((ji13):Int).toNat (⟨(A0p x414000_1 (ji13)).f0,(A0p x414000_1 (ji13)).f1,(A0p x414000_1 (ji13)).f2,(A0p x414000_1 (ji13)).f3,(-1)⟩:S94)),0,true)) else (none)) else (none))=some (r1,r2,r3):=by first|(rw[hji13] at H;exact H)|(simp only [hji13] at H ⊢;exact H)
     have hji13w:(IntKind.i64.wrap (a0 - 1))=ji13:=(A1y _).trans hji13
     by_cases c14:0≤(ji13)
     ·rw[if_pos c14] at H
      have c14b0:decide (0≤(ji13))=true:=B99 c14;clear c14;by_cases c15:(ji13) < (x414000_1.length:Int)
      ·rw[if_pos c15] at H
       have c15b0:decide ((ji13) < (x414000_1.length:Int))=true:=B99 c15;clear c15;obtain⟨y417,hy417⟩:∃ y_:List (S94),y_=(x414000_1.set ((ji13):Int).toNat (⟨(A0p x414000_1 (ji13)).f0,(A0p x414000_1 (ji13)).f1,(A0p x414000_1 (ji13)).f2,(A0p x414000_1 (ji13)).f3,(-1)⟩:S94)):=⟨_,rfl⟩;rw[← hy417] at H;have Ny417:=B98 hy417;clear hy417;simp only [Option.some.injEq,Prod.mk.injEq] at H;obtain⟨rfl,rfl,rfl⟩:=H;have hnb17:=NB413_411.o;have hnc17:=NB411_413.o;obtain⟨hcz18_0,hcz18_1,hfz18_0,hfz18_1⟩:=zb2 BK413.o;have p16:0≤((ji13):Int):=mo;have q16:((ji13):Int) < ((x414000_1.length:Int):Int):=mo;obtain⟨go16,co16,eo16,gb16,gl16,cl16,HG16⟩:=Kd.R_form HO_414000.o Zo
       (first|cases eo16|(injection eo16 with ea_ en_ ec_;(first|subst ea_|(injection ea_ with ea_;subst ea_));subst ec_;clear en_))
       have GB16:=B98 gb16;have GG16:=B98 HG16;clear gb16 gl16 HG16;obtain⟨ce16,hcl16,hM16,hcc16,hfr16⟩:=Kd.R_elem HO_414000.o z94 ((ji13):Int) p16 q16;obtain rfl:=A7t hM16;have hx16_0:wr.cell? ⟨go16,((ji13):Int).toNat * 5,none⟩=some (.int .i64 ((A0p x414000_1 (ji13)).f0)):=hcc16 0 _ rfl;have hx16_1:wr.cell? ⟨go16,((ji13):Int).toNat * 5+1,none⟩=some (.bool ((A0p x414000_1 (ji13)).f1)):=hcc16 1 _ rfl;have hx16_2:wr.cell? ⟨go16,((ji13):Int).toNat * 5+2,none⟩=some (.string ((A0p x414000_1 (ji13)).f2)):=hcc16 2 _ rfl;have hx16_3:wr.cell? ⟨go16,((ji13):Int).toNat * 5+3,none⟩=some (.string ((A0p x414000_1 (ji13)).f3)):=hcc16 3 _ rfl;have hx16_4:wr.cell? ⟨go16,((ji13):Int).toNat * 5+4,none⟩=some (.int .i64 ((A0p x414000_1 (ji13)).f4)):=hcc16 4 _ rfl;have hf16_0:wr.frozen? ⟨go16,((ji13):Int).toNat * 5,none⟩=false:=hfr16 0;have hf16_1:wr.frozen? ⟨go16,((ji13):Int).toNat * 5+1,none⟩=false:=hfr16 1;have hf16_2:wr.frozen? ⟨go16,((ji13):Int).toNat * 5+2,none⟩=false:=hfr16 2;have hf16_3:wr.frozen? ⟨go16,((ji13):Int).toNat * 5+3,none⟩=false:=hfr16 3;have hf16_4:wr.frozen? ⟨go16,((ji13):Int).toNat * 5+4,none⟩=false:=hfr16 4;clear hcl16 hcc16 hfr16 hM16;replace p16:=eq_true p16;replace q16:=eq_true q16;have HX19:=B98 (show Kd.R k94 94 wr w.heap.size (fun _=>True) (.slice (some ⟨go16,0,none⟩) x414000_1.length co16) x414000_1 from(me HO_414000.o));obtain⟨ce19,hcl19,hM19,hcc19,hfr19⟩:=Kd.R_elem HX19.o z94 ((ji13):Int) (C0b (by assumption)) (by have h_:((ji13):Int) < ((x414000_1.length:Int):Int):=mo;first|exact h_|(have e_:=(Kd.R_reads' HO_414000.o).1;omega)|simpa using h_);obtain rfl:=A7t hM19;have HP19:=Kd.R_seg HX19.o ((ji13):Int) (C0b (by assumption)) (by have h_:((ji13):Int) < ((x414000_1.length:Int):Int):=mo;first|exact h_|(have e_:=(Kd.R_reads' HO_414000.o).1;omega)|simpa using h_) (seg:=[.int .i64 (-1)]) (j:=4) hcl19 hcc19 (show 5≤5 from by decide) (x':=(⟨(A0p x414000_1 (ji13)).f0,(A0p x414000_1 (ji13)).f1,(A0p x414000_1 (ji13)).f2,(A0p x414000_1 (ji13)).f3,(-1)⟩:S94)) (A86 _ _ _ (⟨(A0p x414000_1 (ji13)).f0,(A0p x414000_1 (ji13)).f1,(A0p x414000_1 (ji13)).f2,(A0p x414000_1 (ji13)).f3,(-1)⟩:S94) ) (fun _ hk=>hk);have hx19_4:=hcc19 4 _ rfl
       (try simp only [show(k94).sz=5 from rfl,Nat.mul_one,Nat.add_zero] at hx19_4)
       have hf19_4:=hfr19 4
       (try simp only [show(k94).sz=5 from rfl,Nat.mul_one,Nat.add_zero] at hf19_4)
       clear hcl19 hcc19 hfr19 hM19;go_wp2_with (first|((with_reducible refine B3d (t:=3) (p:=28) rfl ?_);refine B1g (t:=3) (p:=28) (v:=?vo_w20) (w1:=(wr.setCell ⟨go16,((ji13):Int).toNat * 5+4,none⟩ (.int .i64 (-1)))) ?hg ?ho ?hn ?hr ?_;(case ho=>rfl);(case hg=>rfl);(case hn=>rfl);(case hr=>first|(go_simp;done)|(go_simp;rfl));intro w20 hw;have hg:wr.grownBy w20 (some go16):=(by rw[hw];exact HP19.2);have hp_:Kd.R k94 94 w20 w.heap.size (fun _=>True) (.slice (some ⟨go16,0,none⟩) x414000_1.length co16) y417:=(by rw[hw,Ny417.o];exact HP19.1);clear HP19;have n0_:=B98 (hp_);have n1_:=B98 (A5a (g:=gb411) (o:=.cells #[.slice none 0 0,.int .i64 0] 42 (0,0)) (mz BK411.o) hg (Kd.R_ne HO_414000.o BK411.o Zd));have n2_:=B98 (A5a (g:=gb413) (o:=.cells #[.slice (some ⟨go16,0,none⟩) x414000_1.length co16,.int .i64 0] 42 (0,0)) (mz BK413.o) hg (Kd.R_ne HO_414000.o BK413.o Zd));have n3_:=B98 ((by rw[hw];exact zJ (HB.o) GB16.o:Below w.heap.size w w20));clear HO_414000;clear BK411;clear BK413;clear HB;have HO_414000:=n0_;have BK411:=n1_;have BK413:=n2_;have HB:=n3_;clear n0_ n1_ n2_ n3_;clear hg hw hp_;obtain⟨hcz21_0,hcz21_1,hfz21_0,hfz21_1⟩:=zb2 BK413.o;obtain⟨hcz22_0,hcz22_1,hfz22_0,hfz22_1⟩:=zb2 BK411.o));refine bodyPost_ret (A1z rfl _ _ gb411 42 #[.slice (some ⟨go16,0,none⟩) x414000_1.length co16,.int .i64 0] (0,0) _ rfl (by(with_reducible repeat(first|apply zA|apply zC|apply zB));refine A1u (cs:=#[.slice (some ⟨go16,0,none⟩) x414000_1.length co16,.int .i64 0]) ?_ 1 _ rfl;(with_reducible repeat(first|apply zA|apply zC|apply zB));refine A1u (cs:=#[.slice none 0 0,.int .i64 0]) ?_ 0 _ rfl;(with_reducible repeat(first|apply zA|apply zC|apply zB));exact BK411.o) Tryz.underlying42 rfl Zk) rfl ?_;exact⟨_,by first|rfl|(simp[] <;> rfl)|(simp only [← hji13];first|rfl|(simp[] <;> rfl))|(simp[*] <;> rfl),by(with_reducible repeat(first|apply zE|apply zD|apply zF));exact zR (zL (p:=⟨gb411,1,none⟩) (zL (p:=⟨gb411,0,none⟩) (zQ HO_414000.o BK411.o Zd) (fun _ hk=>hk.2) (.slice (some ⟨go16,0,none⟩) x414000_1.length co16)) (fun _ hk=>hk.2) (.int .i64 0)) (fun _ hk=>trivial),mq⟩
      ·rw[if_neg c15] at H
       exact absurd H Zs
     ·rw[if_neg c14] at H
      exact absurd H Zs
 ·replace c3:=Bool.eq_false_iff.mpr c3
  subst c3;rw[if_neg (show ¬ (false=true) by decide)] at H;simp only [Option.some.injEq,Prod.mk.injEq] at H;obtain⟨rfl,rfl,rfl⟩:=H;go_enter Tryz.func91,Tryz.ntmps91;go_wp2_with (first|((with_reducible refine A0b (N:=2) rfl ?_);refine yE (N:=2) (cs:=#[.slice none 0 0,.int .i64 0]) (t:=42) fun gb411 hg w23 hbox hb=>?_;obtain⟨n0_,n2_⟩:=yX (w:=w) hg hb mq;have n1_:=B98 (hbox);have n3_:=n2_;clear HB;have HB:=n0_;have BK411:=n1_;have GW411:=n2_;have GE411:=n3_;clear n0_ n1_ n2_ n3_;clear hb hbox hg)|((with_reducible refine A0j (f:=89) rfl ?_);refine A1l (some 7) rfl rfl Tryz.func89 Zk rfl #[.int .i64 a0,.int .i64 1,.int .i64 24] rfl ml ?_;(with_reducible refine(A0n.calls a0 1 24 false _ A2.o).mono ?_);rintro e w' ⟨rfl,⟨nd,rfl⟩⟩;refine⟨_,rfl,?_⟩;(try(rw[A81 w23];generalize hq_:World.drewN w23 _=w23;have n0_:A0a (w23.heap[gb411]? = some (.cells #[.slice none 0 0,.int .i64 0] 42 (0,0))):=⟨by rw[← hq_];exact(mz BK411.o)⟩;have n1_:A0a (Below w.heap.size w w23):=⟨by rw[← hq_];exact mq⟩;clear BK411 HB hq_;have BK411:=n0_;have HB:=n1_;clear n0_ n1_));obtain⟨hcz24_0,hcz24_1,hfz24_0,hfz24_1⟩:=zb2 BK411.o));refine bodyPost_ret (A1z rfl _ _ gb411 42 #[.slice none 0 0,.int .i64 0] (0,0) _ rfl (by(with_reducible repeat(first|apply zA|apply zC|apply zB));refine A1u (cs:=#[.slice none 0 0,.int .i64 0]) ?_ 1 _ rfl;(with_reducible repeat(first|apply zA|apply zC|apply zB));refine A1u (cs:=#[.slice none 0 0,.int .i64 0]) ?_ 0 _ rfl;(with_reducible repeat(first|apply zA|apply zC|apply zB));exact BK411.o) Tryz.underlying42 rfl Zk) rfl ?_;exact⟨_,mr,by first|exact Kd.R_nil _ _ _ _ _|exact Kd.N_nil _ _ _ _ _|exact Kd.V_nil _ _ _ _ _|exact Kd.Q_nil _ _ _ _ _|exact Kd.S_nil _ _ _ _ _,mq⟩
def bits_Mul64.f (a0:Int) (a1:Int):Option (Int × Int):=some (IntKind.u64.wrap ((IntKind.u64.wrap ((IntKind.u64.wrap ((a0 / 4294967296) * (a1 / 4294967296)))+((IntKind.u64.wrap ((IntKind.u64.wrap ((a0 / 4294967296) * (Go.bits .and .u64 a1 4294967295)))+((IntKind.u64.wrap ((Go.bits .and .u64 a0 4294967295) * (Go.bits .and .u64 a1 4294967295))) / 4294967296))) / 4294967296)))+((IntKind.u64.wrap ((Go.bits .and .u64 (IntKind.u64.wrap ((IntKind.u64.wrap ((a0 / 4294967296) * (Go.bits .and .u64 a1 4294967295)))+((IntKind.u64.wrap ((Go.bits .and .u64 a0 4294967295) * (Go.bits .and .u64 a1 4294967295))) / 4294967296))) 4294967295)+(IntKind.u64.wrap ((Go.bits .and .u64 a0 4294967295) * (a1 / 4294967296))))) / 4294967296)),IntKind.u64.wrap (a0 * a1))
theorem bits_Mul64.calls (a0:Int) (a1:Int) (r1:Int) (r2:Int) (w:World) (h:bits_Mul64.f a0 a1=some (r1,r2)) :
  Calls Tryz.prog 240 #[.int .u64 a0,.int .u64 a1] w fun e w'=>e=.returned (.tuple #[.int .u64 r1,.int .u64 r2])∧A2e w w':=by
 unfold bits_Mul64.f at h;have H:=h;clear h;simp only [Option.some.injEq,Prod.mk.injEq] at H;obtain⟨rfl,rfl⟩:=H;go_enter Tryz.func240,Tryz.ntmps240
 go_wp2
 go_ret2
 exact⟨by first|rfl|(simp;done)|(simp[*];done),md⟩
def bits_Mul.f (a0:Int) (a1:Int):Option (Int × Int):=(bits_Mul64.f a0 a1).bind fun bt418=>(some (bt418.1,bt418.2))
theorem bits_Mul.calls (a0:Int) (a1:Int) (r1:Int) (r2:Int) (w:World) (h:bits_Mul.f a0 a1=some (r1,r2)) :
  Calls Tryz.prog 235 #[.int .u64 a0,.int .u64 a1] w fun e w'=>e=.returned (.tuple #[.int .u64 r1,.int .u64 r2])∧A2e w w':=by
 unfold bits_Mul.f at h;have H:=h;clear h;replace H:=C0f.mp H;obtain⟨⟨t418,t419⟩,A30,H⟩:=H;(try dsimp only at H)
 have A3:=B98 A30;clear A30;simp only [Option.some.injEq,Prod.mk.injEq] at H;obtain⟨rfl,rfl⟩:=H;go_enter Tryz.func235,Tryz.ntmps235;go_wp2_with (first|((with_reducible refine A0j (f:=240) rfl ?_);refine A1l (some 25) rfl rfl Tryz.func240 Zk rfl #[.int .u64 a0,.int .u64 a1] rfl ml ?_;(with_reducible refine(bits_Mul64.calls a0 a1 t418 t419 _ A3.o).mono ?_);rintro e w' ⟨rfl,⟨nd,rfl⟩⟩;refine⟨_,rfl,?_⟩))
 go_ret2
 exact⟨by first|rfl|(simp;done)|(simp[*];done),md⟩
section
theorem A8n {P:Program} (w:World) (dT sT ty elem:TypeId) (g o dLen dCap:Nat) (a:Addr) (sLen sCap:Nat) (cur:Array Value) (t:TypeId) (cs:List Value) (sz m:Nat)
  (hu:P.underlying dT=some (.slice elem)) (hs:(P.info? elem).map (·.size)=some sz) (hm:m=Nat.min sLen dLen)
  (hg:w.heap[g]? = some (.cells cur t (0,0))) (hn:cs.length=m * sz)
  (hsrc:∀ j v,cs[j]? = some v→w.cell? (a.add j)=some v) (hfit:o+cs.length≤cur.size) (h1:∀ v ∈ cs,v.oneCell'=true) :
  (Builtin.copy_ #[dT,sT] ty #[.slice (some ⟨g,o,none⟩) dLen dCap,.slice (some a) sLen sCap]).run P w =
   .ok (goInt m) (w.setRow g (cur.toList.take o ++ cs ++ cur.toList.drop (o+cs.length)).toArray):=by
 subst hm;have hl:=run_loadCells_list (P:=P) w a cs hsrc;have hst:=run_storeCells_at P g o t cs 0 cur w hg (by simpa using hfit) h1
 cases hq:P.info? elem with
|none=>simp[hq] at hs
|some i =>
  have hi:i.size=sz:=by simpa [hq] using hs
  simp[Builtin.copy_,run_underlying hu,Builtin.lenOf,Builtin.firstCells,sizeOf,typeInfo,hq,hi,← hn,hl,hst]
theorem A85 {P:Program} {w:World} {ops:Array Oper} {rest:List Oper} {o:Oper} {a:Act} {Q:Exit→Act→World→Prop} (hgd:o.guard=none) (d s:Operand) (dT sT:TypeId)
  (ho:o.op=.call { callee:=.builtin .copy,args:=#[d,s],argTypes:=#[dT,sT] }) (elem:TypeId) (hu:P.underlying dT=some (.slice elem)) (sz:Nat) (hsz:(P.info? elem).map (·.size)=some sz)
  (g off dLen dCap:Nat) (ad:Addr) (sLen sCap:Nat) (hd:a.eval d=.slice (some ⟨g,off,none⟩) dLen dCap) (hs:a.eval s=.slice (some ad) sLen sCap)
  (cur:Array Value) (t:TypeId) (hg:w.heap[g]? = some (.cells cur t (0,0))) (cs:List Value) (m:Nat) (hm:m=Nat.min sLen dLen) (hn:cs.length=m * sz)
  (hsrc:∀ j v,cs[j]? = some v→w.cell? (ad.add j)=some v) (hfit:off+cs.length≤cur.size) (h1:∀ v ∈ cs,v.oneCell'=true) (B:Nat) (w0:World) (hb:Below B w0 w) (hBg:B≤g)
  (h:∀ w',A0a (w'.heap[g]? = some (.cells (cur.toList.take off ++ cs ++ cur.toList.drop (off+cs.length)).toArray t (0,0)))→A0a (Below B w0 w')→wpList P ops Q rest (a.put o.dst (goInt m)) w'):wpList P ops Q (o :: rest) a w:=by
 refine wpList_plain hgd fun K hK=>?_;have hrun:=A8n (P:=P) w dT sT o.type elem g off dLen dCap ad sLen sCap cur t cs sz m hu hsz hm hg hn hsrc hfit h1;unfold Oper.wp;simp[execOp,ho,resolve,invoke,builtin,hd,hs,hrun,Result.andThen];exact hK _ _ (h _ ⟨by simpa using setRow_heap w g _ _ t _ hg⟩ ⟨by simpa using below_setRow hb hBg _⟩)
theorem B0z {P:Program} {ops:Array Oper} {o:Oper} {a:Act} {w:World} {K:Act→World→Prop} {Q:Exit→Act→World→Prop} {E:Prop} (hgd:o.guard=none) (d s:Operand) (dT sT:TypeId)
  (ho:o.op=.call { callee:=.builtin .copy,args:=#[d,s],argTypes:=#[dT,sT] }) (elem:TypeId) (hu:P.underlying dT=some (.slice elem)) (sz:Nat) (hsz:(P.info? elem).map (·.size)=some sz)
  (g off dLen dCap:Nat) (ad:Addr) (sLen sCap:Nat) (hd:a.eval d=.slice (some ⟨g,off,none⟩) dLen dCap) (hs:a.eval s=.slice (some ad) sLen sCap)
  (cur:Array Value) (t:TypeId) (hg:w.heap[g]? = some (.cells cur t (0,0))) (cs:List Value) (m:Nat) (hm:m=Nat.min sLen dLen) (hn:cs.length=m * sz)
  (hsrc:∀ j v,cs[j]? = some v→w.cell? (ad.add j)=some v) (hfit:off+cs.length≤cur.size) (h1:∀ v ∈ cs,v.oneCell'=true) (B:Nat) (w0:World) (hb:Below B w0 w) (hBg:B≤g)
  (h:∀ w',A0a (w'.heap[g]? = some (.cells (cur.toList.take off ++ cs ++ cur.toList.drop (off+cs.length)).toArray t (0,0)))→A0a (Below B w0 w')→K (a.put o.dst (goInt m)) w') :
  if Region.wanted o (yielded ops a.tmps)=true then Oper.wp P o a w K Q else E:=by
 have hw:Region.wanted o (yielded ops a.tmps)=true:=by simp[Region.wanted,hgd]
 rw[if_pos hw];have hrun:=A8n (P:=P) w dT sT o.type elem g off dLen dCap ad sLen sCap cur t cs sz m hu hsz hm hg hn hsrc hfit h1;unfold Oper.wp;simp[execOp,ho,resolve,invoke,builtin,hd,hs,hrun,Result.andThen];exact h _ ⟨by simpa using setRow_heap w g _ _ t _ hg⟩ ⟨by simpa using below_setRow hb hBg _⟩
end
theorem A44 (x:S151) (c:Nat) (hc1:1≤c) (hc2:c≤1024) (hm:bits_Mul.f 1 (c:Int)=some (0,(c:Int))) (A:Option Addr) (c0:Nat) (w:World) (hr:Kd.C k151 w A 1 [x]) :
  Calls Tryz.prog 218 #[.slice A 1 c0,.int .i64 (c:Int)] w fun e w'=>∃ v,e=.returned v∧Kd.R k151 151 w' w.heap.size (fun _=>True) v (List.replicate c x)∧Below w.heap.size w w':=by
 obtain⟨ad,rfl,hcell⟩:=B0g F151 hr Zo;have HM:=B98 hm;have HR:=B98 hr;have H1:=B98 hc1;have H2:=B98 hc2;have e1:IntKind.u64.wrap (c:Int)=(c:Int):=by simp[IntKind.wrap,IntKind.bits,IntKind.signed];omega
 have e2:IntKind.i64.wrap (c:Int)=(c:Int):=by unfold IntKind.wrap;simp[IntKind.bits,IntKind.signed];omega
 have n1:((c:Int) < 0)=False:=by simp
 have n2:((c:Int) > 9223372036854775807)=False:=by simp;omega
 clear hr hcell hm;go_enter Tryz.func218,Tryz.ntmps218;go_wp2_with (first|(go_at_call 235;refine(bits_Mul.calls 1 (c:Int) 0 (c:Int) _ HM.o).mono ?_;rintro e w' ⟨rfl,⟨nd,rfl⟩⟩)|((with_reducible refine A0b (N:=30) rfl ?_);refine Kd.R_make k151 w.heap.size 151 rfl (N:=30) rfl 43 _ _ rfl (c:Int) rfl rfl Tryz.underlying43 (.agg #[.string ⟨#[]⟩,.int .i64 0]) 24 A4y rfl Zd Zo z151 (w0:=w) (ok:=fun _=>True) (okp:=fun _=>True) (A54 _ _ _ z151) (fun _ hk=>hk) trivial Zo Zo (by repeat(first|exact Below.refl _ _|apply zG|apply zH)) Zs ?_;intro v1 w1 ho1 hb1 hg_ hnew_;clear hg_ hnew_;rw[C0k] at ho1;have HB:=B98 hb1;clear hb1;obtain⟨Ao,co,eo⟩:=Kd.R_slice ho1;subst eo;rw[List.length_replicate] at ho1;obtain⟨-,⟨-,hx_,-⟩|⟨g,cur,rfl,-,hgb,hbk,hcc,hcm,hcs,-⟩⟩:=A6l F151 ho1;(first|omega|skip);have HBK:=B98 hbk;have HCS:=B98 hcs;have HCC:=B98 hcc;have HCM:=B98 hcm;have HG:=B98 hgb;clear ho1 hbk hcs hcc hcm hgb)|((with_reducible refine A0b (N:=33) rfl ?_);refine A85 rfl (.tmp 31) (.tmp 32) 43 43 rfl 151 Tryz.underlying43 2 ?c0 g 0 c co ad 1 c0 rfl rfl cur 151 HBK.o (A38 x) 1 ?c1 ?c2 ?c3 ?c4 (F151.one x) w.heap.size w HB.o HG.o ?_;(case c0=>kernel_rfl);(case c1=>have:=H1.o;show 1=min 1 c;omega);(case c2=>rfl);(case c3=>have h5_:=B21 F151 (Kd.C_below HR.o HB.o) Zo;rw[List.flatMap_cons,List.flatMap_nil,List.append_nil] at h5_;exact h5_);(case c4=>have h1_:=HCS.o;have h2_:=HCC.o;have h3_:=H1.o;have h4_:cur.size=co * 2:=h1_;rw[h4_];show 0+2≤co * 2;omega);intro w2 hb2 hB2;have hcs0:∃ cur':Array Value,w2.heap[g]? = some (.cells cur' 151 (0,0))∧cur'.size=co * 2∧cur'.toList.take (1 * 2)=(List.replicate 1 x).flatMap A38:=⟨_,hb2.o,(by have h1_:=HCS.o;have h2_:=HCC.o;have h3_:=H1.o;have h4_:cur.size=co * 2:=h1_;simp[A38];omega),(by simp[A38])⟩;have HI:=B98 hcs0;clear hcs0 hb2 HBK HCS HB HR cur w1 HM));clear e1 e2 n1 n2;go_loopw [8] (fun v8 wr=>∃ n:Nat,1≤n∧n≤c∧v8=.int .i64 n∧A0a (Below w.heap.size w wr)∧A0a (∃ cur':Array Value,wr.heap[g]? = some (.cells cur' 151 (0,0))∧cur'.size=co * 2∧cur'.toList.take (n * 2)=(List.replicate n x).flatMap A38)) (fun v8 _=>c - (intOf v8).toNat)
 case atStart=>exact⟨1,Nat.le_refl _,hc1,rfl,hB2,HI⟩
 case round =>
  clear HI hB2;obtain⟨n,hn1,hn2,rfl,HB,HI⟩:=hrel;by_cases hlt:n < c
  ·have hltz:decide ((n:Int) < (c:Int))=true:=B99 Zo
   have hne:(co=n)=False:=by have:=HCC.o;simp;omega
   obtain⟨cur,hbk,hcs,htk⟩:=HI.o;have HBK:=B98 hbk;have HCS:=B98 hcs;have HTK:=B98 htk;clear hbk hcs htk HI;have hnc:(n:Int)≤(co:Int):=by have:=HCC.o;omega
   have hnl:(n:Int)≤(c:Int):=by omega
   obtain⟨m,hm⟩:∃ m:Nat,m=min n (c - n):=⟨_,rfl⟩;obtain⟨X,hX⟩:∃ X:List Value,X=(List.replicate m x).flatMap A38:=⟨_,rfl⟩;have hXl:X.length=m * 2:=by rw[hX,A2l A38 2 (fun _=>rfl),List.length_replicate]
   have hX1:∀ v ∈ X,v.oneCell'=true:=fun v hv=>by
    rw[hX] at hv;obtain⟨y,_,hy⟩:=List.mem_flatMap.1 hv;exact F151.one y v hy
   have hXc:∀ j v,X[j]? = some v→wr.drew.cell? (Addr.add ⟨g,0,none⟩ j)=some v:=fun j v hj=>by
    have e:X=((List.replicate n x).flatMap A38).take (m * 2):=by
     rw[hX,show n=m+(n - m) by omega,← List.replicate_append_replicate,List.flatMap_append,List.take_left' (by rw[A2l A38 2 (fun _=>rfl),List.length_replicate])]
    have hjm:j < m * 2:=by rw[← hXl];exact(C0e.1 hj).1
    rw[e,List.getElem?_take,if_pos hjm] at hj;have h1:=B6y (zC HBK.o) HTK.o j v hj;have h2:Addr.add ⟨g,0,none⟩ j=⟨g,j,none⟩:=by unfold Addr.add;split <;> simp_all
    rw[h2];exact h1
   have hXt:(cur.toList.take (n * 2) ++ X ++ cur.toList.drop (n * 2+X.length)).take ((n+m) * 2)=(List.replicate (n+m) x).flatMap A38:=by
    rw[List.take_left' (by rw[List.length_append,HTK.o,A2l A38 2 (fun _=>rfl),List.length_replicate,hXl];omega),HTK.o,hX,← List.replicate_append_replicate,List.flatMap_append]
   have hfit:n * 2+X.length≤cur.size:=by rw[hXl,HCS.o];have:=HCC.o;omega
   have hw:IntKind.i64.wrap ((n:Int)+(m:Int))=((n+m:Nat):Int):=by unfold IntKind.wrap;simp[IntKind.bits,IntKind.signed];omega
   have hmn:=B98 hm;have hn0:=B98 hn1;have hnlt:=B98 hlt;have hXl':=B98 hXl;have hX1':=B98 hX1;have hXc':=B98 hXc;have hXt':=B98 hXt;have hfit':=B98 hfit;clear hm hX hXl hX1 hXc hXt hfit;go_wp2
   go_region_law (refine B0z rfl (.tmp 41) (.tmp 44) 43 43 rfl 151 Tryz.underlying43 2 ?c0 g (n * 2) (c - n) (co - n) ⟨g,0,none⟩ n co ?d1 ?d2 cur 151 (zC HBK.o) X m ?c1 hXl'.o hXc'.o hfit'.o hX1'.o w.heap.size w HB.o.drew HG.o ?_;(case c0=>kernel_rfl);(case d1=>go_simp);(case d2=>go_simp);(case c1=>exact hmn.o);intro w3 hb3 hB3;clear HB)
   simp only [Act.put,List.getElem_toArray,List.getElem_cons_zero,List.getElem_cons_succ,List.setIfInBounds_toArray,List.set_cons_zero,List.set_cons_succ];go_roundw
   case measure=>have:=hmn.o;have:=hn0.o;have:=hnlt.o;simp[intOf];omega
   case rel =>
    have hcs3:(cur.toList.take (n * 2) ++ X ++ cur.toList.drop (n * 2+X.length)).length=co * 2:=by have:=HCS.o;have:=hXl'.o;have:=hfit'.o;simp;omega
    repeat apply Exists.intro
    exact⟨⟨n+m,by omega,by have:=hmn.o;omega,rfl,hB3,⟨_,hb3.o,by simpa using hcs3,hXt'.o⟩⟩,rfl⟩
  ·have hlt2:decide ((n:Int) < (c:Int))=false:=C0a Zo
   have hnc:n=c:=by omega
   subst hnc;obtain⟨cur,hbk,hcs,htk⟩:=HI.o;have HR:=B98 (A7j F151 (ok:=fun _=>True) (base:=w.heap.size) (n:=n) (c:=co) (xs:=List.replicate n x) trivial HG.o hbk Zs HCC.o HCM.o hcs htk);clear hbk hcs htk HI;go_wp2
   go_ret;exact⟨_,rfl,HR.o,HB.o⟩
def A3f.f (l0:List S151) (a1:Int):Option (List S151):=if l0.length=1∧(a1=4 ∨ a1=8 ∨ a1=16 ∨ a1=32 ∨ a1=64) then some (List.replicate a1.toNat (l0.getD 0 z151)) else none
theorem A3f.calls (A0:Option Addr) (c0:Nat) (l0:List S151) (a1:Int) (r:List S151) (w:World) (hr0:Kd.C k151 w A0 l0.length l0) (hc0:l0.length≤c0) (h:A3f.f l0 a1=some r) :
  Calls Tryz.prog 218 #[.slice A0 l0.length c0,.int .i64 a1] w fun e w'=>∃ v0_:Value,e=.returned (v0_)∧Kd.R k151 151 w' w.heap.size (fun _=>True) v0_ r∧Below w.heap.size w w':=by
 unfold A3f.f at h
 split at h
 case isFalse=>cases h
 case isTrue hl =>
 obtain⟨h1,h2⟩:=hl;obtain rfl:=C0d h;obtain⟨x,rfl⟩:∃ x,l0 = [x]:=List.length_eq_one_iff.1 h1
 rcases h2 with rfl|rfl|rfl|rfl|rfl
 ·exact A44 x 4 Zo Zo (by decide +kernel) A0 c0 w hr0
 ·exact A44 x 8 Zo Zo (by decide +kernel) A0 c0 w hr0
 ·exact A44 x 16 Zo Zo (by decide +kernel) A0 c0 w hr0
 ·exact A44 x 32 Zo Zo (by decide +kernel) A0 c0 w hr0
 ·exact A44 x 64 Zo Zo (by decide +kernel) A0 c0 w hr0
def A18.f (a0:Int):Option ((List (S151))):=(A3f.f (([(⟨(⟨#[]⟩:ByteArray),(-1)⟩:S151)]:List (S151))) a0).bind fun t423=>(some t423)
theorem A18.calls (a0:Int) (r:List (S151)) (w:World) (h:A18.f a0=some r) :
  Calls Tryz.prog 168 #[.int .i64 a0] w fun e w'=>∃ v0_:Value,e=.returned (v0_)∧Kd.R k151 151 w' w.heap.size (fun _=>True) v0_ r∧Below w.heap.size w w':=by
 have hu151:=Tryz.underlying151;have HB:=B98 (Below.refl w.heap.size w);unfold A18.f at h;have H:=h;clear h;obtain⟨y420,hy420⟩:∃ y_:List (S151),y_=(([(⟨(⟨#[]⟩:ByteArray),(-1)⟩:S151)]:List (S151))):=⟨_,rfl⟩;rw[← hy420] at H;have Ny420:=B98 hy420;clear hy420;replace H:=C0f.mp H;obtain⟨t423,A20,H⟩:=H;(try dsimp only at H)
 have A2:=B98 A20;clear A20;obtain rfl:=C0d H;go_enter Tryz.func168,Tryz.ntmps168;go_wp2_with (first|((with_reducible refine A0b (N:=4) rfl ?_);refine Kd.R_lit k151 _ 151 ?hg (N:=4) ?hd (xs:=([(⟨(⟨#[]⟩:ByteArray),(-1)⟩:S151)]:List (S151))) (inner:=[.string (⟨#[]⟩:ByteArray),.int .i64 (-1)]) (ok:=fun _=>True) (okp:=fun _=>True) ?hr ?hp (fun _ hk=>hk) trivial (Below.refl _ _) (Nat.le_refl _) Zs ?_;(case hd=>rfl);(case hg=>rfl);(case hr=>first|(go_simp;done)|(go_simp;rfl));(case hp=>exact(Reps.c2 (show Kd.M k151 _ _ _ (⟨(⟨#[]⟩:ByteArray),(-1)⟩:S151) [.string (⟨#[]⟩:ByteArray),.int .i64 (-1)] from(A54 _ _ _ (⟨(⟨#[]⟩:ByteArray),(-1)⟩:S151) )) (Reps.none _ _)));intro v421 w3 ho4 hb hg_ hnew_;clear hg_ hnew_;(first|rw[← Ny420.o] at ho4|(simp only [Int.reduceToNat] at ho4;rw[← Ny420.o] at ho4));have n0_:=B98 (Kd.R_lower ho4 (A02 mq));have n1_:=B98 (zN mq hb);clear HB;have HO422:=n0_;have HB:=n1_;clear n0_ n1_;clear hb ho4;obtain⟨Ao5,co5,eo5⟩:=Kd.R_slice HO422.o;subst eo5)|((with_reducible refine A0j (f:=218) rfl ?_);refine A1l (some 6) rfl rfl Tryz.func218 Zk rfl #[.slice Ao5 y420.length co5,.int .i64 a0] rfl ml ?_;(with_reducible refine(A3f.calls _ _ y420 a0 t423 _ ?side1 ?side2 A2.o).mono ?_);(case side1=>repeat(first|exact(Kd.R_reads' HO422.o).2.2|(with_reducible refine Kd.C_alloc ?_ _)|(with_reducible refine Kd.C_drewN ?_ _)|(with_reducible refine Kd.C_drew ?_)));(case side2=>exact(Kd.R_reads' HO422.o).2.1);rintro e w6 ⟨v424,rfl,ho0,hb⟩;refine⟨_,rfl,?_⟩;have n0_:=B98 (Kd.R_elder' (me HO422.o) (Kd.R_base ho0) hb);have n1_:=B98 (Kd.R_lower (Kd.R_new' ho0 (Kd.R_lt (me HO422.o))) (A02 mq));have n2_:=B98 (zN mq hb);clear HO422;clear HB;have HO422:=n0_;have HO425:=n1_;have HB:=n2_;clear n0_ n1_ n2_;(try clear hb);(try clear hb2);(try clear hk);(try clear hi);(try clear ho0)));go_ret;exact⟨_,mr,by(with_reducible repeat(first|apply zE|apply zD|apply zF));exact zR HO425.o (fun _ hk=>trivial),mq⟩
def A3s.f (a0:Int):Option ((List (S151)) × (List (S151)) × Int × Bool):=(A29.f a0).bind fun t427=>(if t427=true then ((A18.f a0).bind fun t428=>(some (t428,([]:List (S151)),0,true))) else (some (([]:List (S151)),([]:List (S151)),0,false)))
theorem A3s.calls (a0:Int) (r1:List (S151)) (r2:List (S151)) (r3:Int) (r4:Bool) (w:World) (h:A3s.f a0=some (r1,r2,r3,r4)) :
  Calls Tryz.prog 92 #[.int .i64 a0] w fun e w'=>∃ v0_ v1_:Value,e=.returned (.tuple #[.agg #[v0_,v1_,.int .i64 r3],.bool r4])∧Kd.R k151 151 w' w.heap.size (fun k_=>some k_ ≠ (v1_:Value).ownBlock) v0_ r1∧Kd.R k151 151 w' w.heap.size (fun k_=>some k_ ≠ (v0_:Value).ownBlock) v1_ r2∧Below w.heap.size w w':=by
 have hu45:=Tryz.underlying45;have HB:=B98 (Below.refl w.heap.size w);unfold A3s.f at h;have H:=h;clear h;replace H:=C0f.mp H;obtain⟨t427,A20,H⟩:=H;(try dsimp only at H)
 have A2:=B98 A20;clear A20;go_enter Tryz.func92,Tryz.ntmps92;go_wp2_with (first|((with_reducible refine A0b (N:=2) rfl ?_);refine yE (N:=2) (cs:=#[.slice none 0 0,.slice none 0 0,.int .i64 0]) (t:=45) fun gb426 hg w5 hbox hb=>?_;obtain⟨n0_,n2_⟩:=yX (w:=w) hg hb mq;have n1_:=B98 (hbox);have n3_:=n2_;clear HB;have HB:=n0_;have BK426:=n1_;have GW426:=n2_;have GE426:=n3_;clear n0_ n1_ n2_ n3_;clear hb hbox hg)|((with_reducible refine A0j (f:=167) rfl ?_);refine A1l (some 5) rfl rfl Tryz.func167 Zk rfl #[.int .i64 a0] rfl ml ?_;(with_reducible refine(A29.calls a0 t427 _ A2.o).mono ?_);rintro e w' ⟨rfl,⟨nd,rfl⟩⟩;refine⟨_,rfl,?_⟩;(try(rw[A81 w5];generalize hq_:World.drewN w5 _=w5;have n0_:A0a (w5.heap[gb426]? = some (.cells #[.slice none 0 0,.slice none 0 0,.int .i64 0] 45 (0,0))):=⟨by rw[← hq_];exact(mz BK426.o)⟩;have n1_:A0a (Below w.heap.size w w5):=⟨by rw[← hq_];exact mq⟩;clear BK426 HB hq_;have BK426:=n0_;have HB:=n1_;clear n0_ n1_));obtain⟨hcz10_0,hcz10_1,hcz10_2,hfz10_0,hfz10_1,hfz10_2⟩:=zb3 BK426.o;(refine Classical.byCases (p:=(t427=true)) (fun c3=>?zp49) (fun c3=>?zn49);(case' zn49=>(replace c3:=Bool.eq_false_iff.mpr c3);(subst c3);(have H1:(some (([]:List (S151)),([]:List (S151)),0,false))=some (r1,r2,r3,r4):=by rw[if_neg (show ¬ (false=true) by decide)] at H;exact H);(clear H);(have H:=H1);(clear H1);(simp only [Option.some.injEq,Prod.mk.injEq] at H);(obtain⟨rfl,rfl,rfl,rfl⟩:=H));(case' zp49=>(subst c3);(have H1:((A18.f a0).bind fun t428=>(some (t428,([]:List (S151)),0,true)))=some (r1,r2,r3,r4):=by rw[if_pos rfl] at H;exact H);(clear H);(have H:=H1);(clear H1);(replace H:=C0f.mp H);(obtain⟨t428,A40,H⟩:=H);(replace H:(some (t428,([]:List (S151)),0,true))=some (r1,r2,r3,r4):=H);(have A4:=B98 A40);(clear A40);(simp only [Option.some.injEq,Prod.mk.injEq] at H);(obtain⟨rfl,rfl,rfl,rfl⟩:=H))))|((with_reducible refine A0j (f:=168) rfl ?_);refine A1l (some 9) rfl rfl Tryz.func168 Zk rfl #[.int .i64 a0] rfl ml ?_;(with_reducible refine(A18.calls a0 t428 _ A4.o).mono ?_);rintro e w6 ⟨v429,rfl,ho0,hb⟩;refine⟨_,rfl,?_⟩;have n0_:=B98 (Kd.R_lower ho0 (A02 mq));have n1_:=B98 (zK (mz BK426.o) hb);have n2_:=B98 (zN mq hb);clear BK426;clear HB;have HO430:=n0_;have BK426:=n1_;have HB:=n2_;clear n0_ n1_ n2_;(try clear hb);(try clear hb2);(try clear hk);(try clear hi);(try clear ho0);obtain⟨Ao7,co7,eo7⟩:=Kd.R_slice HO430.o;subst eo7;obtain⟨hcz8_0,hcz8_1,hcz8_2,hfz8_0,hfz8_1,hfz8_2⟩:=zb3 BK426.o))
 ·refine bodyPost_ret (A1z rfl _ _ gb426 45 #[.slice Ao7 t428.length co7,.slice none 0 0,.int .i64 0] (0,0) _ rfl (by(with_reducible repeat(first|apply zA|apply zC|apply zB));refine A1u (cs:=#[.slice Ao7 t428.length co7,.slice none 0 0,.int .i64 0]) ?_ 2 _ rfl;(with_reducible repeat(first|apply zA|apply zC|apply zB));refine A1u (cs:=#[.slice Ao7 t428.length co7,.slice none 0 0,.int .i64 0]) ?_ 1 _ rfl;(with_reducible repeat(first|apply zA|apply zC|apply zB));refine A1u (cs:=#[.slice none 0 0,.slice none 0 0,.int .i64 0]) ?_ 0 _ rfl;(with_reducible repeat(first|apply zA|apply zC|apply zB));exact BK426.o) Tryz.underlying45 rfl Zk) rfl ?_
  exact⟨_,_,mr,by(with_reducible repeat(first|apply zE|apply zD|apply zF));exact zR (zL (p:=⟨gb426,2,none⟩) (zL (p:=⟨gb426,1,none⟩) (zL (p:=⟨gb426,0,none⟩) (zQ HO430.o BK426.o Zd) (fun _ hk=>hk.2) (.slice Ao7 t428.length co7)) (fun _ hk=>hk.2) (.slice none 0 0)) (fun _ hk=>hk.2) (.int .i64 0)) (fun _ hk=>(by simp[Value.ownBlock])),by first|exact Kd.R_nil _ _ _ _ _|exact Kd.N_nil _ _ _ _ _|exact Kd.V_nil _ _ _ _ _|exact Kd.Q_nil _ _ _ _ _|exact Kd.S_nil _ _ _ _ _,mq⟩
 ·refine bodyPost_ret (A1z rfl _ _ gb426 45 #[.slice none 0 0,.slice none 0 0,.int .i64 0] (0,0) _ rfl (by(with_reducible repeat(first|apply zA|apply zC|apply zB));refine A1u (cs:=#[.slice none 0 0,.slice none 0 0,.int .i64 0]) ?_ 2 _ rfl;(with_reducible repeat(first|apply zA|apply zC|apply zB));refine A1u (cs:=#[.slice none 0 0,.slice none 0 0,.int .i64 0]) ?_ 1 _ rfl;(with_reducible repeat(first|apply zA|apply zC|apply zB));refine A1u (cs:=#[.slice none 0 0,.slice none 0 0,.int .i64 0]) ?_ 0 _ rfl;(with_reducible repeat(first|apply zA|apply zC|apply zB));exact BK426.o) Tryz.underlying45 rfl Zk) rfl ?_
  exact⟨_,_,mr,by first|exact Kd.R_nil _ _ _ _ _|exact Kd.N_nil _ _ _ _ _|exact Kd.V_nil _ _ _ _ _|exact Kd.Q_nil _ _ _ _ _|exact Kd.S_nil _ _ _ _ _,by first|exact Kd.R_nil _ _ _ _ _|exact Kd.N_nil _ _ _ _ _|exact Kd.V_nil _ _ _ _ _|exact Kd.Q_nil _ _ _ _ _|exact Kd.S_nil _ _ _ _ _,mq⟩
def A1s.l0:Nat→Int→Int→Option ((List (S94)) × Int × (List (S151)) × (List (S151)) × Int × Int × List ByteArray × Int × List ByteArray × Int × List ByteArray × List Int × Int × Int × Bool)
|0,_,_=>none
|k+1,x0,x4=>if x4≤(wrap64 (2 * x0)) then (A1s.l0 k x0 (wrap64 (x4 * 2))) else ((A3i.f).bind fun bt433=>((A16.f k x0).bind fun bt438=>((A3s.f x4).bind fun bt443=>(some (bt438.1,bt438.2.1,bt443.1,bt443.2.1,bt443.2.2.1,mx 1 (wrap64 (Int.tdiv x0 4)),([]:List ByteArray),wrap64 ((wrap64 (x0 - (mx 1 (wrap64 (Int.tdiv x0 4))))) - (wrap64 (Int.tdiv (wrap64 (x0 - (mx 1 (wrap64 (Int.tdiv x0 4))))) 2))),([]:List ByteArray),wrap64 (Int.tdiv (wrap64 (x0 - (mx 1 (wrap64 (Int.tdiv x0 4))))) 2),([]:List ByteArray),bt433.1,bt433.2,0,true)))))
def A1s.f (k:Nat) (a0:Int):Option ((List (S94)) × Int × (List (S151)) × (List (S151)) × Int × Int × List ByteArray × Int × List ByteArray × Int × List ByteArray × List Int × Int × Int × Bool):=(A0n.f a0 2 24).bind fun t432=>(if t432=true then (A1s.l0 k a0 4) else (some (([]:List (S94)),0,([]:List (S151)),([]:List (S151)),0,0,([]:List ByteArray),0,([]:List ByteArray),0,([]:List ByteArray),([]:List Int),0,0,false)))
theorem B72 {w0 w w':World} {ps:List Nb.Part} {α:Type} {d:Kd α} {e:Nat} {ok1 ok2:Nat→Prop} {u v:Value} {xs ys:List α} (hE:d.E = []) (h:Nb.St w0 w ps) (hb:Below w.heap.size w w') (h1:d.R e w' w.heap.size ok1 u xs) (h2:d.R e w' w.heap.size ok2 v ys) (hk:∀ k,ok1 k→some k ≠ v.ownBlock):Nb.St w0 w' (Nb.Part.row d e u xs :: Nb.Part.row d e v ys :: ps):=by
 have S:=h.new_row hE hb h2;refine⟨S.below,fun q hq=>?_,List.pairwise_cons.2 ⟨fun q hq k hk1 hk2=>?_,S.apart⟩⟩
 ·rcases List.mem_cons.1 hq with rfl|hq
  ·exact Nb.Part.lower _ h.below.size (Nb.Part.of_R hE h1)
  ·exact S.all q hq
 ·have hu:ok1 k:=h1.1 k hk1
  rcases List.mem_cons.1 hq with rfl|hq
  ·exact hk k hu hk2.symm
  ·have h3:=(q.bound (h.all q hq) k hk2).2
   have h4:=Kd.R_base h1 k hk1;omega
theorem A1s.calls (k:Nat) (a0:Int) (r1:List (S94)) (r2:Int) (r3:List (S151)) (r4:List (S151)) (r5:Int) (r6:Int) (r7:List ByteArray) (r8:Int) (r9:List ByteArray) (r10:Int) (r11:List ByteArray) (r12:List Int) (r13:Int) (r14:Int) (r15:Bool) (w:World) (h:A1s.f k a0=some (r1,r2,r3,r4,r5,r6,r7,r8,r9,r10,r11,r12,r13,r14,r15)) :
  Calls Tryz.prog 30 #[.int .i64 a0] w fun e w'=>∃ v0_ v2_ v3_ v6_ v8_ v10_ v11_:Value,e=.returned (.tuple #[.agg #[v0_,.int .i64 r2,v2_,v3_,.int .i64 r5,.int .i64 r6,v6_,.int .i64 r8,v8_,.int .i64 r10,v10_,v11_,.int .i64 r13,.int .i64 r14],.bool r15])∧Kd.R k94 94 w' w.heap.size (fun _=>True) v0_ r1∧Kd.R k151 151 w' w.heap.size (fun k_=>some k_ ≠ (v3_:Value).ownBlock) v2_ r3∧Kd.R k151 151 w' w.heap.size (fun k_=>some k_ ≠ (v2_:Value).ownBlock) v3_ r4∧Kd.R Kd.string 9 w' w.heap.size (fun k_=>some k_ ≠ (v8_:Value).ownBlock∧some k_ ≠ (v10_:Value).ownBlock) v6_ r7∧Kd.R Kd.string 9 w' w.heap.size (fun k_=>some k_ ≠ (v6_:Value).ownBlock∧some k_ ≠ (v10_:Value).ownBlock) v8_ r9∧Kd.R Kd.string 9 w' w.heap.size (fun k_=>some k_ ≠ (v6_:Value).ownBlock∧some k_ ≠ (v8_:Value).ownBlock) v10_ r11∧Kd.R (Kd.int .i64) 3 w' w.heap.size (fun _=>True) v11_ r12∧Below w.heap.size w w':=by
 have hu50:=Tryz.underlying50;have hu42:=Tryz.underlying42;have hu45:=Tryz.underlying45;have hu46:=Tryz.underlying46;have hu47:=Tryz.underlying47;have hu48:=Tryz.underlying48;have HS:=B98 (Nb.St.start w);unfold A1s.f at h;have H:=h;clear h;obtain⟨bi,h1,H⟩:=C0f.mp H;have HI:=B98 h1;clear h1;have hin:bi=decide (2≤a0∧a0≤24):=by
  have h1:=HI.o;unfold A0n.f at h1
  by_cases c:a0 ≥ 2
  ·rw[if_pos c] at h1;obtain rfl:=C0d h1;rw[Bool.eq_iff_iff];simp only [decide_eq_true_eq];omega
  ·rw[if_neg c] at h1;obtain rfl:=C0d h1;rw[C0a Zo]
 have HH:=B98 H;have HIN:=B98 hin;clear H hin;go_enter Tryz.func30,Tryz.ntmps30;go_wp2_with (first|((with_reducible refine A0b (N:=2) rfl ?_);refine Nb.boxS HS (N:=2) fun g2 w2 S=>?_;clear HS;have HS:=B98 S;clear S));refine(A0n.calls a0 2 24 bi _ HI.o).mono ?_;rintro e w3 ⟨rfl,hb⟩;have S:=HS.o.step Zh;clear HS hb;have HS:=B98 S;clear S;have H:=HH.o;clear HH;cases bi with
 |false =>
  rw[if_neg Zs] at H;simp only [Option.some.injEq,Prod.mk.injEq] at H;obtain⟨rfl,rfl,rfl,rfl,rfl,rfl,rfl,rfl,rfl,rfl,rfl,rfl,rfl,rfl,rfl⟩:=H;obtain⟨hr0,hr1,hr2,hr3,hr4,hr5,hr6,hr7,hr8,hr9,hr10,hr11,hr12,hr13⟩:=HS.o.cells14 0 rfl;obtain⟨fr0,fr1,fr2,fr3,fr4,fr5,fr6,fr7,fr8,fr9,fr10,fr11,fr12,fr13⟩:=HS.o.frozen14 0 rfl;go_wp2_with fail;have S:=HS.o;have S:=S.put14 (.slice none 0 0) (.int .i64 0) (.slice none 0 0) (.slice none 0 0) (.int .i64 0) (.int .i64 0) (.slice none 0 0) (.int .i64 0) (.slice none 0 0) (.int .i64 0) (.slice none 0 0) (.slice none 0 0) (.int .i64 0) (.int .i64 0);refine bodyPost_ret (A1z rfl _ _ _ _ _ _ _ rfl S.head.2 hu50 rfl Zk) rfl ?_;exact⟨.slice none 0 0,.slice none 0 0,.slice none 0 0,.slice none 0 0,.slice none 0 0,.slice none 0 0,.slice none 0 0,rfl,Kd.R_nil _ _ _ _ _,Kd.R_nil _ _ _ _ _,Kd.R_nil _ _ _ _ _,Kd.R_nil _ _ _ _ _,Kd.R_nil _ _ _ _ _,Kd.R_nil _ _ _ _ _,Kd.R_nil _ _ _ _ _,S.below⟩
 |true =>
 rw[if_pos rfl] at H;have hb2:2≤a0∧a0≤24:=C0b HIN.o.symm;obtain⟨a1,a2⟩:=hb2;have HA:=B98 (And.intro a1 a2);have ew:wrap64 (2 * a0)=2 * a0:=by unfold wrap64;omega
 have HH:=B98 H;clear H HIN a1 a2;go_wp2_with fail;go_loopw [4] (fun v4 w'=>∃ (c:Int) (kq:Nat),v4=.int .i64 c∧A0a (4≤c∧c≤96)∧A0a (A1s.l0 kq a0 c=some (r1,r2,r3,r4,r5,r6,r7,r8,r9,r10,r11,r12,r13,r14,r15))∧A0a (Nb.St w w' [Nb.Part.blk g2 50 #[.slice none 0 0,.int .i64 0,.slice none 0 0,.slice none 0 0,.int .i64 0,.int .i64 0,.slice none 0 0,.int .i64 0,.slice none 0 0,.int .i64 0,.slice none 0 0,.slice none 0 0,.int .i64 0,.int .i64 0]])) (fun v4 _=>200 - (intOf v4).toNat)
 case atStart=>exact⟨4,k,rfl,⟨by omega⟩,HH,HS⟩
 case round =>
  clear HS HH;obtain⟨c,kq,rfl,HC,HH,HS⟩:=hrel;have H:=HH.o;clear HH;cases kq with
  |zero=>simp[A1s.l0] at H
  |succ kq =>
  simp only [A1s.l0] at H;by_cases c1:c≤wrap64 (2 * a0)
  ·rw[if_pos c1] at H
   have c2:c≤2 * a0:=by rw[← ew];exact c1
   have ec:wrap64 (c * 2)=c * 2:=by have:=HC.o;unfold wrap64;omega
   rw[ec] at H;have d1:decide (c≤2 * a0)=true:=B99 c2;have HH:=B98 H;have HC2:=B98 c2;clear H c1 c2;go_wp2_with fail;go_roundw
   case rel=>exact⟨c * 2,kq,by rw[ec],⟨by have:=HC.o;have:=HC2.o;have:=HA.o;omega⟩,HH,HS⟩
   case measure=>rw[ec];have:=HC.o;have:=HC2.o;have:=HA.o;simp only [intOf];omega
  ·rw[if_neg c1] at H
   have c2:¬ c≤2 * a0:=by rw[← ew];exact c1
   have d1:decide (c≤2 * a0)=false:=C0a c2;clear c1;have HC2:=B98 c2;clear c2;obtain⟨⟨s1,s2⟩,hs,H⟩:=C0f.mp H;obtain⟨⟨x1,x2,x3⟩,hx,H⟩:=C0f.mp H;obtain⟨⟨t1,t2,t3,t4⟩,ht,H⟩:=C0f.mp H;simp only [Option.some.injEq,Prod.mk.injEq] at H;obtain⟨rfl,rfl,rfl,rfl,rfl,e6,rfl,e8,rfl,e10,rfl,rfl,rfl,rfl,rfl⟩:=H;have HE:=B98 (And.intro e6 (And.intro e8 e10));have HSK:=B98 hs;have HAR:=B98 hx;have HTB:=B98 ht;clear hs hx ht e6 e8 e10;go_wp2_with fail;refine(A3i.calls s1 s2 _ HSK.o).mono ?_;rintro e w5 ⟨v,rfl,hr,hb⟩;have S:=HS.o.new_row rfl hb hr;obtain⟨V11,d11,rfl⟩:=Kd.R_slice hr;clear HS hr hb;have HS:=B98 S;clear S;go_upto_region 7 with (first|((with_reducible refine A0b (N:=5) rfl ?_);refine Nb.boxS HS (N:=5) fun g5 w5 S=>?_;clear HS;have HS:=B98 S;obtain⟨hn0,hn1,hn2,hn3,hn4,hn5,hn6,hn7,hn8,hn9,hn10,hn11,hn12,hn13⟩:=S.cells14 0 rfl;obtain⟨fn0,fn1,fn2,fn3,fn4,fn5,fn6,fn7,fn8,fn9,fn10,fn11,fn12,fn13⟩:=S.frozen14 0 rfl;clear S));have S:=HS.o;clear HS;clear hn0 fn0 hn1 fn1 hn2 fn2 hn3 fn3 hn4 fn4 hn5 fn5 hn6 fn6 hn7 fn7 hn8 fn8 hn9 fn9 hn10 fn10 hn11 fn11 hn12 fn12 hn13 fn13;have S:=S.put14 (.slice none 0 0) (.int .i64 0) (.slice none 0 0) (.slice none 0 0) (.int .i64 0) (.int .i64 0) (.slice none 0 0) (.int .i64 0) (.slice none 0 0) (.int .i64 0) (.slice none 0 0) (.slice V11 s1.length d11) (.int .i64 s2) (.int .i64 0);obtain⟨w6,hw,S⟩:∃ w',w'=_∧Nb.St w w' _:=⟨_,rfl,S⟩;rw[← hw];clear hw;have HS:=B98 S;clear S;go_wp2_with fail;refine(A16.calls kq a0 x1 x2 x3 _ HAR.o).mono ?_;rintro e w7 ⟨v,rfl,hr,hb⟩;have S:=HS.o.new_row rfl hb hr;obtain⟨V0,d0,rfl⟩:=Kd.R_slice hr;clear HS hr hb;have HS:=B98 S;clear S;obtain⟨hn0,hn1⟩:=HS.o.cells2 1 rfl;obtain⟨fn0,fn1⟩:=HS.o.frozen2 1 rfl;go_upto_region 8 with fail;have S:=HS.o.front 1 rfl rfl;clear HS hn0 hn1 fn0 fn1;have S:=S.put (cs':=#[.slice V0 x1.length d0,.int .i64 0,.slice none 0 0,.slice none 0 0,.int .i64 0,.int .i64 0,.slice none 0 0,.int .i64 0,.slice none 0 0,.int .i64 0,.slice none 0 0,.slice V11 s1.length d11,.int .i64 s2,.int .i64 0]) 0 (.slice V0 x1.length d0) rfl;have S:=S.put (cs':=#[.slice V0 x1.length d0,.int .i64 x2,.slice none 0 0,.slice none 0 0,.int .i64 0,.int .i64 0,.slice none 0 0,.int .i64 0,.slice none 0 0,.int .i64 0,.slice none 0 0,.slice V11 s1.length d11,.int .i64 s2,.int .i64 0]) 1 (.int .i64 x2) rfl;obtain⟨w8,hw,S⟩:∃ w',w'=_∧Nb.St w w' _:=⟨_,rfl,S⟩;rw[← hw];clear hw;have HS:=B98 S;clear S;go_wp2_with fail;refine(A3s.calls c t1 t2 t3 t4 _ HTB.o).mono ?_;rintro e w9 ⟨u,v,rfl,h1,h2,hb⟩;have S:=B72 rfl HS.o hb h1 h2 (fun _ hk=>hk);obtain⟨V2,d2,rfl⟩:=Kd.R_slice h1;obtain⟨V3,d3,rfl⟩:=Kd.R_slice h2;clear HS h1 h2 hb;have S:=S.front 2 rfl rfl;have HS:=B98 S;clear S;have hn2:=HS.o.at_cell 0 rfl 2 rfl;have hn3:=HS.o.at_cell 0 rfl 3 rfl;have hn4:=HS.o.at_cell 0 rfl 4 rfl;have fn2:=HS.o.at_frozen 0 rfl 2;have fn3:=HS.o.at_frozen 0 rfl 3;have fn4:=HS.o.at_frozen 0 rfl 4;go_upto_region 9 with fail;have S:=HS.o;clear HS hn2 hn3 hn4 fn2 fn3 fn4;have S:=S.put (cs':=#[.slice V0 x1.length d0,.int .i64 x2,.slice V2 t1.length d2,.slice none 0 0,.int .i64 0,.int .i64 0,.slice none 0 0,.int .i64 0,.slice none 0 0,.int .i64 0,.slice none 0 0,.slice V11 s1.length d11,.int .i64 s2,.int .i64 0]) 2 (.slice V2 t1.length d2) rfl;have S:=S.put (cs':=#[.slice V0 x1.length d0,.int .i64 x2,.slice V2 t1.length d2,.slice V3 t2.length d3,.int .i64 0,.int .i64 0,.slice none 0 0,.int .i64 0,.slice none 0 0,.int .i64 0,.slice none 0 0,.slice V11 s1.length d11,.int .i64 s2,.int .i64 0]) 3 (.slice V3 t2.length d3) rfl;have S:=S.put (cs':=#[.slice V0 x1.length d0,.int .i64 x2,.slice V2 t1.length d2,.slice V3 t2.length d3,.int .i64 t3,.int .i64 0,.slice none 0 0,.int .i64 0,.slice none 0 0,.int .i64 0,.slice none 0 0,.slice V11 s1.length d11,.int .i64 s2,.int .i64 0]) 4 (.int .i64 t3) rfl;obtain⟨w10,hw,S⟩:∃ w',w'=_∧Nb.St w w' _:=⟨_,rfl,S⟩;rw[← hw];clear hw;have HS:=B98 S;clear S;have hn5:=HS.o.at_cell 0 rfl 5 rfl;have fn5:=HS.o.at_frozen 0 rfl 5;go_upto_region 10 with fail;rw[show(if (1:Int) < wrap64 (Int.tdiv a0 4) then wrap64 (Int.tdiv a0 4) else 1)=mx 1 (wrap64 (Int.tdiv a0 4)) from rfl];have S:=HS.o;clear HS hn5 fn5;have S:=S.put (cs':=#[.slice V0 x1.length d0,.int .i64 x2,.slice V2 t1.length d2,.slice V3 t2.length d3,.int .i64 t3,.int .i64 (mx 1 (wrap64 (Int.tdiv a0 4))),.slice none 0 0,.int .i64 0,.slice none 0 0,.int .i64 0,.slice none 0 0,.slice V11 s1.length d11,.int .i64 s2,.int .i64 0]) 5 (.int .i64 (mx 1 (wrap64 (Int.tdiv a0 4)))) rfl;obtain⟨w11,hw,S⟩:∃ w',w'=_∧Nb.St w w' _:=⟨_,rfl,S⟩;rw[← hw];clear hw;have HS:=B98 S;clear S;have hn5:=HS.o.at_cell 0 rfl 5 rfl;have hn9:=HS.o.at_cell 0 rfl 9 rfl;have fn5:=HS.o.at_frozen 0 rfl 5;have fn9:=HS.o.at_frozen 0 rfl 9;go_upto_region 12 with fail;have S:=HS.o;clear HS hn5 fn5 hn9 fn9;have S:=S.put (cs':=#[.slice V0 x1.length d0,.int .i64 x2,.slice V2 t1.length d2,.slice V3 t2.length d3,.int .i64 t3,.int .i64 (mx 1 (wrap64 (Int.tdiv a0 4))),.slice none 0 0,.int .i64 0,.slice none 0 0,.int .i64 (wrap64 (Int.tdiv (wrap64 (a0 - (mx 1 (wrap64 (Int.tdiv a0 4))))) 2)),.slice none 0 0,.slice V11 s1.length d11,.int .i64 s2,.int .i64 0]) 9 (.int .i64 (wrap64 (Int.tdiv (wrap64 (a0 - (mx 1 (wrap64 (Int.tdiv a0 4))))) 2))) rfl;obtain⟨w12,hw,S⟩:∃ w',w'=_∧Nb.St w w' _:=⟨_,rfl,S⟩;rw[← hw];clear hw;have HS:=B98 S;clear S;have hn9:=HS.o.at_cell 0 rfl 9 rfl;have hn7:=HS.o.at_cell 0 rfl 7 rfl;have fn9:=HS.o.at_frozen 0 rfl 9;have fn7:=HS.o.at_frozen 0 rfl 7;go_upto_region 13 with fail;have S:=HS.o;clear HS hn7 fn7 hn9 fn9;have S:=S.put (cs':=#[.slice V0 x1.length d0,.int .i64 x2,.slice V2 t1.length d2,.slice V3 t2.length d3,.int .i64 t3,.int .i64 (mx 1 (wrap64 (Int.tdiv a0 4))),.slice none 0 0,.int .i64 (wrap64 ((wrap64 (a0 - (mx 1 (wrap64 (Int.tdiv a0 4))))) - (wrap64 (Int.tdiv (wrap64 (a0 - (mx 1 (wrap64 (Int.tdiv a0 4))))) 2)))),.slice none 0 0,.int .i64 (wrap64 (Int.tdiv (wrap64 (a0 - (mx 1 (wrap64 (Int.tdiv a0 4))))) 2)),.slice none 0 0,.slice V11 s1.length d11,.int .i64 s2,.int .i64 0]) 7 (.int .i64 (wrap64 ((wrap64 (a0 - (mx 1 (wrap64 (Int.tdiv a0 4))))) - (wrap64 (Int.tdiv (wrap64 (a0 - (mx 1 (wrap64 (Int.tdiv a0 4))))) 2))))) rfl;obtain⟨w13,hw,S⟩:∃ w',w'=_∧Nb.St w w' _:=⟨_,rfl,S⟩;rw[← hw];clear hw;have HS:=B98 S;clear S;obtain⟨hn0,hn1,hn2,hn3,hn4,hn5,hn6,hn7,hn8,hn9,hn10,hn11,hn12,hn13⟩:=HS.o.cells14 0 rfl;obtain⟨hr0,hr1,hr2,hr3,hr4,hr5,hr6,hr7,hr8,hr9,hr10,hr11,hr12,hr13⟩:=HS.o.cells14 5 rfl;obtain⟨fr0,fr1,fr2,fr3,fr4,fr5,fr6,fr7,fr8,fr9,fr10,fr11,fr12,fr13⟩:=HS.o.frozen14 5 rfl;have n1:=HS.o.at_ne 0 5 rfl rfl Zd;have n2:=HS.o.at_ne 5 0 rfl rfl Zd;go_wp2_with fail;have S:=HS.o.front 5 rfl rfl;have S:=S.put14 (.slice V0 x1.length d0) (.int .i64 x2) (.slice V2 t1.length d2) (.slice V3 t2.length d3) (.int .i64 t3) (.int .i64 (mx 1 (wrap64 (Int.tdiv a0 4)))) (.slice none 0 0) (.int .i64 (wrap64 ((wrap64 (a0 - (mx 1 (wrap64 (Int.tdiv a0 4))))) - (wrap64 (Int.tdiv (wrap64 (a0 - (mx 1 (wrap64 (Int.tdiv a0 4))))) 2))))) (.slice none 0 0) (.int .i64 (wrap64 (Int.tdiv (wrap64 (a0 - (mx 1 (wrap64 (Int.tdiv a0 4))))) 2))) (.slice none 0 0) (.slice V11 s1.length d11) (.int .i64 s2) (.int .i64 0);refine bodyPost_ret (A1z rfl _ _ _ _ _ _ _ rfl S.head.2 hu50 rfl Zk) rfl ?_;rw[← HE.o.1,← HE.o.2.1,← HE.o.2.2];exact⟨.slice V0 x1.length d0,.slice V2 t1.length d2,.slice V3 t2.length d3,.slice none 0 0,.slice none 0 0,.slice none 0 0,.slice V11 s1.length d11,rfl,Kd.R_mono (S.at_R 4 rfl) (fun _ _=>trivial),Kd.R_mono (S.at_R 2 rfl) (fun k hk e=>S.at_apart 2 3 rfl rfl Zd k hk.symm e.symm),Kd.R_mono (S.at_R 3 rfl) (fun k hk e=>S.at_apart 3 2 rfl rfl Zd k hk.symm e.symm),Kd.R_nil _ _ _ _ _,Kd.R_nil _ _ _ _ _,Kd.R_nil _ _ _ _ _,Kd.R_mono (S.at_R 5 rfl) (fun _ _=>trivial),S.below⟩
section
theorem A3w (n:Nat) (hn:n≤4194304) (w:World) :
  Calls Tryz.prog 130 #[.slice none 0 0,.int .i64 (n:Int)] w fun e w'=>∃ v,e=.returned v∧Kd.R Kd.string 9 w' w.heap.size (fun _=>True) v ([]:List ByteArray)∧Below w.heap.size w w':=by
 have HB:=B98 (Below.refl w.heap.size w);have HN:=B98 hn;have n1:((n:Int) < 0)=False:=by simp
 by_cases h0:n=0
 ·subst h0
  go_enter Tryz.func130,Tryz.ntmps130
  go_wp2
  go_ret;exact⟨_,rfl,Kd.R_nil _ _ _ _ _,HB.o⟩
 ·have n2:(0:Int) < (n:Int):=by omega
  go_enter Tryz.func130,Tryz.ntmps130;go_wp2_with ((with_reducible refine A1c (b:=.append) (xs:=#[.tmp 20,.tmp 21]) rfl ?_);at_builtin;refine Kd.R_append_zeros Kd.string (w0:=w) w.heap.size rfl (.tmp 20) (.tmp 21) 28 3 9 (.string ⟨#[]⟩) 16 rfl Tryz.underlying28 Tryz.underlying3 A57 rfl Zd Zo (.slice none 0 0) [] (⟨#[]⟩:ByteArray) (n:Int) (fun _=>True) rfl rfl ?aZ (fun _ _=>trivial) (Kd.R_nil _ _ _ _ _) ?a0 ?aB ?aS ?aL ?_;(case aZ=>exact(FS.M _ _ _ _ _).2 rfl);(case a0=>omega);(case aB=>exact HB.o);(case aS=>exact Nat.le_refl _);(case aL=>have:=HN.o;simp only [List.length_nil,Int.toNat_natCast];omega);intro v1 w1 ho1 hb1 hg_ hat_;clear hg_ hat_;obtain⟨Ao,co,eo⟩:=Kd.R_slice ho1;subst eo;have HO:=B98 (Kd.R_take ho1 (Nat.zero_le _));have HB1:=B98 hb1;clear ho1 hb1 HB);go_ret;exact⟨_,rfl,by simpa using HO.o,HB1.o⟩
theorem A24 {w:World} {A:Option Addr} {n:Nat} {xs:List (List ByteArray)} (h:Kd.C (Kd.slice 9 Kd.string) w A n xs) (i:Nat) (hi:i < n):∃ ad A0 c0,A=some ad∧w.cell? (ad.add i)=some (.slice A0 (xs.getD i []).length c0)∧(xs.getD i []).length≤c0∧Kd.C Kd.string w A0 (xs.getD i []).length (xs.getD i []):=by
 obtain⟨ad,c,e,_,hK,hc⟩:=Kd.C_get h ([]:List ByteArray) (i:Int) Zo Zo;obtain⟨A0,c0,rfl,h1,h2⟩:=hK;have:=hc 0 _ rfl;rw[C0k,show(Kd.slice 9 Kd.string).sz=1 from rfl,Nat.mul_one,Nat.add_zero] at this;exact⟨ad,A0,c0,e,this,h1,h2⟩
theorem A2v (l:List (List ByteArray)) (k:Nat) (hk:k < l.length):((l.take (k+1)).map List.length).sum=((l.take k).map List.length).sum+(l.getD k []).length:=by
 rw[List.take_add_one,List.map_append,List.sum_append,C0c hk,C0j,C0c hk];simp
theorem A3x (l:List (List ByteArray)) (k:Nat) (hk:k < l.length):(l.take (k+1)).flatten=(l.take k).flatten ++ l.getD k []:=by
 rw[List.take_add_one,List.flatten_append,C0c hk,C0j,C0c hk];simp
theorem A25 (l:List (List ByteArray)) (k:Nat):((l.take k).map List.length).sum≤(l.map List.length).sum:=by
 conv=>rhs;rw[← List.take_append_drop k l]
 rw[List.map_append,List.sum_append];omega
def A1i.f (l0:List (List ByteArray)):Option (List ByteArray):=if (l0.map List.length).sum≤4194304 then some l0.flatten else none
theorem A1i.calls (A0:Option Addr) (c0:Nat) (l0:List (List ByteArray)) (r:List ByteArray) (w:World) (hr0:Kd.C (Kd.slice 9 Kd.string) w A0 l0.length l0) (hc0:l0.length≤c0) (h:A1i.f l0=some r) :
  Calls Tryz.prog 53 #[.slice A0 l0.length c0] w fun e w'=>∃ v0_:Value,e=.returned (v0_)∧Kd.R Kd.string 9 w' w.heap.size (fun _=>True) v0_ r∧Below w.heap.size w w':=by
 unfold A1i.f at h
 split at h
 case isFalse=>cases h
 case isTrue hs =>
 obtain rfl:=C0d h;have hmax:l0.length≤9223372036854775807:=Kd.C_max hr0;have HM:=B98 hmax;have HS:=B98 hs;have HR:=B98 hr0;clear h hs hr0 hmax;go_enter Tryz.func53,Tryz.ntmps53
 go_wp2
 go_loop [3,5,11] (fun v3 v5 v11=>∃ k:Nat,k≤l0.length∧v11=.int .i64 k∧v3=.int .i64 (((l0.take k).map List.length).sum:Nat)) (fun _ _ v11=>l0.length - (intOf v11).toNat)
 case atStart=>exact⟨0,Nat.zero_le _,rfl,rfl⟩
 case round =>
  obtain⟨k,hk,rfl,rfl⟩:=hrel;by_cases hlt:k < l0.length
  ·have hsum:=A2v l0 k hlt
   have hle:=Nat.le_trans (A25 l0 (k+1)) HS.o;obtain⟨ad,B0,cB,e0,hcell,_,_⟩:=A24 HR.o k hlt;cases e0;generalize (l0.getD k []).length=y at hcell hsum;obtain⟨s,hs⟩:∃ s:Nat,s=((l0.take k).map List.length).sum:=⟨_,rfl⟩;have hsy:s+y≤4194304:=by omega
   have HE:=B98 (hs ▸ hsum);rw[← hs];have HY:=B98 hsy;have p1:=eq_true (show(0:Int)≤(k:Int) by omega);have p2:=eq_true (show(k:Int) < (l0.length:Int) by omega);have p3:IntKind.i64.wrap ((s:Int)+(y:Int))=((s+y:Nat):Int):=by unfold IntKind.wrap;simp[IntKind.bits,IntKind.signed];omega
   have p4:(((s+y:Nat):Int) < 0)=False:=by simp;omega
   have hklt:=B98 hlt;clear hsum hle hs hsy hlt hk;go_wp2
   go_round
   case rel=>exact⟨k+1,hklt.o,by have:=HM.o;have:=hklt.o;rw[show wrap64 ((k:Int)+1)=((k+1:Nat):Int) by unfold wrap64;omega],by rw[HE.o];rfl⟩
   case measure=>have:=HM.o;have:=hklt.o;rw[show wrap64 ((k:Int)+1)=((k+1:Nat):Int) by unfold wrap64;omega];simp[intOf];omega
  ·have hkl:k=l0.length:=by omega
   subst hkl;rw[List.take_length];obtain⟨s,hs⟩:∃ s:Nat,s=(l0.map List.length).sum:=⟨_,rfl⟩;have hsb:=HS.o;rw[← hs] at hsb ⊢;have HSB:=B98 hsb;clear hs hlt hk hsb;have HB:=B98 (Below.refl w.heap.size w);go_wp2_with (go_at_call 130;refine(A3w s HSB.o _).mono ?_;rintro e w1 ⟨v1,rfl,ho1,hb1⟩;have HO:=B98 ho1;have HB1:=B98 hb1;clear HB ho1 hb1);go_loopw [6,8,27] (fun v6 v8 v27 wr=>∃ k:Nat,k≤l0.length∧v27=.int .i64 k∧A0a (Kd.R Kd.string 9 wr w.heap.size (fun _=>True) v6 (l0.take k).flatten)∧A0a (Below w.heap.size w wr)) (fun _ _ v27 _=>l0.length - (intOf v27).toNat)
   case atStart=>exact⟨0,Nat.zero_le _,rfl,HO,HB1⟩
   case round =>
    clear HO HB1;obtain⟨k,hk,rfl,HO,HB⟩:=hrel;by_cases hlt:k < l0.length
    ·have hsum:=A2v l0 k hlt
     have hle:=Nat.le_trans (A25 l0 (k+1)) HS.o;have hlf:(l0.take k).flatten.length=((l0.take k).map List.length).sum:=List.length_flatten;have hfl:=A3x l0 k hlt;obtain⟨ad,B0,cB,e0,hcell,hlen,hC⟩:=A24 (Kd.C_below HR.o HB.o) k hlt;cases e0;obtain⟨ys,hys⟩:∃ ys,ys=l0.getD k []:=⟨_,rfl⟩;obtain⟨xs,hxs⟩:∃ xs,xs=(l0.take k).flatten:=⟨_,rfl⟩;rw[← hys] at hcell hlen hC hsum hfl;rw[← hxs] at HO hlf hfl;have HL:=B98 (show xs.length+ys.length≤4194304 by omega);have HC:=B98 hC;have HF:=B98 hfl;have p1:=eq_true (show(0:Int)≤(k:Int) by omega);have p2:=eq_true (show(k:Int) < (l0.length:Int) by omega);have hklt:=B98 hlt;clear hsum hle hlf hfl hlen hC hys hxs hlt hk;go_wp2_with ((with_reducible refine A1c (b:=.append) (xs:=#[.tmp 31,.tmp 32]) rfl ?_);at_builtin;refine Kd.R_append_rows Kd.string (w0:=w) w.heap.size rfl (.tmp 31) (.tmp 32) 28 9 (.string ⟨#[]⟩) 16 rfl Tryz.underlying28 A57 rfl Zd Zo _ xs ys _ _ _ (fun _=>True) (fun _=>False) rfl rfl HO.o HC.o ?aM (fun _ h=>h.elim) (fun _ _=>trivial) HB.o ?aS ?aL ?_;(case aM=>exact fun _ _ h=>(FS.M _ _ _ _ _).2 ((FS.K _ _ _).1 h));(case aS=>exact A02 HB.o);(case aL=>have:=HL.o;omega);intro v1 w9 ho hb hg hat;have HO9:=B98 ho;have HB9:=B98 hb;clear HO HB ho hb hg hat hcell);go_roundw
     case rel=>exact⟨k+1,hklt.o,by have:=HM.o;have:=hklt.o;rw[show wrap64 ((k:Int)+1)=((k+1:Nat):Int) by unfold wrap64;omega],HF.o ▸ HO9,HB9⟩
     case measure=>have:=HM.o;have:=hklt.o;rw[show wrap64 ((k:Int)+1)=((k+1:Nat):Int) by unfold wrap64;omega];simp[intOf];omega
    ·have hkl:k=l0.length:=by omega
     subst hkl;rw[List.take_length] at HO;go_wp2
     go_ret;exact⟨_,rfl,HO.o,HB.o⟩
end
def A0k.l0:Nat→List ByteArray→List ByteArray→Int→Int→Option (Bool)
|0,_,_,_,_=>none
|k+1,x0,x1,x12,x13=>if x13 < x12 then (if 0≤x13 then (if x13 < (x0.length:Int) then (if x13 < (x1.length:Int) then (if (rdOf ByteArray.empty x0 x13).toList=(rdOf ByteArray.empty x1 x13).toList then (A0k.l0 k x0 x1 x12 (wrap64 (x13+1))) else (some false)) else (none)) else (none)) else (none)) else (some true)
def A0k.f (k:Nat) (l0:List ByteArray) (l1:List ByteArray):Option (Bool):=if (l0.length:Int)=(l1.length:Int) then (A0k.l0 k l0 l1 (l0.length:Int) 0) else (some false)
theorem A0k.calls (k:Nat) (A0:Option Addr) (c0:Nat) (l0:List ByteArray) (A1:Option Addr) (c1:Nat) (l1:List ByteArray) (r:Bool) (w:World) (hr0:Kd.C Kd.string w A0 l0.length l0) (hc0:l0.length≤c0) (hr1:Kd.C Kd.string w A1 l1.length l1) (hc1:l1.length≤c1) (h:A0k.f k l0 l1=some r) :
  Calls Tryz.prog 56 #[.slice A0 l0.length c0,.slice A1 l1.length c1] w fun e w'=>e=.returned (.bool r)∧A2e w w':=by
 have HR0:=B98 hr0;have HC0:=B98 hc0;clear hr0 hc0;have HR1:=B98 hr1;have HC1:=B98 hc1;clear hr1 hc1;unfold A0k.f at h;have H:=h;clear h;by_cases c3:(l0.length:Int)=(l1.length:Int)
 ·rw[if_pos c3] at H
  have c3b0:((l0.length:Int) == (l1.length:Int))=true:=beq_iff_eq.mpr c3;have c3b1:((l0.length:Int) != (l1.length:Int))=false:=bne_eq_false_iff_eq.mpr c3;have c3b2:(l0.length == l1.length)=true:=by first|simpa using c3|(simp at c3 ⊢;omega)
  clear c3;have H':=B98 H;clear H;go_enter Tryz.func56,Tryz.ntmps56
  go_wp2
  repeat(go_quiet (fail);try go_wp2)
  go_loopg [13] k (fun kq v13 w'=>∃ (x13_1:Int),v13=.int .i64 x13_1∧A0a (A0k.l0 kq l0 l1 (l0.length:Int) x13_1=some r)∧A0a (kq≤k)∧A2e w w')
  case atStart=>exact⟨(0),mt,H',⟨Nat.le_refl _⟩,md⟩
  case round =>
   clear H';obtain⟨x13_1,rfl,HA,HK1,⟨m1,rfl⟩⟩:=hrel;cases gk with
  |zero=>exact absurd HA.o (by simp[A0k.l0])
  |succ k1 =>
    have H:=HA.o;clear HA;simp only [A0k.l0] at H;by_cases c4:x13_1 < (l0.length:Int)
    ·rw[if_pos c4] at H
     have c4b0:decide (x13_1 < (l0.length:Int))=true:=B99 c4;clear c4;by_cases c5:0≤x13_1
     ·rw[if_pos c5] at H
      have c5b0:decide (0≤x13_1)=true:=B99 c5;clear c5;by_cases c6:x13_1 < (l0.length:Int)
      ·rw[if_pos c6] at H
       have c6b0:decide (x13_1 < (l0.length:Int))=true:=B99 c6;clear c6;by_cases c7:x13_1 < (l1.length:Int)
       ·rw[if_pos c7] at H
        have c7b0:decide (x13_1 < (l1.length:Int))=true:=B99 c7;clear c7;by_cases c8:(rdOf ByteArray.empty l0 x13_1).toList=(rdOf ByteArray.empty l1 x13_1).toList
        ·rw[if_pos c8] at H
         have c8b0:((rdOf ByteArray.empty l0 x13_1).toList == (rdOf ByteArray.empty l1 x13_1).toList)=true:=beq_iff_eq.mpr c8;have c8b1:((rdOf ByteArray.empty l0 x13_1).toList != (rdOf ByteArray.empty l1 x13_1).toList)=false:=bne_eq_false_iff_eq.mpr c8;clear c8;have H':=B98 H;clear H;have p482:0≤(x13_1:Int):=mo;have q482:x13_1 < (l0.length:Int):=mo;obtain⟨ad482,e482,hx482_0⟩:=Kd.at_string HR0.o x13_1 p482 q482;cases e482;replace p482:=eq_true p482;replace q482:=eq_true q482;have p483:0≤(x13_1:Int):=mo;have q483:x13_1 < (l1.length:Int):=mo;obtain⟨ad483,e483,hx483_0⟩:=Kd.at_string HR1.o x13_1 p483 q483;cases e483;replace p483:=eq_true p483;replace q483:=eq_true q483;go_wp2
         repeat(go_quiet (fail);try go_wp2)
         go_roundg k1
         case measure=>have:=HK1.o;omega
         case rel=>exact⟨(wrap64 (x13_1+1)),mt,H',⟨by have:=HK1.o;omega⟩,md⟩
        ·rw[if_neg c8] at H
         have c8b0:((rdOf ByteArray.empty l0 x13_1).toList == (rdOf ByteArray.empty l1 x13_1).toList)=false:=C0g.mpr c8;have c8b1:((rdOf ByteArray.empty l0 x13_1).toList != (rdOf ByteArray.empty l1 x13_1).toList)=true:=bne_iff_ne.mpr c8;obtain rfl:=C0d H;have p482:0≤(x13_1:Int):=mo;have q482:x13_1 < (l0.length:Int):=mo;obtain⟨ad482,e482,hx482_0⟩:=Kd.at_string HR0.o x13_1 p482 q482;cases e482;replace p482:=eq_true p482;replace q482:=eq_true q482;have p483:0≤(x13_1:Int):=mo;have q483:x13_1 < (l1.length:Int):=mo;obtain⟨ad483,e483,hx483_0⟩:=Kd.at_string HR1.o x13_1 p483 q483;cases e483;replace p483:=eq_true p483;replace q483:=eq_true q483;go_wp2
         repeat(go_quiet (fail);try go_wp2)
         go_ret;exact⟨by first|rfl|(simp;done)|(simp[*];done),md⟩
       ·rw[if_neg c7] at H
        exact absurd H Zs
      ·rw[if_neg c6] at H
       exact absurd H Zs
     ·rw[if_neg c5] at H
      exact absurd H Zs
    ·rw[if_neg c4] at H
     have c4b0:decide (x13_1 < (l0.length:Int))=false:=C0a c4;clear c4;obtain rfl:=C0d H;go_wp2
     repeat(go_quiet (fail);try go_wp2)
     go_ret;exact⟨by first|rfl|(simp;done)|(simp[*];done),md⟩
 ·rw[if_neg c3] at H
  have c3b0:((l0.length:Int) == (l1.length:Int))=false:=C0g.mpr c3;have c3b1:((l0.length:Int) != (l1.length:Int))=true:=bne_iff_ne.mpr c3;have c3b2:(l0.length == l1.length)=false:=by first|simpa using c3|(simp at c3 ⊢;omega)
  obtain rfl:=C0d H;go_enter Tryz.func56,Tryz.ntmps56
  go_wp2
  repeat(go_quiet (fail);try go_wp2)
  go_ret;exact⟨by first|rfl|(simp;done)|(simp[*];done),md⟩
end Go.Proofs.YtediiolcoilepaaGreat.GNear
