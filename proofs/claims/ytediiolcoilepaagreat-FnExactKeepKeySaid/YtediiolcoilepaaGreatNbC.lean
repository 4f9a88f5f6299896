/- Walks of callees. -/
import Derived.Test.YtediiolcoilepaaGreatNbI
namespace Go.Proofs.YtediiolcoilepaaGreat.Nb
set_option maxHeartbeats 8000000
set_option maxRecDepth 100000
open Go.RowKit YtediiolcoilepaaGreat.GNear YtediiolcoilepaaGreatW.PrintWords YtediiolcoilepaaGreatW.PrintLast YtediiolcoilepaaGreatW.PrintMore
structure A3b (n:Nr):Prop where
 arena:arR n.sl n.fr
 table:taR n.ce n.old n.mv
 window:okQ n.wm n.wk
 trial:okQ n.tm n.tk
 safe:okQ n.sm n.sk
 sketch:skOk n.ct n.ad=true
 door:0≤n.db∧n.db < 4294967296
def A4x (s:Nat):Nat:=if s≤1 then 4 else if s≤3 then 8 else if s≤7 then 16 else if s≤15 then 32 else 64
def winN (s:Nat):Nat:=if s / 4 < 1 then 1 else s / 4
def safN (s:Nat):Nat:=(s - winN s) / 2
def triN (s:Nat):Nat:=s - winN s - safN s
structure A5p (n:Nr):Prop where
 size:2≤n.sl.length∧n.sl.length≤24
 old:n.old.length=0
 cells:n.ce.length=A4x n.sl.length
 wm:n.wm=(winN n.sl.length:Int)
 tm:n.tm=(triN n.sl.length:Int)
 sm:n.sm=(safN n.sl.length:Int)
def B7t (s:Nat):Bool:=match A1s.f 200 (s:Int) with
 |some (_,_,ce,_,_,wm,_,tm,_,sm,_,_,_,_,ok)=>ok && ce.length == A4x s && wm == (winN s:Int) && tm == (triN s:Int) && sm == (safN s:Int)
 |none=>false
theorem B3i:∀ m:Fin 23,B7t (m.1+2)=true:=by decide +kernel
theorem B9a (s:Nat) (h1:2≤s) (h2:s≤24):∃ r1 r2 r3 r4 r5 r7 r9 r11 r12 r13 r14,A1s.f 200 (s:Int)=some (r1,r2,r3,r4,r5,(winN s:Int),r7,(triN s:Int),r9,(safN s:Int),r11,r12,r13,r14,true)∧r3.length=A4x s:=by
 have h:=B3i ⟨s - 2,by omega⟩;have e:s - 2+2=s:=by omega
 simp only [e] at h;unfold B7t at h
 split at h
 ·rename_i r1 r2 r3 r4 r5 r6 r7 r8 r9 r10 r11 r12 r13 r14 r15 he
  simp only [Bool.and_eq_true,beq_iff_eq] at h;obtain⟨⟨⟨⟨rfl,h3⟩,rfl⟩,rfl⟩,rfl⟩:=h;exact⟨r1,r2,r3,r4,r5,r7,r9,r11,r12,r13,r14,he,h3⟩
 ·cases h
theorem B7b (s:Nat) (h:¬ (2≤s∧s≤24)) (k:Nat):A1s.f k (s:Int)=some ([],0,[],[],0,0,[],0,[],0,[],[],0,0,false):=by
 unfold A1s.f;rw[A48];simp only [Option.bind_some,if_neg (show ¬ decide (2≤(s:Int)∧(s:Int)≤24)=true from fun e=>h (by have:=of_decide_eq_true e;omega))]
theorem B7c (w:World) (v:NV) (n:Nr) (hn:n.small) (hC:A2c w v n) :
  Calls Tryz.prog 51 #[.agg (v.cells n)] w fun e w'=>∃ b,e=.returned (.bool b)∧(b=true ↔ A3b n)∧Below w.heap.size w w':=by
 obtain⟨A0,c0,A2,c2,A3,c3,A6,c6,A8,c8,A10,c10,A11,c11,rfl,hF⟩:=hC.open_;have HF:=B98 hF;clear hC hF;dsimp only [NV.cells];have HS:=B98 (St.start w);have HN:=B98 hn;clear hn;go_enter Tryz.func51,Tryz.ntmps51;go_wp2_with fail;have S:=HS.o.alloc #[.slice A0 n.sl.length c0,.int .i64 n.fr,.slice A2 n.ce.length c2,.slice A3 n.old.length c3,.int .i64 n.mv,.int .i64 n.wm,.slice A6 n.wk.length c6,.int .i64 n.tm,.slice A8 n.tk.length c8,.int .i64 n.sm,.slice A10 n.sk.length c10,.slice A11 n.ct.length c11,.int .i64 n.ad,.int .i64 n.db] 50;clear HS;obtain⟨b0,⟨K0,hK0⟩,hq0⟩:=B4g n.sl n.fr HN.o.s0;refine(A1p.calls K0 A0 c0 n.sl n.fr b0 _ (HF.o.below S.below).h0 HF.o.l0 (hK0 K0 (Nat.le_refl _))).mono ?_;rintro e w1 ⟨rfl,hb⟩;have S:=S.step hb;clear hb;have HS:=B98 S;have hc2:=S.at_cell 0 rfl 2 rfl;have hc3:=S.at_cell 0 rfl 3 rfl;have hc4:=S.at_cell 0 rfl 4 rfl;clear S;have HQ0:=B98 hq0;clear hq0 hK0;cases b0 with
 |false =>
  go_wp2_with fail;go_ret;exact⟨false,rfl,⟨fun h=>Bool.noConfusion h,fun h=>absurd (HQ0.o.2 h.arena) Zs⟩,HS.o.below⟩
 |true =>
 go_wp2_with fail;obtain⟨b1,⟨K1,hK1⟩,hq1⟩:=B4k n.ce n.old n.mv HN.o.s2 HN.o.s3 HN.o.k2 HN.o.k3;refine(A0m.calls K1 A2 c2 n.ce A3 c3 n.old n.mv b1 _ (HF.o.below HS.o.below).h2 HF.o.l2 (HF.o.below HS.o.below).h3 HF.o.l3 (hK1 K1 (Nat.le_refl _))).mono ?_;rintro e w2 ⟨rfl,hb⟩;have S:=HS.o.step hb;clear hb HS;clear hc2 hc3 hc4;have HS:=B98 S;have hc5:=S.at_cell 0 rfl 5 rfl;have hc6:=S.at_cell 0 rfl 6 rfl;clear S;have HQ1:=B98 hq1;clear hq1 hK1;cases b1 with
 |false =>
  go_wp2_with fail;go_ret;exact⟨false,rfl,⟨fun h=>Bool.noConfusion h,fun h=>absurd (HQ1.o.2 h.table) Zs⟩,HS.o.below⟩
 |true =>
 go_wp2_with fail;obtain⟨b2,⟨K2,hK2⟩,hq2⟩:=B4i n.wm n.wk HN.o.s6;refine(A08.calls K2 n.wm A6 c6 n.wk b2 _ (HF.o.below HS.o.below).h6 HF.o.l6 (hK2 K2 (Nat.le_refl _))).mono ?_;rintro e w3 ⟨rfl,hb⟩;have S:=HS.o.step hb;clear hb HS;clear hc5 hc6;have HS:=B98 S;have hc7:=S.at_cell 0 rfl 7 rfl;have hc8:=S.at_cell 0 rfl 8 rfl;clear S;have HQ2:=B98 hq2;clear hq2 hK2;cases b2 with
 |false =>
  go_wp2_with fail;go_ret;exact⟨false,rfl,⟨fun h=>Bool.noConfusion h,fun h=>absurd (HQ2.o.2 h.window) Zs⟩,HS.o.below⟩
 |true =>
 go_wp2_with fail;obtain⟨b3,⟨K3,hK3⟩,hq3⟩:=B4i n.tm n.tk HN.o.s8;refine(A08.calls K3 n.tm A8 c8 n.tk b3 _ (HF.o.below HS.o.below).h8 HF.o.l8 (hK3 K3 (Nat.le_refl _))).mono ?_;rintro e w4 ⟨rfl,hb⟩;have S:=HS.o.step hb;clear hb HS;clear hc7 hc8;have HS:=B98 S;have hc9:=S.at_cell 0 rfl 9 rfl;have hc10:=S.at_cell 0 rfl 10 rfl;clear S;have HQ3:=B98 hq3;clear hq3 hK3;cases b3 with
 |false =>
  go_wp2_with fail;go_ret;exact⟨false,rfl,⟨fun h=>Bool.noConfusion h,fun h=>absurd (HQ3.o.2 h.trial) Zs⟩,HS.o.below⟩
 |true =>
 go_wp2_with fail;obtain⟨b4,⟨K4,hK4⟩,hq4⟩:=B4i n.sm n.sk HN.o.s10;refine(A08.calls K4 n.sm A10 c10 n.sk b4 _ (HF.o.below HS.o.below).h10 HF.o.l10 (hK4 K4 (Nat.le_refl _))).mono ?_;rintro e w5 ⟨rfl,hb⟩;have S:=HS.o.step hb;clear hb HS;clear hc9 hc10;have HS:=B98 S;have hc11:=S.at_cell 0 rfl 11 rfl;have hc12:=S.at_cell 0 rfl 12 rfl;clear S;have HQ4:=B98 hq4;clear hq4 hK4;cases b4 with
 |false =>
  go_wp2_with fail;go_ret;exact⟨false,rfl,⟨fun h=>Bool.noConfusion h,fun h=>absurd (HQ4.o.2 h.safe) Zs⟩,HS.o.below⟩
 |true =>
 go_wp2_with fail;obtain⟨b5,hK5,hq5⟩:∃ b,Ev (fun k=>A1b.f k n.ct n.ad) b∧(b=true ↔ skOk n.ct n.ad=true):=⟨_,B7l n.ct n.ad HN.o.s11,Iff.rfl⟩;obtain⟨K5,hK5⟩:=hK5;refine(A1b.calls K5 A11 c11 n.ct n.ad b5 _ (HF.o.below HS.o.below).h11 HF.o.l11 (hK5 K5 (Nat.le_refl _))).mono ?_;rintro e w6 ⟨rfl,hb⟩;have S:=HS.o.step hb;clear hb HS;clear hc11 hc12;have HS:=B98 S;have hc13:=S.at_cell 0 rfl 13 rfl;clear S;have HQ5:=B98 hq5;clear hq5 hK5;cases b5 with
 |false =>
  go_wp2_with fail;go_ret;exact⟨false,rfl,⟨fun h=>Bool.noConfusion h,fun h=>absurd (HQ5.o.2 h.sketch) Zs⟩,HS.o.below⟩
 |true =>
 go_wp2_with fail;obtain⟨b6,hK6,hq6⟩:∃ b,A1r.f n.db=some b∧(b=true ↔ 0≤n.db∧n.db < 4294967296):=⟨_,doorI n.db,decide_eq_true_iff⟩;refine(A1r.calls n.db b6 _ hK6).mono ?_;rintro e w7 ⟨rfl,hb⟩;have S:=HS.o.step hb;clear hb HS;clear hc13;have HS:=B98 S;clear S;have HQ6:=B98 hq6;clear hq6 hK6;go_wp2_with fail;go_ret;exact⟨b6,rfl,⟨fun h=>⟨(by first|exact HQ0.o.1 rfl|exact HQ0.o.1 trivial|exact HQ0.o),(by first|exact HQ1.o.1 rfl|exact HQ1.o.1 trivial|exact HQ1.o),(by first|exact HQ2.o.1 rfl|exact HQ2.o.1 trivial|exact HQ2.o),(by first|exact HQ3.o.1 rfl|exact HQ3.o.1 trivial|exact HQ3.o),(by first|exact HQ4.o.1 rfl|exact HQ4.o.1 trivial|exact HQ4.o),(by first|exact HQ5.o.1 rfl|exact HQ5.o.1 trivial|exact HQ5.o),HQ6.o.1 h⟩,fun h=>HQ6.o.2 h.door⟩,HS.o.below⟩
theorem B7d (w:World) (v:NV) (n:Nr) (hn:n.small) (hC:A2c w v n) (hs:¬ (2≤n.sl.length∧n.sl.length≤24)) :
  Calls Tryz.prog 52 #[.agg (v.cells n)] w fun e w'=>e=.returned (.bool false)∧Below w.heap.size w w':=by
 obtain⟨A0,c0,A2,c2,A3,c3,A6,c6,A8,c8,A10,c10,A11,c11,rfl,hF⟩:=hC.open_;have HF:=B98 hF;clear hC hF;dsimp only [NV.cells];have HS:=B98 (St.start w);have HN:=B98 hn;clear hn;go_enter Tryz.func52,Tryz.ntmps52;go_wp2_with fail;have S:=HS.o.alloc #[.slice A0 n.sl.length c0,.int .i64 n.fr,.slice A2 n.ce.length c2,.slice A3 n.old.length c3,.int .i64 n.mv,.int .i64 n.wm,.slice A6 n.wk.length c6,.int .i64 n.tm,.slice A8 n.tk.length c8,.int .i64 n.sm,.slice A10 n.sk.length c10,.slice A11 n.ct.length c11,.int .i64 n.ad,.int .i64 n.db] 50;clear HS;refine(A1s.calls 0 _ _ _ _ _ _ _ _ _ _ _ _ _ _ _ _ _ (B7b n.sl.length hs 0)).mono ?_;rintro e w1 ⟨u0,u2,u3,u6,u8,u10,u11,rfl,q0,q2,q3,q6,q8,q10,q11,hb⟩;obtain⟨B0,d0,rfl⟩:=Kd.R_slice q0;obtain⟨B2,d2,rfl⟩:=Kd.R_slice q2;obtain⟨B3,d3,rfl⟩:=Kd.R_slice q3;obtain⟨B6,d6,rfl⟩:=Kd.R_slice q6;obtain⟨B8,d8,rfl⟩:=Kd.R_slice q8;obtain⟨B10,d10,rfl⟩:=Kd.R_slice q10;obtain⟨B11,d11,rfl⟩:=Kd.R_slice q11;clear q0 q2 q3 q6 q8 q10 q11;have S:=S.step hb;clear hb;have HS:=B98 S;have hc0:=S.at_cell 0 rfl 0 rfl;have hlt:=S.at_lt 0 rfl;clear S;go_wp2_with fail;go_ret;exact⟨rfl,(HS.o.alloc (#[.slice B0 0 d0,.int .i64 0,.slice B2 0 d2,.slice B3 0 d3,.int .i64 0,.int .i64 0,.slice B6 0 d6,.int .i64 0,.slice B8 0 d8,.int .i64 0,.slice B10 0 d10,.slice B11 0 d11,.int .i64 0,.int .i64 0]) 50).below⟩
theorem B9b (w:World) (v:NV) (n:Nr) (hn:n.small) (hC:A2c w v n) (hs:2≤n.sl.length∧n.sl.length≤24) (b:Bool) (wN tN sN:Int) (hw:wN=(winN n.sl.length:Int)) (ht:tN=(triN n.sl.length:Int)) (hsf:sN=(safN n.sl.length:Int)) (hb:b=(decide (n.old.length=0) && decide (n.ce.length=A4x n.sl.length) && decide (n.wm=wN) && decide (n.tm=tN) && decide (n.sm=sN))) :
  Calls Tryz.prog 52 #[.agg (v.cells n)] w fun e w'=>e=.returned (.bool b)∧Below w.heap.size w w':=by
 have HBB:=B98 hb;clear hb;obtain⟨A0,c0,A2,c2,A3,c3,A6,c6,A8,c8,A10,c10,A11,c11,rfl,hF⟩:=hC.open_;have HF:=B98 hF;clear hC hF;dsimp only [NV.cells];have HS:=B98 (St.start w);have HN:=B98 hn;clear hn;go_enter Tryz.func52,Tryz.ntmps52;go_wp2_with fail;have S:=HS.o.alloc #[.slice A0 n.sl.length c0,.int .i64 n.fr,.slice A2 n.ce.length c2,.slice A3 n.old.length c3,.int .i64 n.mv,.int .i64 n.wm,.slice A6 n.wk.length c6,.int .i64 n.tm,.slice A8 n.tk.length c8,.int .i64 n.sm,.slice A10 n.sk.length c10,.slice A11 n.ct.length c11,.int .i64 n.ad,.int .i64 n.db] 50;clear HS;obtain⟨r1,r2,r3,r4,r5,r7,r9,r11,r12,r13,r14,hk,h3⟩:=B9a n.sl.length hs.1 hs.2;rw[← hw,← ht,← hsf] at hk;refine(A1s.calls 200 _ _ _ _ _ _ _ _ _ _ _ _ _ _ _ _ _ hk).mono ?_;rintro e w1 ⟨u0,u2,u3,u6,u8,u10,u11,rfl,q0,q2,q3,q6,q8,q10,q11,hb⟩;obtain⟨B0,d0,rfl⟩:=Kd.R_slice q0;obtain⟨B2,d2,rfl⟩:=Kd.R_slice q2;obtain⟨B3,d3,rfl⟩:=Kd.R_slice q3;obtain⟨B6,d6,rfl⟩:=Kd.R_slice q6;obtain⟨B8,d8,rfl⟩:=Kd.R_slice q8;obtain⟨B10,d10,rfl⟩:=Kd.R_slice q10;obtain⟨B11,d11,rfl⟩:=Kd.R_slice q11;clear q0 q2 q3 q6 q8 q10 q11;have S:=S.step hb;clear hb hk hw ht hsf hs;have HS:=B98 S;have hc0:=S.at_cell 0 rfl 0 rfl;have hc2:=S.at_cell 0 rfl 2 rfl;have hc3:=S.at_cell 0 rfl 3 rfl;have hc5:=S.at_cell 0 rfl 5 rfl;have hc7:=S.at_cell 0 rfl 7 rfl;have hc9:=S.at_cell 0 rfl 9 rfl;have hlt:=S.at_lt 0 rfl;clear S;have H3:=B98 h3;clear h3;by_cases t0:(n.old.length:Int)=0
 case neg =>
  have t0b:((n.old.length:Int) == 0)=false:=C0g.2 t0;have HT:=B98 t0;clear t0;go_wp2_with fail;go_ret;refine⟨?_,(HS.o.alloc (#[.slice B0 r1.length d0,.int .i64 r2,.slice B2 r3.length d2,.slice B3 r4.length d3,.int .i64 r5,.int .i64 wN,.slice B6 r7.length d6,.int .i64 tN,.slice B8 r9.length d8,.int .i64 sN,.slice B10 r11.length d10,.slice B11 r12.length d11,.int .i64 r13,.int .i64 r14]) 50).below⟩;rw[HBB.o];have h_:=HT.o;have h3_:=H3.o;clear HF HS HN HBB;refine congrArg (fun x=>Ending.returned (.bool x)) ?_
  symm;simp only [Bool.and_eq_false_iff,decide_eq_false_iff_not];omega
 case pos =>
  have t0b:((n.old.length:Int) == 0)=true:=beq_iff_eq.2 t0;have HT0:=B98 t0;clear t0;by_cases t1:(n.ce.length:Int)=(r3.length:Int)
  case neg =>
   have t1b:((n.ce.length:Int) == (r3.length:Int))=false:=C0g.2 t1;have HT:=B98 t1;clear t1;go_wp2_with fail;go_ret;refine⟨?_,(HS.o.alloc (#[.slice B0 r1.length d0,.int .i64 r2,.slice B2 r3.length d2,.slice B3 r4.length d3,.int .i64 r5,.int .i64 wN,.slice B6 r7.length d6,.int .i64 tN,.slice B8 r9.length d8,.int .i64 sN,.slice B10 r11.length d10,.slice B11 r12.length d11,.int .i64 r13,.int .i64 r14]) 50).below⟩;rw[HBB.o];have h_:=HT.o;have h3_:=H3.o;clear HF HS HN HBB;refine congrArg (fun x=>Ending.returned (.bool x)) ?_
   symm;simp only [Bool.and_eq_false_iff,decide_eq_false_iff_not];omega
  case pos =>
   have t1b:((n.ce.length:Int) == (r3.length:Int))=true:=beq_iff_eq.2 t1;have HT1:=B98 t1;clear t1;by_cases t2:n.wm=wN
   case neg =>
    have t2b:(n.wm == wN)=false:=C0g.2 t2;have HT:=B98 t2;clear t2;go_wp2_with fail;go_ret;refine⟨?_,(HS.o.alloc (#[.slice B0 r1.length d0,.int .i64 r2,.slice B2 r3.length d2,.slice B3 r4.length d3,.int .i64 r5,.int .i64 wN,.slice B6 r7.length d6,.int .i64 tN,.slice B8 r9.length d8,.int .i64 sN,.slice B10 r11.length d10,.slice B11 r12.length d11,.int .i64 r13,.int .i64 r14]) 50).below⟩;rw[HBB.o];have h_:=HT.o;have h3_:=H3.o;clear HF HS HN HBB;refine congrArg (fun x=>Ending.returned (.bool x)) ?_
    symm;simp only [Bool.and_eq_false_iff,decide_eq_false_iff_not];omega
   case pos =>
    have t2b:(n.wm == wN)=true:=beq_iff_eq.2 t2;have HT2:=B98 t2;clear t2;by_cases t3:n.tm=tN
    case neg =>
     have t3b:(n.tm == tN)=false:=C0g.2 t3;have HT:=B98 t3;clear t3;go_wp2_with fail;go_ret;refine⟨?_,(HS.o.alloc (#[.slice B0 r1.length d0,.int .i64 r2,.slice B2 r3.length d2,.slice B3 r4.length d3,.int .i64 r5,.int .i64 wN,.slice B6 r7.length d6,.int .i64 tN,.slice B8 r9.length d8,.int .i64 sN,.slice B10 r11.length d10,.slice B11 r12.length d11,.int .i64 r13,.int .i64 r14]) 50).below⟩;rw[HBB.o];have h_:=HT.o;have h3_:=H3.o;clear HF HS HN HBB;refine congrArg (fun x=>Ending.returned (.bool x)) ?_
     symm;simp only [Bool.and_eq_false_iff,decide_eq_false_iff_not];omega
    case pos =>
     have t3b:(n.tm == tN)=true:=beq_iff_eq.2 t3;have HT3:=B98 t3;clear t3;by_cases t4:n.sm=sN
     case neg =>
      have t4b:(n.sm == sN)=false:=C0g.2 t4;have HT:=B98 t4;clear t4;go_wp2_with fail;go_ret;refine⟨?_,(HS.o.alloc (#[.slice B0 r1.length d0,.int .i64 r2,.slice B2 r3.length d2,.slice B3 r4.length d3,.int .i64 r5,.int .i64 wN,.slice B6 r7.length d6,.int .i64 tN,.slice B8 r9.length d8,.int .i64 sN,.slice B10 r11.length d10,.slice B11 r12.length d11,.int .i64 r13,.int .i64 r14]) 50).below⟩;rw[HBB.o];have h_:=HT.o;have h3_:=H3.o;clear HF HS HN HBB;refine congrArg (fun x=>Ending.returned (.bool x)) ?_
      symm;simp only [Bool.and_eq_false_iff,decide_eq_false_iff_not];omega
     case pos =>
      have t4b:(n.sm == sN)=true:=beq_iff_eq.2 t4;have HT4:=B98 t4;clear t4;go_wp2_with fail;go_ret;refine⟨?_,(HS.o.alloc (#[.slice B0 r1.length d0,.int .i64 r2,.slice B2 r3.length d2,.slice B3 r4.length d3,.int .i64 r5,.int .i64 wN,.slice B6 r7.length d6,.int .i64 tN,.slice B8 r9.length d8,.int .i64 sN,.slice B10 r11.length d10,.slice B11 r12.length d11,.int .i64 r13,.int .i64 r14]) 50).below⟩;rw[HBB.o];have h0_:=HT0.o;have h1_:=HT1.o;have h2_:=HT2.o;have h3_:=HT3.o;have h4_:=HT4.o;have h3_:=H3.o;clear HF HS HN HBB;refine congrArg (fun x=>Ending.returned (.bool x)) ?_
      symm;simp only [Bool.and_eq_true,decide_eq_true_eq];omega
theorem B97 (g k:Int) (h0:0≤g) (h1:g≤41666665) (k0:0≤k) (k1:k≤1048576):wrap64 (wrap64 (24 * g)+k)=24 * g+k:=by unfold wrap64;omega
def plV:Option Nat→Int
 |none=>-1
 |some k=>(k:Int)
theorem B0r {xs:List S94} {k:Nat} {x:S94} (h:xs[k]? = some x):A0p xs (k:Int)=x:=by
 unfold A0p;rw[C0j,C0k,h];rfl
def A4r (xs:List S94) (h:Int):Option Nat:=if 0≤h∧h % 24 < (xs.length:Int)∧(A0p xs (h % 24)).f1=true∧24 * (A0p xs (h % 24)).f0+h % 24=h then some (h % 24).toNat else none
theorem A2h {xs:List S94} {fr:Int} (hr:arR xs fr) {h:Int} {k:Nat}:A4r xs h=some k ↔ ∃ x,xs[k]? = some x∧x.f1=true∧24 * x.f0+(k:Int)=h:=by
 have hl:=hr.len;unfold A4r;constructor
 ·intro e
  split at e
  ·rename_i c
   have e:=C0d e;subst e;have hk:(((h % 24).toNat:Nat):Int)=h % 24:=by omega
   have hlt:(h % 24).toNat < xs.length:=by omega
   refine⟨xs[(h % 24).toNat],C0c hlt,?_⟩;have hg:=B0r (C0c hlt);rw[hk] at hg;rw[← hg,hk];exact c.2.2
  ·cases e
 ·rintro ⟨x,hx,hu,rfl⟩
  have hk:=(C0e.1 hx).1;have h0:=(hr.slots x (C0h hx)).1;have em:(24 * x.f0+(k:Int)) % 24=(k:Int):=by omega
  rw[em,B0r hx,if_pos ⟨by omega,by omega,hu,rfl⟩,C0k]
theorem B0s (h:Int) (h0:0≤h):Int.tmod h 24=h % 24:=Int.tmod_eq_emod_of_nonneg h0
theorem B5f (xs:List S94) (fr h:Int) (hr:arR xs fr):A1v.f xs fr h=some (plV (A4r xs h)):=by
 have hl:=hr.len;unfold A1v.f A4r
 by_cases c0:h < 0
 ·rw[if_pos c0,if_neg Zo];rfl
 rw[if_neg c0,B0s h Zo]
 by_cases c1:h % 24 ≥ (xs.length:Int)
 ·rw[if_pos c1,if_neg Zo];rfl
 rw[if_neg c1,if_pos Zo,if_pos Zo]
 by_cases c2:(A0p xs (h % 24)).f1=true
 ·rw[if_pos c2]
  unfold A1o.f;rw[if_pos Zo,if_pos Zo];simp only [Option.bind_some];have hm:A0p xs (h % 24) ∈ xs:=by
   have hk:(((h % 24).toNat:Nat):Int)=h % 24:=by omega
   have hlt:(h % 24).toNat < xs.length:=by omega
   have hg:=B0r (C0c hlt);rw[hk] at hg;rw[hg];exact List.getElem_mem hlt
  have hg:=hr.slots _ hm;rw[B97 _ _ hg.1 hg.2.1 Zo Zo]
  by_cases c3:24 * (A0p xs (h % 24)).f0+h % 24=h
  ·rw[if_pos c3,if_pos ⟨by omega,by omega,c2,c3⟩]
   show some (h % 24)=some (((h % 24).toNat:Nat):Int)
   congr 1;omega
  ·rw[if_neg c3,if_neg (fun hh=>c3 hh.2.2.2)];rfl
 ·rw[if_neg c2,if_neg (fun hh=>c2 hh.2.2.1)];rfl
def A4f (l:List S94):List ByteArray:=(l.filter fun x=>x.f1).map S94.f2
theorem B3j {w:World} {g t a b c:Nat} {A B C:Option Addr} {xs ys zs:List ByteArray} (hg:w.heap[g]? = some (.cells #[.slice A xs.length a,.slice B ys.length b,.slice C zs.length c] t (0,0)))
  (hx:Kd.C Kd.string w A xs.length xs) (lx:xs.length≤a) (hy:Kd.C Kd.string w B ys.length ys) (ly:ys.length≤b) (hz:Kd.C Kd.string w C zs.length zs) (lz:zs.length≤c) :
  Kd.C (Kd.slice 9 Kd.string) w (some ⟨g,0,none⟩) 3 [xs,ys,zs]:=by
 refine⟨rfl,by omega,fun _=>⟨_,rfl,fun j p hj=>?_⟩⟩
 match j,hj with
 |0,hj =>
  obtain rfl:xs=p:=by simpa using hj
  refine⟨[.slice A xs.length a],rfl,⟨A,a,rfl,lx,hx⟩,fun i u hu=>?_⟩
  match i,hu with
  |0,hu=>obtain rfl:_=u:=C0d hu;exact A1h hg 0
 |1,hj =>
  obtain rfl:ys=p:=by simpa using hj
  refine⟨[.slice B ys.length b],rfl,⟨B,b,rfl,ly,hy⟩,fun i u hu=>?_⟩
  match i,hu with
  |0,hu=>obtain rfl:_=u:=C0d hu;exact A1h hg 1
 |2,hj =>
  obtain rfl:zs=p:=by simpa using hj
  refine⟨[.slice C zs.length c],rfl,⟨C,c,rfl,lz,hz⟩,fun i u hu=>?_⟩
  match i,hu with
  |0,hu=>obtain rfl:_=u:=C0d hu;exact A1h hg 2
section
variable {w0 w w':World} {ps:List Part}
theorem St.sorted {α:Type} {d:Kd α} {e:Nat} {ok:Nat→Prop} {v:Value} {xs ys:List α} (hE:d.E = []) (h:St w0 w (Part.row d e v xs :: ps)) (hb:Below w0.heap.size w0 w') (hr:d.R e w' w0.heap.size ok v ys) (hk:Kept w w' (fun k=>some k=v.ownBlock)):St w0 w' (Part.row d e v ys :: ps):=by
 refine⟨hb,fun q hq=>?_,List.pairwise_cons.2 ⟨h.away,h.tail.apart⟩⟩
 rcases List.mem_cons.1 hq with rfl|hq
 ·exact Part.of_R hE hr
 ·exact q.keep (fun k hk'=>hk.2 k (q.bound (h.tail.all q hq) k hk').2 (fun ek=>h.away q hq k ek.symm hk')) (h.tail.all q hq)
end
theorem A82 {l:List S94} {i:Nat} {x:S94} (h:l[i]? = some x):A4f (l.take (i+1))=A4f (l.take i) ++ (if x.f1=true then [x.f2] else []):=by
 unfold A4f;rw[List.take_add_one,h,List.filter_append,List.map_append]
 congr 1
 cases hu:x.f1 <;> simp[hu]
theorem B0t (l:List S94):(A4f l).length≤l.length:=by unfold A4f;rw[List.length_map];exact List.length_filter_le _ _
theorem B7e (l m:List ByteArray) (hl:l.length=m.length) (hb:l.length≤4194304) (d:Nat):∀ (i:Nat),i+d=l.length→l.take i=m.take i→Ev (fun k=>A0k.l0 k l m (l.length:Int) (i:Int)) (decide (l=m)):=by
 induction d with
 |zero =>
  intro i hi ht;refine Ev.step (f:=fun _=>some true) (fun k=>?_) ?_
  ·simp only [A0k.l0];rw[if_neg Zo]
  ·have e:l=m:=by rw[List.take_of_length_le Zo,List.take_of_length_le Zo] at ht;exact ht
   rw[B99 e];exact Ev.now _
 |succ d ih =>
  intro i hi ht;have h1:i < l.length:=by omega
  have h2:i < m.length:=by omega
  by_cases he:l[i]=m[i]
  ·refine Ev.step (fun k=>?_) (ih (i+1) Zo (by rw[List.take_add_one,List.take_add_one,ht,C0c h1,C0c h2,he]))
   simp only [A0k.l0];rw[if_pos Zo,if_pos Zo,if_pos Zo,if_pos Zo,A2g l i h1,A2g m i h2,if_pos (A3q.2 he),w64 i Zo]
  ·refine Ev.step (f:=fun _=>some false) (fun k=>?_) ?_
   ·simp only [A0k.l0]
    rw[if_pos Zo,if_pos Zo,if_pos Zo,if_pos Zo,A2g l i h1,A2g m i h2,if_neg (fun e=>he (A3q.1 e))]
   ·rw[C0a (fun e=>he (by subst e;rfl))];exact Ev.now _
theorem B7u (l m:List ByteArray) (hb:l.length≤4194304):Ev (fun k=>A0k.f k l m) (decide (l=m)):=by
 by_cases hl:l.length=m.length
 ·refine Ev.congr (fun k=>?_) (B7e l m hl hb l.length 0 Zo Zs)
  simp only [A0k.f];rw[if_pos Zo];rfl
 ·refine Ev.step (f:=fun _=>some false) (fun k=>?_) ?_
  ·simp only [A0k.f];rw[if_neg Zo]
  ·rw[C0a (fun e=>hl (by rw[e]))];exact Ev.now _
theorem A7p {n:Nr} (hn:n.small) (hP:A3b n) {c:S151} (hc:c ∈ n.ce) (hk:c.f0.size ≠ 0):Ev (fun k=>A1a.f k n.ce n.old n.mv c.f0) (c.f1,true):=by
 obtain⟨i,hi,rfl⟩:=List.getElem_of_mem hc;have hf:=(hP.table.cells i _ (C0c hi)).2 hk;have hs:=A5f n.ce n.ce[i].f0 hn.s2 hk Zo;rw[hf.2.2] at hs;replace hs:Ev (fun k=>A0q.f k n.ce n.ce[i].f0) ((i:Nat):Int):=hs;refine Ev.bind hs ?_;refine Ev.step (f:=fun _=>some (n.ce[i].f1,true)) (fun k=>?_) (Ev.now _);show(if ((i:Nat):Int) ≥ 0 then _ else _)=_;rw[if_pos Zo,if_pos Zo,if_pos Zo,A2w n.ce i hi]
theorem A8h {n:Nr} (hP:A3b n) {c c':S151} (hc:c ∈ n.ce) (hc':c' ∈ n.ce) (hk:c.f0.size ≠ 0) (he:c'.f0=c.f0):c'=c:=by
 obtain⟨i,hi,rfl⟩:=List.getElem_of_mem hc;obtain⟨j,hj,rfl⟩:=List.getElem_of_mem hc';have h1:=hP.table.cells.found S151.f0 S151.f1;have:=h1.once S151.f0 S151.f1 (C0c hj) (C0c hi) he (by rw[he];exact hk);subst this;rfl
def B1i (n:Nr) (c:S151):Prop:=∃ (k:Nat) (x:S94),n.sl[k]? = some x∧x.f1=true∧24 * x.f0+(k:Int)=c.f1∧x.f2=c.f0
theorem A51 {l m:List ByteArray} (h:A1m l=A1m m):l.Perm m:=(A1w l).symm.trans (h ▸ A1w m)
theorem B9c {n:Nr} (hn:n.small):A1i.f [n.wk,n.tk,n.sk]=some (n.wk ++ n.tk ++ n.sk):=by
 have h1:=hn.s6;have h2:=hn.s8;have h3:=hn.s10;unfold A1i.f;rw[if_pos (by simp;omega)];simp
theorem B0u {l:List ByteArray} (h:l.length≤4194304):A01.f l=some (A1m l):=if_pos h
theorem B0v (cs:List S151):(A1g cs).length≤cs.length:=by unfold A1g TM.keysOf;rw[List.length_map];exact List.length_filter_le _ _
structure A2i (n:Nr):Prop where
 parts:A3b n
 shape:A5p n
 queued:(n.wk ++ n.tk ++ n.sk).Perm (A1g n.ce)
 laid:(A4f n.sl).Perm (A1g n.ce)
 linked:∀ c ∈ n.ce,c.f0.size ≠ 0→B1i n c
theorem RowC.below {α:Type} {d:Kd α} {w w':World} {v:Value} {xs:List α} (h:RowC d w v xs) (hb:Below w.heap.size w w'):RowC d w' v xs:=by
 obtain⟨A,c,e,hl,hc⟩:=h;exact⟨A,c,e,hl,Kd.C_below hc hb⟩
theorem A2c.below {w w':World} {v:NV} {n:Nr} (h:A2c w v n) (hb:Below w.heap.size w w'):A2c w' v n:=⟨h.r0.below hb,h.r2.below hb,h.r3.below hb,h.r6.below hb,h.r8.below hb,h.r10.below hb,h.r11.below hb⟩
theorem B7f (w:World) (v:NV) (n:Nr) (hn:n.small) (hC:A2c w v n) :
  Calls Tryz.prog 52 #[.agg (v.cells n)] w fun e w'=>∃ b,e=.returned (.bool b)∧(b=true ↔ A5p n)∧Below w.heap.size w w':=by
 by_cases hs:2≤n.sl.length∧n.sl.length≤24
 ·refine(B9b w v n hn hC hs _ _ _ _ rfl rfl rfl rfl).mono ?_
  rintro e w1 ⟨rfl,hb⟩;refine⟨_,rfl,?_,hb⟩;simp only [Bool.and_eq_true,decide_eq_true_eq];exact⟨fun ⟨⟨⟨⟨h1,h2⟩,h3⟩,h4⟩,h5⟩=>⟨hs,h1,h2,h3,h4,h5⟩,fun h=>⟨⟨⟨⟨h.old,h.cells⟩,h.wm⟩,h.tm⟩,h.sm⟩⟩
 ·refine(B7d w v n hn hC hs).mono ?_
  rintro e w1 ⟨rfl,hb⟩;exact⟨false,rfl,⟨fun h=>Bool.noConfusion h,fun h=>absurd h.size hs⟩,hb⟩
theorem B5g (w:World) (v:NV) (n:Nr) (hn:n.small) (hC:A2c w v n) :
  Calls Tryz.prog 15 #[.agg (v.cells n)] w fun e w'=>∃ b,e=.returned (.bool b)∧(b=true ↔ A2i n)∧Below w.heap.size w w':=by
 have hP:=fun w1 hb=>B7c w1 v n hn (hC.below (w':=w1) hb);have hH:=fun w1 hb=>B7f w1 v n hn (hC.below (w':=w1) hb);obtain⟨A0,c0,A2,c2,A3,c3,A6,c6,A8,c8,A10,c10,A11,c11,rfl,hF⟩:=hC.open_;have HF:=B98 hF;clear hC hF;dsimp only [NV.cells] at *;have HP:=B98 hP;have HH:=B98 hH;clear hP hH;have HS:=B98 (St.start w);have HN:=B98 hn;clear hn;go_enter Tryz.func15,Tryz.ntmps15;go_wp2_with fail;have S:=HS.o.alloc #[.slice A0 n.sl.length c0,.int .i64 n.fr,.slice A2 n.ce.length c2,.slice A3 n.old.length c3,.int .i64 n.mv,.int .i64 n.wm,.slice A6 n.wk.length c6,.int .i64 n.tm,.slice A8 n.tk.length c8,.int .i64 n.sm,.slice A10 n.sk.length c10,.slice A11 n.ct.length c11,.int .i64 n.ad,.int .i64 n.db] 50;clear HS;refine(HP.o _ S.below).mono ?_;rintro e w1 ⟨b0,rfl,hq,hb⟩;have S:=S.step hb;clear hb HP;have HS:=B98 S;obtain⟨hc0,hc1,hc2,hc3,hc4,hc5,hc6,hc7,hc8,hc9,hc10,hc11,hc12,hc13⟩:=S.cells14 0 rfl;clear S;have HQ0:=B98 hq;clear hq;cases b0 with
 |false =>
  go_wp2_with fail;go_ret;exact⟨false,rfl,⟨fun h=>Bool.noConfusion h,fun h=>absurd (HQ0.o.2 h.parts) Zs⟩,HS.o.below⟩
 |true =>
 go_wp2_with fail;refine(HH.o _ HS.o.below).mono ?_;rintro e w2 ⟨b1,rfl,hq,hb⟩;have S:=HS.o.step hb;clear hb HH HS hc0 hc1 hc2 hc3 hc4 hc5 hc6 hc7 hc8 hc9 hc10 hc11 hc12 hc13;have HS:=B98 S;have hc6:=S.at_cell 0 rfl 6 rfl;have hc8:=S.at_cell 0 rfl 8 rfl;have hc10:=S.at_cell 0 rfl 10 rfl;clear S;have HQ1:=B98 hq;clear hq;cases b1 with
 |false =>
  go_wp2_with fail;go_ret;exact⟨false,rfl,⟨fun h=>Bool.noConfusion h,fun h=>absurd (HQ1.o.2 h.shape) Zs⟩,HS.o.below⟩
 |true =>
 go_wp2_with fail;have S:=HS.o.alloc #[.slice A6 n.wk.length c6,.slice A8 n.tk.length c8,.slice A10 n.sk.length c10] 28;clear HS hc6 hc8 hc10;have hbb:=S.below;obtain⟨q0,hq0⟩:∃ q,q=n.wk ++ n.tk ++ n.sk:=⟨_,rfl⟩;obtain⟨q1,hq1⟩:∃ q,q=A1m q0:=⟨_,rfl⟩;have hl1:q0.length=q1.length:=by rw[hq1,A2n]
 have HL1:=B98 hl1;have hs1:A01.f q0=some q1:=by
  rw[hq1];exact B0u (by have:=HN.o.s6;have:=HN.o.s8;have:=HN.o.s10;rw[hq0];simp only [List.length_append];omega)
 have HS1:=B98 hs1;have hcc:=B9c HN.o;rw[← hq0] at hcc;have HQ:=B98 (show q1=A1m (n.wk ++ n.tk ++ n.sk) by rw[hq1,hq0]);have HQB:=B98 (show q1.length≤3145728 by have:=HN.o.s6;have:=HN.o.s8;have:=HN.o.s10;rw[← hl1,hq0];simp only [List.length_append];omega);clear hq0 hq1 hs1;refine(A1i.calls (some ⟨_,0,none⟩) 3 [n.wk,n.tk,n.sk] q0 _ (B3j S.head.2 (HF.o.below hbb).h6 HF.o.l6 (HF.o.below hbb).h8 HF.o.l8 (HF.o.below hbb).h10 HF.o.l10) (Nat.le_refl 3) hcc).mono ?_;rintro e w3 ⟨v0,rfl,hr,hb⟩;have S:=(S.tail).new_row rfl hb hr;obtain⟨B0,d0,rfl⟩:=Kd.R_slice hr;clear hb hr hbb hcc;rw[hl1] at S ⊢;clear hl1;have HS:=B98 S;clear S;go_wp2_with fail;refine(A01.calls (fun k=>some k=(Value.slice B0 q1.length d0).ownBlock) (.slice B0 q1.length d0) q0 q1 w _ HS.o.below (HS.o.at_R 0 rfl) HS1.o).mono ?_;rintro e w4 ⟨rfl,hr,hb,hk⟩;have S:=HS.o.sorted rfl hb hr hk;clear HS hr hb hk HS1;have HS:=B98 S;have hc0:=S.at_cell 1 rfl 0 rfl;clear S;go_wp2_with fail;clear hc0;go_loopw [4,38] (fun v4 v38 wr=>∃ (i:Nat) (acc:List ByteArray),v38=.int .i64 i∧A0a (i≤n.sl.length)∧A0a (acc=A4f (n.sl.take i))∧A0a (St w wr [Part.row Kd.string 9 v4 acc,Part.row Kd.string 9 (.slice B0 q1.length d0) q1,Part.blk w.heap.size 50 #[.slice A0 n.sl.length c0,.int .i64 n.fr,.slice A2 n.ce.length c2,.slice A3 n.old.length c3,.int .i64 n.mv,.int .i64 n.wm,.slice A6 n.wk.length c6,.int .i64 n.tm,.slice A8 n.tk.length c8,.int .i64 n.sm,.slice A10 n.sk.length c10,.slice A11 n.ct.length c11,.int .i64 n.ad,.int .i64 n.db]])) (fun _ v38 _=>n.sl.length - (intOf v38).toNat)
 case atStart=>exact⟨0,[],rfl,⟨by omega⟩,⟨by simp[A4f]⟩,⟨by exact HS.o.nil_row Kd.string 9⟩⟩
 case round =>
  obtain⟨i,acc,rfl,HI,HA,HS⟩:=hrel;by_cases c1:i < n.sl.length
  ·have c1b:decide ((i:Int) < (n.sl.length:Int))=true:=B99 Zo
   have p5:(0:Int)≤(i:Int):=by omega
   have q5:(i:Int) < (n.sl.length:Int):=by omega
   obtain⟨ad,e5,hx0,hx1,hx2,hx3,hx4⟩:=A2d (HF.o.below HS.o.below).h0 (i:Int) p5 q5;cases e5;obtain⟨x,hx⟩:∃ x,x=A0p n.sl (i:Int):=⟨_,rfl⟩;rw[← hx] at hx0 hx1 hx2 hx3 hx4;rw[C0k] at hx0 hx1 hx2 hx3 hx4;have HX:=B98 (show n.sl[i]? = some x by rw[hx,A41 n.sl i c1,C0c c1]);have C1:=B98 c1;clear hx c1;replace p5:=eq_true p5;replace q5:=eq_true q5;have p6:i < 1048576:=by have:=HN.o.s0;have h_:=of_eq_true q5;omega
   cases hu:x.f1 with
   |false =>
    rw[hu] at hx1;have HU:=B98 hu;clear hu;go_wp2_with (first|((with_reducible refine A0b (N:=6) rfl ?_);refine A3m ?hg (N:=6) ?hd (cs:=#[.int .i64 0,.bool false,.string (⟨#[]⟩:ByteArray),.string (⟨#[]⟩:ByteArray),.int .i64 0]) (t:=94) ?hr ?_;(case hd=>rfl);(case hg=>rfl);(case hr=>first|(go_simp;done)|(go_simp;rfl));intro g6 hg w6 hbox hb;have S:=HS.o.new_blk hb (Nat.le_of_eq hg.symm) hbox;clear hb hbox hg;obtain⟨hz0,hz1,hz2,hz3,hz4⟩:=S.cells5 0 rfl;obtain⟨hf0,hf1,hf2,hf3,hf4⟩:=S.frozen5 0 rfl;have HS6:=B98 S;clear S));go_roundw
    case rel=>exact⟨i+1,acc,by go_num,⟨by have h_:=of_eq_true q5;omega⟩,⟨by rw[HA.o,A82 HX.o,if_neg (by simp[HU.o]),List.append_nil]⟩,⟨(((((HS6.o.put 0 (.int .i64 x.f0) rfl).put 1 (.bool false) rfl).put 2 (.string x.f2) rfl).put 3 (.string x.f3) rfl).put 4 (.int .i64 x.f4) rfl).tail⟩⟩
    case measure=>have h_:=of_eq_true q5;simp only [intOf];omega
   |true =>
    rw[hu] at hx1;have HU:=B98 hu;clear hu;have hal:acc.length≤1048576:=by rw[HA.o];have h1_:=B0t (n.sl.take i);have h2_:=HN.o.s0;rw[List.length_take] at h1_;omega
    have HAL:=B98 hal;clear hal;go_wp2_with (first|((with_reducible refine A0b (N:=6) rfl ?_);refine A3m ?hg (N:=6) ?hd (cs:=#[.int .i64 0,.bool false,.string (⟨#[]⟩:ByteArray),.string (⟨#[]⟩:ByteArray),.int .i64 0]) (t:=94) ?hr ?_;(case hd=>rfl);(case hg=>rfl);(case hr=>first|(go_simp;done)|(go_simp;rfl));intro g6 hg w6 hbox hb;have S:=HS.o.new_blk hb (Nat.le_of_eq hg.symm) hbox;clear hb hbox hg;obtain⟨hz0,hz1,hz2,hz3,hz4⟩:=S.cells5 0 rfl;obtain⟨hf0,hf1,hf2,hf3,hf4⟩:=S.frozen5 0 rfl;have HS6:=B98 S;clear S)|((with_reducible refine A1c (b:=.append) (xs:=#[.tmp 44,.tmp 47]) rfl ?_);at_builtin;have S:=(((((HS6.o.put 0 (.int .i64 x.f0) rfl).put 1 (.bool true) rfl).put 2 (.string x.f2) rfl).put 3 (.string x.f3) rfl).put 4 (.int .i64 x.f4) rfl).tail;refine Kd.R_append Kd.string (w0:=w) w.heap.size rfl (.tmp 44) (.tmp 47) 28 9 (.string ⟨#[]⟩) 16 rfl Tryz.underlying28 A57 rfl Zd Zo u4 acc x.f2 [.string x.f2] (fun k_=>(w.heap.size≤k_)) (fun _=>False) rfl (by first|(go_simp;done)|(go_simp;rfl)) ?aP (fun _ hk=>hk.elim) ?aF ?aO ?aB ?aS ?aL ?_;(case aP=>exact rfl);(case aB=>exact S.below);(case aF=>exact(fun k_ hk=>Nat.le_trans S.below.size hk));(case aO=>exact(Kd.R_reok rfl (S.at_R 0 rfl) (fun k_ hk=>Kd.R_base (S.at_R 0 rfl) k_ hk)));(case aS=>exact S.below.size);(case aL=>have:=HAL.o;omega);intro v7 w7 ho hb hg hat;have S:=S.appended rfl hb hg ho hat;have HS7:=B98 S;clear S ho hb hg hat));go_roundw
    case rel=>exact⟨i+1,acc ++ [x.f2],by go_num,⟨by have h_:=of_eq_true q5;omega⟩,⟨by rw[HA.o,A82 HX.o,if_pos HU.o]⟩,⟨HS7.o⟩⟩
    case measure=>have h_:=of_eq_true q5;simp only [intOf];omega
  ·have c1b:decide ((i:Int) < (n.sl.length:Int))=false:=C0a Zo
   have c1c:decide (i < n.sl.length)=false:=C0a c1;have ha:acc=A4f n.sl:=by rw[HA.o,List.take_of_length_le Zo]
   have hal:acc.length≤1048576:=by rw[ha];exact Nat.le_trans (B0t _) HN.o.s0
   obtain⟨l1,hl1⟩:∃ q,q=A1m acc:=⟨_,rfl⟩;have hln:acc.length=l1.length:=by rw[hl1,A2n]
   have HS2:=B98 (show A01.f acc=some l1 by rw[hl1];exact B0u Zo);have HL:=B98 (show l1=A1m (A4f n.sl) by rw[hl1,ha]);have HLB:=B98 (show l1.length≤1048576 by omega);have S:=HS.o;clear HA HI HS ha hl1 hal;obtain⟨B1,d1,rfl⟩:=Kd.R_slice (S.at_R 0 rfl);rw[hln] at S ⊢;clear hln;have HS:=B98 S;clear S c1;go_wp2_with fail;refine(A01.calls (fun k=>some k=(Value.slice B1 l1.length d1).ownBlock) (.slice B1 l1.length d1) acc l1 w _ HS.o.below (HS.o.at_R 0 rfl) HS2.o).mono ?_;rintro e w5 ⟨rfl,hr,hb,hk⟩;have S:=HS.o.sorted rfl hb hr hk;clear HS hr hb hk HS2 c1b c1c;have HS:=B98 S;have hc2:=S.at_cell 2 rfl 2 rfl;have hc3:=S.at_cell 2 rfl 3 rfl;have hc4:=S.at_cell 2 rfl 4 rfl;clear S;go_wp2_with fail;obtain⟨ks,hks⟩:∃ q,q=A1m (A1g (n.ce ++ n.old)):=⟨_,rfl⟩;have hkk:∃ K,A0x.f K n.ce n.old n.mv=some ks:=by
    obtain⟨K,hK⟩:=A9g n.ce n.old n.mv HN.o.s2 HN.o.s3;exact⟨K,by rw[hks];exact hK K (Nat.le_refl _)⟩
   obtain⟨Kk,hKk⟩:=hkk;have HK:=B98 (show ks=A1m (A1g n.ce) by rw[hks,List.eq_nil_of_length_eq_zero (HQ1.o.1 trivial).old,List.append_nil]);have HKB:=B98 (show ks.length≤1048576 by rw[HK.o,A2n];exact Nat.le_trans (B0v _) HN.o.s2);clear hks;have hbb:=HS.o.below;refine(A0x.calls Kk _ A2 c2 n.ce _ A3 c3 n.old n.mv ks _ (Kd.V_mk HF.o.l2 (Kd.C_F A45 (HF.o.below hbb).h2)) (Kd.V_mk HF.o.l3 (Kd.C_F A45 (HF.o.below hbb).h3)) hKk).mono ?_;rintro e w6 ⟨v6,rfl,hr,hb⟩;have S:=HS.o.new_row rfl hb hr;obtain⟨B2,d2,rfl⟩:=Kd.R_slice hr;clear hb hr hbb HS hKk hc2 hc3 hc4;have HS:=B98 S;clear S;go_wp2_with fail;obtain⟨Ka,hKa⟩:=B7u q1 ks (by have:=HQB.o;omega);refine(A0k.calls Ka B0 d0 q1 B2 d2 ks (decide (q1=ks)) _ (HS.o.at_C 2 rfl).2.2 (HS.o.at_C 2 rfl).2.1 (HS.o.at_C 0 rfl).2.2 (HS.o.at_C 0 rfl).2.1 (hKa Ka (Nat.le_refl _))).mono ?_;rintro e w7 ⟨rfl,hd⟩;have S:=HS.o.step hd.below;clear HS hd hKa;have HS:=B98 S;clear S;by_cases hA:q1=ks
   case neg =>
    rw[C0a hA];have HA:=B98 hA;clear hA;go_wp2_with fail;go_ret;exact⟨false,rfl,⟨fun h=>Bool.noConfusion h,fun h=>absurd (show q1=ks by rw[HQ.o,HK.o];exact A4n h.queued) HA.o⟩,HS.o.below⟩
   rw[B99 hA];have HA:=B98 hA;clear hA;go_wp2_with fail;obtain⟨Kb,hKb⟩:=B7u l1 ks (by have:=HLB.o;omega);refine(A0k.calls Kb B1 d1 l1 B2 d2 ks (decide (l1=ks)) _ (HS.o.at_C 1 rfl).2.2 (HS.o.at_C 1 rfl).2.1 (HS.o.at_C 0 rfl).2.2 (HS.o.at_C 0 rfl).2.1 (hKb Kb (Nat.le_refl _))).mono ?_;rintro e w8 ⟨rfl,hd⟩;have S:=HS.o.step hd.below;clear HS hd hKb;have HS:=B98 S;clear S;by_cases hB:l1=ks
   case neg =>
    rw[C0a hB];have HB:=B98 hB;clear hB;go_wp2_with fail;go_ret;exact⟨false,rfl,⟨fun h=>Bool.noConfusion h,fun h=>absurd (show l1=ks by rw[HL.o,HK.o];exact A4n h.laid) HB.o⟩,HS.o.below⟩
   rw[B99 hB];have HB:=B98 hB;clear hB;go_wp2_with fail;go_loopw [67] (fun v67 wr=>∃ j:Nat,v67=.int .i64 j∧A0a (j≤ks.length)∧A0a (∀ c ∈ n.ce,c.f0 ∈ ks.take j→B1i n c)∧A0a (St w wr [Part.row Kd.string 9 (.slice B2 ks.length d2) ks,Part.row Kd.string 9 (.slice B1 l1.length d1) l1,Part.row Kd.string 9 (.slice B0 q1.length d0) q1,Part.blk w.heap.size 50 #[.slice A0 n.sl.length c0,.int .i64 n.fr,.slice A2 n.ce.length c2,.slice A3 n.old.length c3,.int .i64 n.mv,.int .i64 n.wm,.slice A6 n.wk.length c6,.int .i64 n.tm,.slice A8 n.tk.length c8,.int .i64 n.sm,.slice A10 n.sk.length c10,.slice A11 n.ct.length c11,.int .i64 n.ad,.int .i64 n.db]])) (fun v67 _=>ks.length - (intOf v67).toNat)
   case atStart=>exact⟨0,rfl,⟨by omega⟩,⟨by simp⟩,⟨HS.o⟩⟩
   case round =>
    clear HS;obtain⟨j,rfl,HJ,HG,HS⟩:=hrel;by_cases c1:j < ks.length
    ·have c1b:decide ((j:Int) < (ks.length:Int))=true:=B99 Zo
     have p5:(0:Int)≤(j:Int):=by omega
     have q5:(j:Int) < (ks.length:Int):=by omega
     have c1c:decide (j < ks.length)=true:=B99 c1;have p6:j < 1048576:=by have:=HKB.o;omega
     obtain⟨ad,e5,hx0⟩:=Kd.at_string (HS.o.at_C 0 rfl).2.2 (j:Int) p5 q5;cases e5;rw[C0k,A2g ks j c1] at hx0;obtain⟨key,hkey⟩:∃ y,y=ks[j]:=⟨_,rfl⟩;rw[← hkey] at hx0;have hmem:key ∈ A1g n.ce:=by
      have h_:key ∈ ks:=hkey ▸ List.getElem_mem c1;rw[HK.o] at h_;exact(A1w _).mem_iff.1 h_
     have hkj:ks[j]? = some key:=by rw[hkey,C0c c1]
     clear hkey;obtain⟨c,hc,hck,hks⟩:=(TM.mem_keysOf S151.f0).1 hmem;subst hck;have HC:=B98 hc;have HKS:=B98 hks;have HKJ:=B98 (show ∃ m,m=j∧ks[m]? = some c.f0 from⟨j,rfl,hkj⟩);clear hc hks hkj hmem c1;replace p5:=eq_true p5;replace q5:=eq_true q5;have hc2:=HS.o.at_cell 3 rfl 2 rfl;have hc3:=HS.o.at_cell 3 rfl 3 rfl;have hc4:=HS.o.at_cell 3 rfl 4 rfl;go_wp2_with fail;obtain⟨Kf,hKf⟩:=A7p HN.o (HQ0.o.1 trivial) HC.o HKS.o;have hbb:=HS.o.below;refine(A1a.calls Kf A2 c2 n.ce A3 c3 n.old n.mv c.f0 c.f1 true _ (HF.o.below hbb).h2 HF.o.l2 (HF.o.below hbb).h3 HF.o.l3 (hKf Kf (Nat.le_refl _))).mono ?_;rintro e w9 ⟨rfl,hb⟩;have S:=HS.o.step hb;clear HS hb hbb hKf hc2 hc3 hc4 hx0;have HS:=B98 S;obtain⟨hc0,hc1⟩:=S.cells2 3 rfl;clear S;go_wp2_with fail;obtain⟨pl,hpl⟩:∃ p,p=plV (A4r n.sl c.f1):=⟨_,rfl⟩;have hbb:=HS.o.below;refine(A1v.calls A0 c0 n.sl n.fr c.f1 pl _ (HF.o.below hbb).h0 HF.o.l0 (by rw[hpl];exact B5f _ _ _ (HQ0.o.1 trivial).arena)).mono ?_;rintro e w10 ⟨rfl,hb⟩;have S:=HS.o.step hb;clear HS hb hbb hc0 hc1;have HS:=B98 S;have hc0:=S.at_cell 3 rfl 0 rfl;clear S;cases hp:A4r n.sl c.f1 with
     |none =>
      obtain rfl:pl = -1:=by rw[hpl,hp];rfl
      have HP:=B98 hp;clear hp hpl;go_wp2_with fail;go_ret;exact⟨false,rfl,⟨fun h=>Bool.noConfusion h,fun h=>by
       obtain⟨k,x,hx,hu,hh,_⟩:=h.linked c HC.o HKS.o;have:=(A2h (HQ0.o.1 trivial).arena).2 ⟨x,hx,hu,hh⟩;rw[HP.o] at this;cases this⟩,HS.o.below⟩
     |some k =>
      obtain rfl:pl=(k:Int):=by rw[hpl,hp];rfl
      obtain⟨x,hx,hu,hh⟩:=(A2h (HQ0.o.1 trivial).arena).1 hp;have hkl:k < n.sl.length:=(C0e.1 hx).1;have k5:(0:Int)≤(k:Int):=by omega
      have l5:(k:Int) < (n.sl.length:Int):=by omega
      have k6:decide ((k:Int) < 0)=false:=C0a Zo;obtain⟨ad2,e6,_,_,hy2,_,_⟩:=A2d (HF.o.below HS.o.below).h0 (k:Int) k5 l5;cases e6;rw[C0k,B0r hx] at hy2;have HP:=B98 hp;have HL2:=B98 (show ∃ (m:Nat) (y:S94),n.sl[m]? = some y∧y.f1=true∧24 * y.f0+(m:Int)=c.f1∧m=k∧y=x from⟨k,x,hx,hu,hh,rfl,rfl⟩);clear hp hpl hx hu hh hkl;replace k5:=eq_true k5;replace l5:=eq_true l5;by_cases hkx:x.f2=c.f0
      ·have t1:(x.f2.toList == c.f0.toList)=true:=beq_iff_eq.2 (by rw[hkx])
       have t2:(x.f2.toList != c.f0.toList)=false:=bne_eq_false_iff_eq.2 (by rw[hkx]);have HX:=B98 hkx;clear hkx;go_wp2_with fail;go_roundw
       case rel =>
        refine⟨j+1,by go_num,⟨by have h_:=of_eq_true q5;omega⟩,⟨fun c' hc' hm'=>?_⟩,HS⟩;obtain⟨m,hm,hj⟩:=HKJ.o;rw[List.take_add_one,← hm,hj] at hm'
        rcases List.mem_append.1 hm' with h1|h1
        ·rw[hm] at h1;exact HG.o c' hc' h1
        ·obtain rfl:=A8h (HQ0.o.1 trivial) HC.o hc' HKS.o (by simpa using h1)
         obtain⟨m',y',hx',hu',hh',rfl,rfl⟩:=HL2.o;exact⟨m',y',hx',hu',hh',HX.o⟩
       case measure=>have h_:=of_eq_true q5;simp only [intOf];omega
      ·have t1:(x.f2.toList == c.f0.toList)=false:=C0g.2 (fun e=>hkx (A3q.1 e))
       have t2:(x.f2.toList != c.f0.toList)=true:=bne_iff_ne.2 (fun e=>hkx (A3q.1 e));have HX:=B98 hkx;clear hkx;go_wp2_with fail;go_ret;exact⟨false,rfl,⟨fun h=>Bool.noConfusion h,fun h=>by
        obtain⟨m,y,hx,hu,hh,hk⟩:=h.linked c HC.o HKS.o;have h2:=(A2h (HQ0.o.1 trivial).arena).2 ⟨y,hx,hu,hh⟩;obtain⟨m',y',hx',hu',hh',rfl,rfl⟩:=HL2.o;rw[HP.o] at h2;obtain rfl:=C0d h2;rw[hx'] at hx;obtain rfl:=C0d hx;exact(HX.o hk).elim⟩,HS.o.below⟩
    ·have c1b:decide ((j:Int) < (ks.length:Int))=false:=C0a Zo
     have c1c:decide (j < ks.length)=false:=C0a c1;have HT:=B98 (show ks.take j=ks from List.take_of_length_le Zo);clear c1;go_wp2_with fail;go_ret;refine⟨true,rfl,⟨fun _=>⟨HQ0.o.1 trivial,HQ1.o.1 trivial,A51 (by rw[← HQ.o,HA.o,HK.o]),A51 (by rw[← HL.o,HB.o,HK.o]),fun c hc hk=>HG.o c hc ?_⟩,fun _=>rfl⟩,HS.o.below⟩;rw[HT.o,HK.o];exact(A1w _).mem_iff.2 ((TM.mem_keysOf S151.f0).2 ⟨c,hc,rfl,hk⟩)
end Go.Proofs.YtediiolcoilepaaGreat.Nb
