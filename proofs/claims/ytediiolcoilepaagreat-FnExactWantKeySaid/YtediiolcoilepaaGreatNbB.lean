/- Walks of callees. -/
import Derived.Test.YtediiolcoilepaaGreatNbI
import Derived.Test.YtediiolcoilepaaGreatGNear7
import Derived.Test.YtediiolcoilepaaGreatGNear8
import Derived.Test.YtediiolcoilepaaGreatGNear9
import Derived.BigRegion
namespace Go.Proofs.YtediiolcoilepaaGreat.Nb
set_option maxHeartbeats 8000000
set_option maxRecDepth 100000
open Go.RowKit Go.Proofs.YtediiolcoilepaaGreat.GNear Go.Proofs.YtediiolcoilepaaGreatW.PrintWords Go.Proofs.YtediiolcoilepaaGreatW.PrintLast Go.Proofs.YtediiolcoilepaaGreatW.PrintMore
set_option linter.unusedVariables false
set_option linter.unusedSimpArgs false
structure PartsR (n:Nr):Prop where
 arena:arR n.sl n.fr
 table:taR n.ce n.old n.mv
 window:okQ n.wm n.wk
 trial:okQ n.tm n.tk
 safe:okQ n.sm n.sk
 sketch:skOk n.ct n.ad=true
 door:0≤n.db∧n.db < 4294967296
def cellsN (s:Nat):Nat:=if s≤1 then 4 else if s≤3 then 8 else if s≤7 then 16 else if s≤15 then 32 else 64
def winN (s:Nat):Nat:=if s / 4 < 1 then 1 else s / 4
def safN (s:Nat):Nat:=(s - winN s) / 2
def triN (s:Nat):Nat:=s - winN s - safN s
structure ShapeR (n:Nr):Prop where
 size:2≤n.sl.length∧n.sl.length≤24
 old:n.old.length=0
 cells:n.ce.length=cellsN n.sl.length
 wm:n.wm=(winN n.sl.length:Int)
 tm:n.tm=(triN n.sl.length:Int)
 sm:n.sm=(safN n.sl.length:Int)
def newChk (s:Nat):Bool:=match impl_NearNew.f 200 (s:Int) with
 |some (_,_,ce,_,_,wm,_,tm,_,sm,_,_,_,_,ok)=>ok && ce.length == cellsN s && wm == (winN s:Int) && tm == (triN s:Int) && sm == (safN s:Int)
 |none=>false
theorem newChk_all:∀ m:Fin 23,newChk (m.1+2)=true:=by decide +kernel
theorem newI_in (s:Nat) (h1:2≤s) (h2:s≤24):∃ r1 r2 r3 r4 r5 r7 r9 r11 r12 r13 r14,impl_NearNew.f 200 (s:Int)=some (r1,r2,r3,r4,r5,(winN s:Int),r7,(triN s:Int),r9,(safN s:Int),r11,r12,r13,r14,true)∧r3.length=cellsN s:=by
 have h:=newChk_all ⟨s - 2,by omega⟩;have e:s - 2+2=s:=by omega
 simp only [e] at h;unfold newChk at h
 split at h
 ·rename_i r1 r2 r3 r4 r5 r6 r7 r8 r9 r10 r11 r12 r13 r14 r15 he
  simp only [Bool.and_eq_true,beq_iff_eq] at h;obtain⟨⟨⟨⟨rfl,h3⟩,rfl⟩,rfl⟩,rfl⟩:=h;exact⟨r1,r2,r3,r4,r5,r7,r9,r11,r12,r13,r14,he,h3⟩
 ·cases h
theorem newI_out (s:Nat) (h:¬ (2≤s∧s≤24)) (k:Nat):impl_NearNew.f k (s:Int)=some ([],0,[],[],0,0,[],0,[],0,[],[],0,0,false):=by
 unfold impl_NearNew.f;rw[rangeI];simp only [Option.bind_some,if_neg (show ¬ decide (2≤(s:Int)∧(s:Int)≤24)=true from fun e=>h (by have:=of_decide_eq_true e;omega))]
theorem partsOkI (w:World) (v:NV) (n:Nr) (hn:n.small) (hC:NearC w v n) :
  Calls Tryz.prog 51 #[.agg (v.cells n)] w fun e w'=>∃ b,e=.returned (.bool b)∧(b=true ↔ PartsR n)∧Below w.heap.size w w':=by
 obtain⟨A0,c0,A2,c2,A3,c3,A6,c6,A8,c8,A10,c10,A11,c11,rfl,hF⟩:=hC.open_;have HF:=Aside0.mk hF;clear hC hF;dsimp only [NV.cells];have HS:=Aside0.mk (St.start w);have HN:=Aside0.mk hn;clear hn;go_enter Tryz.func51,Tryz.ntmps51;go_wp2_with fail;have S:=HS.out.alloc #[Value.slice A0 n.sl.length c0,Value.int .i64 n.fr,Value.slice A2 n.ce.length c2,Value.slice A3 n.old.length c3,Value.int .i64 n.mv,Value.int .i64 n.wm,Value.slice A6 n.wk.length c6,Value.int .i64 n.tm,Value.slice A8 n.tk.length c8,Value.int .i64 n.sm,Value.slice A10 n.sk.length c10,Value.slice A11 n.ct.length c11,Value.int .i64 n.ad,Value.int .i64 n.db] 50;clear HS;obtain⟨b0,⟨K0,hK0⟩,hq0⟩:=arenaI_ev n.sl n.fr HN.out.s0;refine(impl_ArenaOk.calls K0 A0 c0 n.sl n.fr b0 _ (HF.out.below S.below).h0 HF.out.l0 (hK0 K0 (Nat.le_refl _))).mono ?_;rintro e w1 ⟨rfl,hb⟩;have S:=S.step hb;clear hb;have HS:=Aside0.mk S;have hc2:=S.at_cell 0 rfl 2 rfl;have hc3:=S.at_cell 0 rfl 3 rfl;have hc4:=S.at_cell 0 rfl 4 rfl;clear S;have HQ0:=Aside0.mk hq0;clear hq0 hK0;cases b0 with
 |false =>
  go_wp2_with fail;go_ret;exact⟨false,rfl,⟨fun h=>Bool.noConfusion h,fun h=>absurd (HQ0.out.2 h.arena) (by simp)⟩,HS.out.below⟩
 |true =>
 go_wp2_with fail;obtain⟨b1,⟨K1,hK1⟩,hq1⟩:=tableI_ev n.ce n.old n.mv HN.out.s2 HN.out.s3 HN.out.k2 HN.out.k3;refine(impl_TableOk.calls K1 A2 c2 n.ce A3 c3 n.old n.mv b1 _ (HF.out.below HS.out.below).h2 HF.out.l2 (HF.out.below HS.out.below).h3 HF.out.l3 (hK1 K1 (Nat.le_refl _))).mono ?_;rintro e w2 ⟨rfl,hb⟩;have S:=HS.out.step hb;clear hb HS;clear hc2 hc3 hc4;have HS:=Aside0.mk S;have hc5:=S.at_cell 0 rfl 5 rfl;have hc6:=S.at_cell 0 rfl 6 rfl;clear S;have HQ1:=Aside0.mk hq1;clear hq1 hK1;cases b1 with
 |false =>
  go_wp2_with fail;go_ret;exact⟨false,rfl,⟨fun h=>Bool.noConfusion h,fun h=>absurd (HQ1.out.2 h.table) (by simp)⟩,HS.out.below⟩
 |true =>
 go_wp2_with fail;obtain⟨b2,⟨K2,hK2⟩,hq2⟩:=okI_ev n.wm n.wk HN.out.s6;refine(impl_QueueOk.calls K2 n.wm A6 c6 n.wk b2 _ (HF.out.below HS.out.below).h6 HF.out.l6 (hK2 K2 (Nat.le_refl _))).mono ?_;rintro e w3 ⟨rfl,hb⟩;have S:=HS.out.step hb;clear hb HS;clear hc5 hc6;have HS:=Aside0.mk S;have hc7:=S.at_cell 0 rfl 7 rfl;have hc8:=S.at_cell 0 rfl 8 rfl;clear S;have HQ2:=Aside0.mk hq2;clear hq2 hK2;cases b2 with
 |false =>
  go_wp2_with fail;go_ret;exact⟨false,rfl,⟨fun h=>Bool.noConfusion h,fun h=>absurd (HQ2.out.2 h.window) (by simp)⟩,HS.out.below⟩
 |true =>
 go_wp2_with fail;obtain⟨b3,⟨K3,hK3⟩,hq3⟩:=okI_ev n.tm n.tk HN.out.s8;refine(impl_QueueOk.calls K3 n.tm A8 c8 n.tk b3 _ (HF.out.below HS.out.below).h8 HF.out.l8 (hK3 K3 (Nat.le_refl _))).mono ?_;rintro e w4 ⟨rfl,hb⟩;have S:=HS.out.step hb;clear hb HS;clear hc7 hc8;have HS:=Aside0.mk S;have hc9:=S.at_cell 0 rfl 9 rfl;have hc10:=S.at_cell 0 rfl 10 rfl;clear S;have HQ3:=Aside0.mk hq3;clear hq3 hK3;cases b3 with
 |false =>
  go_wp2_with fail;go_ret;exact⟨false,rfl,⟨fun h=>Bool.noConfusion h,fun h=>absurd (HQ3.out.2 h.trial) (by simp)⟩,HS.out.below⟩
 |true =>
 go_wp2_with fail;obtain⟨b4,⟨K4,hK4⟩,hq4⟩:=okI_ev n.sm n.sk HN.out.s10;refine(impl_QueueOk.calls K4 n.sm A10 c10 n.sk b4 _ (HF.out.below HS.out.below).h10 HF.out.l10 (hK4 K4 (Nat.le_refl _))).mono ?_;rintro e w5 ⟨rfl,hb⟩;have S:=HS.out.step hb;clear hb HS;clear hc9 hc10;have HS:=Aside0.mk S;have hc11:=S.at_cell 0 rfl 11 rfl;have hc12:=S.at_cell 0 rfl 12 rfl;clear S;have HQ4:=Aside0.mk hq4;clear hq4 hK4;cases b4 with
 |false =>
  go_wp2_with fail;go_ret;exact⟨false,rfl,⟨fun h=>Bool.noConfusion h,fun h=>absurd (HQ4.out.2 h.safe) (by simp)⟩,HS.out.below⟩
 |true =>
 go_wp2_with fail;obtain⟨b5,hK5,hq5⟩:∃ b,Ev (fun k=>impl_SketchOk.f k n.ct n.ad) b∧(b=true ↔ skOk n.ct n.ad=true):=⟨_,skI_ev n.ct n.ad HN.out.s11,Iff.rfl⟩;obtain⟨K5,hK5⟩:=hK5;refine(impl_SketchOk.calls K5 A11 c11 n.ct n.ad b5 _ (HF.out.below HS.out.below).h11 HF.out.l11 (hK5 K5 (Nat.le_refl _))).mono ?_;rintro e w6 ⟨rfl,hb⟩;have S:=HS.out.step hb;clear hb HS;clear hc11 hc12;have HS:=Aside0.mk S;have hc13:=S.at_cell 0 rfl 13 rfl;clear S;have HQ5:=Aside0.mk hq5;clear hq5 hK5;cases b5 with
 |false =>
  go_wp2_with fail;go_ret;exact⟨false,rfl,⟨fun h=>Bool.noConfusion h,fun h=>absurd (HQ5.out.2 h.sketch) (by simp)⟩,HS.out.below⟩
 |true =>
 go_wp2_with fail;obtain⟨b6,hK6,hq6⟩:∃ b,impl_DoorOk.f n.db=some b∧(b=true ↔ 0≤n.db∧n.db < 4294967296):=⟨_,doorI n.db,decide_eq_true_iff⟩;refine(impl_DoorOk.calls n.db b6 _ hK6).mono ?_;rintro e w7 ⟨rfl,hb⟩;have S:=HS.out.step hb;clear hb HS;clear hc13;have HS:=Aside0.mk S;clear S;have HQ6:=Aside0.mk hq6;clear hq6 hK6;go_wp2_with fail;go_ret;exact⟨b6,rfl,⟨fun h=>⟨(by first|exact HQ0.out.1 rfl|exact HQ0.out.1 trivial|exact HQ0.out),(by first|exact HQ1.out.1 rfl|exact HQ1.out.1 trivial|exact HQ1.out),(by first|exact HQ2.out.1 rfl|exact HQ2.out.1 trivial|exact HQ2.out),(by first|exact HQ3.out.1 rfl|exact HQ3.out.1 trivial|exact HQ3.out),(by first|exact HQ4.out.1 rfl|exact HQ4.out.1 trivial|exact HQ4.out),(by first|exact HQ5.out.1 rfl|exact HQ5.out.1 trivial|exact HQ5.out),HQ6.out.1 h⟩,fun h=>HQ6.out.2 h.door⟩,HS.out.below⟩
theorem shapeOut (w:World) (v:NV) (n:Nr) (hn:n.small) (hC:NearC w v n) (hs:¬ (2≤n.sl.length∧n.sl.length≤24)) :
  Calls Tryz.prog 52 #[.agg (v.cells n)] w fun e w'=>e=.returned (.bool false)∧Below w.heap.size w w':=by
 obtain⟨A0,c0,A2,c2,A3,c3,A6,c6,A8,c8,A10,c10,A11,c11,rfl,hF⟩:=hC.open_;have HF:=Aside0.mk hF;clear hC hF;dsimp only [NV.cells];have HS:=Aside0.mk (St.start w);have HN:=Aside0.mk hn;clear hn;go_enter Tryz.func52,Tryz.ntmps52;go_wp2_with fail;have S:=HS.out.alloc #[Value.slice A0 n.sl.length c0,Value.int .i64 n.fr,Value.slice A2 n.ce.length c2,Value.slice A3 n.old.length c3,Value.int .i64 n.mv,Value.int .i64 n.wm,Value.slice A6 n.wk.length c6,Value.int .i64 n.tm,Value.slice A8 n.tk.length c8,Value.int .i64 n.sm,Value.slice A10 n.sk.length c10,Value.slice A11 n.ct.length c11,Value.int .i64 n.ad,Value.int .i64 n.db] 50;clear HS;refine(impl_NearNew.calls 0 _ _ _ _ _ _ _ _ _ _ _ _ _ _ _ _ _ (newI_out n.sl.length hs 0)).mono ?_;rintro e w1 ⟨u0,u2,u3,u6,u8,u10,u11,rfl,q0,q2,q3,q6,q8,q10,q11,hb⟩;obtain⟨B0,d0,rfl⟩:=Kd.R_slice q0;obtain⟨B2,d2,rfl⟩:=Kd.R_slice q2;obtain⟨B3,d3,rfl⟩:=Kd.R_slice q3;obtain⟨B6,d6,rfl⟩:=Kd.R_slice q6;obtain⟨B8,d8,rfl⟩:=Kd.R_slice q8;obtain⟨B10,d10,rfl⟩:=Kd.R_slice q10;obtain⟨B11,d11,rfl⟩:=Kd.R_slice q11;clear q0 q2 q3 q6 q8 q10 q11;have S:=S.step hb;clear hb;have HS:=Aside0.mk S;have hc0:=S.at_cell 0 rfl 0 rfl;have hlt:=S.at_lt 0 rfl;clear S;go_wp2_with fail;go_ret;exact⟨rfl,(HS.out.alloc (#[Value.slice B0 0 d0,Value.int .i64 0,Value.slice B2 0 d2,Value.slice B3 0 d3,Value.int .i64 0,Value.int .i64 0,Value.slice B6 0 d6,Value.int .i64 0,Value.slice B8 0 d8,Value.int .i64 0,Value.slice B10 0 d10,Value.slice B11 0 d11,Value.int .i64 0,Value.int .i64 0]) 50).below⟩
theorem shapeIn (w:World) (v:NV) (n:Nr) (hn:n.small) (hC:NearC w v n) (hs:2≤n.sl.length∧n.sl.length≤24) (b:Bool) (wN tN sN:Int) (hw:wN=(winN n.sl.length:Int)) (ht:tN=(triN n.sl.length:Int)) (hsf:sN=(safN n.sl.length:Int)) (hb:b=(decide (n.old.length=0) && decide (n.ce.length=cellsN n.sl.length) && decide (n.wm=wN) && decide (n.tm=tN) && decide (n.sm=sN))) :
  Calls Tryz.prog 52 #[.agg (v.cells n)] w fun e w'=>e=.returned (.bool b)∧Below w.heap.size w w':=by
 have HBB:=Aside0.mk hb;clear hb;obtain⟨A0,c0,A2,c2,A3,c3,A6,c6,A8,c8,A10,c10,A11,c11,rfl,hF⟩:=hC.open_;have HF:=Aside0.mk hF;clear hC hF;dsimp only [NV.cells];have HS:=Aside0.mk (St.start w);have HN:=Aside0.mk hn;clear hn;go_enter Tryz.func52,Tryz.ntmps52;go_wp2_with fail;have S:=HS.out.alloc #[Value.slice A0 n.sl.length c0,Value.int .i64 n.fr,Value.slice A2 n.ce.length c2,Value.slice A3 n.old.length c3,Value.int .i64 n.mv,Value.int .i64 n.wm,Value.slice A6 n.wk.length c6,Value.int .i64 n.tm,Value.slice A8 n.tk.length c8,Value.int .i64 n.sm,Value.slice A10 n.sk.length c10,Value.slice A11 n.ct.length c11,Value.int .i64 n.ad,Value.int .i64 n.db] 50;clear HS;obtain⟨r1,r2,r3,r4,r5,r7,r9,r11,r12,r13,r14,hk,h3⟩:=newI_in n.sl.length hs.1 hs.2;rw[← hw,← ht,← hsf] at hk;refine(impl_NearNew.calls 200 _ _ _ _ _ _ _ _ _ _ _ _ _ _ _ _ _ hk).mono ?_;rintro e w1 ⟨u0,u2,u3,u6,u8,u10,u11,rfl,q0,q2,q3,q6,q8,q10,q11,hb⟩;obtain⟨B0,d0,rfl⟩:=Kd.R_slice q0;obtain⟨B2,d2,rfl⟩:=Kd.R_slice q2;obtain⟨B3,d3,rfl⟩:=Kd.R_slice q3;obtain⟨B6,d6,rfl⟩:=Kd.R_slice q6;obtain⟨B8,d8,rfl⟩:=Kd.R_slice q8;obtain⟨B10,d10,rfl⟩:=Kd.R_slice q10;obtain⟨B11,d11,rfl⟩:=Kd.R_slice q11;clear q0 q2 q3 q6 q8 q10 q11;have S:=S.step hb;clear hb hk hw ht hsf hs;have HS:=Aside0.mk S;have hc0:=S.at_cell 0 rfl 0 rfl;have hc2:=S.at_cell 0 rfl 2 rfl;have hc3:=S.at_cell 0 rfl 3 rfl;have hc5:=S.at_cell 0 rfl 5 rfl;have hc7:=S.at_cell 0 rfl 7 rfl;have hc9:=S.at_cell 0 rfl 9 rfl;have hlt:=S.at_lt 0 rfl;clear S;have H3:=Aside0.mk h3;clear h3;by_cases t0:(n.old.length:Int)=0
 case neg =>
  have t0b:((n.old.length:Int) == 0)=false:=beq_eq_false_iff_ne.2 t0;have HT:=Aside0.mk t0;clear t0;go_wp2_with fail;go_ret;refine⟨?_,(HS.out.alloc (#[Value.slice B0 r1.length d0,Value.int .i64 r2,Value.slice B2 r3.length d2,Value.slice B3 r4.length d3,Value.int .i64 r5,Value.int .i64 wN,Value.slice B6 r7.length d6,Value.int .i64 tN,Value.slice B8 r9.length d8,Value.int .i64 sN,Value.slice B10 r11.length d10,Value.slice B11 r12.length d11,Value.int .i64 r13,Value.int .i64 r14]) 50).below⟩;rw[HBB.out];have h_:=HT.out;have h3_:=H3.out;clear HF HS HN HBB;refine congrArg (fun x=>Ending.returned (Value.bool x)) ?_
  symm;simp only [Bool.and_eq_false_iff,decide_eq_false_iff_not];omega
 case pos =>
  have t0b:((n.old.length:Int) == 0)=true:=beq_iff_eq.2 t0;have HT0:=Aside0.mk t0;clear t0;by_cases t1:(n.ce.length:Int)=(r3.length:Int)
  case neg =>
   have t1b:((n.ce.length:Int) == (r3.length:Int))=false:=beq_eq_false_iff_ne.2 t1;have HT:=Aside0.mk t1;clear t1;go_wp2_with fail;go_ret;refine⟨?_,(HS.out.alloc (#[Value.slice B0 r1.length d0,Value.int .i64 r2,Value.slice B2 r3.length d2,Value.slice B3 r4.length d3,Value.int .i64 r5,Value.int .i64 wN,Value.slice B6 r7.length d6,Value.int .i64 tN,Value.slice B8 r9.length d8,Value.int .i64 sN,Value.slice B10 r11.length d10,Value.slice B11 r12.length d11,Value.int .i64 r13,Value.int .i64 r14]) 50).below⟩;rw[HBB.out];have h_:=HT.out;have h3_:=H3.out;clear HF HS HN HBB;refine congrArg (fun x=>Ending.returned (Value.bool x)) ?_
   symm;simp only [Bool.and_eq_false_iff,decide_eq_false_iff_not];omega
  case pos =>
   have t1b:((n.ce.length:Int) == (r3.length:Int))=true:=beq_iff_eq.2 t1;have HT1:=Aside0.mk t1;clear t1;by_cases t2:n.wm=wN
   case neg =>
    have t2b:(n.wm == wN)=false:=beq_eq_false_iff_ne.2 t2;have HT:=Aside0.mk t2;clear t2;go_wp2_with fail;go_ret;refine⟨?_,(HS.out.alloc (#[Value.slice B0 r1.length d0,Value.int .i64 r2,Value.slice B2 r3.length d2,Value.slice B3 r4.length d3,Value.int .i64 r5,Value.int .i64 wN,Value.slice B6 r7.length d6,Value.int .i64 tN,Value.slice B8 r9.length d8,Value.int .i64 sN,Value.slice B10 r11.length d10,Value.slice B11 r12.length d11,Value.int .i64 r13,Value.int .i64 r14]) 50).below⟩;rw[HBB.out];have h_:=HT.out;have h3_:=H3.out;clear HF HS HN HBB;refine congrArg (fun x=>Ending.returned (Value.bool x)) ?_
    symm;simp only [Bool.and_eq_false_iff,decide_eq_false_iff_not];omega
   case pos =>
    have t2b:(n.wm == wN)=true:=beq_iff_eq.2 t2;have HT2:=Aside0.mk t2;clear t2;by_cases t3:n.tm=tN
    case neg =>
     have t3b:(n.tm == tN)=false:=beq_eq_false_iff_ne.2 t3;have HT:=Aside0.mk t3;clear t3;go_wp2_with fail;go_ret;refine⟨?_,(HS.out.alloc (#[Value.slice B0 r1.length d0,Value.int .i64 r2,Value.slice B2 r3.length d2,Value.slice B3 r4.length d3,Value.int .i64 r5,Value.int .i64 wN,Value.slice B6 r7.length d6,Value.int .i64 tN,Value.slice B8 r9.length d8,Value.int .i64 sN,Value.slice B10 r11.length d10,Value.slice B11 r12.length d11,Value.int .i64 r13,Value.int .i64 r14]) 50).below⟩;rw[HBB.out];have h_:=HT.out;have h3_:=H3.out;clear HF HS HN HBB;refine congrArg (fun x=>Ending.returned (Value.bool x)) ?_
     symm;simp only [Bool.and_eq_false_iff,decide_eq_false_iff_not];omega
    case pos =>
     have t3b:(n.tm == tN)=true:=beq_iff_eq.2 t3;have HT3:=Aside0.mk t3;clear t3;by_cases t4:n.sm=sN
     case neg =>
      have t4b:(n.sm == sN)=false:=beq_eq_false_iff_ne.2 t4;have HT:=Aside0.mk t4;clear t4;go_wp2_with fail;go_ret;refine⟨?_,(HS.out.alloc (#[Value.slice B0 r1.length d0,Value.int .i64 r2,Value.slice B2 r3.length d2,Value.slice B3 r4.length d3,Value.int .i64 r5,Value.int .i64 wN,Value.slice B6 r7.length d6,Value.int .i64 tN,Value.slice B8 r9.length d8,Value.int .i64 sN,Value.slice B10 r11.length d10,Value.slice B11 r12.length d11,Value.int .i64 r13,Value.int .i64 r14]) 50).below⟩;rw[HBB.out];have h_:=HT.out;have h3_:=H3.out;clear HF HS HN HBB;refine congrArg (fun x=>Ending.returned (Value.bool x)) ?_
      symm;simp only [Bool.and_eq_false_iff,decide_eq_false_iff_not];omega
     case pos =>
      have t4b:(n.sm == sN)=true:=beq_iff_eq.2 t4;have HT4:=Aside0.mk t4;clear t4;go_wp2_with fail;go_ret;refine⟨?_,(HS.out.alloc (#[Value.slice B0 r1.length d0,Value.int .i64 r2,Value.slice B2 r3.length d2,Value.slice B3 r4.length d3,Value.int .i64 r5,Value.int .i64 wN,Value.slice B6 r7.length d6,Value.int .i64 tN,Value.slice B8 r9.length d8,Value.int .i64 sN,Value.slice B10 r11.length d10,Value.slice B11 r12.length d11,Value.int .i64 r13,Value.int .i64 r14]) 50).below⟩;rw[HBB.out];have h0_:=HT0.out;have h1_:=HT1.out;have h2_:=HT2.out;have h3_:=HT3.out;have h4_:=HT4.out;have h3_:=H3.out;clear HF HS HN HBB;refine congrArg (fun x=>Ending.returned (Value.bool x)) ?_
      symm;simp only [Bool.and_eq_true,decide_eq_true_eq];omega
end Go.Proofs.YtediiolcoilepaaGreat.Nb
