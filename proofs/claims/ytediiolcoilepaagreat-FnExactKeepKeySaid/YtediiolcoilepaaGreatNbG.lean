/- Walks of callees. -/
import Derived.Test.YtediiolcoilepaaGreatNbF
namespace Go.Proofs.YtediiolcoilepaaGreat.Nb
set_option maxHeartbeats 8000000
set_option maxRecDepth 100000
open Go.RowKit YtediiolcoilepaaGreat.GNear YtediiolcoilepaaGreatW.PrintWords YtediiolcoilepaaGreatW.PrintLast YtediiolcoilepaaGreatW.PrintMore
structure NBW (w:World) (g:Nat) (cs:Array Value) where
 w':World
 blk:w'.heap[g]? = some (.cells cs 50 (0,0))
 below:Below w.heap.size w w'
theorem NBW.cell {w:World} {g:Nat} {cs:Array Value} (p:NBW w g cs) (j:Nat) {v:Value} (e:cs[j]? = some v):p.w'.cell? ⟨g,j,none⟩=some v:=(A1h p.blk j).trans e
theorem NBW.on {w:World} {g:Nat} {cs:Array Value} (p:NBW w g cs) {w1:World} (hb:Below p.w'.heap.size p.w' w1):∃ q:NBW w g cs,w1=q.w':=⟨⟨w1,B0n p.blk hb,A33 p.below hb⟩,rfl⟩
def A3r (w:World) (n:Nr) (e:Ending) (w':World):Prop:=∃ b,e=.returned (.bool b)∧(b=true ↔ A3b n∧A5p n)∧Below w.heap.size w w'
theorem A3r.no {w w':World} {n:Nr} (hb:Below w.heap.size w w') (h:A3b n→A5p n→False):A3r w n (.returned (.bool false)) w':=⟨false,rfl,⟨fun h=>Bool.noConfusion h,fun ⟨h1,h2⟩=>(h h1 h2).elim⟩,hb⟩
theorem A3r.yes {w w':World} {n:Nr} (hb:Below w.heap.size w w') (h1:A3b n) (h2:A5p n):A3r w n (.returned (.bool true)) w':=⟨true,rfl,⟨fun _=>⟨h1,h2⟩,fun _=>rfl⟩,hb⟩
theorem B3l (w:World) (v:NV) (n:Nr) (hn:n.small) (hC:A2c w v n) :
  Calls Tryz.prog 40 #[.agg (v.cells n)] w (A3r w n):=by
 obtain⟨A0,c0,A2,c2,A3,c3,A6,c6,A8,c8,A10,c10,A11,c11,rfl,hF⟩:=hC.open_;have HF:=B98 hF;clear hC hF;dsimp only [NV.cells];have HS:=B98 (St.start w);have HN:=B98 hn;clear hn;go_enter Tryz.func40,Tryz.ntmps40;go_wp2_with fail;have S:=HS.o.alloc #[.slice A0 n.sl.length c0,.int .i64 n.fr,.slice A2 n.ce.length c2,.slice A3 n.old.length c3,.int .i64 n.mv,.int .i64 n.wm,.slice A6 n.wk.length c6,.int .i64 n.tm,.slice A8 n.tk.length c8,.int .i64 n.sm,.slice A10 n.sk.length c10,.slice A11 n.ct.length c11,.int .i64 n.ad,.int .i64 n.db] 50;clear HS;have HS:=B98 S;have hc0:=S.at_cell 0 rfl 0 rfl;clear S;try go_wp2_with fail
 obtain⟨ma,mb,mc,hm,hmm⟩:=B6f n.sl.length HN.o.s0;refine(A28.calls (n.sl.length:Int) ma mb mc _ hm).mono ?_;rintro e w1 ⟨rfl,hd⟩;have S:=HS.o.step hd.below;clear hd hm HS;have HM:=B98 hmm;clear hmm;have HS:=B98 S;clear hc0 S;go_wp2_with fail;obtain⟨g,hg⟩:∃ g,g=w.heap.size:=⟨_,rfl⟩;rw[← hg];have HW:=B98 (show w1.heap[g]? = some (.cells #[.slice A0 n.sl.length c0,.int .i64 n.fr,.slice A2 n.ce.length c2,.slice A3 n.old.length c3,.int .i64 n.mv,.int .i64 n.wm,.slice A6 n.wk.length c6,.int .i64 n.tm,.slice A8 n.tk.length c8,.int .i64 n.sm,.slice A10 n.sk.length c10,.slice A11 n.ct.length c11,.int .i64 n.ad,.int .i64 n.db] 50 (0,0)) from hg ▸ HS.o.head.2);have HL:=B98 HS.o.below;clear HS hg;obtain⟨b0,⟨K0,hK0⟩,hq0⟩:=A6q n.sl n.fr HN.o.s0;obtain⟨b1,⟨K1,hK1⟩,hq1⟩:=A37 n.ce n.old n.mv HN.o.s2 HN.o.s3 HN.o.k2 HN.o.k3;obtain⟨b2,⟨K2,hK2⟩,hq2⟩:=A7z n.wm n.wk HN.o.s6;obtain⟨b3,⟨K3,hK3⟩,hq3⟩:=A7z n.tm n.tk HN.o.s8;obtain⟨b4,⟨K4,hK4⟩,hq4⟩:=A7z n.sm n.sk HN.o.s10;obtain⟨b5,⟨K5,hK5⟩,hq5⟩:∃ b,Ev (fun k=>A0v.f k n.ct n.ad) b∧(b=true ↔ skOk n.ct n.ad=true):=⟨_,B4c n.ct n.ad HN.o.s11,Iff.rfl⟩;obtain⟨b6,hK6,hq6⟩:∃ b,A2k.f n.db=some b∧(b=true ↔ 0≤n.db∧n.db < 4294967296):=⟨_,B8o n.db,decide_eq_true_iff⟩;have k0:=B98 (hK0 K0 (Nat.le_refl _));have k1:=B98 (hK1 K1 (Nat.le_refl _));have k2:=B98 (hK2 K2 (Nat.le_refl _));have k3:=B98 (hK3 K3 (Nat.le_refl _));have k4:=B98 (hK4 K4 (Nat.le_refl _));have k5:=B98 (hK5 K5 (Nat.le_refl _));have k6:=B98 hK6;have Q0:=B98 hq0;have Q1:=B98 hq1;have Q2:=B98 hq2;have Q3:=B98 hq3;have Q4:=B98 hq4;have Q5:=B98 hq5;have Q6:=B98 hq6;clear hK0 hK1 hK2 hK3 hK4 hK5 hK6 hq0 hq1 hq2 hq3 hq4 hq5 hq6;have HF1:=B98 (fun (p:NBW w g #[.slice A0 n.sl.length c0,.int .i64 n.fr,.slice A2 n.ce.length c2,.slice A3 n.old.length c3,.int .i64 n.mv,.int .i64 n.wm,.slice A6 n.wk.length c6,.int .i64 n.tm,.slice A8 n.tk.length c8,.int .i64 n.sm,.slice A10 n.sk.length c10,.slice A11 n.ct.length c11,.int .i64 n.ad,.int .i64 n.db])=>HF.o.below p.below);have hne:Nonempty (NBW w g #[.slice A0 n.sl.length c0,.int .i64 n.fr,.slice A2 n.ce.length c2,.slice A3 n.old.length c3,.int .i64 n.mv,.int .i64 n.wm,.slice A6 n.wk.length c6,.int .i64 n.tm,.slice A8 n.tk.length c8,.int .i64 n.sm,.slice A10 n.sk.length c10,.slice A11 n.ct.length c11,.int .i64 n.ad,.int .i64 n.db]):=⟨⟨w1,HW.o,HL.o⟩⟩;have hc0:∀ p:NBW w g #[.slice A0 n.sl.length c0,.int .i64 n.fr,.slice A2 n.ce.length c2,.slice A3 n.old.length c3,.int .i64 n.mv,.int .i64 n.wm,.slice A6 n.wk.length c6,.int .i64 n.tm,.slice A8 n.tk.length c8,.int .i64 n.sm,.slice A10 n.sk.length c10,.slice A11 n.ct.length c11,.int .i64 n.ad,.int .i64 n.db],p.w'.cell? ⟨g,0,none⟩=some (.slice A0 n.sl.length c0):=fun p=>p.cell 0 rfl;have hc1:∀ p:NBW w g #[.slice A0 n.sl.length c0,.int .i64 n.fr,.slice A2 n.ce.length c2,.slice A3 n.old.length c3,.int .i64 n.mv,.int .i64 n.wm,.slice A6 n.wk.length c6,.int .i64 n.tm,.slice A8 n.tk.length c8,.int .i64 n.sm,.slice A10 n.sk.length c10,.slice A11 n.ct.length c11,.int .i64 n.ad,.int .i64 n.db],p.w'.cell? ⟨g,1,none⟩=some (.int .i64 n.fr):=fun p=>p.cell 1 rfl;have hc2:∀ p:NBW w g #[.slice A0 n.sl.length c0,.int .i64 n.fr,.slice A2 n.ce.length c2,.slice A3 n.old.length c3,.int .i64 n.mv,.int .i64 n.wm,.slice A6 n.wk.length c6,.int .i64 n.tm,.slice A8 n.tk.length c8,.int .i64 n.sm,.slice A10 n.sk.length c10,.slice A11 n.ct.length c11,.int .i64 n.ad,.int .i64 n.db],p.w'.cell? ⟨g,2,none⟩=some (.slice A2 n.ce.length c2):=fun p=>p.cell 2 rfl;have hc3:∀ p:NBW w g #[.slice A0 n.sl.length c0,.int .i64 n.fr,.slice A2 n.ce.length c2,.slice A3 n.old.length c3,.int .i64 n.mv,.int .i64 n.wm,.slice A6 n.wk.length c6,.int .i64 n.tm,.slice A8 n.tk.length c8,.int .i64 n.sm,.slice A10 n.sk.length c10,.slice A11 n.ct.length c11,.int .i64 n.ad,.int .i64 n.db],p.w'.cell? ⟨g,3,none⟩=some (.slice A3 n.old.length c3):=fun p=>p.cell 3 rfl;have hc4:∀ p:NBW w g #[.slice A0 n.sl.length c0,.int .i64 n.fr,.slice A2 n.ce.length c2,.slice A3 n.old.length c3,.int .i64 n.mv,.int .i64 n.wm,.slice A6 n.wk.length c6,.int .i64 n.tm,.slice A8 n.tk.length c8,.int .i64 n.sm,.slice A10 n.sk.length c10,.slice A11 n.ct.length c11,.int .i64 n.ad,.int .i64 n.db],p.w'.cell? ⟨g,4,none⟩=some (.int .i64 n.mv):=fun p=>p.cell 4 rfl;have hc5:∀ p:NBW w g #[.slice A0 n.sl.length c0,.int .i64 n.fr,.slice A2 n.ce.length c2,.slice A3 n.old.length c3,.int .i64 n.mv,.int .i64 n.wm,.slice A6 n.wk.length c6,.int .i64 n.tm,.slice A8 n.tk.length c8,.int .i64 n.sm,.slice A10 n.sk.length c10,.slice A11 n.ct.length c11,.int .i64 n.ad,.int .i64 n.db],p.w'.cell? ⟨g,5,none⟩=some (.int .i64 n.wm):=fun p=>p.cell 5 rfl;have hc6:∀ p:NBW w g #[.slice A0 n.sl.length c0,.int .i64 n.fr,.slice A2 n.ce.length c2,.slice A3 n.old.length c3,.int .i64 n.mv,.int .i64 n.wm,.slice A6 n.wk.length c6,.int .i64 n.tm,.slice A8 n.tk.length c8,.int .i64 n.sm,.slice A10 n.sk.length c10,.slice A11 n.ct.length c11,.int .i64 n.ad,.int .i64 n.db],p.w'.cell? ⟨g,6,none⟩=some (.slice A6 n.wk.length c6):=fun p=>p.cell 6 rfl;have hc7:∀ p:NBW w g #[.slice A0 n.sl.length c0,.int .i64 n.fr,.slice A2 n.ce.length c2,.slice A3 n.old.length c3,.int .i64 n.mv,.int .i64 n.wm,.slice A6 n.wk.length c6,.int .i64 n.tm,.slice A8 n.tk.length c8,.int .i64 n.sm,.slice A10 n.sk.length c10,.slice A11 n.ct.length c11,.int .i64 n.ad,.int .i64 n.db],p.w'.cell? ⟨g,7,none⟩=some (.int .i64 n.tm):=fun p=>p.cell 7 rfl;have hc8:∀ p:NBW w g #[.slice A0 n.sl.length c0,.int .i64 n.fr,.slice A2 n.ce.length c2,.slice A3 n.old.length c3,.int .i64 n.mv,.int .i64 n.wm,.slice A6 n.wk.length c6,.int .i64 n.tm,.slice A8 n.tk.length c8,.int .i64 n.sm,.slice A10 n.sk.length c10,.slice A11 n.ct.length c11,.int .i64 n.ad,.int .i64 n.db],p.w'.cell? ⟨g,8,none⟩=some (.slice A8 n.tk.length c8):=fun p=>p.cell 8 rfl;have hc9:∀ p:NBW w g #[.slice A0 n.sl.length c0,.int .i64 n.fr,.slice A2 n.ce.length c2,.slice A3 n.old.length c3,.int .i64 n.mv,.int .i64 n.wm,.slice A6 n.wk.length c6,.int .i64 n.tm,.slice A8 n.tk.length c8,.int .i64 n.sm,.slice A10 n.sk.length c10,.slice A11 n.ct.length c11,.int .i64 n.ad,.int .i64 n.db],p.w'.cell? ⟨g,9,none⟩=some (.int .i64 n.sm):=fun p=>p.cell 9 rfl;have hc10:∀ p:NBW w g #[.slice A0 n.sl.length c0,.int .i64 n.fr,.slice A2 n.ce.length c2,.slice A3 n.old.length c3,.int .i64 n.mv,.int .i64 n.wm,.slice A6 n.wk.length c6,.int .i64 n.tm,.slice A8 n.tk.length c8,.int .i64 n.sm,.slice A10 n.sk.length c10,.slice A11 n.ct.length c11,.int .i64 n.ad,.int .i64 n.db],p.w'.cell? ⟨g,10,none⟩=some (.slice A10 n.sk.length c10):=fun p=>p.cell 10 rfl;have hc11:∀ p:NBW w g #[.slice A0 n.sl.length c0,.int .i64 n.fr,.slice A2 n.ce.length c2,.slice A3 n.old.length c3,.int .i64 n.mv,.int .i64 n.wm,.slice A6 n.wk.length c6,.int .i64 n.tm,.slice A8 n.tk.length c8,.int .i64 n.sm,.slice A10 n.sk.length c10,.slice A11 n.ct.length c11,.int .i64 n.ad,.int .i64 n.db],p.w'.cell? ⟨g,11,none⟩=some (.slice A11 n.ct.length c11):=fun p=>p.cell 11 rfl;have hc12:∀ p:NBW w g #[.slice A0 n.sl.length c0,.int .i64 n.fr,.slice A2 n.ce.length c2,.slice A3 n.old.length c3,.int .i64 n.mv,.int .i64 n.wm,.slice A6 n.wk.length c6,.int .i64 n.tm,.slice A8 n.tk.length c8,.int .i64 n.sm,.slice A10 n.sk.length c10,.slice A11 n.ct.length c11,.int .i64 n.ad,.int .i64 n.db],p.w'.cell? ⟨g,12,none⟩=some (.int .i64 n.ad):=fun p=>p.cell 12 rfl;have hc13:∀ p:NBW w g #[.slice A0 n.sl.length c0,.int .i64 n.fr,.slice A2 n.ce.length c2,.slice A3 n.old.length c3,.int .i64 n.mv,.int .i64 n.wm,.slice A6 n.wk.length c6,.int .i64 n.tm,.slice A8 n.tk.length c8,.int .i64 n.sm,.slice A10 n.sk.length c10,.slice A11 n.ct.length c11,.int .i64 n.ad,.int .i64 n.db],p.w'.cell? ⟨g,13,none⟩=some (.int .i64 n.db):=fun p=>p.cell 13 rfl;simp only [B5t,B74];refine A0s (C:=fun w'=>∃ p:NBW w g #[.slice A0 n.sl.length c0,.int .i64 n.fr,.slice A2 n.ce.length c2,.slice A3 n.old.length c3,.int .i64 n.mv,.int .i64 n.wm,.slice A6 n.wk.length c6,.int .i64 n.tm,.slice A8 n.tk.length c8,.int .i64 n.sm,.slice A10 n.sk.length c10,.slice A11 n.ct.length c11,.int .i64 n.ad,.int .i64 n.db],w'=p.w') Zk Zk ⟨⟨w1.drew,HW.o,A2r HL.o⟩,rfl⟩ ?_
 repeat(go_big_quiet_step ((go_at_call 113;refine(A0f.calls K0 A0 c0 n.sl n.fr _ _ (HF1.o _).h0 HF.o.l0 k0.o).mono ?_;rintro e w2 ⟨rfl,hb⟩;exact⟨rfl,NBW.on _ Zh⟩)))
 cases b0
 ·repeat(go_big_quiet_step (fail))
  refine wpQuiet_nil ?_;rintro w9 ⟨⟨w9,hw9,hb9⟩,rfl⟩;clear hc0 hc1 hc2 hc3 hc4 hc5 hc6 hc7 hc8 hc9 hc10 hc11 hc12 hc13;go_wp2_with fail;go_ret;exact A3r.no hb9 (fun hp hs=>absurd (Q0.o.2 hp.arena) Zs)
 by_cases h2i:(2:Int)≤(n.sl.length:Int)
 case neg =>
  have NO:=B98 (show A5p n→False from fun hs=>h2i (by have:=hs.size.1;omega))
  repeat(go_big_quiet_step (fail))
  refine wpQuiet_nil ?_;rintro w9 ⟨⟨w9,hw9,hb9⟩,rfl⟩;clear hc0 hc1 hc2 hc3 hc4 hc5 hc6 hc7 hc8 hc9 hc10 hc11 hc12 hc13;go_wp2_with fail;go_ret;exact A3r.no hb9 (fun _ hs=>NO.o hs)
 have h2:=B98 (show 2≤n.sl.length by omega);have HR:=B98 (Q0.o.1 rfl);have kc:=B98 (B4a n.sl.length h2.o HR.o.len.2)
 repeat(go_big_quiet_step ((go_at_call 114;refine(A0e.calls K1 A2 c2 n.ce A3 c3 n.old n.mv _ _ (HF1.o _).h2 HF.o.l2 (HF1.o _).h3 HF.o.l3 k1.o).mono ?_;rintro e w2 ⟨rfl,hb⟩;exact⟨rfl,NBW.on _ Zh⟩)))
 cases b1
 ·repeat(go_big_quiet_step (fail))
  refine wpQuiet_nil ?_;rintro w9 ⟨⟨w9,hw9,hb9⟩,rfl⟩;clear hc0 hc1 hc2 hc3 hc4 hc5 hc6 hc7 hc8 hc9 hc10 hc11 hc12 hc13;go_wp2_with fail;go_ret;exact A3r.no hb9 (fun hp hs=>absurd ((Q1.o (List.eq_nil_of_length_eq_zero hs.old)).2 hp.table) Zs)
 cases hob:((n.old.length:Int) == 0)
 case false =>
  have NO:=B98 (show A5p n→False from fun hs=>absurd (hob.symm.trans (beq_iff_eq.2 (by have:=hs.old;omega))) Zs)
  repeat(go_big_quiet_step (fail))
  refine wpQuiet_nil ?_;rintro w9 ⟨⟨w9,hw9,hb9⟩,rfl⟩;clear hc0 hc1 hc2 hc3 hc4 hc5 hc6 hc7 hc8 hc9 hc10 hc11 hc12 hc13;go_wp2_with fail;go_ret;exact A3r.no hb9 (fun _ hs=>NO.o hs)
 have ho:=B98 (show n.old.length=0 by have:=beq_iff_eq.1 hob;omega)
 cases hcb:((n.ce.length:Int) == ((A4x n.sl.length:Nat):Int))
 case false =>
  have NO:=B98 (show A5p n→False from fun hs=>absurd (hcb.symm.trans (beq_iff_eq.2 (by rw[hs.cells]))) Zs)
  repeat(go_big_quiet_step ((go_at_call 96;refine(A1x.calls 20 (n.sl.length:Int) _ _ kc.o).mono ?_;rintro e w2 ⟨rfl,hb⟩;exact⟨rfl,NBW.on _ Zh⟩)))
  refine wpQuiet_nil ?_;rintro w9 ⟨⟨w9,hw9,hb9⟩,rfl⟩;clear hc0 hc1 hc2 hc3 hc4 hc5 hc6 hc7 hc8 hc9 hc10 hc11 hc12 hc13;go_wp2_with fail;go_ret;exact A3r.no hb9 (fun _ hs=>NO.o hs)
 have hce:=B98 (show n.ce.length=A4x n.sl.length by have:=beq_iff_eq.1 hcb;omega)
 repeat(go_big_quiet_step (first|(go_at_call 96;refine(A1x.calls 20 (n.sl.length:Int) _ _ kc.o).mono ?_;rintro e w2 ⟨rfl,hb⟩;exact⟨rfl,NBW.on _ Zh⟩)|(go_at_call 115;refine(A0i.calls K2 n.wm A6 c6 n.wk _ _ (HF1.o _).h6 HF.o.l6 k2.o).mono ?_;rintro e w2 ⟨rfl,hb⟩;exact⟨rfl,NBW.on _ Zh⟩)))
 cases b2
 ·repeat(go_big_quiet_step (fail))
  refine wpQuiet_nil ?_;rintro w9 ⟨⟨w9,hw9,hb9⟩,rfl⟩;clear hc0 hc1 hc2 hc3 hc4 hc5 hc6 hc7 hc8 hc9 hc10 hc11 hc12 hc13;go_wp2_with fail;go_ret;exact A3r.no hb9 (fun hp hs=>absurd (Q2.o.2 hp.window) Zs)
 repeat(go_big_quiet_step ((go_at_call 115;refine(A0i.calls K3 n.tm A8 c8 n.tk _ _ (HF1.o _).h8 HF.o.l8 k3.o).mono ?_;rintro e w2 ⟨rfl,hb⟩;exact⟨rfl,NBW.on _ Zh⟩)))
 cases b3
 ·repeat(go_big_quiet_step (fail))
  refine wpQuiet_nil ?_;rintro w9 ⟨⟨w9,hw9,hb9⟩,rfl⟩;clear hc0 hc1 hc2 hc3 hc4 hc5 hc6 hc7 hc8 hc9 hc10 hc11 hc12 hc13;go_wp2_with fail;go_ret;exact A3r.no hb9 (fun hp hs=>absurd (Q3.o.2 hp.trial) Zs)
 repeat(go_big_quiet_step ((go_at_call 115;refine(A0i.calls K4 n.sm A10 c10 n.sk _ _ (HF1.o _).h10 HF.o.l10 k4.o).mono ?_;rintro e w2 ⟨rfl,hb⟩;exact⟨rfl,NBW.on _ Zh⟩)))
 cases b4
 ·repeat(go_big_quiet_step (fail))
  refine wpQuiet_nil ?_;rintro w9 ⟨⟨w9,hw9,hb9⟩,rfl⟩;clear hc0 hc1 hc2 hc3 hc4 hc5 hc6 hc7 hc8 hc9 hc10 hc11 hc12 hc13;go_wp2_with fail;go_ret;exact A3r.no hb9 (fun hp hs=>absurd (Q4.o.2 hp.safe) Zs)
 cases hwm:(n.wm == ma)
 case false =>
  have NO:=B98 (show A5p n→False from fun hs=>absurd (hwm.symm.trans (beq_iff_eq.2 (hs.wm.trans ((HM.o (by have:=h2.o;omega)).1).symm))) Zs)
  repeat(go_big_quiet_step (fail))
  refine wpQuiet_nil ?_;rintro w9 ⟨⟨w9,hw9,hb9⟩,rfl⟩;clear hc0 hc1 hc2 hc3 hc4 hc5 hc6 hc7 hc8 hc9 hc10 hc11 hc12 hc13;go_wp2_with fail;go_ret;exact A3r.no hb9 (fun _ hs=>NO.o hs)
 cases htm:(n.tm == mb)
 case false =>
  have NO:=B98 (show A5p n→False from fun hs=>absurd (htm.symm.trans (beq_iff_eq.2 (hs.tm.trans ((HM.o (by have:=h2.o;omega)).2.1).symm))) Zs)
  repeat(go_big_quiet_step (fail))
  refine wpQuiet_nil ?_;rintro w9 ⟨⟨w9,hw9,hb9⟩,rfl⟩;clear hc0 hc1 hc2 hc3 hc4 hc5 hc6 hc7 hc8 hc9 hc10 hc11 hc12 hc13;go_wp2_with fail;go_ret;exact A3r.no hb9 (fun _ hs=>NO.o hs)
 cases hsm:(n.sm == mc)
 case false =>
  have NO:=B98 (show A5p n→False from fun hs=>absurd (hsm.symm.trans (beq_iff_eq.2 (hs.sm.trans ((HM.o (by have:=h2.o;omega)).2.2).symm))) Zs)
  repeat(go_big_quiet_step (fail))
  refine wpQuiet_nil ?_;rintro w9 ⟨⟨w9,hw9,hb9⟩,rfl⟩;clear hc0 hc1 hc2 hc3 hc4 hc5 hc6 hc7 hc8 hc9 hc10 hc11 hc12 hc13;go_wp2_with fail;go_ret;exact A3r.no hb9 (fun _ hs=>NO.o hs)
 repeat(go_big_quiet_step ((go_at_call 116;refine(A0v.calls K5 A11 c11 n.ct n.ad _ _ (HF1.o _).h11 HF.o.l11 k5.o).mono ?_;rintro e w2 ⟨rfl,hb⟩;exact⟨rfl,NBW.on _ Zh⟩)))
 cases b5
 ·repeat(go_big_quiet_step (fail))
  refine wpQuiet_nil ?_;rintro w9 ⟨⟨w9,hw9,hb9⟩,rfl⟩;clear hc0 hc1 hc2 hc3 hc4 hc5 hc6 hc7 hc8 hc9 hc10 hc11 hc12 hc13;go_wp2_with fail;go_ret;exact A3r.no hb9 (fun hp hs=>absurd (Q5.o.2 hp.sketch) Zs)
 repeat(go_big_quiet_step ((go_at_call 117;refine(A2k.calls n.db _ _ k6.o).mono ?_;rintro e w2 ⟨rfl,hb⟩;exact⟨rfl,NBW.on _ Zh⟩)))
 cases b6
 ·repeat(go_big_quiet_step (fail))
  refine wpQuiet_nil ?_;rintro w9 ⟨⟨w9,hw9,hb9⟩,rfl⟩;clear hc0 hc1 hc2 hc3 hc4 hc5 hc6 hc7 hc8 hc9 hc10 hc11 hc12 hc13;go_wp2_with fail;go_ret;exact A3r.no hb9 (fun hp hs=>absurd (Q6.o.2 hp.door) Zs)
 repeat(go_big_quiet_step (fail))
 refine wpQuiet_nil ?_;rintro w9 ⟨⟨w9,hw9,hb9⟩,rfl⟩;clear hc0 hc1 hc2 hc3 hc4 hc5 hc6 hc7 hc8 hc9 hc10 hc11 hc12 hc13;go_wp2_with fail;go_ret;exact A3r.yes hb9 ⟨HR.o,(Q1.o (List.eq_nil_of_length_eq_zero ho.o)).1 Zs,Q2.o.1 Zs,Q3.o.1 Zs,Q4.o.1 Zs,Q5.o.1 Zs,Q6.o.1 Zs⟩ ⟨⟨h2.o,HR.o.len.2⟩,ho.o,hce.o,(beq_iff_eq.1 hwm).trans (HM.o (by have:=h2.o;omega)).1,(beq_iff_eq.1 htm).trans (HM.o (by have:=h2.o;omega)).2.1,(beq_iff_eq.1 hsm).trans (HM.o (by have:=h2.o;omega)).2.2⟩
theorem B5i (w:World) (v:NV) (n:Nr) (hn:n.small) (hC:A2c w v n) :
  Calls Tryz.prog 41 #[.agg (v.cells n)] w fun e w'=>∃ u,e=.returned u∧Kd.R Kd.string 9 w' w.heap.size (fun _=>True) u (A1m (n.wk ++ n.tk ++ n.sk))∧Below w.heap.size w w':=by
 obtain⟨A0,c0,A2,c2,A3,c3,A6,c6,A8,c8,A10,c10,A11,c11,rfl,hF⟩:=hC.open_;have HF:=B98 hF;clear hC hF;dsimp only [NV.cells];have HS:=B98 (St.start w);have HN:=B98 hn;clear hn;go_enter Tryz.func41,Tryz.ntmps41;go_wp2_with (first|((with_reducible refine A0b (N:=1) rfl ?_);refine A3m ?hg (N:=1) ?hd (cs:=#[.slice A0 n.sl.length c0,.int .i64 n.fr,.slice A2 n.ce.length c2,.slice A3 n.old.length c3,.int .i64 n.mv,.int .i64 n.wm,.slice A6 n.wk.length c6,.int .i64 n.tm,.slice A8 n.tk.length c8,.int .i64 n.sm,.slice A10 n.sk.length c10,.slice A11 n.ct.length c11,.int .i64 n.ad,.int .i64 n.db]) (t:=50) ?hr ?_;(case hd=>rfl);(case hg=>rfl);(case hr=>first|(go_simp;done)|(go_simp;rfl));intro g1 hg w1 hbox hb;have S:=HS.o.new_blk hb (Nat.le_of_eq hg.symm) hbox;clear hb hbox;subst hg;have HS1:=B98 S;clear S)|((with_reducible refine A0b (N:=7) rfl ?_);refine Kd.R_lit Kd.string _ 9 ?hg (N:=7) ?hd (xs:=([]:List ByteArray)) (inner:=[]) (ok:=fun _=>True) (okp:=fun _=>True) ?hr ?hp (fun _ hk=>hk) trivial (Below.refl _ _) (Nat.le_refl _) Zs ?_;(case hd=>rfl);(case hg=>rfl);(case hr=>first|(go_simp;done)|(go_simp;rfl));(case hp=>exact(Reps.none _ _));intro v7 w3 ho4 hb hg_ hnew_;clear hg_ hnew_;have S:=(by first|exact HS1.o.new_row rfl hb ho4|exact(HS.o.alloc #[.slice A0 n.sl.length c0,.int .i64 n.fr,.slice A2 n.ce.length c2,.slice A3 n.old.length c3,.int .i64 n.mv,.int .i64 n.wm,.slice A6 n.wk.length c6,.int .i64 n.tm,.slice A8 n.tk.length c8,.int .i64 n.sm,.slice A10 n.sk.length c10,.slice A11 n.ct.length c11,.int .i64 n.ad,.int .i64 n.db] 50).new_row rfl hb ho4);clear ho4 hb;have HS2:=B98 S;clear S));go_loopw [3,4] (fun v3 v4 wr=>∃ (i:Nat) (acc:List ByteArray),v4=.int .i64 i∧A0a (i≤n.wk.length)∧A0a (acc=A1m (n.wk.take i))∧A0a (St w wr [Part.row Kd.string 9 v3 acc,Part.blk w.heap.size 50 #[.slice A0 n.sl.length c0,.int .i64 n.fr,.slice A2 n.ce.length c2,.slice A3 n.old.length c3,.int .i64 n.mv,.int .i64 n.wm,.slice A6 n.wk.length c6,.int .i64 n.tm,.slice A8 n.tk.length c8,.int .i64 n.sm,.slice A10 n.sk.length c10,.slice A11 n.ct.length c11,.int .i64 n.ad,.int .i64 n.db]])) (fun _ v4 _=>n.wk.length - (intOf v4).toNat)
 case atStart=>exact⟨0,[],rfl,⟨by omega⟩,⟨by simp[A98]⟩,⟨by exact HS2.o⟩⟩
 case round =>
  clear HS1 HS2 HS;obtain⟨i,acc,rfl,HI,HA,HS⟩:=hrel;have hc6:=HS.o.at_cell 1 rfl 6 rfl;obtain⟨B,d,rfl⟩:=Kd.R_slice (HS.o.at_R 0 rfl)
  by_cases c1:i < n.wk.length
  ·have c1b:decide ((i:Int) < (n.wk.length:Int))=true:=B99 Zo
   have c1c:decide (i < n.wk.length)=true:=B99 c1;have p5:(0:Int)≤(i:Int):=by omega
   have q5:(i:Int) < (n.wk.length:Int):=by omega
   obtain⟨ad,e5,hx0⟩:=Kd.at_string (HF.o.below HS.o.below).h6 (i:Int) p5 q5;cases e5;rw[C0k,A2g n.wk i c1] at hx0;obtain⟨key,hkey⟩:∃ y,y=n.wk[i]:=⟨_,rfl⟩;rw[← hkey] at hx0;have HK:=B98 (show A1m (key :: acc)=A1m (n.wk.take (i+1)) by rw[HA.o,A6p,hkey,List.take_succ_eq_append_getElem c1];try simp);have HSS:=B98 (show acc.Pairwise leS by rw[HA.o];exact A26 _);have HLL:=B98 (show acc.length≤4194304 by have:=HN.o.s6;have:=HN.o.s8;have:=HN.o.s10;rw[HA.o,A2n];simp only [List.length_append,List.length_take];omega);clear hkey c1 HA;replace p5:=eq_true p5;replace q5:=eq_true q5;have p6:i < 1048576:=by have:=HN.o.s6;have h_:=of_eq_true q5;omega
   go_wp2_with fail;obtain⟨K,hK⟩:=A9c HLL.o HSS.o key;refine(A0o.calls K B d acc key _ _ (HS.o.at_C 0 rfl).2.2 (HS.o.at_C 0 rfl).2.1 (hK K (Nat.le_refl _))).mono ?_;rintro e w9 ⟨u,rfl,hr,hb⟩;have S:=(HS.o.tail).new_row rfl hb hr;clear hK hr hb HS hc6 hx0;have HS9:=B98 S;clear S;go_wp2_with fail;go_roundw
   case rel=>exact⟨i+1,_,by go_num,⟨by have h_:=of_eq_true q5;omega⟩,⟨HK.o⟩,⟨HS9.o⟩⟩
   case measure=>have h_:=of_eq_true q5;simp only [intOf];omega
  ·have c1b:decide ((i:Int) < (n.wk.length:Int))=false:=C0a Zo
   have c1c:decide (i < n.wk.length)=false:=C0a c1;replace HA:=B98 (show acc=A1m (n.wk) by rw[HA.o,List.take_of_length_le Zo]);clear c1 HI;go_wp2_with fail;clear c1b c1c hc6;go_loopw [3,5] (fun v3 v5 wr=>∃ (i:Nat) (acc:List ByteArray),v5=.int .i64 i∧A0a (i≤n.tk.length)∧A0a (acc=A1m (n.wk ++ n.tk.take i))∧A0a (St w wr [Part.row Kd.string 9 v3 acc,Part.blk w.heap.size 50 #[.slice A0 n.sl.length c0,.int .i64 n.fr,.slice A2 n.ce.length c2,.slice A3 n.old.length c3,.int .i64 n.mv,.int .i64 n.wm,.slice A6 n.wk.length c6,.int .i64 n.tm,.slice A8 n.tk.length c8,.int .i64 n.sm,.slice A10 n.sk.length c10,.slice A11 n.ct.length c11,.int .i64 n.ad,.int .i64 n.db]])) (fun _ v5 _=>n.tk.length - (intOf v5).toNat)
   case atStart=>exact⟨0,acc,rfl,⟨by omega⟩,⟨by rw[HA.o];simp⟩,⟨by exact HS.o⟩⟩
   case round =>
    clear HS HA;obtain⟨i,acc,rfl,HI,HA,HS⟩:=hrel;have hc8:=HS.o.at_cell 1 rfl 8 rfl;obtain⟨B,d,rfl⟩:=Kd.R_slice (HS.o.at_R 0 rfl)
    by_cases c1:i < n.tk.length
    ·have c1b:decide ((i:Int) < (n.tk.length:Int))=true:=B99 Zo
     have c1c:decide (i < n.tk.length)=true:=B99 c1;have p5:(0:Int)≤(i:Int):=by omega
     have q5:(i:Int) < (n.tk.length:Int):=by omega
     obtain⟨ad,e5,hx0⟩:=Kd.at_string (HF.o.below HS.o.below).h8 (i:Int) p5 q5;cases e5;rw[C0k,A2g n.tk i c1] at hx0;obtain⟨key,hkey⟩:∃ y,y=n.tk[i]:=⟨_,rfl⟩;rw[← hkey] at hx0;have HK:=B98 (show A1m (key :: acc)=A1m (n.wk ++ n.tk.take (i+1)) by rw[HA.o,A6p,hkey,List.take_succ_eq_append_getElem c1];try simp);have HSS:=B98 (show acc.Pairwise leS by rw[HA.o];exact A26 _);have HLL:=B98 (show acc.length≤4194304 by have:=HN.o.s6;have:=HN.o.s8;have:=HN.o.s10;rw[HA.o,A2n];simp only [List.length_append,List.length_take];omega);clear hkey c1 HA;replace p5:=eq_true p5;replace q5:=eq_true q5;have p6:i < 1048576:=by have:=HN.o.s8;have h_:=of_eq_true q5;omega
     go_wp2_with fail;obtain⟨K,hK⟩:=A9c HLL.o HSS.o key;refine(A0o.calls K B d acc key _ _ (HS.o.at_C 0 rfl).2.2 (HS.o.at_C 0 rfl).2.1 (hK K (Nat.le_refl _))).mono ?_;rintro e w9 ⟨u,rfl,hr,hb⟩;have S:=(HS.o.tail).new_row rfl hb hr;clear hK hr hb HS hc8 hx0;have HS9:=B98 S;clear S;go_wp2_with fail;go_roundw
     case rel=>exact⟨i+1,_,by go_num,⟨by have h_:=of_eq_true q5;omega⟩,⟨HK.o⟩,⟨HS9.o⟩⟩
     case measure=>have h_:=of_eq_true q5;simp only [intOf];omega
    ·have c1b:decide ((i:Int) < (n.tk.length:Int))=false:=C0a Zo
     have c1c:decide (i < n.tk.length)=false:=C0a c1;replace HA:=B98 (show acc=A1m (n.wk ++ n.tk) by rw[HA.o,List.take_of_length_le Zo]);clear c1 HI;go_wp2_with fail;clear c1b c1c hc8;go_loopw [3,6] (fun v3 v6 wr=>∃ (i:Nat) (acc:List ByteArray),v6=.int .i64 i∧A0a (i≤n.sk.length)∧A0a (acc=A1m (n.wk ++ n.tk ++ n.sk.take i))∧A0a (St w wr [Part.row Kd.string 9 v3 acc,Part.blk w.heap.size 50 #[.slice A0 n.sl.length c0,.int .i64 n.fr,.slice A2 n.ce.length c2,.slice A3 n.old.length c3,.int .i64 n.mv,.int .i64 n.wm,.slice A6 n.wk.length c6,.int .i64 n.tm,.slice A8 n.tk.length c8,.int .i64 n.sm,.slice A10 n.sk.length c10,.slice A11 n.ct.length c11,.int .i64 n.ad,.int .i64 n.db]])) (fun _ v6 _=>n.sk.length - (intOf v6).toNat)
     case atStart=>exact⟨0,acc,rfl,⟨by omega⟩,⟨by rw[HA.o];simp⟩,⟨by exact HS.o⟩⟩
     case round =>
      clear HS HA;obtain⟨i,acc,rfl,HI,HA,HS⟩:=hrel;have hc10:=HS.o.at_cell 1 rfl 10 rfl;obtain⟨B,d,rfl⟩:=Kd.R_slice (HS.o.at_R 0 rfl)
      by_cases c1:i < n.sk.length
      ·have c1b:decide ((i:Int) < (n.sk.length:Int))=true:=B99 Zo
       have c1c:decide (i < n.sk.length)=true:=B99 c1;have p5:(0:Int)≤(i:Int):=by omega
       have q5:(i:Int) < (n.sk.length:Int):=by omega
       obtain⟨ad,e5,hx0⟩:=Kd.at_string (HF.o.below HS.o.below).h10 (i:Int) p5 q5;cases e5;rw[C0k,A2g n.sk i c1] at hx0;obtain⟨key,hkey⟩:∃ y,y=n.sk[i]:=⟨_,rfl⟩;rw[← hkey] at hx0;have HK:=B98 (show A1m (key :: acc)=A1m (n.wk ++ n.tk ++ n.sk.take (i+1)) by rw[HA.o,A6p,hkey,List.take_succ_eq_append_getElem c1];try simp);have HSS:=B98 (show acc.Pairwise leS by rw[HA.o];exact A26 _);have HLL:=B98 (show acc.length≤4194304 by have:=HN.o.s6;have:=HN.o.s8;have:=HN.o.s10;rw[HA.o,A2n];simp only [List.length_append,List.length_take];omega);clear hkey c1 HA;replace p5:=eq_true p5;replace q5:=eq_true q5;have p6:i < 1048576:=by have:=HN.o.s10;have h_:=of_eq_true q5;omega
       go_wp2_with fail;obtain⟨K,hK⟩:=A9c HLL.o HSS.o key;refine(A0o.calls K B d acc key _ _ (HS.o.at_C 0 rfl).2.2 (HS.o.at_C 0 rfl).2.1 (hK K (Nat.le_refl _))).mono ?_;rintro e w9 ⟨u,rfl,hr,hb⟩;have S:=(HS.o.tail).new_row rfl hb hr;clear hK hr hb HS hc10 hx0;have HS9:=B98 S;clear S;go_wp2_with fail;go_roundw
       case rel=>exact⟨i+1,_,by go_num,⟨by have h_:=of_eq_true q5;omega⟩,⟨HK.o⟩,⟨HS9.o⟩⟩
       case measure=>have h_:=of_eq_true q5;simp only [intOf];omega
      ·have c1b:decide ((i:Int) < (n.sk.length:Int))=false:=C0a Zo
       have c1c:decide (i < n.sk.length)=false:=C0a c1;replace HA:=B98 (show acc=A1m (n.wk ++ n.tk ++ n.sk) by rw[HA.o,List.take_of_length_le Zo]);clear c1 HI;go_wp2_with fail;clear c1b c1c hc10;go_ret;exact⟨_,rfl,HA.o ▸ Kd.R_reok rfl (HS.o.at_R 0 rfl) (fun _ _=>trivial),HS.o.below⟩
theorem A5q {m:Int} {l:List ByteArray} (h:okQ m l) {key:ByteArray} (hk:key ∈ l):key.size ≠ 0∧key.size≤12:=by
 obtain⟨i,hi,rfl⟩:=List.getElem_of_mem hk;have:=(h.2.2.2 i (Nat.zero_le _) hi).1;unfold isK at this;omega
def B9d (n:Nr) (h:Int) (key:ByteArray):Prop:=∃ (k:Nat) (x:S94),n.sl[k]? = some x∧x.f1=true∧24 * x.f0+(k:Int)=h∧x.f2=key
theorem B5j {n:Nr} (hn:n.small) (hP:A3b n) (ho:n.old = []) (hR:∀ c ∈ n.ce,c.f1≤9223372036854775807) {key:ByteArray} (hk:key.size ≠ 0∧key.size≤12) :
  ∃ h b,Ev (fun k=>A0t.f k n.ce n.old n.mv key) (h,b)∧h≤9223372036854775807∧∀ c ∈ n.ce,c.f0=key→h=c.f1:=by
 have ht:=hP.table;rw[ho] at ht;have he:=B1s (m:=n.mv) (key:=key) hn.s2 hn.k2 ht hk.1 Zo;rw[ho]
 cases hs:TM.seek S151.f0 S151.f1 n.ce key (stOf key) with
 |none =>
  rw[hs] at he;refine⟨0,false,he,by omega,fun c hc e=>?_⟩;obtain⟨i,hi,rfl⟩:=List.getElem_of_mem hc;have:=((ht.cells i _ (C0c hi)).2 (by rw[e];exact hk.1)).2.2;rw[e,hs] at this;cases this
 |some i =>
  rw[hs] at he;replace he:Ev (fun k=>A0t.f k n.ce [] n.mv key) ((A0c n.ce (i:Int)).f1,true):=he;obtain⟨x,hx,hxk⟩:=TM.seekF_some S151.f0 S151.f1 hs;have hi:=(C0e.1 hx).1;have hm:=C0h hx;have hr:A0c n.ce (i:Int)=x:=by rw[A2w n.ce i hi];exact(C0e.1 hx).2
  rw[hr] at he;exact⟨_,true,he,hR x hm,fun c hc e=>by rw[A8h hP hc hm (by rw[e];exact hk.1) (by rw[hxk,e])]⟩
theorem B5k {n:Nr} (hP:A3b n) {h:Int} (hh:h≤9223372036854775807) (key:ByteArray):∃ k' v' b,Ev (fun k=>A4h.f k n.sl n.fr h) (k',v',b)∧(b=true∧k'=key ↔ B9d n h key):=by
 have he:=B6d hP.arena hh
 cases hp:A4r n.sl h with
 |none =>
  rw[hp] at he;exact⟨_,_,_,he,⟨fun ⟨h,_⟩=>(by cases h),fun ⟨k,x,hx,hu,e,_⟩=>by rw[(A2h hP.arena).2 ⟨x,hx,hu,e⟩] at hp;cases hp⟩⟩
 |some i =>
  rw[hp] at he;obtain⟨x,hx,hu,e⟩:=(A2h hP.arena).1 hp;simp only [B0r hx] at he;refine⟨_,_,true,he,⟨fun ⟨_,h⟩=>⟨i,x,hx,hu,e,h⟩,fun ⟨k,y,hy,hu',e',hk⟩=>⟨rfl,?_⟩⟩⟩;have:=(A2h hP.arena).2 ⟨y,hy,hu',e'⟩;rw[hp] at this;obtain rfl:=C0d this;rw[hx] at hy;obtain rfl:=C0d hy;exact hk
def B1j (n:Nr) (j:Nat):Prop:=∃ key,(A1m (n.wk ++ n.tk ++ n.sk))[j]? = some key∧(A1m (A1g n.ce))[j]? = some key∧∀ c ∈ n.ce,c.f0=key→B1i n c
theorem B5l {n:Nr} {j:Nat} {key key2 k':ByteArray} {h:Int} {b:Bool} (h1:(A1m (n.wk ++ n.tk ++ n.sk))[j]? = some key) (h2:(A1m (A1g n.ce))[j]? = some key2)
  (hh:∀ c ∈ n.ce,c.f0=key→h=c.f1) (hl:b=true∧k'=key ↔ B9d n h key):B1j n j ↔ key=key2∧b=true∧k'=key:=by
 constructor
 ·rintro ⟨y,e1,e2,hg⟩
  obtain rfl:=C0d (h1.symm.trans e1);obtain rfl:=C0d (h2.symm.trans e2);obtain⟨c,hc,hck,_⟩:=(TM.mem_keysOf S151.f0).1 ((A1w _).mem_iff.1 (C0h e2));obtain⟨k,x,hx,hu,e,hk⟩:=hg c hc hck;exact⟨rfl,hl.2 ⟨k,x,hx,hu,by rw[e,hh c hc hck],by rw[hk,hck]⟩⟩
 ·rintro ⟨rfl,hb⟩
  obtain⟨k,x,hx,hu,e,hk⟩:=hl.1 hb;exact⟨key,h1,h2,fun c hc hck=>⟨k,x,hx,hu,by rw[e,hh c hc hck],by rw[hk,hck]⟩⟩
theorem A7q {α:Type} [DecidableEq α]:∀ {l m:List α},l.Nodup→(∀ x ∈ l,x ∈ m)→m.length=l.length→m.Perm l
 |[],m,_,_,hl=>by rw[List.eq_nil_of_length_eq_zero hl]
 |a :: t,m,hd,hs,hl=>by
  have ha:=hs a Zs;have hp:=List.perm_cons_erase ha;refine hp.trans ((A7q (List.nodup_cons.1 hd).2 (fun x hx=>?_) ?_).cons a)
  ·exact(List.mem_erase_of_ne (fun e=>(List.nodup_cons.1 hd).1 (by rw[← e];exact hx))).2 (hs x (by simp[hx]))
  ·rw[List.length_erase_of_mem ha,hl];rfl
theorem A6d (l:List S94):(A4f l).length=l.countP S94.f1:=by unfold A4f;rw[List.length_map,List.countP_eq_length_filter]
theorem A9t {n:Nr} (hP:A3b n) (hS:A5p n) (hl:(A1m (n.wk ++ n.tk ++ n.sk)).length=(A1m (A1g n.ce)).length) (hu:n.sl.countP S94.f1=(A1m (A1g n.ce)).length)
  (h:∀ j,j < (A1m (A1g n.ce)).length→B1j n j):A2i n:=by
 have he:A1m (n.wk ++ n.tk ++ n.sk)=A1m (A1g n.ce):=by
  refine List.ext_getElem? (fun j=>?_)
  by_cases hj:j < (A1m (A1g n.ce)).length
  ·obtain⟨key,h1,h2,_⟩:=h j hj
   rw[h1,h2]
  ·rw[List.getElem?_eq_none Zo,List.getElem?_eq_none Zo]
 have hk:∀ c ∈ n.ce,c.f0.size ≠ 0→B1i n c:=fun c hc hz=>by
  have hm:c.f0 ∈ A1m (A1g n.ce):=(A1w _).mem_iff.2 ((TM.mem_keysOf S151.f0).2 ⟨c,hc,rfl,hz⟩);obtain⟨j,hj,e⟩:=List.getElem_of_mem hm;obtain⟨key,_,h2,h3⟩:=h j hj;rw[C0c hj] at h2;exact h3 c hc (e.symm.trans (C0d h2))
 have ho:n.old = []:=List.eq_nil_of_length_eq_zero hS.old;refine⟨hP,hS,A51 he,?_,hk⟩;refine A7q (by have:=hP.table.once;rw[ho,List.append_nil] at this;exact this) (fun x hx=>?_) (by rw[A6d,hu,A2n]);obtain⟨c,hc,rfl,hz⟩:=(TM.mem_keysOf S151.f0).1 hx;obtain⟨k,y,hy,hu',_,e⟩:=hk c hc hz;unfold A4f;exact List.mem_map.2 ⟨y,List.mem_filter.2 ⟨C0h hy,hu'⟩,e⟩
theorem A2i.len {n:Nr} (h:A2i n):(A1m (n.wk ++ n.tk ++ n.sk)).length=(A1m (A1g n.ce)).length:=by rw[A4n h.queued]
theorem A2i.count {n:Nr} (h:A2i n):n.sl.countP S94.f1=(A1m (A1g n.ce)).length:=by rw[← A6d,h.laid.length_eq,A2n]
theorem A2i.good {n:Nr} (h:A2i n) {j:Nat} (hj:j < (A1m (A1g n.ce)).length):B1j n j:=by
 have he:=C0c hj;refine⟨_,by rw[A4n h.queued,he],he,fun c hc e=>h.linked c hc ?_⟩;obtain⟨_,_,_,hz⟩:=(TM.mem_keysOf S151.f0).1 ((A1w _).mem_iff.1 (List.getElem_mem hj));rw[e];exact hz
end Go.Proofs.YtediiolcoilepaaGreat.Nb
