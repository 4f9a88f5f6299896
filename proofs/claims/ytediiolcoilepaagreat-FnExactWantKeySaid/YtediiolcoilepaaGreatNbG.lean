/- Walks of callees. -/
import Derived.Test.YtediiolcoilepaaGreatNbF
import Derived.Test.YtediiolcoilepaaGreatGNear10
import Derived.Test.YtediiolcoilepaaGreatGNear11
import Derived.Test.YtediiolcoilepaaGreatGNear12
import Derived.BigRegion
import Derived.BigQuiet
namespace Go.Proofs.YtediiolcoilepaaGreat.Nb
set_option maxHeartbeats 8000000
set_option maxRecDepth 100000
open Go.RowKit Go.Proofs.YtediiolcoilepaaGreat.GNear Go.Proofs.YtediiolcoilepaaGreatW.PrintWords Go.Proofs.YtediiolcoilepaaGreatW.PrintLast Go.Proofs.YtediiolcoilepaaGreatW.PrintMore
set_option linter.unusedVariables false
set_option linter.unusedSimpArgs false
structure NBW (w:World) (g:Nat) (cs:Array Value) where
 w':World
 blk:w'.heap[g]? = some (.cells cs 50 (0,0))
 below:Below w.heap.size w w'
theorem NBW.cell {w:World} {g:Nat} {cs:Array Value} (p:NBW w g cs) (j:Nat) {v:Value} (e:cs[j]? = some v):p.w'.cell? ⟨g,j,none⟩=some v:=(blk_cell p.blk j).trans e
theorem NBW.on {w:World} {g:Nat} {cs:Array Value} (p:NBW w g cs) {w1:World} (hb:Below p.w'.heap.size p.w' w1):∃ q:NBW w g cs,w1=q.w':=⟨⟨w1,blk_below p.blk hb,below_step p.below hb⟩,rfl⟩
def LpPost (w:World) (n:Nr) (e:Ending) (w':World):Prop:=∃ b,e=.returned (.bool b)∧(b=true ↔ PartsR n∧ShapeR n)∧Below w.heap.size w w'
theorem LpPost.no {w w':World} {n:Nr} (hb:Below w.heap.size w w') (h:PartsR n→ShapeR n→False):LpPost w n (.returned (.bool false)) w':=⟨false,rfl,⟨fun h=>Bool.noConfusion h,fun ⟨h1,h2⟩=>(h h1 h2).elim⟩,hb⟩
theorem LpPost.yes {w w':World} {n:Nr} (hb:Below w.heap.size w w') (h1:PartsR n) (h2:ShapeR n):LpPost w n (.returned (.bool true)) w':=⟨true,rfl,⟨fun _=>⟨h1,h2⟩,fun _=>rfl⟩,hb⟩
theorem l08PartsS (w:World) (v:NV) (n:Nr) (hn:n.small) (hC:NearC w v n) :
  Calls Tryz.prog 40 #[.agg (v.cells n)] w (LpPost w n):=by
 obtain⟨A0,c0,A2,c2,A3,c3,A6,c6,A8,c8,A10,c10,A11,c11,rfl,hF⟩:=hC.open_;have HF:=Aside0.mk hF;clear hC hF;dsimp only [NV.cells];have HS:=Aside0.mk (St.start w);have HN:=Aside0.mk hn;clear hn;go_enter Tryz.func40,Tryz.ntmps40;go_wp2_with fail;have S:=HS.out.alloc #[Value.slice A0 n.sl.length c0,Value.int .i64 n.fr,Value.slice A2 n.ce.length c2,Value.slice A3 n.old.length c3,Value.int .i64 n.mv,Value.int .i64 n.wm,Value.slice A6 n.wk.length c6,Value.int .i64 n.tm,Value.slice A8 n.tk.length c8,Value.int .i64 n.sm,Value.slice A10 n.sk.length c10,Value.slice A11 n.ct.length c11,Value.int .i64 n.ad,Value.int .i64 n.db] 50;clear HS;have HS:=Aside0.mk S;have hc0:=S.at_cell 0 rfl 0 rfl;clear S;try go_wp2_with fail
 obtain⟨ma,mb,mc,hm,hmm⟩:=mosts_ex n.sl.length HN.out.s0;refine(spec_l08Mosts.calls (n.sl.length:Int) ma mb mc _ hm).mono ?_;rintro e w1 ⟨rfl,hd⟩;have S:=HS.out.step hd.below;clear hd hm HS;have HM:=Aside0.mk hmm;clear hmm;have HS:=Aside0.mk S;clear hc0 S;go_wp2_with fail;obtain⟨g,hg⟩:∃ g,g=w.heap.size:=⟨_,rfl⟩;rw[← hg];have HW:=Aside0.mk (show w1.heap[g]? = some (.cells #[Value.slice A0 n.sl.length c0,Value.int .i64 n.fr,Value.slice A2 n.ce.length c2,Value.slice A3 n.old.length c3,Value.int .i64 n.mv,Value.int .i64 n.wm,Value.slice A6 n.wk.length c6,Value.int .i64 n.tm,Value.slice A8 n.tk.length c8,Value.int .i64 n.sm,Value.slice A10 n.sk.length c10,Value.slice A11 n.ct.length c11,Value.int .i64 n.ad,Value.int .i64 n.db] 50 (0,0)) from hg ▸ HS.out.head.2);have HL:=Aside0.mk HS.out.below;clear HS hg;obtain⟨b0,⟨K0,hK0⟩,hq0⟩:=arenaS_ev n.sl n.fr HN.out.s0;obtain⟨b1,⟨K1,hK1⟩,hq1⟩:=tableS_ev n.ce n.old n.mv HN.out.s2 HN.out.s3 HN.out.k2 HN.out.k3;obtain⟨b2,⟨K2,hK2⟩,hq2⟩:=okS_ev n.wm n.wk HN.out.s6;obtain⟨b3,⟨K3,hK3⟩,hq3⟩:=okS_ev n.tm n.tk HN.out.s8;obtain⟨b4,⟨K4,hK4⟩,hq4⟩:=okS_ev n.sm n.sk HN.out.s10;obtain⟨b5,⟨K5,hK5⟩,hq5⟩:∃ b,Ev (fun k=>spec_SketchOk.f k n.ct n.ad) b∧(b=true ↔ skOk n.ct n.ad=true):=⟨_,skS_ev n.ct n.ad HN.out.s11,Iff.rfl⟩;obtain⟨b6,hK6,hq6⟩:∃ b,spec_DoorOk.f n.db=some b∧(b=true ↔ 0≤n.db∧n.db < 4294967296):=⟨_,doorS n.db,decide_eq_true_iff⟩;have k0:=Aside0.mk (hK0 K0 (Nat.le_refl _));have k1:=Aside0.mk (hK1 K1 (Nat.le_refl _));have k2:=Aside0.mk (hK2 K2 (Nat.le_refl _));have k3:=Aside0.mk (hK3 K3 (Nat.le_refl _));have k4:=Aside0.mk (hK4 K4 (Nat.le_refl _));have k5:=Aside0.mk (hK5 K5 (Nat.le_refl _));have k6:=Aside0.mk hK6;have Q0:=Aside0.mk hq0;have Q1:=Aside0.mk hq1;have Q2:=Aside0.mk hq2;have Q3:=Aside0.mk hq3;have Q4:=Aside0.mk hq4;have Q5:=Aside0.mk hq5;have Q6:=Aside0.mk hq6;clear hK0 hK1 hK2 hK3 hK4 hK5 hK6 hq0 hq1 hq2 hq3 hq4 hq5 hq6;have HF1:=Aside0.mk (fun (p:NBW w g #[.slice A0 n.sl.length c0,.int .i64 n.fr,.slice A2 n.ce.length c2,.slice A3 n.old.length c3,.int .i64 n.mv,.int .i64 n.wm,.slice A6 n.wk.length c6,.int .i64 n.tm,.slice A8 n.tk.length c8,.int .i64 n.sm,.slice A10 n.sk.length c10,.slice A11 n.ct.length c11,.int .i64 n.ad,.int .i64 n.db])=>HF.out.below p.below);have hne:Nonempty (NBW w g #[.slice A0 n.sl.length c0,.int .i64 n.fr,.slice A2 n.ce.length c2,.slice A3 n.old.length c3,.int .i64 n.mv,.int .i64 n.wm,.slice A6 n.wk.length c6,.int .i64 n.tm,.slice A8 n.tk.length c8,.int .i64 n.sm,.slice A10 n.sk.length c10,.slice A11 n.ct.length c11,.int .i64 n.ad,.int .i64 n.db]):=⟨⟨w1,HW.out,HL.out⟩⟩;have hc0:∀ p:NBW w g #[.slice A0 n.sl.length c0,.int .i64 n.fr,.slice A2 n.ce.length c2,.slice A3 n.old.length c3,.int .i64 n.mv,.int .i64 n.wm,.slice A6 n.wk.length c6,.int .i64 n.tm,.slice A8 n.tk.length c8,.int .i64 n.sm,.slice A10 n.sk.length c10,.slice A11 n.ct.length c11,.int .i64 n.ad,.int .i64 n.db],p.w'.cell? ⟨g,0,none⟩=some (.slice A0 n.sl.length c0):=fun p=>p.cell 0 rfl;have hc1:∀ p:NBW w g #[.slice A0 n.sl.length c0,.int .i64 n.fr,.slice A2 n.ce.length c2,.slice A3 n.old.length c3,.int .i64 n.mv,.int .i64 n.wm,.slice A6 n.wk.length c6,.int .i64 n.tm,.slice A8 n.tk.length c8,.int .i64 n.sm,.slice A10 n.sk.length c10,.slice A11 n.ct.length c11,.int .i64 n.ad,.int .i64 n.db],p.w'.cell? ⟨g,1,none⟩=some (.int .i64 n.fr):=fun p=>p.cell 1 rfl;have hc2:∀ p:NBW w g #[.slice A0 n.sl.length c0,.int .i64 n.fr,.slice A2 n.ce.length c2,.slice A3 n.old.length c3,.int .i64 n.mv,.int .i64 n.wm,.slice A6 n.wk.length c6,.int .i64 n.tm,.slice A8 n.tk.length c8,.int .i64 n.sm,.slice A10 n.sk.length c10,.slice A11 n.ct.length c11,.int .i64 n.ad,.int .i64 n.db],p.w'.cell? ⟨g,2,none⟩=some (.slice A2 n.ce.length c2):=fun p=>p.cell 2 rfl;have hc3:∀ p:NBW w g #[.slice A0 n.sl.length c0,.int .i64 n.fr,.slice A2 n.ce.length c2,.slice A3 n.old.length c3,.int .i64 n.mv,.int .i64 n.wm,.slice A6 n.wk.length c6,.int .i64 n.tm,.slice A8 n.tk.length c8,.int .i64 n.sm,.slice A10 n.sk.length c10,.slice A11 n.ct.length c11,.int .i64 n.ad,.int .i64 n.db],p.w'.cell? ⟨g,3,none⟩=some (.slice A3 n.old.length c3):=fun p=>p.cell 3 rfl;have hc4:∀ p:NBW w g #[.slice A0 n.sl.length c0,.int .i64 n.fr,.slice A2 n.ce.length c2,.slice A3 n.old.length c3,.int .i64 n.mv,.int .i64 n.wm,.slice A6 n.wk.length c6,.int .i64 n.tm,.slice A8 n.tk.length c8,.int .i64 n.sm,.slice A10 n.sk.length c10,.slice A11 n.ct.length c11,.int .i64 n.ad,.int .i64 n.db],p.w'.cell? ⟨g,4,none⟩=some (.int .i64 n.mv):=fun p=>p.cell 4 rfl;have hc5:∀ p:NBW w g #[.slice A0 n.sl.length c0,.int .i64 n.fr,.slice A2 n.ce.length c2,.slice A3 n.old.length c3,.int .i64 n.mv,.int .i64 n.wm,.slice A6 n.wk.length c6,.int .i64 n.tm,.slice A8 n.tk.length c8,.int .i64 n.sm,.slice A10 n.sk.length c10,.slice A11 n.ct.length c11,.int .i64 n.ad,.int .i64 n.db],p.w'.cell? ⟨g,5,none⟩=some (.int .i64 n.wm):=fun p=>p.cell 5 rfl;have hc6:∀ p:NBW w g #[.slice A0 n.sl.length c0,.int .i64 n.fr,.slice A2 n.ce.length c2,.slice A3 n.old.length c3,.int .i64 n.mv,.int .i64 n.wm,.slice A6 n.wk.length c6,.int .i64 n.tm,.slice A8 n.tk.length c8,.int .i64 n.sm,.slice A10 n.sk.length c10,.slice A11 n.ct.length c11,.int .i64 n.ad,.int .i64 n.db],p.w'.cell? ⟨g,6,none⟩=some (.slice A6 n.wk.length c6):=fun p=>p.cell 6 rfl;have hc7:∀ p:NBW w g #[.slice A0 n.sl.length c0,.int .i64 n.fr,.slice A2 n.ce.length c2,.slice A3 n.old.length c3,.int .i64 n.mv,.int .i64 n.wm,.slice A6 n.wk.length c6,.int .i64 n.tm,.slice A8 n.tk.length c8,.int .i64 n.sm,.slice A10 n.sk.length c10,.slice A11 n.ct.length c11,.int .i64 n.ad,.int .i64 n.db],p.w'.cell? ⟨g,7,none⟩=some (.int .i64 n.tm):=fun p=>p.cell 7 rfl;have hc8:∀ p:NBW w g #[.slice A0 n.sl.length c0,.int .i64 n.fr,.slice A2 n.ce.length c2,.slice A3 n.old.length c3,.int .i64 n.mv,.int .i64 n.wm,.slice A6 n.wk.length c6,.int .i64 n.tm,.slice A8 n.tk.length c8,.int .i64 n.sm,.slice A10 n.sk.length c10,.slice A11 n.ct.length c11,.int .i64 n.ad,.int .i64 n.db],p.w'.cell? ⟨g,8,none⟩=some (.slice A8 n.tk.length c8):=fun p=>p.cell 8 rfl;have hc9:∀ p:NBW w g #[.slice A0 n.sl.length c0,.int .i64 n.fr,.slice A2 n.ce.length c2,.slice A3 n.old.length c3,.int .i64 n.mv,.int .i64 n.wm,.slice A6 n.wk.length c6,.int .i64 n.tm,.slice A8 n.tk.length c8,.int .i64 n.sm,.slice A10 n.sk.length c10,.slice A11 n.ct.length c11,.int .i64 n.ad,.int .i64 n.db],p.w'.cell? ⟨g,9,none⟩=some (.int .i64 n.sm):=fun p=>p.cell 9 rfl;have hc10:∀ p:NBW w g #[.slice A0 n.sl.length c0,.int .i64 n.fr,.slice A2 n.ce.length c2,.slice A3 n.old.length c3,.int .i64 n.mv,.int .i64 n.wm,.slice A6 n.wk.length c6,.int .i64 n.tm,.slice A8 n.tk.length c8,.int .i64 n.sm,.slice A10 n.sk.length c10,.slice A11 n.ct.length c11,.int .i64 n.ad,.int .i64 n.db],p.w'.cell? ⟨g,10,none⟩=some (.slice A10 n.sk.length c10):=fun p=>p.cell 10 rfl;have hc11:∀ p:NBW w g #[.slice A0 n.sl.length c0,.int .i64 n.fr,.slice A2 n.ce.length c2,.slice A3 n.old.length c3,.int .i64 n.mv,.int .i64 n.wm,.slice A6 n.wk.length c6,.int .i64 n.tm,.slice A8 n.tk.length c8,.int .i64 n.sm,.slice A10 n.sk.length c10,.slice A11 n.ct.length c11,.int .i64 n.ad,.int .i64 n.db],p.w'.cell? ⟨g,11,none⟩=some (.slice A11 n.ct.length c11):=fun p=>p.cell 11 rfl;have hc12:∀ p:NBW w g #[.slice A0 n.sl.length c0,.int .i64 n.fr,.slice A2 n.ce.length c2,.slice A3 n.old.length c3,.int .i64 n.mv,.int .i64 n.wm,.slice A6 n.wk.length c6,.int .i64 n.tm,.slice A8 n.tk.length c8,.int .i64 n.sm,.slice A10 n.sk.length c10,.slice A11 n.ct.length c11,.int .i64 n.ad,.int .i64 n.db],p.w'.cell? ⟨g,12,none⟩=some (.int .i64 n.ad):=fun p=>p.cell 12 rfl;have hc13:∀ p:NBW w g #[.slice A0 n.sl.length c0,.int .i64 n.fr,.slice A2 n.ce.length c2,.slice A3 n.old.length c3,.int .i64 n.mv,.int .i64 n.wm,.slice A6 n.wk.length c6,.int .i64 n.tm,.slice A8 n.tk.length c8,.int .i64 n.sm,.slice A10 n.sk.length c10,.slice A11 n.ct.length c11,.int .i64 n.ad,.int .i64 n.db],p.w'.cell? ⟨g,13,none⟩=some (.int .i64 n.db):=fun p=>p.cell 13 rfl;simp only [lap_cons,lap_nil];refine wp_region_quietL (C:=fun w'=>∃ p:NBW w g #[.slice A0 n.sl.length c0,.int .i64 n.fr,.slice A2 n.ce.length c2,.slice A3 n.old.length c3,.int .i64 n.mv,.int .i64 n.wm,.slice A6 n.wk.length c6,.int .i64 n.tm,.slice A8 n.tk.length c8,.int .i64 n.sm,.slice A10 n.sk.length c10,.slice A11 n.ct.length c11,.int .i64 n.ad,.int .i64 n.db],w'=p.w') (by kernel_rfl) (by kernel_rfl) ⟨⟨w1.drew,HW.out,below_drew1 HL.out⟩,rfl⟩ ?_
 repeat(go_big_quiet_step ((go_at_call 113;refine(spec_ArenaOk.calls K0 A0 c0 n.sl n.fr _ _ (HF1.out _).h0 HF.out.l0 k0.out).mono ?_;rintro e w2 ⟨rfl,hb⟩;exact⟨rfl,NBW.on _ (by first|exact hb|exact hb.below)⟩)))
 cases b0
 ·repeat(go_big_quiet_step (fail))
  refine wpQuiet_nil ?_;rintro w9 ⟨⟨w9,hw9,hb9⟩,rfl⟩;clear hc0 hc1 hc2 hc3 hc4 hc5 hc6 hc7 hc8 hc9 hc10 hc11 hc12 hc13;go_wp2_with fail;go_ret;exact LpPost.no hb9 (fun hp hs=>absurd (Q0.out.2 hp.arena) (by simp))
 by_cases h2i:(2:Int)≤(n.sl.length:Int)
 case neg =>
  have NO:=Aside0.mk (show ShapeR n→False from fun hs=>h2i (by have:=hs.size.1;omega))
  repeat(go_big_quiet_step (fail))
  refine wpQuiet_nil ?_;rintro w9 ⟨⟨w9,hw9,hb9⟩,rfl⟩;clear hc0 hc1 hc2 hc3 hc4 hc5 hc6 hc7 hc8 hc9 hc10 hc11 hc12 hc13;go_wp2_with fail;go_ret;exact LpPost.no hb9 (fun _ hs=>NO.out hs)
 have h2:=Aside0.mk (show 2≤n.sl.length by omega);have HR:=Aside0.mk (Q0.out.1 rfl);have kc:=Aside0.mk (cellsS_is n.sl.length h2.out HR.out.len.2)
 repeat(go_big_quiet_step ((go_at_call 114;refine(spec_TableOk.calls K1 A2 c2 n.ce A3 c3 n.old n.mv _ _ (HF1.out _).h2 HF.out.l2 (HF1.out _).h3 HF.out.l3 k1.out).mono ?_;rintro e w2 ⟨rfl,hb⟩;exact⟨rfl,NBW.on _ (by first|exact hb|exact hb.below)⟩)))
 cases b1
 ·repeat(go_big_quiet_step (fail))
  refine wpQuiet_nil ?_;rintro w9 ⟨⟨w9,hw9,hb9⟩,rfl⟩;clear hc0 hc1 hc2 hc3 hc4 hc5 hc6 hc7 hc8 hc9 hc10 hc11 hc12 hc13;go_wp2_with fail;go_ret;exact LpPost.no hb9 (fun hp hs=>absurd ((Q1.out (List.eq_nil_of_length_eq_zero hs.old)).2 hp.table) (by simp))
 cases hob:((n.old.length:Int) == 0)
 case false =>
  have NO:=Aside0.mk (show ShapeR n→False from fun hs=>absurd (hob.symm.trans (beq_iff_eq.2 (by have:=hs.old;omega))) (by simp))
  repeat(go_big_quiet_step (fail))
  refine wpQuiet_nil ?_;rintro w9 ⟨⟨w9,hw9,hb9⟩,rfl⟩;clear hc0 hc1 hc2 hc3 hc4 hc5 hc6 hc7 hc8 hc9 hc10 hc11 hc12 hc13;go_wp2_with fail;go_ret;exact LpPost.no hb9 (fun _ hs=>NO.out hs)
 have ho:=Aside0.mk (show n.old.length=0 by have:=beq_iff_eq.1 hob;omega)
 cases hcb:((n.ce.length:Int) == ((cellsN n.sl.length:Nat):Int))
 case false =>
  have NO:=Aside0.mk (show ShapeR n→False from fun hs=>absurd (hcb.symm.trans (beq_iff_eq.2 (by rw[hs.cells]))) (by simp))
  repeat(go_big_quiet_step ((go_at_call 96;refine(spec_l08Cells.calls 20 (n.sl.length:Int) _ _ kc.out).mono ?_;rintro e w2 ⟨rfl,hb⟩;exact⟨rfl,NBW.on _ (by first|exact hb|exact hb.below)⟩)))
  refine wpQuiet_nil ?_;rintro w9 ⟨⟨w9,hw9,hb9⟩,rfl⟩;clear hc0 hc1 hc2 hc3 hc4 hc5 hc6 hc7 hc8 hc9 hc10 hc11 hc12 hc13;go_wp2_with fail;go_ret;exact LpPost.no hb9 (fun _ hs=>NO.out hs)
 have hce:=Aside0.mk (show n.ce.length=cellsN n.sl.length by have:=beq_iff_eq.1 hcb;omega)
 repeat(go_big_quiet_step (first|(go_at_call 96;refine(spec_l08Cells.calls 20 (n.sl.length:Int) _ _ kc.out).mono ?_;rintro e w2 ⟨rfl,hb⟩;exact⟨rfl,NBW.on _ (by first|exact hb|exact hb.below)⟩)|(go_at_call 115;refine(spec_QueueOk.calls K2 n.wm A6 c6 n.wk _ _ (HF1.out _).h6 HF.out.l6 k2.out).mono ?_;rintro e w2 ⟨rfl,hb⟩;exact⟨rfl,NBW.on _ (by first|exact hb|exact hb.below)⟩)))
 cases b2
 ·repeat(go_big_quiet_step (fail))
  refine wpQuiet_nil ?_;rintro w9 ⟨⟨w9,hw9,hb9⟩,rfl⟩;clear hc0 hc1 hc2 hc3 hc4 hc5 hc6 hc7 hc8 hc9 hc10 hc11 hc12 hc13;go_wp2_with fail;go_ret;exact LpPost.no hb9 (fun hp hs=>absurd (Q2.out.2 hp.window) (by simp))
 repeat(go_big_quiet_step ((go_at_call 115;refine(spec_QueueOk.calls K3 n.tm A8 c8 n.tk _ _ (HF1.out _).h8 HF.out.l8 k3.out).mono ?_;rintro e w2 ⟨rfl,hb⟩;exact⟨rfl,NBW.on _ (by first|exact hb|exact hb.below)⟩)))
 cases b3
 ·repeat(go_big_quiet_step (fail))
  refine wpQuiet_nil ?_;rintro w9 ⟨⟨w9,hw9,hb9⟩,rfl⟩;clear hc0 hc1 hc2 hc3 hc4 hc5 hc6 hc7 hc8 hc9 hc10 hc11 hc12 hc13;go_wp2_with fail;go_ret;exact LpPost.no hb9 (fun hp hs=>absurd (Q3.out.2 hp.trial) (by simp))
 repeat(go_big_quiet_step ((go_at_call 115;refine(spec_QueueOk.calls K4 n.sm A10 c10 n.sk _ _ (HF1.out _).h10 HF.out.l10 k4.out).mono ?_;rintro e w2 ⟨rfl,hb⟩;exact⟨rfl,NBW.on _ (by first|exact hb|exact hb.below)⟩)))
 cases b4
 ·repeat(go_big_quiet_step (fail))
  refine wpQuiet_nil ?_;rintro w9 ⟨⟨w9,hw9,hb9⟩,rfl⟩;clear hc0 hc1 hc2 hc3 hc4 hc5 hc6 hc7 hc8 hc9 hc10 hc11 hc12 hc13;go_wp2_with fail;go_ret;exact LpPost.no hb9 (fun hp hs=>absurd (Q4.out.2 hp.safe) (by simp))
 cases hwm:(n.wm == ma)
 case false =>
  have NO:=Aside0.mk (show ShapeR n→False from fun hs=>absurd (hwm.symm.trans (beq_iff_eq.2 (hs.wm.trans ((HM.out (by have:=h2.out;omega)).1).symm))) (by simp))
  repeat(go_big_quiet_step (fail))
  refine wpQuiet_nil ?_;rintro w9 ⟨⟨w9,hw9,hb9⟩,rfl⟩;clear hc0 hc1 hc2 hc3 hc4 hc5 hc6 hc7 hc8 hc9 hc10 hc11 hc12 hc13;go_wp2_with fail;go_ret;exact LpPost.no hb9 (fun _ hs=>NO.out hs)
 cases htm:(n.tm == mb)
 case false =>
  have NO:=Aside0.mk (show ShapeR n→False from fun hs=>absurd (htm.symm.trans (beq_iff_eq.2 (hs.tm.trans ((HM.out (by have:=h2.out;omega)).2.1).symm))) (by simp))
  repeat(go_big_quiet_step (fail))
  refine wpQuiet_nil ?_;rintro w9 ⟨⟨w9,hw9,hb9⟩,rfl⟩;clear hc0 hc1 hc2 hc3 hc4 hc5 hc6 hc7 hc8 hc9 hc10 hc11 hc12 hc13;go_wp2_with fail;go_ret;exact LpPost.no hb9 (fun _ hs=>NO.out hs)
 cases hsm:(n.sm == mc)
 case false =>
  have NO:=Aside0.mk (show ShapeR n→False from fun hs=>absurd (hsm.symm.trans (beq_iff_eq.2 (hs.sm.trans ((HM.out (by have:=h2.out;omega)).2.2).symm))) (by simp))
  repeat(go_big_quiet_step (fail))
  refine wpQuiet_nil ?_;rintro w9 ⟨⟨w9,hw9,hb9⟩,rfl⟩;clear hc0 hc1 hc2 hc3 hc4 hc5 hc6 hc7 hc8 hc9 hc10 hc11 hc12 hc13;go_wp2_with fail;go_ret;exact LpPost.no hb9 (fun _ hs=>NO.out hs)
 repeat(go_big_quiet_step ((go_at_call 116;refine(spec_SketchOk.calls K5 A11 c11 n.ct n.ad _ _ (HF1.out _).h11 HF.out.l11 k5.out).mono ?_;rintro e w2 ⟨rfl,hb⟩;exact⟨rfl,NBW.on _ (by first|exact hb|exact hb.below)⟩)))
 cases b5
 ·repeat(go_big_quiet_step (fail))
  refine wpQuiet_nil ?_;rintro w9 ⟨⟨w9,hw9,hb9⟩,rfl⟩;clear hc0 hc1 hc2 hc3 hc4 hc5 hc6 hc7 hc8 hc9 hc10 hc11 hc12 hc13;go_wp2_with fail;go_ret;exact LpPost.no hb9 (fun hp hs=>absurd (Q5.out.2 hp.sketch) (by simp))
 repeat(go_big_quiet_step ((go_at_call 117;refine(spec_DoorOk.calls n.db _ _ k6.out).mono ?_;rintro e w2 ⟨rfl,hb⟩;exact⟨rfl,NBW.on _ (by first|exact hb|exact hb.below)⟩)))
 cases b6
 ·repeat(go_big_quiet_step (fail))
  refine wpQuiet_nil ?_;rintro w9 ⟨⟨w9,hw9,hb9⟩,rfl⟩;clear hc0 hc1 hc2 hc3 hc4 hc5 hc6 hc7 hc8 hc9 hc10 hc11 hc12 hc13;go_wp2_with fail;go_ret;exact LpPost.no hb9 (fun hp hs=>absurd (Q6.out.2 hp.door) (by simp))
 repeat(go_big_quiet_step (fail))
 refine wpQuiet_nil ?_;rintro w9 ⟨⟨w9,hw9,hb9⟩,rfl⟩;clear hc0 hc1 hc2 hc3 hc4 hc5 hc6 hc7 hc8 hc9 hc10 hc11 hc12 hc13;go_wp2_with fail;go_ret;exact LpPost.yes hb9 ⟨HR.out,(Q1.out (List.eq_nil_of_length_eq_zero ho.out)).1 (by simp),Q2.out.1 (by simp),Q3.out.1 (by simp),Q4.out.1 (by simp),Q5.out.1 (by simp),Q6.out.1 (by simp)⟩ ⟨⟨h2.out,HR.out.len.2⟩,ho.out,hce.out,(beq_iff_eq.1 hwm).trans (HM.out (by have:=h2.out;omega)).1,(beq_iff_eq.1 htm).trans (HM.out (by have:=h2.out;omega)).2.1,(beq_iff_eq.1 hsm).trans (HM.out (by have:=h2.out;omega)).2.2⟩
theorem l08KeysS (w:World) (v:NV) (n:Nr) (hn:n.small) (hC:NearC w v n) :
  Calls Tryz.prog 41 #[.agg (v.cells n)] w fun e w'=>∃ u,e=.returned u∧Kd.R Kd.string 9 w' w.heap.size (fun _=>True) u (sortS (n.wk ++ n.tk ++ n.sk))∧Below w.heap.size w w':=by
 obtain⟨A0,c0,A2,c2,A3,c3,A6,c6,A8,c8,A10,c10,A11,c11,rfl,hF⟩:=hC.open_;have HF:=Aside0.mk hF;clear hC hF;dsimp only [NV.cells];have HS:=Aside0.mk (St.start w);have HN:=Aside0.mk hn;clear hn;go_enter Tryz.func41,Tryz.ntmps41;go_wp2_with (first|((with_reducible refine gate_dst (N:=1) rfl ?_);refine box_event ?hg (N:=1) ?hd (cs:=#[Value.slice A0 n.sl.length c0,Value.int .i64 n.fr,Value.slice A2 n.ce.length c2,Value.slice A3 n.old.length c3,Value.int .i64 n.mv,Value.int .i64 n.wm,Value.slice A6 n.wk.length c6,Value.int .i64 n.tm,Value.slice A8 n.tk.length c8,Value.int .i64 n.sm,Value.slice A10 n.sk.length c10,Value.slice A11 n.ct.length c11,Value.int .i64 n.ad,Value.int .i64 n.db]) (t:=50) ?hr ?_;(case hd=>rfl);(case hg=>rfl);(case hr=>first|(go_simp;done)|(go_simp;rfl));intro g1 hg w1 hbox hb;have S:=HS.out.new_blk hb (Nat.le_of_eq hg.symm) hbox;clear hb hbox;subst hg;have HS1:=Aside0.mk S;clear S)|((with_reducible refine gate_dst (N:=7) rfl ?_);refine Kd.R_lit Kd.string _ 9 ?hg (N:=7) ?hd (xs:=([]:List ByteArray)) (inner:=[]) (ok:=fun _=>True) (okp:=fun _=>True) ?hr ?hp (fun _ hk=>hk) trivial (Below.refl _ _) (Nat.le_refl _) (by simp) ?_;(case hd=>rfl);(case hg=>rfl);(case hr=>first|(go_simp;done)|(go_simp;rfl));(case hp=>exact(Reps.none _ _));intro v7 w3 ho4 hb hg_ hnew_;clear hg_ hnew_;have S:=(by first|exact HS1.out.new_row rfl hb ho4|exact(HS.out.alloc #[Value.slice A0 n.sl.length c0,Value.int .i64 n.fr,Value.slice A2 n.ce.length c2,Value.slice A3 n.old.length c3,Value.int .i64 n.mv,Value.int .i64 n.wm,Value.slice A6 n.wk.length c6,Value.int .i64 n.tm,Value.slice A8 n.tk.length c8,Value.int .i64 n.sm,Value.slice A10 n.sk.length c10,Value.slice A11 n.ct.length c11,Value.int .i64 n.ad,Value.int .i64 n.db] 50).new_row rfl hb ho4);clear ho4 hb;have HS2:=Aside0.mk S;clear S));go_loopw [3,4] (fun v3 v4 wr=>∃ (i:Nat) (acc:List ByteArray),v4=.int .i64 i∧Aside0 (i≤n.wk.length)∧Aside0 (acc=sortS (n.wk.take i))∧Aside0 (St w wr [Part.row Kd.string 9 v3 acc,Part.blk w.heap.size 50 #[Value.slice A0 n.sl.length c0,Value.int .i64 n.fr,Value.slice A2 n.ce.length c2,Value.slice A3 n.old.length c3,Value.int .i64 n.mv,Value.int .i64 n.wm,Value.slice A6 n.wk.length c6,Value.int .i64 n.tm,Value.slice A8 n.tk.length c8,Value.int .i64 n.sm,Value.slice A10 n.sk.length c10,Value.slice A11 n.ct.length c11,Value.int .i64 n.ad,Value.int .i64 n.db]])) (fun _ v4 _=>n.wk.length - (intOf v4).toNat)
 case atStart=>exact⟨0,[],rfl,⟨by omega⟩,⟨by simp[sortS_nil]⟩,⟨by exact HS2.out⟩⟩
 case round =>
  clear HS1 HS2 HS;obtain⟨i,acc,rfl,HI,HA,HS⟩:=hrel;have hc6:=HS.out.at_cell 1 rfl 6 rfl;obtain⟨B,d,rfl⟩:=Kd.R_slice (HS.out.at_R 0 rfl)
  by_cases c1:i < n.wk.length
  ·have c1b:decide ((i:Int) < (n.wk.length:Int))=true:=decide_eq_true (by omega)
   have c1c:decide (i < n.wk.length)=true:=decide_eq_true c1;have p5:(0:Int)≤(i:Int):=by omega
   have q5:(i:Int) < (n.wk.length:Int):=by omega
   obtain⟨ad,e5,hx0⟩:=Kd.at_string (HF.out.below HS.out.below).h6 (i:Int) p5 q5;cases e5;rw[Int.toNat_natCast,rdS_at n.wk i c1] at hx0;obtain⟨key,hkey⟩:∃ y,y=n.wk[i]:=⟨_,rfl⟩;rw[← hkey] at hx0;have HK:=Aside0.mk (show sortS (key :: acc)=sortS (n.wk.take (i+1)) by rw[HA.out,sort_cons,hkey,List.take_succ_eq_append_getElem c1];try simp);have HSS:=Aside0.mk (show acc.Pairwise leS by rw[HA.out];exact sortS_sorted _);have HLL:=Aside0.mk (show acc.length≤4194304 by have:=HN.out.s6;have:=HN.out.s8;have:=HN.out.s10;rw[HA.out,sortS_len];simp only [List.length_append,List.length_take];omega);clear hkey c1 HA;replace p5:=eq_true p5;replace q5:=eq_true q5;have p6:i < 1048576:=by have:=HN.out.s6;have h_:=of_eq_true q5;omega
   go_wp2_with fail;obtain⟨K,hK⟩:=insS_ev HLL.out HSS.out key;refine(spec_l04Insert.calls K B d acc key _ _ (HS.out.at_C 0 rfl).2.2 (HS.out.at_C 0 rfl).2.1 (hK K (Nat.le_refl _))).mono ?_;rintro e w9 ⟨u,rfl,hr,hb⟩;have S:=(HS.out.tail).new_row rfl hb hr;clear hK hr hb HS hc6 hx0;have HS9:=Aside0.mk S;clear S;go_wp2_with fail;go_roundw
   case rel=>exact⟨i+1,_,by go_num,⟨by have h_:=of_eq_true q5;omega⟩,⟨HK.out⟩,⟨HS9.out⟩⟩
   case measure=>have h_:=of_eq_true q5;simp only [intOf];omega
  ·have c1b:decide ((i:Int) < (n.wk.length:Int))=false:=decide_eq_false (by omega)
   have c1c:decide (i < n.wk.length)=false:=decide_eq_false c1;replace HA:=Aside0.mk (show acc=sortS (n.wk) by rw[HA.out,List.take_of_length_le (by omega)]);clear c1 HI;go_wp2_with fail;clear c1b c1c hc6;go_loopw [3,5] (fun v3 v5 wr=>∃ (i:Nat) (acc:List ByteArray),v5=.int .i64 i∧Aside0 (i≤n.tk.length)∧Aside0 (acc=sortS (n.wk ++ n.tk.take i))∧Aside0 (St w wr [Part.row Kd.string 9 v3 acc,Part.blk w.heap.size 50 #[Value.slice A0 n.sl.length c0,Value.int .i64 n.fr,Value.slice A2 n.ce.length c2,Value.slice A3 n.old.length c3,Value.int .i64 n.mv,Value.int .i64 n.wm,Value.slice A6 n.wk.length c6,Value.int .i64 n.tm,Value.slice A8 n.tk.length c8,Value.int .i64 n.sm,Value.slice A10 n.sk.length c10,Value.slice A11 n.ct.length c11,Value.int .i64 n.ad,Value.int .i64 n.db]])) (fun _ v5 _=>n.tk.length - (intOf v5).toNat)
   case atStart=>exact⟨0,acc,rfl,⟨by omega⟩,⟨by rw[HA.out];simp⟩,⟨by exact HS.out⟩⟩
   case round =>
    clear HS HA;obtain⟨i,acc,rfl,HI,HA,HS⟩:=hrel;have hc8:=HS.out.at_cell 1 rfl 8 rfl;obtain⟨B,d,rfl⟩:=Kd.R_slice (HS.out.at_R 0 rfl)
    by_cases c1:i < n.tk.length
    ·have c1b:decide ((i:Int) < (n.tk.length:Int))=true:=decide_eq_true (by omega)
     have c1c:decide (i < n.tk.length)=true:=decide_eq_true c1;have p5:(0:Int)≤(i:Int):=by omega
     have q5:(i:Int) < (n.tk.length:Int):=by omega
     obtain⟨ad,e5,hx0⟩:=Kd.at_string (HF.out.below HS.out.below).h8 (i:Int) p5 q5;cases e5;rw[Int.toNat_natCast,rdS_at n.tk i c1] at hx0;obtain⟨key,hkey⟩:∃ y,y=n.tk[i]:=⟨_,rfl⟩;rw[← hkey] at hx0;have HK:=Aside0.mk (show sortS (key :: acc)=sortS (n.wk ++ n.tk.take (i+1)) by rw[HA.out,sort_cons,hkey,List.take_succ_eq_append_getElem c1];try simp);have HSS:=Aside0.mk (show acc.Pairwise leS by rw[HA.out];exact sortS_sorted _);have HLL:=Aside0.mk (show acc.length≤4194304 by have:=HN.out.s6;have:=HN.out.s8;have:=HN.out.s10;rw[HA.out,sortS_len];simp only [List.length_append,List.length_take];omega);clear hkey c1 HA;replace p5:=eq_true p5;replace q5:=eq_true q5;have p6:i < 1048576:=by have:=HN.out.s8;have h_:=of_eq_true q5;omega
     go_wp2_with fail;obtain⟨K,hK⟩:=insS_ev HLL.out HSS.out key;refine(spec_l04Insert.calls K B d acc key _ _ (HS.out.at_C 0 rfl).2.2 (HS.out.at_C 0 rfl).2.1 (hK K (Nat.le_refl _))).mono ?_;rintro e w9 ⟨u,rfl,hr,hb⟩;have S:=(HS.out.tail).new_row rfl hb hr;clear hK hr hb HS hc8 hx0;have HS9:=Aside0.mk S;clear S;go_wp2_with fail;go_roundw
     case rel=>exact⟨i+1,_,by go_num,⟨by have h_:=of_eq_true q5;omega⟩,⟨HK.out⟩,⟨HS9.out⟩⟩
     case measure=>have h_:=of_eq_true q5;simp only [intOf];omega
    ·have c1b:decide ((i:Int) < (n.tk.length:Int))=false:=decide_eq_false (by omega)
     have c1c:decide (i < n.tk.length)=false:=decide_eq_false c1;replace HA:=Aside0.mk (show acc=sortS (n.wk ++ n.tk) by rw[HA.out,List.take_of_length_le (by omega)]);clear c1 HI;go_wp2_with fail;clear c1b c1c hc8;go_loopw [3,6] (fun v3 v6 wr=>∃ (i:Nat) (acc:List ByteArray),v6=.int .i64 i∧Aside0 (i≤n.sk.length)∧Aside0 (acc=sortS (n.wk ++ n.tk ++ n.sk.take i))∧Aside0 (St w wr [Part.row Kd.string 9 v3 acc,Part.blk w.heap.size 50 #[Value.slice A0 n.sl.length c0,Value.int .i64 n.fr,Value.slice A2 n.ce.length c2,Value.slice A3 n.old.length c3,Value.int .i64 n.mv,Value.int .i64 n.wm,Value.slice A6 n.wk.length c6,Value.int .i64 n.tm,Value.slice A8 n.tk.length c8,Value.int .i64 n.sm,Value.slice A10 n.sk.length c10,Value.slice A11 n.ct.length c11,Value.int .i64 n.ad,Value.int .i64 n.db]])) (fun _ v6 _=>n.sk.length - (intOf v6).toNat)
     case atStart=>exact⟨0,acc,rfl,⟨by omega⟩,⟨by rw[HA.out];simp⟩,⟨by exact HS.out⟩⟩
     case round =>
      clear HS HA;obtain⟨i,acc,rfl,HI,HA,HS⟩:=hrel;have hc10:=HS.out.at_cell 1 rfl 10 rfl;obtain⟨B,d,rfl⟩:=Kd.R_slice (HS.out.at_R 0 rfl)
      by_cases c1:i < n.sk.length
      ·have c1b:decide ((i:Int) < (n.sk.length:Int))=true:=decide_eq_true (by omega)
       have c1c:decide (i < n.sk.length)=true:=decide_eq_true c1;have p5:(0:Int)≤(i:Int):=by omega
       have q5:(i:Int) < (n.sk.length:Int):=by omega
       obtain⟨ad,e5,hx0⟩:=Kd.at_string (HF.out.below HS.out.below).h10 (i:Int) p5 q5;cases e5;rw[Int.toNat_natCast,rdS_at n.sk i c1] at hx0;obtain⟨key,hkey⟩:∃ y,y=n.sk[i]:=⟨_,rfl⟩;rw[← hkey] at hx0;have HK:=Aside0.mk (show sortS (key :: acc)=sortS (n.wk ++ n.tk ++ n.sk.take (i+1)) by rw[HA.out,sort_cons,hkey,List.take_succ_eq_append_getElem c1];try simp);have HSS:=Aside0.mk (show acc.Pairwise leS by rw[HA.out];exact sortS_sorted _);have HLL:=Aside0.mk (show acc.length≤4194304 by have:=HN.out.s6;have:=HN.out.s8;have:=HN.out.s10;rw[HA.out,sortS_len];simp only [List.length_append,List.length_take];omega);clear hkey c1 HA;replace p5:=eq_true p5;replace q5:=eq_true q5;have p6:i < 1048576:=by have:=HN.out.s10;have h_:=of_eq_true q5;omega
       go_wp2_with fail;obtain⟨K,hK⟩:=insS_ev HLL.out HSS.out key;refine(spec_l04Insert.calls K B d acc key _ _ (HS.out.at_C 0 rfl).2.2 (HS.out.at_C 0 rfl).2.1 (hK K (Nat.le_refl _))).mono ?_;rintro e w9 ⟨u,rfl,hr,hb⟩;have S:=(HS.out.tail).new_row rfl hb hr;clear hK hr hb HS hc10 hx0;have HS9:=Aside0.mk S;clear S;go_wp2_with fail;go_roundw
       case rel=>exact⟨i+1,_,by go_num,⟨by have h_:=of_eq_true q5;omega⟩,⟨HK.out⟩,⟨HS9.out⟩⟩
       case measure=>have h_:=of_eq_true q5;simp only [intOf];omega
      ·have c1b:decide ((i:Int) < (n.sk.length:Int))=false:=decide_eq_false (by omega)
       have c1c:decide (i < n.sk.length)=false:=decide_eq_false c1;replace HA:=Aside0.mk (show acc=sortS (n.wk ++ n.tk ++ n.sk) by rw[HA.out,List.take_of_length_le (by omega)]);clear c1 HI;go_wp2_with fail;clear c1b c1c hc10;go_ret;exact⟨_,rfl,HA.out ▸ Kd.R_reok rfl (HS.out.at_R 0 rfl) (fun _ _=>trivial),HS.out.below⟩
theorem okQ_key {m:Int} {l:List ByteArray} (h:okQ m l) {key:ByteArray} (hk:key ∈ l):key.size ≠ 0∧key.size≤12:=by
 obtain⟨i,hi,rfl⟩:=List.getElem_of_mem hk;have:=(h.2.2.2 i (Nat.zero_le _) hi).1;unfold isK at this;omega
def linkH (n:Nr) (h:Int) (key:ByteArray):Prop:=∃ (k:Nat) (x:S94),n.sl[k]? = some x∧x.f1=true∧24 * x.f0+(k:Int)=h∧x.f2=key
theorem seekS_ex {n:Nr} (hn:n.small) (hP:PartsR n) (ho:n.old = []) (hR:∀ c ∈ n.ce,c.f1≤9223372036854775807) {key:ByteArray} (hk:key.size ≠ 0∧key.size≤12) :
  ∃ h b,Ev (fun k=>spec_SeekKey.f k n.ce n.old n.mv key) (h,b)∧h≤9223372036854775807∧∀ c ∈ n.ce,c.f0=key→h=c.f1:=by
 have ht:=hP.table;rw[ho] at ht;have he:=findS_ev (m:=n.mv) (key:=key) hn.s2 hn.k2 ht hk.1 (by omega);rw[ho]
 cases hs:TM.seek S151.f0 S151.f1 n.ce key (stOf key) with
 |none =>
  rw[hs] at he;refine⟨0,false,he,by omega,fun c hc e=>?_⟩;obtain⟨i,hi,rfl⟩:=List.getElem_of_mem hc;have:=((ht.cells i _ (List.getElem?_eq_getElem hi)).2 (by rw[e];exact hk.1)).2.2;rw[e,hs] at this;cases this
 |some i =>
  rw[hs] at he;replace he:Ev (fun k=>spec_SeekKey.f k n.ce [] n.mv key) ((rd_T151 n.ce (i:Int)).f1,true):=he;obtain⟨x,hx,hxk⟩:=TM.seekF_some S151.f0 S151.f1 hs;have hi:=(List.getElem?_eq_some_iff.1 hx).1;have hm:=List.mem_of_getElem? hx;have hr:rd_T151 n.ce (i:Int)=x:=by rw[rd_ce n.ce i hi];exact(List.getElem?_eq_some_iff.1 hx).2
  rw[hr] at he;exact⟨_,true,he,hR x hm,fun c hc e=>by rw[same_cell hP hc hm (by rw[e];exact hk.1) (by rw[hxk,e])]⟩
theorem lookS_ex {n:Nr} (hP:PartsR n) {h:Int} (hh:h≤9223372036854775807) (key:ByteArray):∃ k' v' b,Ev (fun k=>spec_Look.f k n.sl n.fr h) (k',v',b)∧(b=true∧k'=key ↔ linkH n h key):=by
 have he:=lookS_ev hP.arena hh
 cases hp:placeOf n.sl h with
 |none =>
  rw[hp] at he;exact⟨_,_,_,he,⟨fun ⟨h,_⟩=>(by cases h),fun ⟨k,x,hx,hu,e,_⟩=>by rw[(placeOf_some hP.arena).2 ⟨x,hx,hu,e⟩] at hp;cases hp⟩⟩
 |some i =>
  rw[hp] at he;obtain⟨x,hx,hu,e⟩:=(placeOf_some hP.arena).1 hp;simp only [rd_get hx] at he;refine⟨_,_,true,he,⟨fun ⟨_,h⟩=>⟨i,x,hx,hu,e,h⟩,fun ⟨k,y,hy,hu',e',hk⟩=>⟨rfl,?_⟩⟩⟩;have:=(placeOf_some hP.arena).2 ⟨y,hy,hu',e'⟩;rw[hp] at this;obtain rfl:=Option.some.inj this;rw[hx] at hy;obtain rfl:=Option.some.inj hy;exact hk
def goodAt (n:Nr) (j:Nat):Prop:=∃ key,(sortS (n.wk ++ n.tk ++ n.sk))[j]? = some key∧(sortS (keysC n.ce))[j]? = some key∧∀ c ∈ n.ce,c.f0=key→linkC n c
theorem good_iff {n:Nr} {j:Nat} {key key2 k':ByteArray} {h:Int} {b:Bool} (h1:(sortS (n.wk ++ n.tk ++ n.sk))[j]? = some key) (h2:(sortS (keysC n.ce))[j]? = some key2)
  (hh:∀ c ∈ n.ce,c.f0=key→h=c.f1) (hl:b=true∧k'=key ↔ linkH n h key):goodAt n j ↔ key=key2∧b=true∧k'=key:=by
 constructor
 ·rintro ⟨y,e1,e2,hg⟩
  obtain rfl:=Option.some.inj (h1.symm.trans e1);obtain rfl:=Option.some.inj (h2.symm.trans e2);obtain⟨c,hc,hck,_⟩:=(TM.mem_keysOf S151.f0).1 ((sortS_perm _).mem_iff.1 (List.mem_of_getElem? e2));obtain⟨k,x,hx,hu,e,hk⟩:=hg c hc hck;exact⟨rfl,hl.2 ⟨k,x,hx,hu,by rw[e,hh c hc hck],by rw[hk,hck]⟩⟩
 ·rintro ⟨rfl,hb⟩
  obtain⟨k,x,hx,hu,e,hk⟩:=hl.1 hb;exact⟨key,h1,h2,fun c hc hck=>⟨k,x,hx,hu,by rw[e,hh c hc hck],by rw[hk,hck]⟩⟩
theorem perm_of_sub {α:Type} [DecidableEq α]:∀ {l m:List α},l.Nodup→(∀ x ∈ l,x ∈ m)→m.length=l.length→m.Perm l
 |[],m,_,_,hl=>by rw[List.eq_nil_of_length_eq_zero hl]
 |a :: t,m,hd,hs,hl=>by
  have ha:=hs a (by simp);have hp:=List.perm_cons_erase ha;refine hp.trans ((perm_of_sub (List.nodup_cons.1 hd).2 (fun x hx=>?_) ?_).cons a)
  ·exact(List.mem_erase_of_ne (fun e=>(List.nodup_cons.1 hd).1 (by rw[← e];exact hx))).2 (hs x (by simp[hx]))
  ·rw[List.length_erase_of_mem ha,hl];rfl
theorem usedK_count (l:List S94):(usedK l).length=l.countP S94.f1:=by unfold usedK;rw[List.length_map,List.countP_eq_length_filter]
theorem near_of_good {n:Nr} (hP:PartsR n) (hS:ShapeR n) (hl:(sortS (n.wk ++ n.tk ++ n.sk)).length=(sortS (keysC n.ce)).length) (hu:n.sl.countP S94.f1=(sortS (keysC n.ce)).length)
  (h:∀ j,j < (sortS (keysC n.ce)).length→goodAt n j):NearR n:=by
 have he:sortS (n.wk ++ n.tk ++ n.sk)=sortS (keysC n.ce):=by
  refine List.ext_getElem? (fun j=>?_)
  by_cases hj:j < (sortS (keysC n.ce)).length
  ·obtain⟨key,h1,h2,_⟩:=h j hj
   rw[h1,h2]
  ·rw[List.getElem?_eq_none (by omega),List.getElem?_eq_none (by omega)]
 have hk:∀ c ∈ n.ce,c.f0.size ≠ 0→linkC n c:=fun c hc hz=>by
  have hm:c.f0 ∈ sortS (keysC n.ce):=(sortS_perm _).mem_iff.2 ((TM.mem_keysOf S151.f0).2 ⟨c,hc,rfl,hz⟩);obtain⟨j,hj,e⟩:=List.getElem_of_mem hm;obtain⟨key,_,h2,h3⟩:=h j hj;rw[List.getElem?_eq_getElem hj] at h2;exact h3 c hc (e.symm.trans (Option.some.inj h2))
 have ho:n.old = []:=List.eq_nil_of_length_eq_zero hS.old;refine⟨hP,hS,perm_of_sort he,?_,hk⟩;refine perm_of_sub (by have:=hP.table.once;rw[ho,List.append_nil] at this;exact this) (fun x hx=>?_) (by rw[usedK_count,hu,sortS_len]);obtain⟨c,hc,rfl,hz⟩:=(TM.mem_keysOf S151.f0).1 hx;obtain⟨k,y,hy,hu',_,e⟩:=hk c hc hz;unfold usedK;exact List.mem_map.2 ⟨y,List.mem_filter.2 ⟨List.mem_of_getElem? hy,hu'⟩,e⟩
theorem NearR.len {n:Nr} (h:NearR n):(sortS (n.wk ++ n.tk ++ n.sk)).length=(sortS (keysC n.ce)).length:=by rw[sortS_congr h.queued]
theorem NearR.count {n:Nr} (h:NearR n):n.sl.countP S94.f1=(sortS (keysC n.ce)).length:=by rw[← usedK_count,h.laid.length_eq,sortS_len]
theorem NearR.good {n:Nr} (h:NearR n) {j:Nat} (hj:j < (sortS (keysC n.ce)).length):goodAt n j:=by
 have he:=List.getElem?_eq_getElem hj;refine⟨_,by rw[sortS_congr h.queued,he],he,fun c hc e=>h.linked c hc ?_⟩;obtain⟨_,_,_,hz⟩:=(TM.mem_keysOf S151.f0).1 ((sortS_perm _).mem_iff.1 (List.getElem_mem hj));rw[e];exact hz
end Go.Proofs.YtediiolcoilepaaGreat.Nb
