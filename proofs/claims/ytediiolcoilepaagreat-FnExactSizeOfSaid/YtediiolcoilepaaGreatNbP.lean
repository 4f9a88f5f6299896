/- Parts of the proof: walks of callees, plain laws about what they compute. -/
import Derived.Test.YtediiolcoilepaaGreatNbL
import Derived.BigRegion
namespace Go.Proofs.YtediiolcoilepaaGreat.Nb
open Go.RowKit Go.Proofs.YtediiolcoilepaaGreat.GNear Go.Proofs.YtediiolcoilepaaGreatW.PrintWords Go.Proofs.YtediiolcoilepaaGreatW.PrintLast Go.Proofs.YtediiolcoilepaaGreatW.PrintMore
attribute [local go_sem] max2_int min2_int max_two min_two max_three min_three max_four min_four
set_option linter.unusedVariables false
set_option linter.unusedSimpArgs false
open Classical in
noncomputable def sizeN (n:Nr):Int:=if NearR n then ((keysC n.ce).length:Int) else 0
theorem sizeN_no {n:Nr} (h:¬ NearR n):sizeN n=0:=if_neg h
theorem sizeN_yes {n:Nr} (h:NearR n):sizeN n=((keysC n.ce).length:Int):=if_pos h
set_option maxHeartbeats 4000000 in
set_option maxRecDepth 100000 in
theorem sizeOfS (w:World) (v:NV) (n:Nr) (hn:n.small) (hR:∀ c ∈ n.ce,c.f1≤9223372036854775807) (hC:NearC w v n) :
  Calls Tryz.prog 17 #[.agg (v.cells n)] w fun e w'=>e=.returned (.int .i64 (sizeN n))∧Below w.heap.size w w':=by
 have hP:=fun w1 hb=>nearOkS w1 v n hn hR (hC.below (w':=w1) hb)
 have hH:=fun w1 hb=>l08KeysS w1 v n hn (hC.below (w':=w1) hb)
 obtain⟨A0,c0,A2,c2,A3,c3,A6,c6,A8,c8,A10,c10,A11,c11,rfl,hF⟩:=hC.open_;have HF:=Aside0.mk hF
 clear hC hF;dsimp only [NV.cells] at *
 have HP:=Aside0.mk hP
 have HH:=Aside0.mk hH
 clear hP hH;have HS:=Aside0.mk (St.start w)
 have HN:=Aside0.mk hn
 clear hn;obtain⟨z,hz⟩:∃ z,z=sizeN n:=⟨_,rfl⟩
 rw[← hz]
 have HZ:=Aside0.mk hz
 clear hz;go_enter Tryz.func17,Tryz.ntmps17
 go_wp2_with fail
 have S:=HS.out.alloc #[Value.slice A0 n.sl.length c0,Value.int .i64 n.fr,Value.slice A2 n.ce.length c2,Value.slice A3 n.old.length c3,Value.int .i64 n.mv,Value.int .i64 n.wm,Value.slice A6 n.wk.length c6,Value.int .i64 n.tm,Value.slice A8 n.tk.length c8,Value.int .i64 n.sm,Value.slice A10 n.sk.length c10,Value.slice A11 n.ct.length c11,Value.int .i64 n.ad,Value.int .i64 n.db] 50
 clear HS;refine(HP.out _ S.below).mono ?_
 rintro e w1 ⟨b0,rfl,hq,hb⟩
 have S:=S.step hb
 clear hb HP;have HS:=Aside0.mk S
 have hc0:=S.at_cell 0 rfl 0 rfl
 have hc1:=S.at_cell 0 rfl 1 rfl
 have hc2:=S.at_cell 0 rfl 2 rfl
 have hc3:=S.at_cell 0 rfl 3 rfl
 have hc4:=S.at_cell 0 rfl 4 rfl
 have hc5:=S.at_cell 0 rfl 5 rfl
 have hc6:=S.at_cell 0 rfl 6 rfl
 have hc7:=S.at_cell 0 rfl 7 rfl
 have hc8:=S.at_cell 0 rfl 8 rfl
 have hc9:=S.at_cell 0 rfl 9 rfl
 have hc10:=S.at_cell 0 rfl 10 rfl
 have hc11:=S.at_cell 0 rfl 11 rfl
 have hc12:=S.at_cell 0 rfl 12 rfl
 have hc13:=S.at_cell 0 rfl 13 rfl
 clear S;have HQ:=Aside0.mk hq
 clear hq;cases b0 with
 |false =>
  obtain rfl:z=0:=by rw[HZ.out,sizeN_no (fun h=>absurd (HQ.out.2 h) (by simp))]
  go_wp2_with fail
  go_ret
  exact⟨rfl,HS.out.below⟩
 |true =>
 have HR:=Aside0.mk (HQ.out.1 (by simp))
 clear HQ;go_wp2_with fail
 refine(HH.out _ HS.out.below).mono ?_
 rintro e w2 ⟨u,rfl,hr,hb⟩
 have hbl:=HS.out.step hb
 obtain⟨B0,d0,rfl⟩:=Kd.R_slice hr;obtain⟨q1,hq1⟩:∃ q,q=sortS (n.wk ++ n.tk ++ n.sk):=⟨_,rfl⟩
 rw[← hq1]
 obtain rfl:z=(q1.length:Int):=by rw[HZ.out,sizeN_yes HR.out,hq1,HR.out.len,sortS_len]
 have HL:=Aside0.mk hbl
 clear hbl hq1 hr hb HS HZ;go_wp2_with fail
 go_ret
 exact⟨rfl,HL.out.below⟩
set_option maxHeartbeats 4000000 in
set_option maxRecDepth 100000 in
theorem sizeOfI (w:World) (v:NV) (n:Nr) (hn:n.small) (hC:NearC w v n) :
  Calls Tryz.prog 18 #[.agg (v.cells n)] w fun e w'=>e=.returned (.int .i64 (sizeN n))∧Below w.heap.size w w':=by
 have hP:=fun w1 hb=>nearOkI w1 v n hn (hC.below (w':=w1) hb)
 obtain⟨A0,c0,A2,c2,A3,c3,A6,c6,A8,c8,A10,c10,A11,c11,rfl,hF⟩:=hC.open_;have HF:=Aside0.mk hF
 clear hC hF;dsimp only [NV.cells] at *
 have HP:=Aside0.mk hP
 clear hP;have HS:=Aside0.mk (St.start w)
 have HN:=Aside0.mk hn
 clear hn;obtain⟨z,hz⟩:∃ z,z=sizeN n:=⟨_,rfl⟩
 rw[← hz]
 have HZ:=Aside0.mk hz
 clear hz;go_enter Tryz.func18,Tryz.ntmps18
 go_wp2_with fail
 have S:=HS.out.alloc #[Value.slice A0 n.sl.length c0,Value.int .i64 n.fr,Value.slice A2 n.ce.length c2,Value.slice A3 n.old.length c3,Value.int .i64 n.mv,Value.int .i64 n.wm,Value.slice A6 n.wk.length c6,Value.int .i64 n.tm,Value.slice A8 n.tk.length c8,Value.int .i64 n.sm,Value.slice A10 n.sk.length c10,Value.slice A11 n.ct.length c11,Value.int .i64 n.ad,Value.int .i64 n.db] 50
 clear HS;refine(HP.out _ S.below).mono ?_
 rintro e w1 ⟨b0,rfl,hq,hb⟩
 have S:=S.step hb
 clear hb HP;have HS:=Aside0.mk S
 have hc0:=S.at_cell 0 rfl 0 rfl
 have hc1:=S.at_cell 0 rfl 1 rfl
 have hc2:=S.at_cell 0 rfl 2 rfl
 have hc3:=S.at_cell 0 rfl 3 rfl
 have hc4:=S.at_cell 0 rfl 4 rfl
 have hc5:=S.at_cell 0 rfl 5 rfl
 have hc6:=S.at_cell 0 rfl 6 rfl
 have hc7:=S.at_cell 0 rfl 7 rfl
 have hc8:=S.at_cell 0 rfl 8 rfl
 have hc9:=S.at_cell 0 rfl 9 rfl
 have hc10:=S.at_cell 0 rfl 10 rfl
 have hc11:=S.at_cell 0 rfl 11 rfl
 have hc12:=S.at_cell 0 rfl 12 rfl
 have hc13:=S.at_cell 0 rfl 13 rfl
 clear S;have HQ:=Aside0.mk hq
 clear hq;cases b0 with
 |false =>
  obtain rfl:z=0:=by rw[HZ.out,sizeN_no (fun h=>absurd (HQ.out.2 h) (by simp))]
  go_wp2_with fail
  go_ret
  exact⟨rfl,HS.out.below⟩
 |true =>
 have HR:=Aside0.mk (HQ.out.1 (by simp))
 clear HQ;go_wp2_with fail
 obtain⟨K,hK⟩:=usedI_ev n.sl n.fr HN.out.s0;have hz:((n.sl.countP S94.f1:Nat):Int)=z:=by rw[HZ.out,sizeN_yes HR.out,HR.out.count,sortS_len]
 rw[hz] at hK;have hbb:=HS.out.below;refine(impl_Arena_used.calls K A0 c0 n.sl n.fr z _ (HF.out.below hbb).h0 HF.out.l0 (hK K (Nat.le_refl _))).mono ?_
 rintro e w7 ⟨rfl,hb⟩
 have HL:=Aside0.mk (HS.out.step hb)
 clear hK hb hbb hz HS HZ;go_wp2_with fail
 go_ret
 exact⟨rfl,HL.out.below⟩
set_option maxHeartbeats 4000000 in
set_option maxRecDepth 100000 in
theorem sizeOfLaw (w:World) (v:NV) (n:Lr) (hn:n.ok) (hC:LrC w v n) :
  Calls Tryz.prog 4 #[.agg (v.cellsL n)] w fun e w'=>e=.returned (.bool true)∧Below w.heap.size w w':=by
 have hZ:=fun w1 hb=>szNearS w1 v n hn (hC.below (w':=w1) hb)
 obtain⟨m,hm⟩:∃ m,m=n.to:=⟨_,rfl⟩
 have hT:=fun w1 hb (hf:n.few)=>toNearS w1 v n hf (hC.below (w':=w1) hb)
 rw[← hm] at hT;have HM:=Aside0.mk hm
 clear hm;obtain⟨A0,c0,A2,c2,A3,c3,A6,c6,A8,c8,A10,c10,A11,c11,rfl,hF⟩:=hC.open_;have HF:=Aside0.mk hF
 clear hC hF;dsimp only [NV.cellsL] at *
 have HZ:=Aside0.mk hZ
 have HT:=Aside0.mk hT
 clear hZ hT;have HS:=Aside0.mk (St.start w)
 have HN:=Aside0.mk hn
 clear hn;go_enter Tryz.func4,Tryz.ntmps4
 go_wp2_with fail
 have S:=HS.out.alloc #[Value.slice A0 n.sl.length c0,Value.int .i64 n.fr,Value.slice A2 n.ce.length c2,Value.slice A3 n.old.length c3,Value.int .i64 n.mv,Value.int .i64 n.wm,Value.slice A6 n.wk.length c6,Value.int .i64 n.tm,Value.slice A8 n.tk.length c8,Value.int .i64 n.sm,Value.slice A10 n.sk.length c10,Value.slice A11 n.ct.length c11,Value.int .i64 n.ad,Value.int .i64 n.db] 37
 clear HS;refine(HZ.out _ S.below).mono ?_
 rintro e w1 ⟨r,rfl,hq,hb⟩
 have S:=S.step hb
 clear hb HZ;have HS:=Aside0.mk S
 have hc0:=S.at_cell 0 rfl 0 rfl
 have hc1:=S.at_cell 0 rfl 1 rfl
 have hc2:=S.at_cell 0 rfl 2 rfl
 have hc3:=S.at_cell 0 rfl 3 rfl
 have hc4:=S.at_cell 0 rfl 4 rfl
 have hc5:=S.at_cell 0 rfl 5 rfl
 have hc6:=S.at_cell 0 rfl 6 rfl
 have hc7:=S.at_cell 0 rfl 7 rfl
 have hc8:=S.at_cell 0 rfl 8 rfl
 have hc9:=S.at_cell 0 rfl 9 rfl
 have hc10:=S.at_cell 0 rfl 10 rfl
 have hc11:=S.at_cell 0 rfl 11 rfl
 have hc12:=S.at_cell 0 rfl 12 rfl
 have hc13:=S.at_cell 0 rfl 13 rfl
 have HG:=S.at_lt 0 rfl
 clear S HG;have HQ:=Aside0.mk hq
 clear hq;by_cases hr:r < 0
 case pos =>
  have h1:decide (r < 0)=true:=decide_eq_true hr
  go_wp2_with fail
  go_ret
  exact⟨rfl,HS.out.below⟩
 have h1:decide (r < 0)=false:=decide_eq_false hr
 have HW:=Aside0.mk (HQ.out (by omega))
 have HMS:=Aside0.mk (show m.small by rw[HM.out];exact HW.out.small)
 have HMR:=Aside0.mk (show ∀ c ∈ m.ce,c.f1≤9223372036854775807 by rw[HM.out];exact HN.out.high)
 clear HQ;go_wp2_with fail
 clear h1 hr;obtain⟨g1,hg1⟩:∃ g,g=w.heap.size:=⟨_,rfl⟩
 rw[← hg1] at HS ⊢
 clear hg1 hc0 hc1 hc2 hc3 hc4 hc5 hc6 hc7 hc8 hc9 hc10 hc11 hc12 hc13;refine(HT.out _ HS.out.below HW.out).mono ?_
 rintro e w2 ⟨u,rfl,st⟩
 have S:=HS.out.step st.below
 have HU:=Aside0.mk (NearC.of_St st (fun p hp=>hp))
 clear HS st;have HS:=Aside0.mk S
 clear S;go_wp2_with fail
 obtain⟨z,hz⟩:∃ z,z=sizeN m:=⟨_,rfl⟩
 have HZZ:=Aside0.mk hz
 clear hz;refine(sizeOfS _ u m HMS.out HMR.out HU.out).mono ?_
 rintro e w3 ⟨rfl,hb⟩
 rw[← HZZ.out]
 have S:=HS.out.step hb
 clear HS hb HU;have HS:=Aside0.mk S
 have hc0:=S.at_cell 0 rfl 0 rfl
 have hc1:=S.at_cell 0 rfl 1 rfl
 have hc2:=S.at_cell 0 rfl 2 rfl
 have hc3:=S.at_cell 0 rfl 3 rfl
 have hc4:=S.at_cell 0 rfl 4 rfl
 have hc5:=S.at_cell 0 rfl 5 rfl
 have hc6:=S.at_cell 0 rfl 6 rfl
 have hc7:=S.at_cell 0 rfl 7 rfl
 have hc8:=S.at_cell 0 rfl 8 rfl
 have hc9:=S.at_cell 0 rfl 9 rfl
 have hc10:=S.at_cell 0 rfl 10 rfl
 have hc11:=S.at_cell 0 rfl 11 rfl
 have hc12:=S.at_cell 0 rfl 12 rfl
 have hc13:=S.at_cell 0 rfl 13 rfl
 clear S;go_wp2_with fail
 clear hc0 hc1 hc2 hc3 hc4 hc5 hc6 hc7 hc8 hc9 hc10 hc11 hc12 hc13;refine(HT.out _ HS.out.below HW.out).mono ?_
 rintro e w4 ⟨u2,rfl,st⟩
 have S:=HS.out.join st
 clear HS st;obtain⟨B0,d0,B2,d2,B3,d3,B6,d6,B8,d8,B10,d10,B11,d11,rfl⟩:=NV.shape S;dsimp only [NV.cells]
 have HS:=Aside0.mk S
 clear S;go_wp2_with (((with_reducible refine gate_dst (N:=5) rfl ?_);refine box_event ?hg (N:=5) ?hd (cs:=#[Value.slice none 0 0,Value.int .i64 0,Value.slice none 0 0,Value.slice none 0 0,Value.int .i64 0,Value.int .i64 0,Value.slice none 0 0,Value.int .i64 0,Value.slice none 0 0,Value.int .i64 0,Value.slice none 0 0,Value.slice none 0 0,Value.int .i64 0,Value.int .i64 0]) (t:=50) ?hr ?_;(case hd=>rfl);(case hg=>rfl);(case hr=>first|(go_simp;done)|(go_simp;rfl));intro g5 hg w5 hbox hb;have S:=HS.out.new_blk hb (Nat.le_of_eq hg.symm) hbox;clear hb hbox hg;have HS5:=Aside0.mk S;have hz0:=S.at_cell 0 rfl 0 rfl;have hf0:=S.at_frozen 0 rfl 0;have hz1:=S.at_cell 0 rfl 1 rfl;have hf1:=S.at_frozen 0 rfl 1;have hz2:=S.at_cell 0 rfl 2 rfl;have hf2:=S.at_frozen 0 rfl 2;have hz3:=S.at_cell 0 rfl 3 rfl;have hf3:=S.at_frozen 0 rfl 3;have hz4:=S.at_cell 0 rfl 4 rfl;have hf4:=S.at_frozen 0 rfl 4;have hz5:=S.at_cell 0 rfl 5 rfl;have hf5:=S.at_frozen 0 rfl 5;have hz6:=S.at_cell 0 rfl 6 rfl;have hf6:=S.at_frozen 0 rfl 6;have hz7:=S.at_cell 0 rfl 7 rfl;have hf7:=S.at_frozen 0 rfl 7;have hz8:=S.at_cell 0 rfl 8 rfl;have hf8:=S.at_frozen 0 rfl 8;have hz9:=S.at_cell 0 rfl 9 rfl;have hf9:=S.at_frozen 0 rfl 9;have hz10:=S.at_cell 0 rfl 10 rfl;have hf10:=S.at_frozen 0 rfl 10;have hz11:=S.at_cell 0 rfl 11 rfl;have hf11:=S.at_frozen 0 rfl 11;have hz12:=S.at_cell 0 rfl 12 rfl;have hf12:=S.at_frozen 0 rfl 12;have hz13:=S.at_cell 0 rfl 13 rfl;have hf13:=S.at_frozen 0 rfl 13;clear S))
 have S:=HS5.out;clear HS5 HS hz0 hf0 hz1 hf1 hz2 hf2 hz3 hf3 hz4 hf4 hz5 hf5 hz6 hf6 hz7 hf7 hz8 hf8 hz9 hf9 hz10 hf10 hz11 hf11 hz12 hf12 hz13 hf13;have S:=S.put (cs':=#[Value.slice B0 m.sl.length d0,Value.int .i64 0,Value.slice none 0 0,Value.slice none 0 0,Value.int .i64 0,Value.int .i64 0,Value.slice none 0 0,Value.int .i64 0,Value.slice none 0 0,Value.int .i64 0,Value.slice none 0 0,Value.slice none 0 0,Value.int .i64 0,Value.int .i64 0]) 0 (Value.slice B0 m.sl.length d0) rfl
 have S:=S.put (cs':=#[Value.slice B0 m.sl.length d0,Value.int .i64 m.fr,Value.slice none 0 0,Value.slice none 0 0,Value.int .i64 0,Value.int .i64 0,Value.slice none 0 0,Value.int .i64 0,Value.slice none 0 0,Value.int .i64 0,Value.slice none 0 0,Value.slice none 0 0,Value.int .i64 0,Value.int .i64 0]) 1 (Value.int .i64 m.fr) rfl
 have S:=S.put (cs':=#[Value.slice B0 m.sl.length d0,Value.int .i64 m.fr,Value.slice B2 m.ce.length d2,Value.slice none 0 0,Value.int .i64 0,Value.int .i64 0,Value.slice none 0 0,Value.int .i64 0,Value.slice none 0 0,Value.int .i64 0,Value.slice none 0 0,Value.slice none 0 0,Value.int .i64 0,Value.int .i64 0]) 2 (Value.slice B2 m.ce.length d2) rfl
 have S:=S.put (cs':=#[Value.slice B0 m.sl.length d0,Value.int .i64 m.fr,Value.slice B2 m.ce.length d2,Value.slice B3 m.old.length d3,Value.int .i64 0,Value.int .i64 0,Value.slice none 0 0,Value.int .i64 0,Value.slice none 0 0,Value.int .i64 0,Value.slice none 0 0,Value.slice none 0 0,Value.int .i64 0,Value.int .i64 0]) 3 (Value.slice B3 m.old.length d3) rfl
 have S:=S.put (cs':=#[Value.slice B0 m.sl.length d0,Value.int .i64 m.fr,Value.slice B2 m.ce.length d2,Value.slice B3 m.old.length d3,Value.int .i64 m.mv,Value.int .i64 0,Value.slice none 0 0,Value.int .i64 0,Value.slice none 0 0,Value.int .i64 0,Value.slice none 0 0,Value.slice none 0 0,Value.int .i64 0,Value.int .i64 0]) 4 (Value.int .i64 m.mv) rfl
 have S:=S.put (cs':=#[Value.slice B0 m.sl.length d0,Value.int .i64 m.fr,Value.slice B2 m.ce.length d2,Value.slice B3 m.old.length d3,Value.int .i64 m.mv,Value.int .i64 m.wm,Value.slice none 0 0,Value.int .i64 0,Value.slice none 0 0,Value.int .i64 0,Value.slice none 0 0,Value.slice none 0 0,Value.int .i64 0,Value.int .i64 0]) 5 (Value.int .i64 m.wm) rfl
 have S:=S.put (cs':=#[Value.slice B0 m.sl.length d0,Value.int .i64 m.fr,Value.slice B2 m.ce.length d2,Value.slice B3 m.old.length d3,Value.int .i64 m.mv,Value.int .i64 m.wm,Value.slice B6 m.wk.length d6,Value.int .i64 0,Value.slice none 0 0,Value.int .i64 0,Value.slice none 0 0,Value.slice none 0 0,Value.int .i64 0,Value.int .i64 0]) 6 (Value.slice B6 m.wk.length d6) rfl
 have S:=S.put (cs':=#[Value.slice B0 m.sl.length d0,Value.int .i64 m.fr,Value.slice B2 m.ce.length d2,Value.slice B3 m.old.length d3,Value.int .i64 m.mv,Value.int .i64 m.wm,Value.slice B6 m.wk.length d6,Value.int .i64 m.tm,Value.slice none 0 0,Value.int .i64 0,Value.slice none 0 0,Value.slice none 0 0,Value.int .i64 0,Value.int .i64 0]) 7 (Value.int .i64 m.tm) rfl
 have S:=S.put (cs':=#[Value.slice B0 m.sl.length d0,Value.int .i64 m.fr,Value.slice B2 m.ce.length d2,Value.slice B3 m.old.length d3,Value.int .i64 m.mv,Value.int .i64 m.wm,Value.slice B6 m.wk.length d6,Value.int .i64 m.tm,Value.slice B8 m.tk.length d8,Value.int .i64 0,Value.slice none 0 0,Value.slice none 0 0,Value.int .i64 0,Value.int .i64 0]) 8 (Value.slice B8 m.tk.length d8) rfl
 have S:=S.put (cs':=#[Value.slice B0 m.sl.length d0,Value.int .i64 m.fr,Value.slice B2 m.ce.length d2,Value.slice B3 m.old.length d3,Value.int .i64 m.mv,Value.int .i64 m.wm,Value.slice B6 m.wk.length d6,Value.int .i64 m.tm,Value.slice B8 m.tk.length d8,Value.int .i64 m.sm,Value.slice none 0 0,Value.slice none 0 0,Value.int .i64 0,Value.int .i64 0]) 9 (Value.int .i64 m.sm) rfl
 have S:=S.put (cs':=#[Value.slice B0 m.sl.length d0,Value.int .i64 m.fr,Value.slice B2 m.ce.length d2,Value.slice B3 m.old.length d3,Value.int .i64 m.mv,Value.int .i64 m.wm,Value.slice B6 m.wk.length d6,Value.int .i64 m.tm,Value.slice B8 m.tk.length d8,Value.int .i64 m.sm,Value.slice B10 m.sk.length d10,Value.slice none 0 0,Value.int .i64 0,Value.int .i64 0]) 10 (Value.slice B10 m.sk.length d10) rfl
 have S:=S.put (cs':=#[Value.slice B0 m.sl.length d0,Value.int .i64 m.fr,Value.slice B2 m.ce.length d2,Value.slice B3 m.old.length d3,Value.int .i64 m.mv,Value.int .i64 m.wm,Value.slice B6 m.wk.length d6,Value.int .i64 m.tm,Value.slice B8 m.tk.length d8,Value.int .i64 m.sm,Value.slice B10 m.sk.length d10,Value.slice B11 m.ct.length d11,Value.int .i64 0,Value.int .i64 0]) 11 (Value.slice B11 m.ct.length d11) rfl
 have S:=S.put (cs':=#[Value.slice B0 m.sl.length d0,Value.int .i64 m.fr,Value.slice B2 m.ce.length d2,Value.slice B3 m.old.length d3,Value.int .i64 m.mv,Value.int .i64 m.wm,Value.slice B6 m.wk.length d6,Value.int .i64 m.tm,Value.slice B8 m.tk.length d8,Value.int .i64 m.sm,Value.slice B10 m.sk.length d10,Value.slice B11 m.ct.length d11,Value.int .i64 m.ad,Value.int .i64 0]) 12 (Value.int .i64 m.ad) rfl
 have S:=S.put (cs':=#[Value.slice B0 m.sl.length d0,Value.int .i64 m.fr,Value.slice B2 m.ce.length d2,Value.slice B3 m.old.length d3,Value.int .i64 m.mv,Value.int .i64 m.wm,Value.slice B6 m.wk.length d6,Value.int .i64 m.tm,Value.slice B8 m.tk.length d8,Value.int .i64 m.sm,Value.slice B10 m.sk.length d10,Value.slice B11 m.ct.length d11,Value.int .i64 m.ad,Value.int .i64 m.db]) 13 (Value.int .i64 m.db) rfl
 have HV:=Aside0.mk (NearC.of_St (v:=(⟨.slice B0 m.sl.length d0,.slice B2 m.ce.length d2,.slice B3 m.old.length d3,.slice B6 m.wk.length d6,.slice B8 m.tk.length d8,.slice B10 m.sk.length d10,.slice B11 m.ct.length d11⟩:NV)) (n:=m) S (fun p hp=>List.mem_cons_of_mem _ (List.mem_append_left _ hp)))
 refine(sizeOfI _ (⟨.slice B0 m.sl.length d0,.slice B2 m.ce.length d2,.slice B3 m.old.length d3,.slice B6 m.wk.length d6,.slice B8 m.tk.length d8,.slice B10 m.sk.length d10,.slice B11 m.ct.length d11⟩:NV) m HMS.out HV.out).mono ?_
 rintro e w6 ⟨rfl,hb⟩
 rw[← HZZ.out]
 have S:=S.step hb
 clear hb HV;have HS:=Aside0.mk S
 clear S;go_wp2_with fail
 refine start_ (n:=5) (S:=fun w'=>w'.cell? ⟨g5,0,none⟩=some (.slice B0 m.sl.length d0)∧w'.cell? ⟨g5,1,none⟩=some (.int .i64 m.fr)∧w'.cell? ⟨g5,2,none⟩=some (.slice B2 m.ce.length d2)∧w'.cell? ⟨g5,3,none⟩=some (.slice B3 m.old.length d3)∧w'.cell? ⟨g5,4,none⟩=some (.int .i64 m.mv)∧w'.cell? ⟨g5,5,none⟩=some (.int .i64 m.wm)∧w'.cell? ⟨g5,6,none⟩=some (.slice B6 m.wk.length d6)∧w'.cell? ⟨g5,7,none⟩=some (.int .i64 m.tm)∧w'.cell? ⟨g5,8,none⟩=some (.slice B8 m.tk.length d8)∧w'.cell? ⟨g5,9,none⟩=some (.int .i64 m.sm)∧w'.cell? ⟨g5,10,none⟩=some (.slice B10 m.sk.length d10)∧w'.cell? ⟨g5,11,none⟩=some (.slice B11 m.ct.length d11)∧w'.cell? ⟨g5,12,none⟩=some (.int .i64 m.ad)∧w'.cell? ⟨g5,13,none⟩=some (.int .i64 m.db)∧w'.cell? ⟨g1,0,none⟩=some (.slice A0 n.sl.length c0)∧w'.cell? ⟨g1,1,none⟩=some (.int .i64 n.fr)∧w'.cell? ⟨g1,2,none⟩=some (.slice A2 n.ce.length c2)∧w'.cell? ⟨g1,3,none⟩=some (.slice A3 n.old.length c3)∧w'.cell? ⟨g1,4,none⟩=some (.int .i64 n.mv)∧w'.cell? ⟨g1,5,none⟩=some (.int .i64 n.wm)∧w'.cell? ⟨g1,6,none⟩=some (.slice A6 n.wk.length c6)∧w'.cell? ⟨g1,7,none⟩=some (.int .i64 n.tm)∧w'.cell? ⟨g1,8,none⟩=some (.slice A8 n.tk.length c8)∧w'.cell? ⟨g1,9,none⟩=some (.int .i64 n.sm)∧w'.cell? ⟨g1,10,none⟩=some (.slice A10 n.sk.length c10)∧w'.cell? ⟨g1,11,none⟩=some (.slice A11 n.ct.length c11)∧w'.cell? ⟨g1,12,none⟩=some (.int .i64 n.ad)∧w'.cell? ⟨g1,13,none⟩=some (.int .i64 n.db)) (ds:=[]) #[false,false,false,false,false] (by kernel_rfl) rfl rfl ⟨HS.out.at_cell 0 rfl 0 rfl,HS.out.at_cell 0 rfl 1 rfl,HS.out.at_cell 0 rfl 2 rfl,HS.out.at_cell 0 rfl 3 rfl,HS.out.at_cell 0 rfl 4 rfl,HS.out.at_cell 0 rfl 5 rfl,HS.out.at_cell 0 rfl 6 rfl,HS.out.at_cell 0 rfl 7 rfl,HS.out.at_cell 0 rfl 8 rfl,HS.out.at_cell 0 rfl 9 rfl,HS.out.at_cell 0 rfl 10 rfl,HS.out.at_cell 0 rfl 11 rfl,HS.out.at_cell 0 rfl 12 rfl,HS.out.at_cell 0 rfl 13 rfl,HS.out.at_cell 8 rfl 0 rfl,HS.out.at_cell 8 rfl 1 rfl,HS.out.at_cell 8 rfl 2 rfl,HS.out.at_cell 8 rfl 3 rfl,HS.out.at_cell 8 rfl 4 rfl,HS.out.at_cell 8 rfl 5 rfl,HS.out.at_cell 8 rfl 6 rfl,HS.out.at_cell 8 rfl 7 rfl,HS.out.at_cell 8 rfl 8 rfl,HS.out.at_cell 8 rfl 9 rfl,HS.out.at_cell 8 rfl 10 rfl,HS.out.at_cell 8 rfl 11 rfl,HS.out.at_cell 8 rfl 12 rfl,HS.out.at_cell 8 rfl 13 rfl⟩ (fun hHeld=>?_)
 have HS:=Aside0.mk HS.out.drew
 generalize w6.drew=w7 at HS hHeld ⊢
 refine take_ (i:=0) (N:=some 22) (v:=?_) (a':=?_) #[true,false,false,false,false] rfl rfl (by kernel_rfl) (fun _ _ _ h=>h) (Or.inl ⟨by rfl,?_⟩) hHeld ?_ ?_
 rotate_left
 ·rintro w' ⟨s0,s1,s2,s3,s4,s5,s6,s7,s8,s9,s10,s11,s12,s13,s14,s15,s16,s17,s18,s19,s20,s21,s22,s23,s24,s25,s26,s27⟩
  go_simp
  with_reducible rfl
 rotate_left
 ·simp only [Act.put,List.setIfInBounds_toArray,List.set_cons_zero,List.set_cons_succ,i64_w,i32_w]
  rfl
 refine take_ (i:=1) (N:=some 23) (v:=?_) (a':=?_) #[true,true,false,false,false] rfl rfl (by kernel_rfl) (fun _ _ _ h=>h) (Or.inl ⟨by rfl,?_⟩) hHeld ?_ ?_
 rotate_left
 ·rintro w' ⟨s0,s1,s2,s3,s4,s5,s6,s7,s8,s9,s10,s11,s12,s13,s14,s15,s16,s17,s18,s19,s20,s21,s22,s23,s24,s25,s26,s27⟩
  go_simp
  with_reducible rfl
 rotate_left
 ·simp only [Act.put,List.setIfInBounds_toArray,List.set_cons_zero,List.set_cons_succ,i64_w,i32_w]
  rfl
 refine one_ (i:=2) (N:=some 24) #[true,true,true,false,false] rfl rfl (by kernel_rfl) (by decide) (fun K hK=>?_)
 refine goes_ Tryz.func14 (by kernel_rfl) rfl #[.agg #[Value.slice A0 n.sl.length c0,Value.int .i64 n.fr,Value.slice A2 n.ce.length c2,Value.slice A3 n.old.length c3,Value.int .i64 n.mv,Value.int .i64 n.wm,Value.slice A6 n.wk.length c6,Value.int .i64 n.tm,Value.slice A8 n.tk.length c8,Value.int .i64 n.sm,Value.slice A10 n.sk.length c10,Value.slice A11 n.ct.length c11,Value.int .i64 n.ad,Value.int .i64 n.db]] (by rfl) rfl rfl (by(try simp only [List.map_toArray,List.map_cons,List.map_nil]);first|done|rfl|(simp only [List.length_drop,List.length_take];rfl)) ?_
 refine(HT.out _ HS.out.below HW.out).mono ?_
 rintro e w8 ⟨u3,rfl,st⟩
 refine⟨_,rfl,?_⟩
 have HU:=Aside0.mk (NearC.of_St st (fun p hp=>hp))
 have HS:=Aside0.mk (HS.out.step st.below)
 clear st;refine hK.out _ _ ⟨HS.out.at_cell 0 rfl 0 rfl,HS.out.at_cell 0 rfl 1 rfl,HS.out.at_cell 0 rfl 2 rfl,HS.out.at_cell 0 rfl 3 rfl,HS.out.at_cell 0 rfl 4 rfl,HS.out.at_cell 0 rfl 5 rfl,HS.out.at_cell 0 rfl 6 rfl,HS.out.at_cell 0 rfl 7 rfl,HS.out.at_cell 0 rfl 8 rfl,HS.out.at_cell 0 rfl 9 rfl,HS.out.at_cell 0 rfl 10 rfl,HS.out.at_cell 0 rfl 11 rfl,HS.out.at_cell 0 rfl 12 rfl,HS.out.at_cell 0 rfl 13 rfl,HS.out.at_cell 8 rfl 0 rfl,HS.out.at_cell 8 rfl 1 rfl,HS.out.at_cell 8 rfl 2 rfl,HS.out.at_cell 8 rfl 3 rfl,HS.out.at_cell 8 rfl 4 rfl,HS.out.at_cell 8 rfl 5 rfl,HS.out.at_cell 8 rfl 6 rfl,HS.out.at_cell 8 rfl 7 rfl,HS.out.at_cell 8 rfl 8 rfl,HS.out.at_cell 8 rfl 9 rfl,HS.out.at_cell 8 rfl 10 rfl,HS.out.at_cell 8 rfl 11 rfl,HS.out.at_cell 8 rfl 12 rfl,HS.out.at_cell 8 rfl 13 rfl⟩ (fun hHeld=>?_)
 clear hK K;refine norm_ (a':=?_) ?_ ?_
 rotate_left
 ·show Act.put _ (some 24) _=_
  simp only [Act.put,List.setIfInBounds_toArray,List.set_cons_zero,List.set_cons_succ,i64_w,i32_w]
  rfl
 have HV:=Aside0.mk (NearC.of_St (v:=(⟨.slice B0 m.sl.length d0,.slice B2 m.ce.length d2,.slice B3 m.old.length d3,.slice B6 m.wk.length d6,.slice B8 m.tk.length d8,.slice B10 m.sk.length d10,.slice B11 m.ct.length d11⟩:NV)) (n:=m) HS.out (fun p hp=>List.mem_cons_of_mem _ (List.mem_append_left _ hp)))
 refine one_ (i:=3) (N:=some 25) #[true,true,true,true,false] rfl rfl (by kernel_rfl) (by decide) (fun K hK=>?_)
 refine goes_ Tryz.func16 (by kernel_rfl) rfl #[.agg #[Value.slice B0 m.sl.length d0,Value.int .i64 m.fr,Value.slice B2 m.ce.length d2,Value.slice B3 m.old.length d3,Value.int .i64 m.mv,Value.int .i64 m.wm,Value.slice B6 m.wk.length d6,Value.int .i64 m.tm,Value.slice B8 m.tk.length d8,Value.int .i64 m.sm,Value.slice B10 m.sk.length d10,Value.slice B11 m.ct.length d11,Value.int .i64 m.ad,Value.int .i64 m.db],.agg (u3.cells m)] (by rfl) rfl rfl (by(try simp only [List.map_toArray,List.map_cons,List.map_nil]);first|done|rfl|(simp only [List.length_drop,List.length_take];rfl)) ?_
 refine(eqNearS _ (⟨.slice B0 m.sl.length d0,.slice B2 m.ce.length d2,.slice B3 m.old.length d3,.slice B6 m.wk.length d6,.slice B8 m.tk.length d8,.slice B10 m.sk.length d10,.slice B11 m.ct.length d11⟩:NV) u3 m HMS.out HV.out HU.out).mono ?_
 rintro e w9 ⟨rfl,hb⟩
 refine⟨_,rfl,?_⟩
 have HS:=Aside0.mk (HS.out.step hb)
 clear hb HU HV;refine hK.out _ _ ⟨HS.out.at_cell 0 rfl 0 rfl,HS.out.at_cell 0 rfl 1 rfl,HS.out.at_cell 0 rfl 2 rfl,HS.out.at_cell 0 rfl 3 rfl,HS.out.at_cell 0 rfl 4 rfl,HS.out.at_cell 0 rfl 5 rfl,HS.out.at_cell 0 rfl 6 rfl,HS.out.at_cell 0 rfl 7 rfl,HS.out.at_cell 0 rfl 8 rfl,HS.out.at_cell 0 rfl 9 rfl,HS.out.at_cell 0 rfl 10 rfl,HS.out.at_cell 0 rfl 11 rfl,HS.out.at_cell 0 rfl 12 rfl,HS.out.at_cell 0 rfl 13 rfl,HS.out.at_cell 8 rfl 0 rfl,HS.out.at_cell 8 rfl 1 rfl,HS.out.at_cell 8 rfl 2 rfl,HS.out.at_cell 8 rfl 3 rfl,HS.out.at_cell 8 rfl 4 rfl,HS.out.at_cell 8 rfl 5 rfl,HS.out.at_cell 8 rfl 6 rfl,HS.out.at_cell 8 rfl 7 rfl,HS.out.at_cell 8 rfl 8 rfl,HS.out.at_cell 8 rfl 9 rfl,HS.out.at_cell 8 rfl 10 rfl,HS.out.at_cell 8 rfl 11 rfl,HS.out.at_cell 8 rfl 12 rfl,HS.out.at_cell 8 rfl 13 rfl⟩ (fun hHeld=>?_)
 clear hK K;refine norm_ (a':=?_) ?_ ?_
 rotate_left
 ·show Act.put _ (some 25) _=_
  simp only [Act.put,List.setIfInBounds_toArray,List.set_cons_zero,List.set_cons_succ,i64_w,i32_w]
  rfl
 refine pure_ (i:=4) (N:=some 26) (v:=?_) (a':=?_) #[true,true,true,true,true] rfl rfl (by kernel_rfl) (fun _ _ _ h=>h) (Or.inl ⟨by rfl,?_⟩) ?_ ?_
 rotate_left
 ·intro w'
  go_simp
  with_reducible rfl
 rotate_left
 ·simp only [Act.put,List.setIfInBounds_toArray,List.set_cons_zero,List.set_cons_succ,i64_w,i32_w]
  rfl
 refine done_ (by kernel_rfl) ?_
 go_wp2_with fail
 go_ret
 exact⟨rfl,HS.out.below⟩
end Go.Proofs.YtediiolcoilepaaGreat.Nb
