/- Parts of the proof: walks of callees, plain laws about what they compute. -/
import Derived.Test.YtediiolcoilepaaGreatNbFb
import Derived.BigRegion
import Derived.BigQuiet
namespace Go.Proofs.YtediiolcoilepaaGreat.Nb
open Go.RowKit Go.Proofs.YtediiolcoilepaaGreat.GNear Go.Proofs.YtediiolcoilepaaGreatW.PrintWords Go.Proofs.YtediiolcoilepaaGreatW.PrintLast Go.Proofs.YtediiolcoilepaaGreatW.PrintMore
attribute [local go_sem] max2_int min2_int max_two min_two max_three min_three max_four min_four
set_option linter.unusedVariables false
set_option linter.unusedSimpArgs false
set_option maxHeartbeats 4000000 in
set_option maxRecDepth 100000 in
theorem forgetLaw (w:World) (v:NV) (n:Lr) (hn:n.ok) (hC:LrC w v n) (key:ByteArray) :
  Calls Tryz.prog 6 #[.agg (v.cellsL n),.string key] w (fun e w'=>e=.returned (.bool true)∧Below w.heap.size w w'):=by
 have hZ:=fun w1 hb=>szNearS w1 v n hn (hC.below (w':=w1) hb)
 obtain⟨m,hm⟩:∃ m,m=n.to:=⟨_,rfl⟩
 have hT:=fun w1 hb (hf:n.few)=>toNearS w1 v n hf (hC.below (w':=w1) hb)
 rw[← hm] at hT;have HM:=Aside0.mk hm
 clear hm;obtain⟨A0,c0,A2,c2,A3,c3,A6,c6,A8,c8,A10,c10,A11,c11,rfl,hF⟩:=hC.open_;have HF:=Aside0.mk hF
 clear hC hF;dsimp only [NV.cellsL] at *
 have HZ:=Aside0.mk hZ
 have HT:=Aside0.mk hT
 clear hZ hT;have HS:=Aside0.mk (St.start w)
 have HN:=Aside0.mk hn
 clear hn;by_cases hzkey:(key.size:Int) > 1048576
 ·have d1key:decide (1048576 < (key.size:Int))=true:=decide_eq_true hzkey
  have d2key:decide (1048576 < key.size)=true:=decide_eq_true (by omega)
  clear hzkey;go_enter Tryz.func6,Tryz.ntmps6
  go_wp2_with (first|((with_reducible refine gate_dst (N:=2) rfl ?_);refine boxS HS (N:=2) (cs:=#[.slice A0 n.sl.length c0,.int .i64 n.fr,.slice A2 n.ce.length c2,.slice A3 n.old.length c3,.int .i64 n.mv,.int .i64 n.wm,.slice A6 n.wk.length c6,.int .i64 n.tm,.slice A8 n.tk.length c8,.int .i64 n.sm,.slice A10 n.sk.length c10,.slice A11 n.ct.length c11,.int .i64 n.ad,.int .i64 n.db]) (t:=37) fun g2 w2 S=>?_;clear HS;have HS:=Aside0.mk S;clear S))
  go_ret
  exact⟨rfl,HS.out.below⟩
 have d1key:decide (1048576 < (key.size:Int))=false:=decide_eq_false hzkey
 have d2key:decide (1048576 < key.size)=false:=decide_eq_false (by omega)
 have HZkey:=Aside0.mk (show key.size≤4611686018427387904 by omega)
 clear hzkey;go_enter Tryz.func6,Tryz.ntmps6
 go_wp2_with (first|((with_reducible refine gate_dst (N:=2) rfl ?_);refine boxS HS (N:=2) (cs:=#[.slice A0 n.sl.length c0,.int .i64 n.fr,.slice A2 n.ce.length c2,.slice A3 n.old.length c3,.int .i64 n.mv,.int .i64 n.wm,.slice A6 n.wk.length c6,.int .i64 n.tm,.slice A8 n.tk.length c8,.int .i64 n.sm,.slice A10 n.sk.length c10,.slice A11 n.ct.length c11,.int .i64 n.ad,.int .i64 n.db]) (t:=37) fun g2 w2 S=>?_;clear HS;have HS:=Aside0.mk S;obtain⟨hl0,hl1,hl2,hl3,hl4,hl5,hl6,hl7,hl8,hl9,hl10,hl11,hl12,hl13⟩:=S.cells14 0 rfl;clear S))
 clear d1key d2key;refine(HZ.out _ HS.out.below).mono ?_
 rintro e w1 ⟨r,rfl,hq,hb⟩
 have S:=HS.out.step hb
 clear HS hb HZ hl0 hl1 hl2 hl3 hl4 hl5 hl6 hl7 hl8 hl9 hl10 hl11 hl12 hl13;have HS:=Aside0.mk S
 obtain⟨hl0,hl1,hl2,hl3,hl4,hl5,hl6,hl7,hl8,hl9,hl10,hl11,hl12,hl13⟩:=S.cells14 0 rfl;clear S;have HQ:=Aside0.mk hq
 clear hq;by_cases hr:r < 0
 case pos =>
  have h1:decide (r < 0)=true:=decide_eq_true hr
  go_wp2_with fail
  go_ret
  exact⟨rfl,HS.out.below⟩
 have h1:decide (r < 0)=false:=decide_eq_false hr
 have HW:=Aside0.mk (HQ.out (by omega))
 have HMS:=Aside0.mk (show m.small by rw[HM.out];exact HW.out.small)
 have HMR:=Aside0.mk (show ∀ c ∈ m.ce,c.f1≤9223372036854775807 by rw[HM.out];exact HN.out.high)
 clear HQ;obtain⟨R,bb,hRs,hI,hSp⟩:=forget_both HMS.out HMR.out key HZkey.out;have HRS:=Aside0.mk hRs
 have HFI:=Aside0.mk hI
 have HFS:=Aside0.mk hSp
 clear hRs hI hSp;go_wp2_with fail
 clear h1 hr;refine(HT.out _ HS.out.below HW.out).mono ?_
 rintro e xu1 ⟨u1,rfl,st⟩
 have S:=HS.out.join st
 have HCu1:=Aside0.mk (NearC.of_St st (fun p hp=>hp))
 clear HS st hl0 hl1 hl2 hl3 hl4 hl5 hl6 hl7 hl8 hl9 hl10 hl11 hl12 hl13;have HS:=Aside0.mk S
 clear S;go_wp2_with fail
 refine(HFS.out _ u1 HCu1.out).mono ?_
 rintro e yuw ⟨uw,rfl,st⟩
 have S:=HS.out.join st
 clear HS st;clear HCu1 HFS;obtain⟨B0,b0,B2,b2,B3,b3,B6,b6,B8,b8,B10,b10,B11,b11,rfl⟩:=NV.shape S;dsimp only [NV.cells]
 have HS:=Aside0.mk S
 clear S;go_upto_region 8 with (first|((with_reducible refine gate_dst (N:=6) rfl ?_);refine boxS HS (N:=6) (cs:=#[.slice none 0 0,.int .i64 0,.slice none 0 0,.slice none 0 0,.int .i64 0,.int .i64 0,.slice none 0 0,.int .i64 0,.slice none 0 0,.int .i64 0,.slice none 0 0,.slice none 0 0,.int .i64 0,.int .i64 0]) (t:=50) fun g6 w6 S=>?_;clear HS;have HS:=Aside0.mk S;obtain⟨hw0,hw1,hw2,hw3,hw4,hw5,hw6,hw7,hw8,hw9,hw10,hw11,hw12,hw13⟩:=S.cells14 0 rfl;obtain⟨fw0,fw1,fw2,fw3,fw4,fw5,fw6,fw7,fw8,fw9,fw10,fw11,fw12,fw13⟩:=S.frozen14 0 rfl;clear S))
 have S:=HS.out;clear HS hw0 fw0 hw1 fw1 hw2 fw2 hw3 fw3 hw4 fw4 hw5 fw5 hw6 fw6 hw7 fw7 hw8 fw8 hw9 fw9 hw10 fw10 hw11 fw11 hw12 fw12 hw13 fw13;have S:=S.put14 (Value.slice B0 R.sl.length b0) (Value.int .i64 R.fr) (Value.slice B2 R.ce.length b2) (Value.slice B3 R.old.length b3) (Value.int .i64 R.mv) (Value.int .i64 R.wm) (Value.slice B6 R.wk.length b6) (Value.int .i64 R.tm) (Value.slice B8 R.tk.length b8) (Value.int .i64 R.sm) (Value.slice B10 R.sk.length b10) (Value.slice B11 R.ct.length b11) (Value.int .i64 R.ad) (Value.int .i64 R.db)
 obtain⟨z6,hw,S⟩:=S.fold;rw[← hw]
 clear hw;generalize Value.agg #[Value.slice A0 n.sl.length c0,Value.int .i64 n.fr,Value.slice A2 n.ce.length c2,Value.slice A3 n.old.length c3,Value.int .i64 n.mv,Value.int .i64 n.wm,Value.slice A6 n.wk.length c6,Value.int .i64 n.tm,Value.slice A8 n.tk.length c8,Value.int .i64 n.sm,Value.slice A10 n.sk.length c10,Value.slice A11 n.ct.length c11,Value.int .i64 n.ad,Value.int .i64 n.db]=agg0
 generalize Value.agg #[Value.slice B0 R.sl.length b0,Value.int .i64 R.fr,Value.slice B2 R.ce.length b2,Value.slice B3 R.old.length b3,Value.int .i64 R.mv,Value.int .i64 R.wm,Value.slice B6 R.wk.length b6,Value.int .i64 R.tm,Value.slice B8 R.tk.length b8,Value.int .i64 R.sm,Value.slice B10 R.sk.length b10,Value.slice B11 R.ct.length b11,Value.int .i64 R.ad,Value.int .i64 R.db]=agg1
 have S:=S.sub (qs:=Part.blk g6 50 #[Value.slice B0 R.sl.length b0,Value.int .i64 R.fr,Value.slice B2 R.ce.length b2,Value.slice B3 R.old.length b3,Value.int .i64 R.mv,Value.int .i64 R.wm,Value.slice B6 R.wk.length b6,Value.int .i64 R.tm,Value.slice B8 R.tk.length b8,Value.int .i64 R.sm,Value.slice B10 R.sk.length b10,Value.slice B11 R.ct.length b11,Value.int .i64 R.ad,Value.int .i64 R.db] :: ((⟨.slice B0 R.sl.length b0,.slice B2 R.ce.length b2,.slice B3 R.old.length b3,.slice B6 R.wk.length b6,.slice B8 R.tk.length b8,.slice B10 R.sk.length b10,.slice B11 R.ct.length b11⟩:NV).rows R ++ (Part.blk g2 37 #[Value.slice A0 n.sl.length c0,Value.int .i64 n.fr,Value.slice A2 n.ce.length c2,Value.slice A3 n.old.length c3,Value.int .i64 n.mv,Value.int .i64 n.wm,Value.slice A6 n.wk.length c6,Value.int .i64 n.tm,Value.slice A8 n.tk.length c8,Value.int .i64 n.sm,Value.slice A10 n.sk.length c10,Value.slice A11 n.ct.length c11,Value.int .i64 n.ad,Value.int .i64 n.db] :: ([])))) (List.Sublist.cons_cons _ (List.Sublist.append (List.Sublist.refl _) ((List.Sublist.cons_cons _ (List.Sublist.refl _)).trans (List.sublist_append_right _ _))))
 have HS:=Aside0.mk S
 obtain⟨hl0,hl1,hl2,hl3,hl4,hl5,hl6,hl7,hl8,hl9,hl10,hl11,hl12,hl13⟩:=S.cells14 8 rfl;clear S;go_wp2_with fail
 refine(HT.out _ HS.out.below HW.out).mono ?_
 rintro e xux ⟨ux,rfl,st⟩
 have S:=HS.out.join st
 have HCux:=Aside0.mk (NearC.of_St st (fun p hp=>hp))
 clear HS st hl0 hl1 hl2 hl3 hl4 hl5 hl6 hl7 hl8 hl9 hl10 hl11 hl12 hl13;clear HCux;obtain⟨D0,d0,D2,d2,D3,d3,D6,d6,D8,d8,D10,d10,D11,d11,rfl⟩:=NV.shape S;dsimp only [NV.cells]
 have HS:=Aside0.mk S
 clear S;go_upto_region 9 with (first|((with_reducible refine gate_dst (N:=8) rfl ?_);refine boxS HS (N:=8) (cs:=#[.slice none 0 0,.int .i64 0,.slice none 0 0,.slice none 0 0,.int .i64 0,.int .i64 0,.slice none 0 0,.int .i64 0,.slice none 0 0,.int .i64 0,.slice none 0 0,.slice none 0 0,.int .i64 0,.int .i64 0]) (t:=50) fun g8 w8 S=>?_;clear HS;have HS:=Aside0.mk S;obtain⟨hx0,hx1,hx2,hx3,hx4,hx5,hx6,hx7,hx8,hx9,hx10,hx11,hx12,hx13⟩:=S.cells14 0 rfl;obtain⟨fx0,fx1,fx2,fx3,fx4,fx5,fx6,fx7,fx8,fx9,fx10,fx11,fx12,fx13⟩:=S.frozen14 0 rfl;clear S))
 have S:=HS.out;clear HS hx0 fx0 hx1 fx1 hx2 fx2 hx3 fx3 hx4 fx4 hx5 fx5 hx6 fx6 hx7 fx7 hx8 fx8 hx9 fx9 hx10 fx10 hx11 fx11 hx12 fx12 hx13 fx13;have S:=S.put14 (Value.slice D0 m.sl.length d0) (Value.int .i64 m.fr) (Value.slice D2 m.ce.length d2) (Value.slice D3 m.old.length d3) (Value.int .i64 m.mv) (Value.int .i64 m.wm) (Value.slice D6 m.wk.length d6) (Value.int .i64 m.tm) (Value.slice D8 m.tk.length d8) (Value.int .i64 m.sm) (Value.slice D10 m.sk.length d10) (Value.slice D11 m.ct.length d11) (Value.int .i64 m.ad) (Value.int .i64 m.db)
 obtain⟨z8,hw,S⟩:=S.fold;rw[← hw]
 clear hw;generalize Value.agg #[Value.slice A0 n.sl.length c0,Value.int .i64 n.fr,Value.slice A2 n.ce.length c2,Value.slice A3 n.old.length c3,Value.int .i64 n.mv,Value.int .i64 n.wm,Value.slice A6 n.wk.length c6,Value.int .i64 n.tm,Value.slice A8 n.tk.length c8,Value.int .i64 n.sm,Value.slice A10 n.sk.length c10,Value.slice A11 n.ct.length c11,Value.int .i64 n.ad,Value.int .i64 n.db]=agg0
 generalize Value.agg #[Value.slice B0 R.sl.length b0,Value.int .i64 R.fr,Value.slice B2 R.ce.length b2,Value.slice B3 R.old.length b3,Value.int .i64 R.mv,Value.int .i64 R.wm,Value.slice B6 R.wk.length b6,Value.int .i64 R.tm,Value.slice B8 R.tk.length b8,Value.int .i64 R.sm,Value.slice B10 R.sk.length b10,Value.slice B11 R.ct.length b11,Value.int .i64 R.ad,Value.int .i64 R.db]=agg1
 generalize Value.agg #[Value.slice D0 m.sl.length d0,Value.int .i64 m.fr,Value.slice D2 m.ce.length d2,Value.slice D3 m.old.length d3,Value.int .i64 m.mv,Value.int .i64 m.wm,Value.slice D6 m.wk.length d6,Value.int .i64 m.tm,Value.slice D8 m.tk.length d8,Value.int .i64 m.sm,Value.slice D10 m.sk.length d10,Value.slice D11 m.ct.length d11,Value.int .i64 m.ad,Value.int .i64 m.db]=agg2
 exact forgetLawB (hS:=S) (hT:=fun w1 hb=>HT.out w1 hb HW.out) (hms:=HMS.out) (hrs:=HRS.out) (hI:=HFI.out) (hK:=by assumption)
end Go.Proofs.YtediiolcoilepaaGreat.Nb
