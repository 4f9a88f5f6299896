/- Parts of the proof: walks of callees, plain laws about what they compute. -/
import Derived.Test.YtediiolcoilepaaGreatNbFc
import Derived.BigRegion
import Derived.BigQuiet
namespace Go.Proofs.YtediiolcoilepaaGreat.Nb
open Go.RowKit Go.Proofs.YtediiolcoilepaaGreat.GNear Go.Proofs.YtediiolcoilepaaGreatW.PrintWords Go.Proofs.YtediiolcoilepaaGreatW.PrintLast Go.Proofs.YtediiolcoilepaaGreatW.PrintMore
attribute [local go_sem] max2_int min2_int max_two min_two max_three min_three max_four min_four
set_option linter.unusedVariables false
set_option linter.unusedSimpArgs false
set_option maxHeartbeats 4000000 in
set_option maxRecDepth 100000 in
theorem forgetLawB {w wq:World} {m R:Nr} {key:ByteArray} {bb:Bool} {l0 l1 l2 l3 l4 l5 l6 l7 l8 l9 l10 l11 l12 l13:Value} {g2 g6 g8:Nat}
  {B0 B2 B3 B6 B8 B10 B11:Option Addr} {b0 b2 b3 b6 b8 b10 b11:Nat} {D0 D2 D3 D6 D8 D10 D11:Option Addr} {d0 d2 d3 d6 d8 d10 d11:Nat}
  (hT:∀ w1,Below w.heap.size w w1→Calls Tryz.prog 14 #[.agg #[l0,l1,l2,l3,l4,l5,l6,l7,l8,l9,l10,l11,l12,l13]] w1 fun e w'=>∃ u:NV,e=.returned (.agg (u.cells m))∧St w1 w' (u.rows m))
  (hms:m.small) (hrs:R.small) (hI:∀ w v,NearC w v m→Calls Tryz.prog 21 #[.agg (v.cells m),.string key] w (FPost R bb w))
  (hS:St w wq (Part.blk g8 50 #[Value.slice D0 m.sl.length d0,Value.int .i64 m.fr,Value.slice D2 m.ce.length d2,Value.slice D3 m.old.length d3,Value.int .i64 m.mv,Value.int .i64 m.wm,Value.slice D6 m.wk.length d6,Value.int .i64 m.tm,Value.slice D8 m.tk.length d8,Value.int .i64 m.sm,Value.slice D10 m.sk.length d10,Value.slice D11 m.ct.length d11,Value.int .i64 m.ad,Value.int .i64 m.db] :: ((⟨.slice D0 m.sl.length d0,.slice D2 m.ce.length d2,.slice D3 m.old.length d3,.slice D6 m.wk.length d6,.slice D8 m.tk.length d8,.slice D10 m.sk.length d10,.slice D11 m.ct.length d11⟩:NV).rows m ++ (Part.blk g6 50 #[Value.slice B0 R.sl.length b0,Value.int .i64 R.fr,Value.slice B2 R.ce.length b2,Value.slice B3 R.old.length b3,Value.int .i64 R.mv,Value.int .i64 R.wm,Value.slice B6 R.wk.length b6,Value.int .i64 R.tm,Value.slice B8 R.tk.length b8,Value.int .i64 R.sm,Value.slice B10 R.sk.length b10,Value.slice B11 R.ct.length b11,Value.int .i64 R.ad,Value.int .i64 R.db] :: ((⟨.slice B0 R.sl.length b0,.slice B2 R.ce.length b2,.slice B3 R.old.length b3,.slice B6 R.wk.length b6,.slice B8 R.tk.length b8,.slice B10 R.sk.length b10,.slice B11 R.ct.length b11⟩:NV).rows R ++ (Part.blk g2 37 #[l0,l1,l2,l3,l4,l5,l6,l7,l8,l9,l10,l11,l12,l13] :: ([])))))))
  {u0 u3 u4 u5 u9 u10 u11 u12 u13 u14 u15 u16 u17 u18 u19 u20 u21 u22 u23 u24 u25 u26 u27 u28 u29 u30 u31 u32 u33 u34 u35 u36 u37 u38 u39 u40 u41 u42 u43 u44 u45 u46 u47 u48 u49 u50 u51 u52 u53 u54 u55 u56 u57 u58 u59 u60 u61 u62 u63 u64 u65 u66 u67 u68 u69 u70 u71 u72 u73 u74 u75 u76 u77 u78 u79 u80 u81 u82 u83 u84 u85 u86 u87 u88 u89 u90 u91 u92 u93 u94 u95 u96 u97 u98 u99 u100 u101 u102 u103:Value} {K:Act→World→Prop} (hK:∀ a w9,Code.wp Tryz.prog (cAfter 8 (Tryz.f6.body.getD .skip)) (bodyPost Tryz.prog Tryz.f6 (fun e w'=>e=.returned (.bool true)∧Below w.heap.size w w')) a w9→K a w9) :
  Code.wp Tryz.prog (cHead (cAfter 7 (Tryz.f6.body.getD .skip))) (Exit.then K (bodyPost Tryz.prog Tryz.f6 (fun e w'=>e=.returned (.bool true)∧Below w.heap.size w w'))) ⟨#[u0,.string key,.pointer (some ⟨g2,0,none⟩),u3,u4,u5,.pointer (some ⟨g6,0,none⟩),.bool bb,.pointer (some ⟨g8,0,none⟩),u9,u10,u11,u12,u13,u14,u15,u16,u17,u18,u19,u20,u21,u22,u23,u24,u25,u26,u27,u28,u29,u30,u31,u32,u33,u34,u35,u36,u37,u38,u39,u40,u41,u42,u43,u44,u45,u46,u47,u48,u49,u50,u51,u52,u53,u54,u55,u56,u57,u58,u59,u60,u61,u62,u63,u64,u65,u66,u67,u68,u69,u70,u71,u72,u73,u74,u75,u76,u77,u78,u79,u80,u81,u82,u83,u84,u85,u86,u87,u88,u89,u90,u91,u92,u93,u94,u95,u96,u97,u98,u99,u100,u101,u102,u103],[]⟩ wq:=by
 conv=>arg 2;whnf
 conv at hK=>enter [a,w9,1,2];whnf
 have HT:=Aside0.mk hT
 have HMS:=Aside0.mk hms
 have HRS:=Aside0.mk hrs
 have HFI:=Aside0.mk hI
 have S:=hS;clear hT hms hrs hI hS;have HS:=Aside0.mk S
 obtain⟨hx0,hx1,hx2,hx3,hx4,hx5,hx6,hx7,hx8,hx9,hx10,hx11,hx12,hx13⟩:=S.cells14 0 rfl;have hC:=Aside0.mk (NearC.of_St (v:=(⟨.slice D0 m.sl.length d0,.slice D2 m.ce.length d2,.slice D3 m.old.length d3,.slice D6 m.wk.length d6,.slice D8 m.tk.length d8,.slice D10 m.sk.length d10,.slice D11 m.ct.length d11⟩:NV)) (n:=m) S (fun p hp=>List.mem_cons_of_mem _ (List.mem_append_left _ hp)))
 clear S;go_wp2_with fail
 clear hx0 hx1 hx2 hx3 hx4 hx5 hx6 hx7 hx8 hx9 hx10 hx11 hx12 hx13;refine(HFI.out _ (⟨.slice D0 m.sl.length d0,.slice D2 m.ce.length d2,.slice D3 m.old.length d3,.slice D6 m.wk.length d6,.slice D8 m.tk.length d8,.slice D10 m.sk.length d10,.slice D11 m.ct.length d11⟩:NV) hC.out).mono ?_
 rintro e yug ⟨ug,rfl,st⟩
 have S:=HS.out.join st
 clear HS st;clear hC;obtain⟨G0,q0,G2,q2,G3,q3,G6,q6,G8,q8,G10,q10,G11,q11,rfl⟩:=NV.shape S;dsimp only [NV.cells]
 have HS:=Aside0.mk S
 clear S;go_upto_region 10 with (first|((with_reducible refine gate_dst (N:=9) rfl ?_);refine boxS HS (N:=9) (cs:=#[.slice none 0 0,.int .i64 0,.slice none 0 0,.slice none 0 0,.int .i64 0,.int .i64 0,.slice none 0 0,.int .i64 0,.slice none 0 0,.int .i64 0,.slice none 0 0,.slice none 0 0,.int .i64 0,.int .i64 0]) (t:=50) fun g9 w9 S=>?_;clear HS;have HS:=Aside0.mk S;obtain⟨hg0,hg1,hg2,hg3,hg4,hg5,hg6,hg7,hg8,hg9,hg10,hg11,hg12,hg13⟩:=S.cells14 0 rfl;obtain⟨fg0,fg1,fg2,fg3,fg4,fg5,fg6,fg7,fg8,fg9,fg10,fg11,fg12,fg13⟩:=S.frozen14 0 rfl;clear S))
 have S:=HS.out;clear HS hg0 fg0 hg1 fg1 hg2 fg2 hg3 fg3 hg4 fg4 hg5 fg5 hg6 fg6 hg7 fg7 hg8 fg8 hg9 fg9 hg10 fg10 hg11 fg11 hg12 fg12 hg13 fg13;have S:=S.put14 (Value.slice G0 R.sl.length q0) (Value.int .i64 R.fr) (Value.slice G2 R.ce.length q2) (Value.slice G3 R.old.length q3) (Value.int .i64 R.mv) (Value.int .i64 R.wm) (Value.slice G6 R.wk.length q6) (Value.int .i64 R.tm) (Value.slice G8 R.tk.length q8) (Value.int .i64 R.sm) (Value.slice G10 R.sk.length q10) (Value.slice G11 R.ct.length q11) (Value.int .i64 R.ad) (Value.int .i64 R.db)
 obtain⟨z9,hw,S⟩:=S.fold;rw[← hw]
 clear hw;generalize Value.agg #[l0,l1,l2,l3,l4,l5,l6,l7,l8,l9,l10,l11,l12,l13]=agg0
 generalize Value.agg #[Value.slice D0 m.sl.length d0,Value.int .i64 m.fr,Value.slice D2 m.ce.length d2,Value.slice D3 m.old.length d3,Value.int .i64 m.mv,Value.int .i64 m.wm,Value.slice D6 m.wk.length d6,Value.int .i64 m.tm,Value.slice D8 m.tk.length d8,Value.int .i64 m.sm,Value.slice D10 m.sk.length d10,Value.slice D11 m.ct.length d11,Value.int .i64 m.ad,Value.int .i64 m.db]=agg1
 generalize Value.agg #[Value.slice G0 R.sl.length q0,Value.int .i64 R.fr,Value.slice G2 R.ce.length q2,Value.slice G3 R.old.length q3,Value.int .i64 R.mv,Value.int .i64 R.wm,Value.slice G6 R.wk.length q6,Value.int .i64 R.tm,Value.slice G8 R.tk.length q8,Value.int .i64 R.sm,Value.slice G10 R.sk.length q10,Value.slice G11 R.ct.length q11,Value.int .i64 R.ad,Value.int .i64 R.db]=agg2
 have HS:=Aside0.mk S
 obtain⟨hg0,hg1,hg2,hg3,hg4,hg5,hg6,hg7,hg8,hg9,hg10,hg11,hg12,hg13⟩:=S.cells14 0 rfl;obtain⟨hw0,hw1,hw2,hw3,hw4,hw5,hw6,hw7,hw8,hw9,hw10,hw11,hw12,hw13⟩:=S.cells14 16 rfl;have hC1:=Aside0.mk (NearC.of_St (v:=(⟨.slice G0 R.sl.length q0,.slice G2 R.ce.length q2,.slice G3 R.old.length q3,.slice G6 R.wk.length q6,.slice G8 R.tk.length q8,.slice G10 R.sk.length q10,.slice G11 R.ct.length q11⟩:NV)) (n:=R) S (fun p hp=>List.mem_cons_of_mem _ (List.mem_append_left _ hp)))
 have hC2:=Aside0.mk (NearC.of_St (v:=(⟨.slice B0 R.sl.length b0,.slice B2 R.ce.length b2,.slice B3 R.old.length b3,.slice B6 R.wk.length b6,.slice B8 R.tk.length b8,.slice B10 R.sk.length b10,.slice B11 R.ct.length b11⟩:NV)) (n:=R) S (fun p hp=>List.mem_cons_of_mem _ (List.mem_append_right _ (List.mem_cons_of_mem _ (List.mem_append_right _ (List.mem_cons_of_mem _ (List.mem_append_left _ hp)))))))
 clear S;go_wp2_with fail
 refine(eqNearS _ (⟨.slice G0 R.sl.length q0,.slice G2 R.ce.length q2,.slice G3 R.old.length q3,.slice G6 R.wk.length q6,.slice G8 R.tk.length q8,.slice G10 R.sk.length q10,.slice G11 R.ct.length q11⟩:NV) (⟨.slice B0 R.sl.length b0,.slice B2 R.ce.length b2,.slice B3 R.old.length b3,.slice B6 R.wk.length b6,.slice B8 R.tk.length b8,.slice B10 R.sk.length b10,.slice B11 R.ct.length b11⟩:NV) R HRS.out hC1.out hC2.out).mono ?_
 rintro e v1 ⟨rfl,hb⟩
 have S:=HS.out.step hb
 clear hb hC1 hC2;clear HS hg0 hg1 hg2 hg3 hg4 hg5 hg6 hg7 hg8 hg9 hg10 hg11 hg12 hg13 hw0 hw1 hw2 hw3 hw4 hw5 hw6 hw7 hw8 hw9 hw10 hw11 hw12 hw13;have HS:=Aside0.mk S
 clear S;go_wp2_with fail
 refine start_ (n:=5) (S:=fun w'=>w'.cell? ⟨g8,0,none⟩=some (.slice D0 m.sl.length d0)∧w'.cell? ⟨g8,1,none⟩=some (.int .i64 m.fr)∧w'.cell? ⟨g8,2,none⟩=some (.slice D2 m.ce.length d2)∧w'.cell? ⟨g8,3,none⟩=some (.slice D3 m.old.length d3)∧w'.cell? ⟨g8,4,none⟩=some (.int .i64 m.mv)∧w'.cell? ⟨g8,5,none⟩=some (.int .i64 m.wm)∧w'.cell? ⟨g8,6,none⟩=some (.slice D6 m.wk.length d6)∧w'.cell? ⟨g8,7,none⟩=some (.int .i64 m.tm)∧w'.cell? ⟨g8,8,none⟩=some (.slice D8 m.tk.length d8)∧w'.cell? ⟨g8,9,none⟩=some (.int .i64 m.sm)∧w'.cell? ⟨g8,10,none⟩=some (.slice D10 m.sk.length d10)∧w'.cell? ⟨g8,11,none⟩=some (.slice D11 m.ct.length d11)∧w'.cell? ⟨g8,12,none⟩=some (.int .i64 m.ad)∧w'.cell? ⟨g8,13,none⟩=some (.int .i64 m.db)∧w'.cell? ⟨g2,0,none⟩=some (l0)∧w'.cell? ⟨g2,1,none⟩=some (l1)∧w'.cell? ⟨g2,2,none⟩=some (l2)∧w'.cell? ⟨g2,3,none⟩=some (l3)∧w'.cell? ⟨g2,4,none⟩=some (l4)∧w'.cell? ⟨g2,5,none⟩=some (l5)∧w'.cell? ⟨g2,6,none⟩=some (l6)∧w'.cell? ⟨g2,7,none⟩=some (l7)∧w'.cell? ⟨g2,8,none⟩=some (l8)∧w'.cell? ⟨g2,9,none⟩=some (l9)∧w'.cell? ⟨g2,10,none⟩=some (l10)∧w'.cell? ⟨g2,11,none⟩=some (l11)∧w'.cell? ⟨g2,12,none⟩=some (l12)∧w'.cell? ⟨g2,13,none⟩=some (l13)) (ds:=[]) #[false,false,false,false,false] (by kernel_rfl) rfl rfl (hold14 (HS.out.cells14 8 rfl) (HS.out.cells14 24 rfl)) (fun hHeld=>?_)
 have HS:=Aside0.mk HS.out.drew
 generalize v1.drew=v2 at HS hHeld ⊢
 refine taA (i:=0) (N:=some 48) hHeld ?_
 refine taA (i:=1) (N:=some 49) hHeld ?_
 refine one_ (i:=2) (N:=some 50) #[true,true,true,false,false] rfl rfl (by kernel_rfl) (by decide) (fun K hK=>?_)
 refine goes_ Tryz.func14 (by kernel_rfl) rfl #[.agg #[l0,l1,l2,l3,l4,l5,l6,l7,l8,l9,l10,l11,l12,l13]] (by rfl) rfl rfl (by(try simp only [List.map_toArray,List.map_cons,List.map_nil]);first|done|rfl|(simp only [List.length_drop,List.length_take];rfl)) ?_
 refine(HT.out _ HS.out.below).mono ?_
 rintro e v3 ⟨u3,rfl,st⟩
 refine⟨_,rfl,?_⟩
 have HCu3:=Aside0.mk (NearC.of_St st (fun p hp=>hp))
 have HS:=Aside0.mk (HS.out.step st.below)
 clear st;refine hK.out _ _ (hold14 (HS.out.cells14 8 rfl) (HS.out.cells14 24 rfl)) (fun hHeld=>?_)
 clear hK K;refine norm_ (a':=?_) ?_ ?_
 rotate_left
 ·show Act.put _ (some 50) _=_;simp only [Act.put,List.setIfInBounds_toArray,List.set_cons_zero,List.set_cons_succ,i64_w,i32_w];rfl
 have hC1:=Aside0.mk (NearC.of_St (v:=(⟨.slice D0 m.sl.length d0,.slice D2 m.ce.length d2,.slice D3 m.old.length d3,.slice D6 m.wk.length d6,.slice D8 m.tk.length d8,.slice D10 m.sk.length d10,.slice D11 m.ct.length d11⟩:NV)) (n:=m) HS.out (fun p hp=>List.mem_cons_of_mem _ (List.mem_append_right _ (List.mem_cons_of_mem _ (List.mem_append_left _ hp)))))
 refine one_ (i:=3) (N:=some 51) #[true,true,true,true,false] rfl rfl (by kernel_rfl) (by decide) (fun K hK=>?_)
 refine goes_ Tryz.func16 (by kernel_rfl) rfl #[.agg #[Value.slice D0 m.sl.length d0,Value.int .i64 m.fr,Value.slice D2 m.ce.length d2,Value.slice D3 m.old.length d3,Value.int .i64 m.mv,Value.int .i64 m.wm,Value.slice D6 m.wk.length d6,Value.int .i64 m.tm,Value.slice D8 m.tk.length d8,Value.int .i64 m.sm,Value.slice D10 m.sk.length d10,Value.slice D11 m.ct.length d11,Value.int .i64 m.ad,Value.int .i64 m.db],.agg (u3.cells m)] (by rfl) rfl rfl (by(try simp only [List.map_toArray,List.map_cons,List.map_nil]);first|done|rfl|(simp only [List.length_drop,List.length_take];rfl)) ?_
 refine(eqNearS _ (⟨.slice D0 m.sl.length d0,.slice D2 m.ce.length d2,.slice D3 m.old.length d3,.slice D6 m.wk.length d6,.slice D8 m.tk.length d8,.slice D10 m.sk.length d10,.slice D11 m.ct.length d11⟩:NV) u3 m HMS.out hC1.out HCu3.out).mono ?_
 rintro e v4 ⟨rfl,hb⟩
 refine⟨_,rfl,?_⟩
 have HS:=Aside0.mk (HS.out.step hb)
 clear hb hC1 HCu3;refine hK.out _ _ (hold14 (HS.out.cells14 8 rfl) (HS.out.cells14 24 rfl)) (fun hHeld=>?_)
 clear hK K;refine norm_ (a':=?_) ?_ ?_
 rotate_left
 ·show Act.put _ (some 51) _=_;simp only [Act.put,List.setIfInBounds_toArray,List.set_cons_zero,List.set_cons_succ,i64_w,i32_w];rfl
 refine puA (i:=4) (N:=some 52) ?_
 refine done_ (by kernel_rfl) ?_
 clear hHeld;have S:=HS.out;generalize Value.agg #[l0,l1,l2,l3,l4,l5,l6,l7,l8,l9,l10,l11,l12,l13]=agg0
 generalize Value.agg #[Value.slice D0 m.sl.length d0,Value.int .i64 m.fr,Value.slice D2 m.ce.length d2,Value.slice D3 m.old.length d3,Value.int .i64 m.mv,Value.int .i64 m.wm,Value.slice D6 m.wk.length d6,Value.int .i64 m.tm,Value.slice D8 m.tk.length d8,Value.int .i64 m.sm,Value.slice D10 m.sk.length d10,Value.slice D11 m.ct.length d11,Value.int .i64 m.ad,Value.int .i64 m.db]=agg1
 generalize Value.agg #[Value.slice G0 R.sl.length q0,Value.int .i64 R.fr,Value.slice G2 R.ce.length q2,Value.slice G3 R.old.length q3,Value.int .i64 R.mv,Value.int .i64 R.wm,Value.slice G6 R.wk.length q6,Value.int .i64 R.tm,Value.slice G8 R.tk.length q8,Value.int .i64 R.sm,Value.slice G10 R.sk.length q10,Value.slice G11 R.ct.length q11,Value.int .i64 R.ad,Value.int .i64 R.db]=agg2
 clear HS;have HS:=Aside0.mk S
 clear S;go_upto_region 14 with fail
 have S:=HS.out;exact forgetLawC (hS:=S) (hT:=HT.out) (hms:=HMS.out) (hrs:=HRS.out) (hI:=HFI.out) (hK:=by assumption)
end Go.Proofs.YtediiolcoilepaaGreat.Nb
