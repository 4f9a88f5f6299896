/- Parts of the proof: walks of callees, plain laws about what they compute. -/
import Derived.Test.YtediiolcoilepaaGreatNbV
import Derived.BigRegion
import Derived.BigQuiet
namespace Go.Proofs.YtediiolcoilepaaGreat.Nb
open Go.RowKit Go.Proofs.YtediiolcoilepaaGreat.GNear Go.Proofs.YtediiolcoilepaaGreatW.PrintWords Go.Proofs.YtediiolcoilepaaGreatW.PrintLast Go.Proofs.YtediiolcoilepaaGreatW.PrintMore
attribute [local go_sem] max2_int min2_int max_two min_two max_three min_three max_four min_four
set_option linter.unusedVariables false
set_option linter.unusedSimpArgs false



theorem hold14 {p0 p1 p2 p3 p4 p5 p6 p7 p8 p9 p10 p11 p12 p13 q0 q1 q2 q3 q4 q5 q6 q7 q8 q9 q10 q11 q12 q13:Prop} (h:p0∧p1∧p2∧p3∧p4∧p5∧p6∧p7∧p8∧p9∧p10∧p11∧p12∧p13) (k:q0∧q1∧q2∧q3∧q4∧q5∧q6∧q7∧q8∧q9∧q10∧q11∧q12∧q13):p0∧p1∧p2∧p3∧p4∧p5∧p6∧p7∧p8∧p9∧p10∧p11∧p12∧p13∧q0∧q1∧q2∧q3∧q4∧q5∧q6∧q7∧q8∧q9∧q10∧q11∧q12∧q13 :=
 ⟨h.1,h.2.1,h.2.2.1,h.2.2.2.1,h.2.2.2.2.1,h.2.2.2.2.2.1,h.2.2.2.2.2.2.1,h.2.2.2.2.2.2.2.1,h.2.2.2.2.2.2.2.2.1,h.2.2.2.2.2.2.2.2.2.1,h.2.2.2.2.2.2.2.2.2.2.1,h.2.2.2.2.2.2.2.2.2.2.2.1,h.2.2.2.2.2.2.2.2.2.2.2.2.1,h.2.2.2.2.2.2.2.2.2.2.2.2.2,k⟩
def Nr.zero:Nr:=⟨[],0,[],[],0,0,[],0,[],0,[],[],0,0⟩
def NV.zero:NV:=⟨.slice none 0 0,.slice none 0 0,.slice none 0 0,.slice none 0 0,.slice none 0 0,.slice none 0 0,.slice none 0 0⟩
theorem St.zero {w w':World} (hb:Below w.heap.size w w'):St w w' (NV.zero.rows Nr.zero) :=
 ((((((((St.mk hb (by simp) List.Pairwise.nil:St w w' []).nil_row (Kd.int .i64) 3).nil_row Kd.string 9).nil_row Kd.string 9).nil_row Kd.string 9).nil_row k151 151).nil_row k151 151).nil_row k94 94)
def FPost (R:Nr) (b:Bool) (w:World) (e:Ending) (w':World):Prop:=∃ u:NV,e=.returned (.tuple #[.agg (u.cells R),.bool b])∧St w w' (u.rows R)
theorem forget_both {n:Nr} (hn:n.small) (hH:∀ c ∈ n.ce,c.f1≤9223372036854775807) (key:ByteArray) (hkz:key.size≤4611686018427387904) :
  ∃ R b,R.small∧(∀ w v,NearC w v n→Calls Tryz.prog 21 #[.agg (v.cells n),.string key] w (FPost R b w))∧(∀ w v,NearC w v n→Calls Tryz.prog 24 #[.agg (v.cells n),.string key] w (FPost R b w)):=by
 by_cases h:NearR n∧key.size ≠ 0∧∃ c ∈ n.ce,c.f0=key
 ·obtain⟨hR,hk,c,hm,he⟩:=h
  obtain⟨i,hi,hc⟩:=List.getElem_of_mem hm;have hc':n.ce[i]? = some c:=by rw[List.getElem?_eq_getElem hi,hc]
  obtain⟨k,x,hx,hu,hh,-⟩:=hR.linked c hm (by rw[he];exact hk)
  have e:(n.remove i k x).drops key 3=n.forget i k x key:=by
   have h1:=dropK_filter key n.wk (okFrom_iff.1 hR.parts.window.2.2.2).2
   have h2:=dropK_filter key n.tk (okFrom_iff.1 hR.parts.trial.2.2.2).2
   have h3:=dropK_filter key n.sk (okFrom_iff.1 hR.parts.safe.2.2.2).2
   show(⟨_,_,_,_,_,_,dropK key n.wk,_,dropK key n.tk,_,dropK key n.sk,_,_,_⟩:Nr)=_
   rw[h1,h2,h3];rfl
  refine⟨n.forget i k x key,true,⟨by simpa [Nr.forget,Nr.remove] using hn.s0,by simpa [Nr.forget,Nr.remove] using hn.s2,hn.s3,Nat.le_trans (List.length_filter_le _ _) hn.s6,Nat.le_trans (List.length_filter_le _ _) hn.s8,Nat.le_trans (List.length_filter_le _ _) hn.s10,hn.s11,fun y hy=>?_,hn.k3⟩,fun w v hC=>?_,fun w v hC=>forgetS_yes w v n hn hH hC key hkz hR i k c x hc' he hk hx hu hh⟩
  ·rcases List.mem_or_eq_of_mem_set (show y ∈ n.ce.set i ⟨⟨#[]⟩,-2⟩ from hy) with h|rfl
   ·exact hn.k2 y h
   ·exact Nat.zero_le _
  ·have:=forgetI_yes w v n hn hC key hkz hR i k c x hc' he hk hx hu hh
   rw[e] at this;exact this
 ·refine⟨Nr.zero,false,⟨by simp[Nr.zero],by simp[Nr.zero],by simp[Nr.zero],by simp[Nr.zero],by simp[Nr.zero],by simp[Nr.zero],by simp[Nr.zero],by simp[Nr.zero],by simp[Nr.zero]⟩,fun w v hC=>(forgetI_no w v n hn hC key hkz h).mono ?_,fun w v hC=>(forgetS_no w v n hn hH hC key hkz h).mono ?_⟩
  ·rintro e w' ⟨rfl,hb⟩;exact⟨NV.zero,rfl,St.zero hb⟩
  ·rintro e w' ⟨rfl,hb⟩;exact⟨NV.zero,rfl,St.zero hb⟩
noncomputable def cAfter:Nat→Code→Code
 |0,c=>c
 |n+1,.seq _ b=>cAfter n b
 |_+1,c=>c
noncomputable def cHead:Code→Code
 |.seq a _=>a
 |c=>c
set_option maxHeartbeats 4000000 in
set_option maxRecDepth 100000 in
theorem forgetLawD {w wq:World} {m R:Nr} {key:ByteArray} {bb:Bool} {l0 l1 l2 l3 l4 l5 l6 l7 l8 l9 l10 l11 l12 l13:Value} {g2 g6 g9:Nat}
  {B0 B2 B3 B6 B8 B10 B11:Option Addr} {b0 b2 b3 b6 b8 b10 b11:Nat} {G0 G2 G3 G6 G8 G10 G11:Option Addr} {q0 q2 q3 q6 q8 q10 q11:Nat}
  (hT:∀ w1,Below w.heap.size w w1→Calls Tryz.prog 14 #[.agg #[l0,l1,l2,l3,l4,l5,l6,l7,l8,l9,l10,l11,l12,l13]] w1 fun e w'=>∃ u:NV,e=.returned (.agg (u.cells m))∧St w1 w' (u.rows m))
  (hms:m.small) (hrs:R.small) (hI:∀ w v,NearC w v m→Calls Tryz.prog 21 #[.agg (v.cells m),.string key] w (FPost R bb w))
  {kr:Int} (hk7:R.k7=kr)
  (hS:St w wq ((⟨.slice G0 R.sl.length q0,.slice G2 R.ce.length q2,.slice G3 R.old.length q3,.slice G6 R.wk.length q6,.slice G8 R.tk.length q8,.slice G10 R.sk.length q10,.slice G11 R.ct.length q11⟩:NV).rows R.marked ++ (Part.blk g9 50 #[Value.slice G0 R.sl.length q0,Value.int .i64 R.fr,Value.slice G2 R.ce.length q2,Value.slice G3 R.old.length q3,Value.int .i64 R.mv,Value.int .i64 R.wm,Value.slice G6 R.wk.length q6,Value.int .i64 R.tm,Value.slice G8 R.tk.length q8,Value.int .i64 R.sm,Value.slice G10 R.sk.length q10,Value.slice G11 R.ct.length q11,Value.int .i64 R.ad,Value.int .i64 R.db] :: (Part.blk g6 50 #[Value.slice B0 R.sl.length b0,Value.int .i64 R.fr,Value.slice B2 R.ce.length b2,Value.slice B3 R.old.length b3,Value.int .i64 R.mv,Value.int .i64 R.wm,Value.slice B6 R.wk.length b6,Value.int .i64 R.tm,Value.slice B8 R.tk.length b8,Value.int .i64 R.sm,Value.slice B10 R.sk.length b10,Value.slice B11 R.ct.length b11,Value.int .i64 R.ad,Value.int .i64 R.db] :: ((⟨.slice B0 R.sl.length b0,.slice B2 R.ce.length b2,.slice B3 R.old.length b3,.slice B6 R.wk.length b6,.slice B8 R.tk.length b8,.slice B10 R.sk.length b10,.slice B11 R.ct.length b11⟩:NV).rows R ++ (Part.blk g2 37 #[l0,l1,l2,l3,l4,l5,l6,l7,l8,l9,l10,l11,l12,l13] :: ([])))))))
  {u0 u3 u4 u5 u8 u10 u11 u13 u14 u15 u16 u17 u18 u19 u20 u21 u22 u23 u24 u25 u26 u27 u28 u29 u30 u31 u32 u33 u34 u35 u36 u37 u38 u39 u40 u41 u42 u43 u44 u45 u46 u47 u48 u49 u50 u51 u52 u53 u54 u55 u56 u57 u58 u59 u60 u61 u62 u63 u64 u65 u66 u67 u68 u69 u70 u71 u72 u73 u74 u75 u76 u77 u78 u79 u80 u81 u82 u83 u84 u85 u86 u87 u88 u89 u90 u91 u92 u93 u94 u95 u96 u97 u98 u99 u100 u101 u102 u103:Value} {K:Act→World→Prop} (hK:∀ a w9,Code.wp Tryz.prog (cAfter 20 (Tryz.f6.body.getD .skip)) (bodyPost Tryz.prog Tryz.f6 (fun e w'=>e=.returned (.bool true)∧Below w.heap.size w w')) a w9→K a w9) :
  Code.wp Tryz.prog (cHead (cAfter 19 (Tryz.f6.body.getD .skip))) (Exit.then K (bodyPost Tryz.prog Tryz.f6 (fun e w'=>e=.returned (.bool true)∧Below w.heap.size w w'))) ⟨#[u0,.string key,.pointer (some ⟨g2,0,none⟩),u3,u4,u5,.pointer (some ⟨g6,0,none⟩),.bool bb,u8,.pointer (some ⟨g9,0,none⟩),u10,u11,.int .i64 kr,u13,u14,u15,u16,u17,u18,u19,u20,u21,u22,u23,u24,u25,u26,u27,u28,u29,u30,u31,u32,u33,u34,u35,u36,u37,u38,u39,u40,u41,u42,u43,u44,u45,u46,u47,u48,u49,u50,u51,u52,u53,u54,u55,u56,u57,u58,u59,u60,u61,u62,u63,u64,u65,u66,u67,u68,u69,u70,u71,u72,u73,u74,u75,u76,u77,u78,u79,u80,u81,u82,u83,u84,u85,u86,u87,u88,u89,u90,u91,u92,u93,u94,u95,u96,u97,u98,u99,u100,u101,u102,u103],[]⟩ wq:=by
 conv=>arg 2;whnf
 conv at hK=>enter [a,w9,1,2];whnf
 have HT:=Aside0.mk hT
 have HMS:=Aside0.mk hms
 have HRS:=Aside0.mk hrs
 have HFI:=Aside0.mk hI
 have S:=hS;clear hT hms hrs hI hS;have HK7:=Aside0.mk hk7
 have HRK:=Aside0.mk HRS.out.short.ks
 clear hk7;have HS:=Aside0.mk S
 obtain⟨hl0,hl1,hl2,hl3,hl4,hl5,hl6,hl7,hl8,hl9,hl10,hl11,hl12,hl13⟩:=S.cells14 16 rfl;clear S;go_wp2_with fail
 refine(HT.out _ HS.out.below).mono ?_
 rintro e xu4 ⟨u4,rfl,st⟩
 have S:=HS.out.join st
 have HCu4:=Aside0.mk (NearC.of_St st (fun p hp=>hp))
 clear HS st hl0 hl1 hl2 hl3 hl4 hl5 hl6 hl7 hl8 hl9 hl10 hl11 hl12 hl13;have HS:=Aside0.mk S
 clear S;go_wp2_with fail
 refine(HFI.out _ u4 HCu4.out).mono ?_
 rintro e yuh ⟨uh,rfl,st⟩
 have S:=HS.out.join st
 clear HS st;clear HCu4;have S:=S.sub (qs:=uh.rows R ++ ((⟨.slice G0 R.sl.length q0,.slice G2 R.ce.length q2,.slice G3 R.old.length q3,.slice G6 R.wk.length q6,.slice G8 R.tk.length q8,.slice G10 R.sk.length q10,.slice G11 R.ct.length q11⟩:NV).rows R.marked ++ (Part.blk g9 50 #[Value.slice G0 R.sl.length q0,Value.int .i64 R.fr,Value.slice G2 R.ce.length q2,Value.slice G3 R.old.length q3,Value.int .i64 R.mv,Value.int .i64 R.wm,Value.slice G6 R.wk.length q6,Value.int .i64 R.tm,Value.slice G8 R.tk.length q8,Value.int .i64 R.sm,Value.slice G10 R.sk.length q10,Value.slice G11 R.ct.length q11,Value.int .i64 R.ad,Value.int .i64 R.db] :: (Part.blk g6 50 #[Value.slice B0 R.sl.length b0,Value.int .i64 R.fr,Value.slice B2 R.ce.length b2,Value.slice B3 R.old.length b3,Value.int .i64 R.mv,Value.int .i64 R.wm,Value.slice B6 R.wk.length b6,Value.int .i64 R.tm,Value.slice B8 R.tk.length b8,Value.int .i64 R.sm,Value.slice B10 R.sk.length b10,Value.slice B11 R.ct.length b11,Value.int .i64 R.ad,Value.int .i64 R.db] :: ((⟨.slice B0 R.sl.length b0,.slice B2 R.ce.length b2,.slice B3 R.old.length b3,.slice B6 R.wk.length b6,.slice B8 R.tk.length b8,.slice B10 R.sk.length b10,.slice B11 R.ct.length b11⟩:NV).rows R ++ (Part.blk g2 37 #[l0,l1,l2,l3,l4,l5,l6,l7,l8,l9,l10,l11,l12,l13] :: ([]))))))) (List.Sublist.append (List.Sublist.refl _) ((List.Sublist.append (List.Sublist.refl _) (List.Sublist.cons_cons _ (List.Sublist.cons_cons _ (List.Sublist.append (List.Sublist.refl _) (List.Sublist.cons_cons _ (List.Sublist.refl _)))))).trans (List.sublist_append_right _ _)))
 obtain⟨E0,e0,E2,e2,E3,e3,E6,e6,E8,e8,E10,e10,E11,e11,rfl⟩:=NV.shape S;dsimp only [NV.cells]
 have HS:=Aside0.mk S
 clear S;go_upto_region 27 with (first|((with_reducible refine gate_dst (N:=14) rfl ?_);refine boxS HS (N:=14) (cs:=#[.slice none 0 0,.int .i64 0,.slice none 0 0,.slice none 0 0,.int .i64 0,.int .i64 0,.slice none 0 0,.int .i64 0,.slice none 0 0,.int .i64 0,.slice none 0 0,.slice none 0 0,.int .i64 0,.int .i64 0]) (t:=50) fun g14 w14 S=>?_;clear HS;have HS:=Aside0.mk S;obtain⟨hh0,hh1,hh2,hh3,hh4,hh5,hh6,hh7,hh8,hh9,hh10,hh11,hh12,hh13⟩:=S.cells14 0 rfl;obtain⟨fh0,fh1,fh2,fh3,fh4,fh5,fh6,fh7,fh8,fh9,fh10,fh11,fh12,fh13⟩:=S.frozen14 0 rfl;clear S))
 have S:=HS.out;clear HS hh0 fh0 hh1 fh1 hh2 fh2 hh3 fh3 hh4 fh4 hh5 fh5 hh6 fh6 hh7 fh7 hh8 fh8 hh9 fh9 hh10 fh10 hh11 fh11 hh12 fh12 hh13 fh13;have S:=S.put14 (Value.slice E0 R.sl.length e0) (Value.int .i64 R.fr) (Value.slice E2 R.ce.length e2) (Value.slice E3 R.old.length e3) (Value.int .i64 R.mv) (Value.int .i64 R.wm) (Value.slice E6 R.wk.length e6) (Value.int .i64 R.tm) (Value.slice E8 R.tk.length e8) (Value.int .i64 R.sm) (Value.slice E10 R.sk.length e10) (Value.slice E11 R.ct.length e11) (Value.int .i64 R.ad) (Value.int .i64 R.db)
 obtain⟨z14,hw,S⟩:=S.fold;rw[← hw]
 clear hw;generalize Value.agg #[l0,l1,l2,l3,l4,l5,l6,l7,l8,l9,l10,l11,l12,l13]=agg0
 generalize Value.agg #[Value.slice G0 R.sl.length q0,Value.int .i64 R.fr,Value.slice G2 R.ce.length q2,Value.slice G3 R.old.length q3,Value.int .i64 R.mv,Value.int .i64 R.wm,Value.slice G6 R.wk.length q6,Value.int .i64 R.tm,Value.slice G8 R.tk.length q8,Value.int .i64 R.sm,Value.slice G10 R.sk.length q10,Value.slice G11 R.ct.length q11,Value.int .i64 R.ad,Value.int .i64 R.db]=agg1
 generalize Value.agg #[Value.slice B0 R.sl.length b0,Value.int .i64 R.fr,Value.slice B2 R.ce.length b2,Value.slice B3 R.old.length b3,Value.int .i64 R.mv,Value.int .i64 R.wm,Value.slice B6 R.wk.length b6,Value.int .i64 R.tm,Value.slice B8 R.tk.length b8,Value.int .i64 R.sm,Value.slice B10 R.sk.length b10,Value.slice B11 R.ct.length b11,Value.int .i64 R.ad,Value.int .i64 R.db]=agg2
 generalize Value.agg #[Value.slice E0 R.sl.length e0,Value.int .i64 R.fr,Value.slice E2 R.ce.length e2,Value.slice E3 R.old.length e3,Value.int .i64 R.mv,Value.int .i64 R.wm,Value.slice E6 R.wk.length e6,Value.int .i64 R.tm,Value.slice E8 R.tk.length e8,Value.int .i64 R.sm,Value.slice E10 R.sk.length e10,Value.slice E11 R.ct.length e11,Value.int .i64 R.ad,Value.int .i64 R.db]=agg3
 have HS:=Aside0.mk S
 obtain⟨hh0,hh1,hh2,hh3,hh4,hh5,hh6,hh7,hh8,hh9,hh10,hh11,hh12,hh13⟩:=S.cells14 0 rfl;obtain⟨hw0,hw1,hw2,hw3,hw4,hw5,hw6,hw7,hw8,hw9,hw10,hw11,hw12,hw13⟩:=S.cells14 16 rfl;have hC1:=Aside0.mk (NearC.of_St (v:=(⟨.slice E0 R.sl.length e0,.slice E2 R.ce.length e2,.slice E3 R.old.length e3,.slice E6 R.wk.length e6,.slice E8 R.tk.length e8,.slice E10 R.sk.length e10,.slice E11 R.ct.length e11⟩:NV)) (n:=R) S (fun p hp=>List.mem_cons_of_mem _ (List.mem_append_left _ hp)))
 have hC2:=Aside0.mk (NearC.of_St (v:=(⟨.slice B0 R.sl.length b0,.slice B2 R.ce.length b2,.slice B3 R.old.length b3,.slice B6 R.wk.length b6,.slice B8 R.tk.length b8,.slice B10 R.sk.length b10,.slice B11 R.ct.length b11⟩:NV)) (n:=R) S (fun p hp=>List.mem_cons_of_mem _ (List.mem_append_right _ (List.mem_append_right _ (List.mem_cons_of_mem _ (List.mem_cons_of_mem _ (List.mem_append_left _ hp)))))))
 clear S;go_wp2_with fail
 refine(eqNearS _ (⟨.slice E0 R.sl.length e0,.slice E2 R.ce.length e2,.slice E3 R.old.length e3,.slice E6 R.wk.length e6,.slice E8 R.tk.length e8,.slice E10 R.sk.length e10,.slice E11 R.ct.length e11⟩:NV) (⟨.slice B0 R.sl.length b0,.slice B2 R.ce.length b2,.slice B3 R.old.length b3,.slice B6 R.wk.length b6,.slice B8 R.tk.length b8,.slice B10 R.sk.length b10,.slice B11 R.ct.length b11⟩:NV) R HRS.out hC1.out hC2.out).mono ?_
 rintro e v9 ⟨rfl,hb⟩
 have S:=HS.out.step hb
 clear hb hC1 hC2;clear HS hh0 hh1 hh2 hh3 hh4 hh5 hh6 hh7 hh8 hh9 hh10 hh11 hh12 hh13 hw0 hw1 hw2 hw3 hw4 hw5 hw6 hw7 hw8 hw9 hw10 hw11 hw12 hw13;have S:=S.sub (qs:=(⟨.slice G0 R.sl.length q0,.slice G2 R.ce.length q2,.slice G3 R.old.length q3,.slice G6 R.wk.length q6,.slice G8 R.tk.length q8,.slice G10 R.sk.length q10,.slice G11 R.ct.length q11⟩:NV).rows R.marked ++ (Part.blk g9 50 #[Value.slice G0 R.sl.length q0,Value.int .i64 R.fr,Value.slice G2 R.ce.length q2,Value.slice G3 R.old.length q3,Value.int .i64 R.mv,Value.int .i64 R.wm,Value.slice G6 R.wk.length q6,Value.int .i64 R.tm,Value.slice G8 R.tk.length q8,Value.int .i64 R.sm,Value.slice G10 R.sk.length q10,Value.slice G11 R.ct.length q11,Value.int .i64 R.ad,Value.int .i64 R.db] :: (Part.blk g6 50 #[Value.slice B0 R.sl.length b0,Value.int .i64 R.fr,Value.slice B2 R.ce.length b2,Value.slice B3 R.old.length b3,Value.int .i64 R.mv,Value.int .i64 R.wm,Value.slice B6 R.wk.length b6,Value.int .i64 R.tm,Value.slice B8 R.tk.length b8,Value.int .i64 R.sm,Value.slice B10 R.sk.length b10,Value.slice B11 R.ct.length b11,Value.int .i64 R.ad,Value.int .i64 R.db] :: ((⟨.slice B0 R.sl.length b0,.slice B2 R.ce.length b2,.slice B3 R.old.length b3,.slice B6 R.wk.length b6,.slice B8 R.tk.length b8,.slice B10 R.sk.length b10,.slice B11 R.ct.length b11⟩:NV).rows R ++ (Part.blk g2 37 #[l0,l1,l2,l3,l4,l5,l6,l7,l8,l9,l10,l11,l12,l13] :: ([])))))) (List.Sublist.cons _ ((List.Sublist.append (List.Sublist.refl _) (List.Sublist.cons_cons _ (List.Sublist.cons_cons _ (List.Sublist.append (List.Sublist.refl _) (List.Sublist.cons_cons _ (List.Sublist.refl _)))))).trans (List.sublist_append_right _ _)))
 generalize Value.agg #[l0,l1,l2,l3,l4,l5,l6,l7,l8,l9,l10,l11,l12,l13]=agg0
 generalize Value.agg #[Value.slice G0 R.sl.length q0,Value.int .i64 R.fr,Value.slice G2 R.ce.length q2,Value.slice G3 R.old.length q3,Value.int .i64 R.mv,Value.int .i64 R.wm,Value.slice G6 R.wk.length q6,Value.int .i64 R.tm,Value.slice G8 R.tk.length q8,Value.int .i64 R.sm,Value.slice G10 R.sk.length q10,Value.slice G11 R.ct.length q11,Value.int .i64 R.ad,Value.int .i64 R.db]=agg1
 generalize Value.agg #[Value.slice B0 R.sl.length b0,Value.int .i64 R.fr,Value.slice B2 R.ce.length b2,Value.slice B3 R.old.length b3,Value.int .i64 R.mv,Value.int .i64 R.wm,Value.slice B6 R.wk.length b6,Value.int .i64 R.tm,Value.slice B8 R.tk.length b8,Value.int .i64 R.sm,Value.slice B10 R.sk.length b10,Value.slice B11 R.ct.length b11,Value.int .i64 R.ad,Value.int .i64 R.db]=agg2
 generalize Value.agg #[Value.slice E0 R.sl.length e0,Value.int .i64 R.fr,Value.slice E2 R.ce.length e2,Value.slice E3 R.old.length e3,Value.int .i64 R.mv,Value.int .i64 R.wm,Value.slice E6 R.wk.length e6,Value.int .i64 R.tm,Value.slice E8 R.tk.length e8,Value.int .i64 R.sm,Value.slice E10 R.sk.length e10,Value.slice E11 R.ct.length e11,Value.int .i64 R.ad,Value.int .i64 R.db]=agg3
 have HS:=Aside0.mk S
 have t7:decide (kr < 0)=false:=decide_eq_false (by have:=HRK.out;have:=HK7.out;omega)
 obtain⟨hg0,hg1,hg2,hg3,hg4,hg5,hg6,hg7,hg8,hg9,hg10,hg11,hg12,hg13⟩:=S.cells14 7 rfl;have hC1:=Aside0.mk (NearC.of_St (v:=(⟨.slice G0 R.sl.length q0,.slice G2 R.ce.length q2,.slice G3 R.old.length q3,.slice G6 R.wk.length q6,.slice G8 R.tk.length q8,.slice G10 R.sk.length q10,.slice G11 R.ct.length q11⟩:NV)) (n:=R.marked) S (fun p hp=>List.mem_append_left _ hp))
 clear S;go_wp2_with fail
 refine(heldNearL _ (⟨.slice G0 R.sl.length q0,.slice G2 R.ce.length q2,.slice G3 R.old.length q3,.slice G6 R.wk.length q6,.slice G8 R.tk.length q8,.slice G10 R.sk.length q10,.slice G11 R.ct.length q11⟩:NV) R.marked HRS.out.short.marked R.marked_is hC1.out).mono ?_
 rw[R.marked_ks.2.2.2.2.2.2,HK7.out]
 rintro e w9 ⟨rfl,hb⟩
 have S:=HS.out.step hb
 clear hb hC1 HS hg0 hg1 hg2 hg3 hg4 hg5 hg6 hg7 hg8 hg9 hg10 hg11 hg12 hg13;generalize Value.agg #[l0,l1,l2,l3,l4,l5,l6,l7,l8,l9,l10,l11,l12,l13]=agg0
 generalize Value.agg #[Value.slice G0 R.sl.length q0,Value.int .i64 R.fr,Value.slice G2 R.ce.length q2,Value.slice G3 R.old.length q3,Value.int .i64 R.mv,Value.int .i64 R.wm,Value.slice G6 R.wk.length q6,Value.int .i64 R.tm,Value.slice G8 R.tk.length q8,Value.int .i64 R.sm,Value.slice G10 R.sk.length q10,Value.slice G11 R.ct.length q11,Value.int .i64 R.ad,Value.int .i64 R.db]=agg1
 generalize Value.agg #[Value.slice B0 R.sl.length b0,Value.int .i64 R.fr,Value.slice B2 R.ce.length b2,Value.slice B3 R.old.length b3,Value.int .i64 R.mv,Value.int .i64 R.wm,Value.slice B6 R.wk.length b6,Value.int .i64 R.tm,Value.slice B8 R.tk.length b8,Value.int .i64 R.sm,Value.slice B10 R.sk.length b10,Value.slice B11 R.ct.length b11,Value.int .i64 R.ad,Value.int .i64 R.db]=agg2
 generalize Value.agg #[Value.slice E0 R.sl.length e0,Value.int .i64 R.fr,Value.slice E2 R.ce.length e2,Value.slice E3 R.old.length e3,Value.int .i64 R.mv,Value.int .i64 R.wm,Value.slice E6 R.wk.length e6,Value.int .i64 R.tm,Value.slice E8 R.tk.length e8,Value.int .i64 R.sm,Value.slice E10 R.sk.length e10,Value.slice E11 R.ct.length e11,Value.int .i64 R.ad,Value.int .i64 R.db]=agg3
 go_wp2_with fail
 go_ret
 exact⟨rfl,S.below⟩
end Go.Proofs.YtediiolcoilepaaGreat.Nb
