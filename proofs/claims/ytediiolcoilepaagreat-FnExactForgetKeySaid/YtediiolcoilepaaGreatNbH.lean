/- Parts of the proof: walks of callees, plain laws about what they compute. -/
import Derived.Test.YtediiolcoilepaaGreatNbG
import Derived.BigRegion
namespace Go.Proofs.YtediiolcoilepaaGreat.Nb
open Go.RowKit Go.Proofs.YtediiolcoilepaaGreat.GNear Go.Proofs.YtediiolcoilepaaGreatW.PrintWords Go.Proofs.YtediiolcoilepaaGreatW.PrintLast Go.Proofs.YtediiolcoilepaaGreatW.PrintMore
attribute [local go_sem] max2_int min2_int max_two min_two max_three min_three max_four min_four
set_option linter.unusedVariables false
set_option linter.unusedSimpArgs false
def OkPost (w:World) (P:Prop) (e:Ending) (w':World):Prop:=∃ b,e=.returned (.bool b)∧(b=true ↔ P)∧Below w.heap.size w w'
theorem OkPost.no {w w':World} {P:Prop} (hb:Below w.heap.size w w') (h:¬ P):OkPost w P (.returned (.bool false)) w':=⟨false,rfl,⟨fun h=>Bool.noConfusion h,fun h1=>(h h1).elim⟩,hb⟩
theorem OkPost.yes {w w':World} {P:Prop} (hb:Below w.heap.size w w') (h:P):OkPost w P (.returned (.bool true)) w':=⟨true,rfl,⟨fun _=>h,fun _=>rfl⟩,hb⟩
theorem at_str0 {w:World} {ad:Addr} {xs:List ByteArray} (h:Kd.C Kd.string w (some ad) xs.length xs) (j:Nat) (hj:j < xs.length):w.cell? (ad.add j)=some (.string xs[j]):=by
 obtain⟨ad',e,h'⟩:=Kd.at_string h (j:Int) (by omega) (by omega)
 cases e
 rw[Int.toNat_natCast,rdS_at xs j hj] at h'
 exact h'
set_option maxHeartbeats 4000000 in
set_option maxRecDepth 100000 in
theorem nearOkS (w:World) (v:NV) (n:Nr) (hn:n.small) (hR:∀ c ∈ n.ce,c.f1≤9223372036854775807) (hC:NearC w v n) :
  Calls Tryz.prog 13 #[.agg (v.cells n)] w (OkPost w (NearR n)):=by
 have hP:=fun w1 hb=>l08PartsS w1 v n hn (hC.below (w':=w1) hb)
 have hH:=fun w1 hb=>l08KeysS w1 v n hn (hC.below (w':=w1) hb)
 obtain⟨A0,c0,A2,c2,A3,c3,A6,c6,A8,c8,A10,c10,A11,c11,rfl,hF⟩:=hC.open_;have HF:=Aside0.mk hF
 clear hC hF;dsimp only [NV.cells] at *
 have HP:=Aside0.mk hP
 have HH:=Aside0.mk hH
 clear hP hH;have HR:=Aside0.mk hR
 clear hR;have HS:=Aside0.mk (St.start w)
 have HN:=Aside0.mk hn
 clear hn;go_enter Tryz.func13,Tryz.ntmps13
 go_wp2_with fail
 have S:=HS.out.alloc #[Value.slice A0 n.sl.length c0,Value.int .i64 n.fr,Value.slice A2 n.ce.length c2,Value.slice A3 n.old.length c3,Value.int .i64 n.mv,Value.int .i64 n.wm,Value.slice A6 n.wk.length c6,Value.int .i64 n.tm,Value.slice A8 n.tk.length c8,Value.int .i64 n.sm,Value.slice A10 n.sk.length c10,Value.slice A11 n.ct.length c11,Value.int .i64 n.ad,Value.int .i64 n.db] 50
 clear HS;refine(HP.out _ S.below).mono ?_
 rintro e w1 ⟨b0,rfl,hq,hb⟩
 have S:=S.step hb
 clear hb HP;have HS:=Aside0.mk S
 obtain⟨hc0,hc1,hc2,hc3,hc4,hc5,hc6,hc7,hc8,hc9,hc10,hc11,hc12,hc13⟩:=S.cells14 0 rfl
 clear S;have HQ0:=Aside0.mk hq
 clear hq;cases b0 with
 |false =>
  go_wp2_with fail
  go_ret
  exact OkPost.no HS.out.below (fun h=>absurd (HQ0.out.2 ⟨h.parts,h.shape⟩) (by simp))
 |true =>
 go_wp2_with fail
 refine(HH.out _ HS.out.below).mono ?_
 rintro e w2 ⟨u,rfl,hr,hb⟩
 have S:=HS.out.new_row rfl hb hr
 obtain⟨B0,d0,rfl⟩:=Kd.R_slice hr;clear hb hr HH HS hc0 hc1 hc2 hc3 hc4 hc5 hc6 hc7 hc8 hc9 hc10 hc11 hc12 hc13;obtain⟨q1,hq1⟩:∃ q,q=sortS (n.wk ++ n.tk ++ n.sk):=⟨_,rfl⟩
 rw[← hq1] at S ⊢
 have HQ:=Aside0.mk hq1
 have HQB:=Aside0.mk (show q1.length≤3145728 by have:=HN.out.s6;have:=HN.out.s8;have:=HN.out.s10;rw[hq1,sortS_len];simp only [List.length_append];omega)
 clear hq1;have HS:=Aside0.mk S
 have hc2:=S.at_cell 1 rfl 2 rfl
 have hc3:=S.at_cell 1 rfl 3 rfl
 have hc4:=S.at_cell 1 rfl 4 rfl
 clear S;go_wp2_with fail
 obtain⟨ks,hks⟩:∃ q,q=sortS (keysC n.ce):=⟨_,rfl⟩
 have HO:=Aside0.mk (show n.old = [] from List.eq_nil_of_length_eq_zero (HQ0.out.1 (by simp)).2.old)
 have hkk:∃ K,spec_KeysOf.f K n.ce n.old n.mv=some ks:=by
  have ht:=(HQ0.out.1 (by simp)).1.table
  rw[HO.out] at ht;obtain⟨K,hK⟩:=keysS_ev (m:=n.mv) HN.out.s2 HN.out.k2 ht
  exact⟨K,by rw[hks,HO.out];exact hK K (Nat.le_refl _)⟩
 obtain⟨Kk,hKk⟩:=hkk;have HK:=Aside0.mk hks
 have HKB:=Aside0.mk (show ks.length≤1048576 by rw[hks,sortS_len];exact Nat.le_trans (keysC_len _) HN.out.s2)
 clear hks;have hbb:=HS.out.below;refine(spec_KeysOf.calls Kk A2 c2 n.ce A3 c3 n.old n.mv ks _ (HF.out.below hbb).h2 HF.out.l2 (HF.out.below hbb).h3 HF.out.l3 hKk).mono ?_
 rintro e w6 ⟨v6,rfl,hr,hb⟩
 have S:=HS.out.new_row rfl hb hr
 obtain⟨B2,d2,rfl⟩:=Kd.R_slice hr;clear hb hr hbb HS hKk hc2 hc3 hc4;by_cases hl:q1.length=ks.length
 case neg =>
  have HL:=Aside0.mk hl
  have l1:((q1.length:Int) == (ks.length:Int))=false:=beq_eq_false_iff_ne.2 (by omega)
  have l2:((q1.length:Int) != (ks.length:Int))=true:=bne_iff_ne.2 (by omega)
  have HS:=Aside0.mk S
  clear S;go_wp2_with fail
  go_ret
  exact OkPost.no HS.out.below (fun h=>(HL.out (by rw[HQ.out,HK.out];exact h.len)).elim)
 rw[hl] at S ⊢
 have HL:=Aside0.mk hl
 clear hl;have HS:=Aside0.mk S
 obtain⟨hc0,hc1⟩:=S.cells2 2 rfl
 clear S;go_wp2_with fail
 obtain⟨m,hm⟩:∃ m,m=n.sl.countP S94.f1:=⟨_,rfl⟩
 obtain⟨Ku,hKu⟩:=usedS_ev (HQ0.out.1 (by simp)).1.arena
 rw[← hm] at hKu;have hbb:=HS.out.below;refine(spec_UsedOf.calls Ku A0 c0 n.sl n.fr (m:Int) _ (HF.out.below hbb).h0 HF.out.l0 (hKu Ku (Nat.le_refl _))).mono ?_
 rintro e w7 ⟨rfl,hb⟩
 have S:=HS.out.step hb
 have HM:=Aside0.mk hm
 clear HS hb hbb hKu hm hc0 hc1;have HS:=Aside0.mk S
 clear S;by_cases hl:m=ks.length
 case neg =>
  have HL2:=Aside0.mk hl
  have l1:((m:Int) == (ks.length:Int))=false:=beq_eq_false_iff_ne.2 (by omega)
  have l2:((m:Int) != (ks.length:Int))=true:=bne_iff_ne.2 (by omega)
  go_wp2_with fail
  go_ret
  exact OkPost.no HS.out.below (fun h=>(HL2.out (by rw[HM.out,HK.out];exact h.count)).elim)
 subst hl;go_wp2_with fail
 go_loopw [5] (fun v5 wr=>∃ j:Nat,v5=.int .i64 j∧Aside0 (j≤ks.length)∧Aside0 (∀ i,i < j→goodAt n i)∧Aside0 (St w wr [Part.row Kd.string 9 (.slice B2 ks.length d2) ks,Part.row Kd.string 9 (.slice B0 ks.length d0) q1,Part.blk w.heap.size 50 #[Value.slice A0 n.sl.length c0,Value.int .i64 n.fr,Value.slice A2 n.ce.length c2,Value.slice A3 n.old.length c3,Value.int .i64 n.mv,Value.int .i64 n.wm,Value.slice A6 n.wk.length c6,Value.int .i64 n.tm,Value.slice A8 n.tk.length c8,Value.int .i64 n.sm,Value.slice A10 n.sk.length c10,Value.slice A11 n.ct.length c11,Value.int .i64 n.ad,Value.int .i64 n.db]])) (fun v5 _=>ks.length - (intOf v5).toNat)
 case atStart=>exact⟨0,rfl,⟨by omega⟩,⟨fun i hi=>absurd hi (by omega)⟩,⟨HS.out⟩⟩
 case round =>
  clear HS;obtain⟨j,rfl,HJ,HG,HS⟩:=hrel;by_cases c1:j < ks.length
  ·have c1b:decide ((j:Int) < (ks.length:Int))=true:=decide_eq_true (by omega)
   have p5:(0:Int)≤(j:Int):=by omega
   have q5:(j:Int) < (ks.length:Int):=by omega
   have c1c:decide (j < ks.length)=true:=decide_eq_true c1
   have p6:j < 1048576:=by have:=HKB.out;omega
   have cq:j < q1.length:=by have:=HL.out;omega
   obtain⟨ad,e5,hx0⟩:=Kd.at_string (HS.out.at_C 0 rfl).2.2 (j:Int) p5 q5
   cases e5
   obtain⟨bd,e5,hy0⟩:=Kd.at_string (HS.out.at_C 1 rfl).2.2 (j:Int) p5 (by omega)
   cases e5
   clear hx0 hy0;have hx0:=fun (p:WSt w [Part.row Kd.string 9 (.slice (some ad) ks.length d2) ks,Part.row Kd.string 9 (.slice (some bd) ks.length d0) q1,Part.blk w.heap.size 50 #[Value.slice A0 n.sl.length c0,Value.int .i64 n.fr,Value.slice A2 n.ce.length c2,Value.slice A3 n.old.length c3,Value.int .i64 n.mv,Value.int .i64 n.wm,Value.slice A6 n.wk.length c6,Value.int .i64 n.tm,Value.slice A8 n.tk.length c8,Value.int .i64 n.sm,Value.slice A10 n.sk.length c10,Value.slice A11 n.ct.length c11,Value.int .i64 n.ad,Value.int .i64 n.db]])=>at_str0 (p.st.at_C 0 rfl).2.2 j c1
   have hy0:=fun (p:WSt w [Part.row Kd.string 9 (.slice (some ad) ks.length d2) ks,Part.row Kd.string 9 (.slice (some bd) ks.length d0) q1,Part.blk w.heap.size 50 #[Value.slice A0 n.sl.length c0,Value.int .i64 n.fr,Value.slice A2 n.ce.length c2,Value.slice A3 n.old.length c3,Value.int .i64 n.mv,Value.int .i64 n.wm,Value.slice A6 n.wk.length c6,Value.int .i64 n.tm,Value.slice A8 n.tk.length c8,Value.int .i64 n.sm,Value.slice A10 n.sk.length c10,Value.slice A11 n.ct.length c11,Value.int .i64 n.ad,Value.int .i64 n.db]])=>at_str0 (p.st.at_C 1 rfl).2.2 j cq
   obtain⟨key2,hkey2⟩:∃ y,y=ks[j]:=⟨_,rfl⟩
   obtain⟨key,hkey⟩:∃ y,y=q1[j]:=⟨_,rfl⟩
   rw[← hkey2] at hx0;rw[← hkey] at hy0;have hq:(sortS (n.wk ++ n.tk ++ n.sk))[j]? = some key:=by rw[← HQ.out,hkey,List.getElem?_eq_getElem cq]
   have hk2:(sortS (keysC n.ce))[j]? = some key2:=by rw[← HK.out,hkey2,List.getElem?_eq_getElem c1]
   have hkz:key.size ≠ 0∧key.size≤12:=by
    have h_:=(sortS_perm _).mem_iff.1 (List.mem_of_getElem? hq)
    have hp_:=(HQ0.out.1 (by simp)).1
    rcases List.mem_append.1 h_ with h_|h_
    ·rcases List.mem_append.1 h_ with h_|h_
     ·exact okQ_key hp_.window h_
     ·exact okQ_key hp_.trial h_
    ·exact okQ_key hp_.safe h_
   obtain⟨h,b,hS1,hb1,hs2⟩:=seekS_ex HN.out (HQ0.out.1 (by simp)).1 HO.out HR.out hkz
   obtain⟨k',v',b',hL1,hl2⟩:=lookS_ex (HQ0.out.1 (by simp)).1 hb1 key
   have HI:=Aside0.mk (good_iff hq hk2 hs2 hl2)
   obtain⟨HE1k,hE1⟩:=hS1;obtain⟨HE2k,hE2⟩:=hL1;have HE1:=Aside0.mk (hE1 HE1k (Nat.le_refl _))
   have HE2:=Aside0.mk (hE2 HE2k (Nat.le_refl _))
   have HJ2:=Aside0.mk (show j < (sortS (keysC n.ce)).length from(List.getElem?_eq_some_iff.1 hk2).1)
   clear hkey hkey2 hq hk2 hkz hE1 hb1 hs2 hE2 hl2 c1 cq;replace p5:=eq_true p5;replace q5:=eq_true q5;have HS1:=Aside0.mk HS.out.drew
   clear HS;have hc0:=fun (p:WSt w [Part.row Kd.string 9 (.slice (some ad) ks.length d2) ks,Part.row Kd.string 9 (.slice (some bd) ks.length d0) q1,Part.blk w.heap.size 50 #[Value.slice A0 n.sl.length c0,Value.int .i64 n.fr,Value.slice A2 n.ce.length c2,Value.slice A3 n.old.length c3,Value.int .i64 n.mv,Value.int .i64 n.wm,Value.slice A6 n.wk.length c6,Value.int .i64 n.tm,Value.slice A8 n.tk.length c8,Value.int .i64 n.sm,Value.slice A10 n.sk.length c10,Value.slice A11 n.ct.length c11,Value.int .i64 n.ad,Value.int .i64 n.db]])=>p.st.at_cell 2 rfl 0 rfl
   have hc1:=fun (p:WSt w [Part.row Kd.string 9 (.slice (some ad) ks.length d2) ks,Part.row Kd.string 9 (.slice (some bd) ks.length d0) q1,Part.blk w.heap.size 50 #[Value.slice A0 n.sl.length c0,Value.int .i64 n.fr,Value.slice A2 n.ce.length c2,Value.slice A3 n.old.length c3,Value.int .i64 n.mv,Value.int .i64 n.wm,Value.slice A6 n.wk.length c6,Value.int .i64 n.tm,Value.slice A8 n.tk.length c8,Value.int .i64 n.sm,Value.slice A10 n.sk.length c10,Value.slice A11 n.ct.length c11,Value.int .i64 n.ad,Value.int .i64 n.db]])=>p.st.at_cell 2 rfl 1 rfl
   have hc2:=fun (p:WSt w [Part.row Kd.string 9 (.slice (some ad) ks.length d2) ks,Part.row Kd.string 9 (.slice (some bd) ks.length d0) q1,Part.blk w.heap.size 50 #[Value.slice A0 n.sl.length c0,Value.int .i64 n.fr,Value.slice A2 n.ce.length c2,Value.slice A3 n.old.length c3,Value.int .i64 n.mv,Value.int .i64 n.wm,Value.slice A6 n.wk.length c6,Value.int .i64 n.tm,Value.slice A8 n.tk.length c8,Value.int .i64 n.sm,Value.slice A10 n.sk.length c10,Value.slice A11 n.ct.length c11,Value.int .i64 n.ad,Value.int .i64 n.db]])=>p.st.at_cell 2 rfl 2 rfl
   have hc3:=fun (p:WSt w [Part.row Kd.string 9 (.slice (some ad) ks.length d2) ks,Part.row Kd.string 9 (.slice (some bd) ks.length d0) q1,Part.blk w.heap.size 50 #[Value.slice A0 n.sl.length c0,Value.int .i64 n.fr,Value.slice A2 n.ce.length c2,Value.slice A3 n.old.length c3,Value.int .i64 n.mv,Value.int .i64 n.wm,Value.slice A6 n.wk.length c6,Value.int .i64 n.tm,Value.slice A8 n.tk.length c8,Value.int .i64 n.sm,Value.slice A10 n.sk.length c10,Value.slice A11 n.ct.length c11,Value.int .i64 n.ad,Value.int .i64 n.db]])=>p.st.at_cell 2 rfl 3 rfl
   have hc4:=fun (p:WSt w [Part.row Kd.string 9 (.slice (some ad) ks.length d2) ks,Part.row Kd.string 9 (.slice (some bd) ks.length d0) q1,Part.blk w.heap.size 50 #[Value.slice A0 n.sl.length c0,Value.int .i64 n.fr,Value.slice A2 n.ce.length c2,Value.slice A3 n.old.length c3,Value.int .i64 n.mv,Value.int .i64 n.wm,Value.slice A6 n.wk.length c6,Value.int .i64 n.tm,Value.slice A8 n.tk.length c8,Value.int .i64 n.sm,Value.slice A10 n.sk.length c10,Value.slice A11 n.ct.length c11,Value.int .i64 n.ad,Value.int .i64 n.db]])=>p.st.at_cell 2 rfl 4 rfl
   have HF2:=Aside0.mk (fun (p:WSt w [Part.row Kd.string 9 (.slice (some ad) ks.length d2) ks,Part.row Kd.string 9 (.slice (some bd) ks.length d0) q1,Part.blk w.heap.size 50 #[Value.slice A0 n.sl.length c0,Value.int .i64 n.fr,Value.slice A2 n.ce.length c2,Value.slice A3 n.old.length c3,Value.int .i64 n.mv,Value.int .i64 n.wm,Value.slice A6 n.wk.length c6,Value.int .i64 n.tm,Value.slice A8 n.tk.length c8,Value.int .i64 n.sm,Value.slice A10 n.sk.length c10,Value.slice A11 n.ct.length c11,Value.int .i64 n.ad,Value.int .i64 n.db]])=>HF.out.below p.st.below)
   have hne:Nonempty (WSt w [Part.row Kd.string 9 (.slice (some ad) ks.length d2) ks,Part.row Kd.string 9 (.slice (some bd) ks.length d0) q1,Part.blk w.heap.size 50 #[Value.slice A0 n.sl.length c0,Value.int .i64 n.fr,Value.slice A2 n.ce.length c2,Value.slice A3 n.old.length c3,Value.int .i64 n.mv,Value.int .i64 n.wm,Value.slice A6 n.wk.length c6,Value.int .i64 n.tm,Value.slice A8 n.tk.length c8,Value.int .i64 n.sm,Value.slice A10 n.sk.length c10,Value.slice A11 n.ct.length c11,Value.int .i64 n.ad,Value.int .i64 n.db]]):=⟨⟨_,HS1.out⟩⟩
   go_wp2_with fail
   refine wp_region_quietL (C:=fun w'=>∃ p:WSt w [Part.row Kd.string 9 (.slice (some ad) ks.length d2) ks,Part.row Kd.string 9 (.slice (some bd) ks.length d0) q1,Part.blk w.heap.size 50 #[Value.slice A0 n.sl.length c0,Value.int .i64 n.fr,Value.slice A2 n.ce.length c2,Value.slice A3 n.old.length c3,Value.int .i64 n.mv,Value.int .i64 n.wm,Value.slice A6 n.wk.length c6,Value.int .i64 n.tm,Value.slice A8 n.tk.length c8,Value.int .i64 n.sm,Value.slice A10 n.sk.length c10,Value.slice A11 n.ct.length c11,Value.int .i64 n.ad,Value.int .i64 n.db]],w'=p.w') (by kernel_rfl) (by kernel_rfl) ⟨⟨_,HS1.out⟩,rfl⟩ ?_
   repeat(go_big_quiet_step ((go_at_call 44;refine(spec_SeekKey.calls HE1k A2 c2 n.ce A3 c3 n.old n.mv key h b _ (HF2.out _).h2 HF.out.l2 (HF2.out _).h3 HF.out.l3 HE1.out).mono ?_;rintro e w2 ⟨rfl,hb⟩;exact⟨rfl,WSt.on _ hb⟩)))
   refine wpQuiet_nil ?_
   rintro w9 ⟨⟨w9,S⟩,rfl⟩
   have HS:=Aside0.mk S
   clear S;clear HS1;obtain⟨hd0,hd1⟩:=HS.out.cells2 2 rfl
   go_wp2_with fail
   have hbb:=HS.out.below;refine(spec_Look.calls HE2k A0 c0 n.sl n.fr h k' v' b' _ (HF.out.below hbb).h0 HF.out.l0 HE2.out).mono ?_
   rintro e w8 ⟨rfl,hb⟩
   have S:=HS.out.step hb
   clear HS hb hbb hd0 hd1;have HS1:=Aside0.mk S
   clear S;go_wp2_with fail
   by_cases k1:key=key2
   case neg =>
    have NO:=Aside0.mk (show ¬ (key=key2∧b'=true∧k'=key) from fun h=>k1 h.1)
    have t1:(key.toList == key2.toList)=false:=beq_eq_false_iff_ne.2 (fun e=>k1 (str_eq.1 e))
    have t2:(key.toList != key2.toList)=true:=bne_iff_ne.2 (fun e=>k1 (str_eq.1 e))
    clear k1;refine wp_region_quietL (C:=fun w'=>∃ p:WSt w [Part.row Kd.string 9 (.slice (some ad) ks.length d2) ks,Part.row Kd.string 9 (.slice (some bd) ks.length d0) q1,Part.blk w.heap.size 50 #[Value.slice A0 n.sl.length c0,Value.int .i64 n.fr,Value.slice A2 n.ce.length c2,Value.slice A3 n.old.length c3,Value.int .i64 n.mv,Value.int .i64 n.wm,Value.slice A6 n.wk.length c6,Value.int .i64 n.tm,Value.slice A8 n.tk.length c8,Value.int .i64 n.sm,Value.slice A10 n.sk.length c10,Value.slice A11 n.ct.length c11,Value.int .i64 n.ad,Value.int .i64 n.db]],w'=p.w') (by kernel_rfl) (by kernel_rfl) ⟨⟨_,HS1.out.drew⟩,rfl⟩ ?_
    repeat(go_big_quiet_step (fail))
    refine wpQuiet_nil ?_
    rintro w9 ⟨⟨w9,S⟩,rfl⟩
    have HS:=Aside0.mk S
    clear S;clear hc0 hc1 hc2 hc3 hc4 hx0 hy0;go_wp2_with fail
    go_ret
    exact OkPost.no HS.out.below (fun h=>(NO.out (HI.out.1 (h.good HJ2.out))).elim)
   subst k1;cases b' with
   |false =>
    have NO:=Aside0.mk (show ¬ (key=key∧false=true∧k'=key) from fun h=>Bool.noConfusion h.2.1)
    refine wp_region_quietL (C:=fun w'=>∃ p:WSt w [Part.row Kd.string 9 (.slice (some ad) ks.length d2) ks,Part.row Kd.string 9 (.slice (some bd) ks.length d0) q1,Part.blk w.heap.size 50 #[Value.slice A0 n.sl.length c0,Value.int .i64 n.fr,Value.slice A2 n.ce.length c2,Value.slice A3 n.old.length c3,Value.int .i64 n.mv,Value.int .i64 n.wm,Value.slice A6 n.wk.length c6,Value.int .i64 n.tm,Value.slice A8 n.tk.length c8,Value.int .i64 n.sm,Value.slice A10 n.sk.length c10,Value.slice A11 n.ct.length c11,Value.int .i64 n.ad,Value.int .i64 n.db]],w'=p.w') (by kernel_rfl) (by kernel_rfl) ⟨⟨_,HS1.out.drew⟩,rfl⟩ ?_
    repeat(go_big_quiet_step (fail))
    refine wpQuiet_nil ?_
    rintro w9 ⟨⟨w9,S⟩,rfl⟩
    have HS:=Aside0.mk S
    clear S;clear hc0 hc1 hc2 hc3 hc4 hx0 hy0;go_wp2_with fail
    go_ret
    exact OkPost.no HS.out.below (fun h=>(NO.out (HI.out.1 (h.good HJ2.out))).elim)
   |true =>
   by_cases k2:k'=key
   case neg =>
    have NO:=Aside0.mk (show ¬ (key=key∧true=true∧k'=key) from fun h=>k2 h.2.2)
    have t1:(k'.toList == key.toList)=false:=beq_eq_false_iff_ne.2 (fun e=>k2 (str_eq.1 e))
    have t2:(k'.toList != key.toList)=true:=bne_iff_ne.2 (fun e=>k2 (str_eq.1 e))
    clear k2;refine wp_region_quietL (C:=fun w'=>∃ p:WSt w [Part.row Kd.string 9 (.slice (some ad) ks.length d2) ks,Part.row Kd.string 9 (.slice (some bd) ks.length d0) q1,Part.blk w.heap.size 50 #[Value.slice A0 n.sl.length c0,Value.int .i64 n.fr,Value.slice A2 n.ce.length c2,Value.slice A3 n.old.length c3,Value.int .i64 n.mv,Value.int .i64 n.wm,Value.slice A6 n.wk.length c6,Value.int .i64 n.tm,Value.slice A8 n.tk.length c8,Value.int .i64 n.sm,Value.slice A10 n.sk.length c10,Value.slice A11 n.ct.length c11,Value.int .i64 n.ad,Value.int .i64 n.db]],w'=p.w') (by kernel_rfl) (by kernel_rfl) ⟨⟨_,HS1.out.drew⟩,rfl⟩ ?_
    repeat(go_big_quiet_step (fail))
    refine wpQuiet_nil ?_
    rintro w9 ⟨⟨w9,S⟩,rfl⟩
    have HS:=Aside0.mk S
    clear S;clear hc0 hc1 hc2 hc3 hc4 hx0 hy0;go_wp2_with fail
    go_ret
    exact OkPost.no HS.out.below (fun h=>(NO.out (HI.out.1 (h.good HJ2.out))).elim)
   subst k2;have HG2:=Aside0.mk (HI.out.2 ⟨rfl,rfl,rfl⟩)
   refine wp_region_quietL (C:=fun w'=>∃ p:WSt w [Part.row Kd.string 9 (.slice (some ad) ks.length d2) ks,Part.row Kd.string 9 (.slice (some bd) ks.length d0) q1,Part.blk w.heap.size 50 #[Value.slice A0 n.sl.length c0,Value.int .i64 n.fr,Value.slice A2 n.ce.length c2,Value.slice A3 n.old.length c3,Value.int .i64 n.mv,Value.int .i64 n.wm,Value.slice A6 n.wk.length c6,Value.int .i64 n.tm,Value.slice A8 n.tk.length c8,Value.int .i64 n.sm,Value.slice A10 n.sk.length c10,Value.slice A11 n.ct.length c11,Value.int .i64 n.ad,Value.int .i64 n.db]],w'=p.w') (by kernel_rfl) (by kernel_rfl) ⟨⟨_,HS1.out.drew⟩,rfl⟩ ?_
   repeat(go_big_quiet_step (fail))
   refine wpQuiet_nil ?_
   rintro w9 ⟨⟨w9,S⟩,rfl⟩
   have HS:=Aside0.mk S
   clear S;clear hc0 hc1 hc2 hc3 hc4 hx0 hy0;go_wp2_with fail
   go_roundw
   case rel=>exact⟨j+1,by go_num,⟨by have h_:=of_eq_true q5;omega⟩,⟨fun i hi=>by rcases Nat.lt_succ_iff_lt_or_eq.1 hi with h_|rfl;exact HG.out i h_;exact HG2.out⟩,HS⟩
   case measure=>have h_:=of_eq_true q5;simp only [intOf];omega
  ·have c1b:decide ((j:Int) < (ks.length:Int))=false:=decide_eq_false (by omega)
   have c1c:decide (j < ks.length)=false:=decide_eq_false c1
   have HT:=Aside0.mk (show j=ks.length by have:=HJ.out;omega)
   clear c1;go_wp2_with fail
   go_ret
   exact OkPost.yes HS.out.below (near_of_good (HQ0.out.1 (by simp)).1 (HQ0.out.1 (by simp)).2 (by rw[← HQ.out,← HK.out,HL.out]) (by rw[← HK.out,HM.out]) (fun i hi=>HG.out i (by rw[HT.out,HK.out];exact hi)))
end Go.Proofs.YtediiolcoilepaaGreat.Nb
