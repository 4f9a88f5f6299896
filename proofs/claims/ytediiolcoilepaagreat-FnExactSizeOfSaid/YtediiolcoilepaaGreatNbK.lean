/- Parts of the proof: walks of callees, plain laws about what they compute. -/
import Derived.Test.YtediiolcoilepaaGreatNbJ
import Derived.BigRegion
namespace Go.Proofs.YtediiolcoilepaaGreat.Nb
open Go.RowKit Go.Proofs.YtediiolcoilepaaGreat.GNear Go.Proofs.YtediiolcoilepaaGreatW.PrintWords Go.Proofs.YtediiolcoilepaaGreatW.PrintLast Go.Proofs.YtediiolcoilepaaGreatW.PrintMore
attribute [local go_sem] max2_int min2_int max_two min_two max_three min_three max_four min_four
set_option linter.unusedVariables false
set_option linter.unusedSimpArgs false
theorem toArena_ev (l:List S196) (fr:Int) (hl:l.length≤1048576):Ev (fun k=>laws_toArena.f k l fr) (l.map cvSlot,fr):=Ev.bind (f:=fun _ t=>some (t,fr)) (toSlotS_ev l hl) (Ev.now _)
theorem toTable_ev (l m:List S198) (mv:Int) (hl:l.length≤1048576) (hl2:m.length≤1048576):Ev (fun k=>laws_toTable.f k l m mv) (l.map cvCell,m.map cvCell,mv):=Ev.bind (f:=fun k t=>(laws_toCellS.f k m).bind fun t159=>some (t,t159,mv)) (toCellS_ev l hl) (Ev.bind (f:=fun _ t=>some (l.map cvCell,t,mv)) (toCellS_ev m hl2) (Ev.now _))
theorem toQueue_ev (m:Int) (l:List ByteArray) (hl:l.length≤1048576):Ev (fun k=>laws_toQueue.f k m l) (m,l):=Ev.bind (f:=fun _ t=>some (m,t)) (toStringS_ev l hl) (Ev.now _)
theorem toSketch_ev (l:List Int) (ad:Int) (hl:l.length≤1048576):Ev (fun k=>laws_toSketch.f k l ad) (l,ad):=Ev.bind (f:=fun _ t=>some (t,ad)) (toIntS_ev l (by omega)) (Ev.now _)
theorem St.new_two {w0 w w':World} {ps:List Part} {α β:Type} {d:Kd α} {d':Kd β} {e e':Nat} {ok ok':Nat→Prop} {v u:Value} {xs:List α} {ys:List β} (hE:d.E = []) (hE':d'.E = []) (h:St w0 w ps) (hb:Below w.heap.size w w')
  (hr:d.R e w' w.heap.size ok v xs) (hr':d'.R e' w' w.heap.size ok' u ys) (hne:∀ k,v.ownBlock=some k→some k ≠ u.ownBlock):St w0 w' (Part.row d e v xs :: Part.row d' e' u ys :: ps):=by
 have h1:=h.new_row hE hb hr
 have h2:=h.new_row hE' hb hr'
 refine⟨h1.below,fun q hq=>?_,List.pairwise_cons.2 ⟨fun q hq k hk hq'=>?_,h2.apart⟩⟩
 ·rcases List.mem_cons.1 hq with rfl|hq
  ·exact h1.head
  ·exact h2.all q hq
 ·rcases List.mem_cons.1 hq with rfl|hq
  ·exact hne k hk (Eq.symm hq')
  ·exact h1.away q hq k hk hq'
set_option maxHeartbeats 4000000 in
set_option maxRecDepth 100000 in
theorem toNearS (w:World) (v:NV) (n:Lr) (hn:n.few) (hC:LrC w v n) :
  Calls Tryz.prog 14 #[.agg (v.cellsL n)] w fun e w'=>∃ u:NV,e=.returned (.agg (u.cells n.to))∧St w w' (u.rows n.to):=by
 obtain⟨A0,c0,A2,c2,A3,c3,A6,c6,A8,c8,A10,c10,A11,c11,rfl,hF⟩:=hC.open_;have HF:=Aside0.mk hF
 clear hC hF;dsimp only [NV.cellsL]
 have HS:=Aside0.mk (St.start w)
 have HN:=Aside0.mk hn
 clear hn;have HS0:=HS;clear HS;go_enter Tryz.func14,Tryz.ntmps14
 go_wp2_with (first|((with_reducible refine gate_dst (N:=1) rfl ?_);refine box_event ?hg (N:=1) ?hd (cs:=#[Value.slice A0 n.sl.length c0,Value.int .i64 n.fr,Value.slice A2 n.ce.length c2,Value.slice A3 n.old.length c3,Value.int .i64 n.mv,Value.int .i64 n.wm,Value.slice A6 n.wk.length c6,Value.int .i64 n.tm,Value.slice A8 n.tk.length c8,Value.int .i64 n.sm,Value.slice A10 n.sk.length c10,Value.slice A11 n.ct.length c11,Value.int .i64 n.ad,Value.int .i64 n.db]) (t:=37) ?hr ?_;(case hd=>rfl);(case hg=>rfl);(case hr=>first|(go_simp;done)|(go_simp;rfl));intro g1 hg w1 hbox hb;have S:=HS0.out.new_blk hb (Nat.le_of_eq hg.symm) hbox;clear hb hbox hg;have HS1:=Aside0.mk S;clear S)|((with_reducible refine gate_dst (N:=2) rfl ?_);refine box_event ?hg (N:=2) ?hd (cs:=#[Value.slice none 0 0,Value.int .i64 0,Value.slice none 0 0,Value.slice none 0 0,Value.int .i64 0,Value.int .i64 0,Value.slice none 0 0,Value.int .i64 0,Value.slice none 0 0,Value.int .i64 0,Value.slice none 0 0,Value.slice none 0 0,Value.int .i64 0,Value.int .i64 0]) (t:=50) ?hr ?_;(case hd=>rfl);(case hg=>rfl);(case hr=>first|(go_simp;done)|(go_simp;rfl));intro g2 hg w2 hbox hb;have S:=HS1.out.new_blk hb (Nat.le_of_eq hg.symm) hbox;clear hb hbox hg;have HS2:=Aside0.mk S;clear S)|((with_reducible refine gate_dst (N:=3) rfl ?_);refine box_event ?hg (N:=3) ?hd (cs:=#[Value.slice none 0 0,Value.int .i64 0,Value.slice none 0 0,Value.slice none 0 0,Value.int .i64 0,Value.int .i64 0,Value.slice none 0 0,Value.int .i64 0,Value.slice none 0 0,Value.int .i64 0,Value.slice none 0 0,Value.slice none 0 0,Value.int .i64 0,Value.int .i64 0]) (t:=50) ?hr ?_;(case hd=>rfl);(case hg=>rfl);(case hr=>first|(go_simp;done)|(go_simp;rfl));intro g3 hg w3 hbox hb;have S:=HS2.out.new_blk hb (Nat.le_of_eq hg.symm) hbox;clear hb hbox hg;have HS3:=Aside0.mk S;have hc0:=S.at_cell 2 rfl 0 rfl;have hc1:=S.at_cell 2 rfl 1 rfl;have ne1:=S.at_ne 0 2 rfl rfl (by decide);have ne2:=S.at_ne 2 0 rfl rfl (by decide);have ne3:=S.at_ne 0 1 rfl rfl (by decide);have ne4:=S.at_ne 1 0 rfl rfl (by decide);clear S))
 obtain⟨s0,hs0⟩:∃ q,q=n.sl.map cvSlot:=⟨_,rfl⟩
 obtain⟨s2,hs2⟩:∃ q,q=n.ce.map cvCell:=⟨_,rfl⟩
 obtain⟨s3,hs3⟩:∃ q,q=n.old.map cvCell:=⟨_,rfl⟩
 have HT:=Aside0.mk (show n.to=⟨s0,n.fr,s2,s3,n.mv,n.wm,n.wk,n.tm,n.tk,n.sm,n.sk,n.ct,n.ad,n.db⟩ by rw[hs0,hs2,hs3];rfl)
 have HS:=HS3;clear HS3 HS2 HS1 HS0;obtain⟨K,hK⟩:=toArena_ev n.sl n.fr HN.out.s0;rw[← hs0] at hK;clear hs0;have hbb:=HS.out.below;refine(laws_toArena.calls K A0 c0 n.sl n.fr _ _ _ (HF.out.below hbb).h0 HF.out.l0 (hK K (Nat.le_refl _))).mono ?_
 rintro e x0 ⟨u0,rfl,hr,hb⟩
 have S:=HS.out.new_row rfl hb hr
 have S:=S.front 1 rfl rfl
 obtain⟨B0,d0,rfl⟩:=Kd.R_slice hr;clear HS hb hbb hK hr hc0 hc1;have HS:=Aside0.mk S
 have hc2:=S.at_cell 3 rfl 2 rfl
 have hc3:=S.at_cell 3 rfl 3 rfl
 have hc4:=S.at_cell 3 rfl 4 rfl
 have hz0:=S.at_cell 0 rfl 0 rfl
 have hf0:=S.at_frozen 0 rfl 0
 have hz1:=S.at_cell 0 rfl 1 rfl
 have hf1:=S.at_frozen 0 rfl 1
 clear S;go_wp2_with fail
 have S:=((HS.out.put (cs':=#[Value.slice B0 s0.length d0,Value.int .i64 0,Value.slice none 0 0,Value.slice none 0 0,Value.int .i64 0,Value.int .i64 0,Value.slice none 0 0,Value.int .i64 0,Value.slice none 0 0,Value.int .i64 0,Value.slice none 0 0,Value.slice none 0 0,Value.int .i64 0,Value.int .i64 0]) 0 (Value.slice B0 s0.length d0) rfl).put (cs':=#[Value.slice B0 s0.length d0,Value.int .i64 n.fr,Value.slice none 0 0,Value.slice none 0 0,Value.int .i64 0,Value.int .i64 0,Value.slice none 0 0,Value.int .i64 0,Value.slice none 0 0,Value.int .i64 0,Value.slice none 0 0,Value.slice none 0 0,Value.int .i64 0,Value.int .i64 0]) 1 (Value.int .i64 n.fr) rfl)
 clear HS hf0 hz0 hf1 hz1;have HS:=Aside0.mk S
 clear S;obtain⟨K,hK⟩:=toTable_ev n.ce n.old n.mv HN.out.s2 HN.out.s3;rw[← hs2,← hs3] at hK;clear hs2 hs3;have hbb:=HS.out.below;refine(laws_toTable.calls K A2 c2 n.ce A3 c3 n.old n.mv _ _ _ _ (HF.out.below hbb).h2 HF.out.l2 (HF.out.below hbb).h3 HF.out.l3 (hK K (Nat.le_refl _))).mono ?_
 rintro e x1 ⟨u2,u3,rfl,hr,hr2,hb⟩
 have S:=HS.out.new_two rfl rfl hb hr2 hr (fun k hk=>hr2.1 k hk)
 have S:=S.front 2 rfl rfl
 obtain⟨B2,d2,rfl⟩:=Kd.R_slice hr;obtain⟨B3,d3,rfl⟩:=Kd.R_slice hr2;clear HS hb hbb hK hr hr2 hc2 hc3 hc4;have HS:=Aside0.mk S
 have hc5:=S.at_cell 5 rfl 5 rfl
 have hc6:=S.at_cell 5 rfl 6 rfl
 have hz2:=S.at_cell 0 rfl 2 rfl
 have hf2:=S.at_frozen 0 rfl 2
 have hz3:=S.at_cell 0 rfl 3 rfl
 have hf3:=S.at_frozen 0 rfl 3
 have hz4:=S.at_cell 0 rfl 4 rfl
 have hf4:=S.at_frozen 0 rfl 4
 clear S;go_wp2_with fail
 have S:=(((HS.out.put (cs':=#[Value.slice B0 s0.length d0,Value.int .i64 n.fr,Value.slice B2 s2.length d2,Value.slice none 0 0,Value.int .i64 0,Value.int .i64 0,Value.slice none 0 0,Value.int .i64 0,Value.slice none 0 0,Value.int .i64 0,Value.slice none 0 0,Value.slice none 0 0,Value.int .i64 0,Value.int .i64 0]) 2 (Value.slice B2 s2.length d2) rfl).put (cs':=#[Value.slice B0 s0.length d0,Value.int .i64 n.fr,Value.slice B2 s2.length d2,Value.slice B3 s3.length d3,Value.int .i64 0,Value.int .i64 0,Value.slice none 0 0,Value.int .i64 0,Value.slice none 0 0,Value.int .i64 0,Value.slice none 0 0,Value.slice none 0 0,Value.int .i64 0,Value.int .i64 0]) 3 (Value.slice B3 s3.length d3) rfl).put (cs':=#[Value.slice B0 s0.length d0,Value.int .i64 n.fr,Value.slice B2 s2.length d2,Value.slice B3 s3.length d3,Value.int .i64 n.mv,Value.int .i64 0,Value.slice none 0 0,Value.int .i64 0,Value.slice none 0 0,Value.int .i64 0,Value.slice none 0 0,Value.slice none 0 0,Value.int .i64 0,Value.int .i64 0]) 4 (Value.int .i64 n.mv) rfl)
 clear HS hf2 hz2 hf3 hz3 hf4 hz4;have HS:=Aside0.mk S
 clear S;obtain⟨K,hK⟩:=toQueue_ev n.wm n.wk HN.out.s6;have hbb:=HS.out.below;refine(laws_toQueue.calls K n.wm A6 c6 n.wk _ _ _ (HF.out.below hbb).h6 HF.out.l6 (hK K (Nat.le_refl _))).mono ?_
 rintro e x2 ⟨u6,rfl,hr,hb⟩
 have S:=HS.out.new_row rfl hb hr
 have S:=S.front 1 rfl rfl
 obtain⟨B6,d6,rfl⟩:=Kd.R_slice hr;clear HS hb hbb hK hr hc5 hc6;have HS:=Aside0.mk S
 have hc7:=S.at_cell 6 rfl 7 rfl
 have hc8:=S.at_cell 6 rfl 8 rfl
 have hz5:=S.at_cell 0 rfl 5 rfl
 have hf5:=S.at_frozen 0 rfl 5
 have hz6:=S.at_cell 0 rfl 6 rfl
 have hf6:=S.at_frozen 0 rfl 6
 clear S;go_wp2_with fail
 have S:=((HS.out.put (cs':=#[Value.slice B0 s0.length d0,Value.int .i64 n.fr,Value.slice B2 s2.length d2,Value.slice B3 s3.length d3,Value.int .i64 n.mv,Value.int .i64 n.wm,Value.slice none 0 0,Value.int .i64 0,Value.slice none 0 0,Value.int .i64 0,Value.slice none 0 0,Value.slice none 0 0,Value.int .i64 0,Value.int .i64 0]) 5 (Value.int .i64 n.wm) rfl).put (cs':=#[Value.slice B0 s0.length d0,Value.int .i64 n.fr,Value.slice B2 s2.length d2,Value.slice B3 s3.length d3,Value.int .i64 n.mv,Value.int .i64 n.wm,Value.slice B6 n.wk.length d6,Value.int .i64 0,Value.slice none 0 0,Value.int .i64 0,Value.slice none 0 0,Value.slice none 0 0,Value.int .i64 0,Value.int .i64 0]) 6 (Value.slice B6 n.wk.length d6) rfl)
 clear HS hf5 hz5 hf6 hz6;have HS:=Aside0.mk S
 clear S;obtain⟨K,hK⟩:=toQueue_ev n.tm n.tk HN.out.s8;have hbb:=HS.out.below;refine(laws_toQueue.calls K n.tm A8 c8 n.tk _ _ _ (HF.out.below hbb).h8 HF.out.l8 (hK K (Nat.le_refl _))).mono ?_
 rintro e x3 ⟨u8,rfl,hr,hb⟩
 have S:=HS.out.new_row rfl hb hr
 have S:=S.front 1 rfl rfl
 obtain⟨B8,d8,rfl⟩:=Kd.R_slice hr;clear HS hb hbb hK hr hc7 hc8;have HS:=Aside0.mk S
 have hc9:=S.at_cell 7 rfl 9 rfl
 have hc10:=S.at_cell 7 rfl 10 rfl
 have hz7:=S.at_cell 0 rfl 7 rfl
 have hf7:=S.at_frozen 0 rfl 7
 have hz8:=S.at_cell 0 rfl 8 rfl
 have hf8:=S.at_frozen 0 rfl 8
 clear S;go_wp2_with fail
 have S:=((HS.out.put (cs':=#[Value.slice B0 s0.length d0,Value.int .i64 n.fr,Value.slice B2 s2.length d2,Value.slice B3 s3.length d3,Value.int .i64 n.mv,Value.int .i64 n.wm,Value.slice B6 n.wk.length d6,Value.int .i64 n.tm,Value.slice none 0 0,Value.int .i64 0,Value.slice none 0 0,Value.slice none 0 0,Value.int .i64 0,Value.int .i64 0]) 7 (Value.int .i64 n.tm) rfl).put (cs':=#[Value.slice B0 s0.length d0,Value.int .i64 n.fr,Value.slice B2 s2.length d2,Value.slice B3 s3.length d3,Value.int .i64 n.mv,Value.int .i64 n.wm,Value.slice B6 n.wk.length d6,Value.int .i64 n.tm,Value.slice B8 n.tk.length d8,Value.int .i64 0,Value.slice none 0 0,Value.slice none 0 0,Value.int .i64 0,Value.int .i64 0]) 8 (Value.slice B8 n.tk.length d8) rfl)
 clear HS hf7 hz7 hf8 hz8;have HS:=Aside0.mk S
 clear S;obtain⟨K,hK⟩:=toQueue_ev n.sm n.sk HN.out.s10;have hbb:=HS.out.below;refine(laws_toQueue.calls K n.sm A10 c10 n.sk _ _ _ (HF.out.below hbb).h10 HF.out.l10 (hK K (Nat.le_refl _))).mono ?_
 rintro e x4 ⟨u10,rfl,hr,hb⟩
 have S:=HS.out.new_row rfl hb hr
 have S:=S.front 1 rfl rfl
 obtain⟨B10,d10,rfl⟩:=Kd.R_slice hr;clear HS hb hbb hK hr hc9 hc10;have HS:=Aside0.mk S
 have hc11:=S.at_cell 8 rfl 11 rfl
 have hc12:=S.at_cell 8 rfl 12 rfl
 have hz9:=S.at_cell 0 rfl 9 rfl
 have hf9:=S.at_frozen 0 rfl 9
 have hz10:=S.at_cell 0 rfl 10 rfl
 have hf10:=S.at_frozen 0 rfl 10
 clear S;go_wp2_with fail
 have S:=((HS.out.put (cs':=#[Value.slice B0 s0.length d0,Value.int .i64 n.fr,Value.slice B2 s2.length d2,Value.slice B3 s3.length d3,Value.int .i64 n.mv,Value.int .i64 n.wm,Value.slice B6 n.wk.length d6,Value.int .i64 n.tm,Value.slice B8 n.tk.length d8,Value.int .i64 n.sm,Value.slice none 0 0,Value.slice none 0 0,Value.int .i64 0,Value.int .i64 0]) 9 (Value.int .i64 n.sm) rfl).put (cs':=#[Value.slice B0 s0.length d0,Value.int .i64 n.fr,Value.slice B2 s2.length d2,Value.slice B3 s3.length d3,Value.int .i64 n.mv,Value.int .i64 n.wm,Value.slice B6 n.wk.length d6,Value.int .i64 n.tm,Value.slice B8 n.tk.length d8,Value.int .i64 n.sm,Value.slice B10 n.sk.length d10,Value.slice none 0 0,Value.int .i64 0,Value.int .i64 0]) 10 (Value.slice B10 n.sk.length d10) rfl)
 clear HS hf9 hz9 hf10 hz10;have HS:=Aside0.mk S
 clear S;obtain⟨K,hK⟩:=toSketch_ev n.ct n.ad HN.out.s11;have hbb:=HS.out.below;refine(laws_toSketch.calls K A11 c11 n.ct n.ad _ _ _ (HF.out.below hbb).h11 HF.out.l11 (hK K (Nat.le_refl _))).mono ?_
 rintro e x5 ⟨u11,rfl,hr,hb⟩
 have S:=HS.out.new_row rfl hb hr
 have S:=S.front 1 rfl rfl
 obtain⟨B11,d11,rfl⟩:=Kd.R_slice hr;clear HS hb hbb hK hr hc11 hc12;have HS:=Aside0.mk S
 have hc13:=S.at_cell 9 rfl 13 rfl
 have hz11:=S.at_cell 0 rfl 11 rfl
 have hf11:=S.at_frozen 0 rfl 11
 have hz12:=S.at_cell 0 rfl 12 rfl
 have hf12:=S.at_frozen 0 rfl 12
 clear S;go_wp2_with fail
 have S:=((HS.out.put (cs':=#[Value.slice B0 s0.length d0,Value.int .i64 n.fr,Value.slice B2 s2.length d2,Value.slice B3 s3.length d3,Value.int .i64 n.mv,Value.int .i64 n.wm,Value.slice B6 n.wk.length d6,Value.int .i64 n.tm,Value.slice B8 n.tk.length d8,Value.int .i64 n.sm,Value.slice B10 n.sk.length d10,Value.slice B11 n.ct.length d11,Value.int .i64 0,Value.int .i64 0]) 11 (Value.slice B11 n.ct.length d11) rfl).put (cs':=#[Value.slice B0 s0.length d0,Value.int .i64 n.fr,Value.slice B2 s2.length d2,Value.slice B3 s3.length d3,Value.int .i64 n.mv,Value.int .i64 n.wm,Value.slice B6 n.wk.length d6,Value.int .i64 n.tm,Value.slice B8 n.tk.length d8,Value.int .i64 n.sm,Value.slice B10 n.sk.length d10,Value.slice B11 n.ct.length d11,Value.int .i64 n.ad,Value.int .i64 0]) 12 (Value.int .i64 n.ad) rfl)
 clear HS hf11 hz11 hf12 hz12;have HS:=Aside0.mk S
 clear S;have hbb:=HS.out.below;refine(laws_toDoor.calls n.db _ _ rfl).mono ?_
 rintro e x6 ⟨rfl,hb⟩
 have S:=HS.out.step hb
 clear HS hb hbb hc13;have HS:=Aside0.mk S
 have hz0:=S.at_cell 0 rfl 0 rfl
 have hz1:=S.at_cell 0 rfl 1 rfl
 have hz2:=S.at_cell 0 rfl 2 rfl
 have hz3:=S.at_cell 0 rfl 3 rfl
 have hz4:=S.at_cell 0 rfl 4 rfl
 have hz5:=S.at_cell 0 rfl 5 rfl
 have hz6:=S.at_cell 0 rfl 6 rfl
 have hz7:=S.at_cell 0 rfl 7 rfl
 have hz8:=S.at_cell 0 rfl 8 rfl
 have hz9:=S.at_cell 0 rfl 9 rfl
 have hz10:=S.at_cell 0 rfl 10 rfl
 have hz11:=S.at_cell 0 rfl 11 rfl
 have hz12:=S.at_cell 0 rfl 12 rfl
 have hz13:=S.at_cell 0 rfl 13 rfl
 have hf13:=S.at_frozen 0 rfl 13
 have hy0:=S.at_cell 8 rfl 0 rfl
 have hy1:=S.at_cell 8 rfl 1 rfl
 have hy2:=S.at_cell 8 rfl 2 rfl
 have hy3:=S.at_cell 8 rfl 3 rfl
 have hy4:=S.at_cell 8 rfl 4 rfl
 have hy5:=S.at_cell 8 rfl 5 rfl
 have hy6:=S.at_cell 8 rfl 6 rfl
 have hy7:=S.at_cell 8 rfl 7 rfl
 have hy8:=S.at_cell 8 rfl 8 rfl
 have hy9:=S.at_cell 8 rfl 9 rfl
 have hy10:=S.at_cell 8 rfl 10 rfl
 have hy11:=S.at_cell 8 rfl 11 rfl
 have hy12:=S.at_cell 8 rfl 12 rfl
 have hy13:=S.at_cell 8 rfl 13 rfl
 have hg0:=S.at_frozen 8 rfl 0
 have hg1:=S.at_frozen 8 rfl 1
 have hg2:=S.at_frozen 8 rfl 2
 have hg3:=S.at_frozen 8 rfl 3
 have hg4:=S.at_frozen 8 rfl 4
 have hg5:=S.at_frozen 8 rfl 5
 have hg6:=S.at_frozen 8 rfl 6
 have hg7:=S.at_frozen 8 rfl 7
 have hg8:=S.at_frozen 8 rfl 8
 have hg9:=S.at_frozen 8 rfl 9
 have hg10:=S.at_frozen 8 rfl 10
 have hg11:=S.at_frozen 8 rfl 11
 have hg12:=S.at_frozen 8 rfl 12
 have hg13:=S.at_frozen 8 rfl 13
 clear S;go_wp2_with fail
 have S:=HS.out.put (cs':=#[Value.slice B0 s0.length d0,Value.int .i64 n.fr,Value.slice B2 s2.length d2,Value.slice B3 s3.length d3,Value.int .i64 n.mv,Value.int .i64 n.wm,Value.slice B6 n.wk.length d6,Value.int .i64 n.tm,Value.slice B8 n.tk.length d8,Value.int .i64 n.sm,Value.slice B10 n.sk.length d10,Value.slice B11 n.ct.length d11,Value.int .i64 n.ad,Value.int .i64 n.db]) 13 (Value.int .i64 n.db) rfl
 have S:=S.front 8 rfl rfl
 have S:=S.put (cs':=#[Value.slice B0 s0.length d0,Value.int .i64 0,Value.slice none 0 0,Value.slice none 0 0,Value.int .i64 0,Value.int .i64 0,Value.slice none 0 0,Value.int .i64 0,Value.slice none 0 0,Value.int .i64 0,Value.slice none 0 0,Value.slice none 0 0,Value.int .i64 0,Value.int .i64 0]) 0 (Value.slice B0 s0.length d0) rfl
 have S:=S.put (cs':=#[Value.slice B0 s0.length d0,Value.int .i64 n.fr,Value.slice none 0 0,Value.slice none 0 0,Value.int .i64 0,Value.int .i64 0,Value.slice none 0 0,Value.int .i64 0,Value.slice none 0 0,Value.int .i64 0,Value.slice none 0 0,Value.slice none 0 0,Value.int .i64 0,Value.int .i64 0]) 1 (Value.int .i64 n.fr) rfl
 have S:=S.put (cs':=#[Value.slice B0 s0.length d0,Value.int .i64 n.fr,Value.slice B2 s2.length d2,Value.slice none 0 0,Value.int .i64 0,Value.int .i64 0,Value.slice none 0 0,Value.int .i64 0,Value.slice none 0 0,Value.int .i64 0,Value.slice none 0 0,Value.slice none 0 0,Value.int .i64 0,Value.int .i64 0]) 2 (Value.slice B2 s2.length d2) rfl
 have S:=S.put (cs':=#[Value.slice B0 s0.length d0,Value.int .i64 n.fr,Value.slice B2 s2.length d2,Value.slice B3 s3.length d3,Value.int .i64 0,Value.int .i64 0,Value.slice none 0 0,Value.int .i64 0,Value.slice none 0 0,Value.int .i64 0,Value.slice none 0 0,Value.slice none 0 0,Value.int .i64 0,Value.int .i64 0]) 3 (Value.slice B3 s3.length d3) rfl
 have S:=S.put (cs':=#[Value.slice B0 s0.length d0,Value.int .i64 n.fr,Value.slice B2 s2.length d2,Value.slice B3 s3.length d3,Value.int .i64 n.mv,Value.int .i64 0,Value.slice none 0 0,Value.int .i64 0,Value.slice none 0 0,Value.int .i64 0,Value.slice none 0 0,Value.slice none 0 0,Value.int .i64 0,Value.int .i64 0]) 4 (Value.int .i64 n.mv) rfl
 have S:=S.put (cs':=#[Value.slice B0 s0.length d0,Value.int .i64 n.fr,Value.slice B2 s2.length d2,Value.slice B3 s3.length d3,Value.int .i64 n.mv,Value.int .i64 n.wm,Value.slice none 0 0,Value.int .i64 0,Value.slice none 0 0,Value.int .i64 0,Value.slice none 0 0,Value.slice none 0 0,Value.int .i64 0,Value.int .i64 0]) 5 (Value.int .i64 n.wm) rfl
 have S:=S.put (cs':=#[Value.slice B0 s0.length d0,Value.int .i64 n.fr,Value.slice B2 s2.length d2,Value.slice B3 s3.length d3,Value.int .i64 n.mv,Value.int .i64 n.wm,Value.slice B6 n.wk.length d6,Value.int .i64 0,Value.slice none 0 0,Value.int .i64 0,Value.slice none 0 0,Value.slice none 0 0,Value.int .i64 0,Value.int .i64 0]) 6 (Value.slice B6 n.wk.length d6) rfl
 have S:=S.put (cs':=#[Value.slice B0 s0.length d0,Value.int .i64 n.fr,Value.slice B2 s2.length d2,Value.slice B3 s3.length d3,Value.int .i64 n.mv,Value.int .i64 n.wm,Value.slice B6 n.wk.length d6,Value.int .i64 n.tm,Value.slice none 0 0,Value.int .i64 0,Value.slice none 0 0,Value.slice none 0 0,Value.int .i64 0,Value.int .i64 0]) 7 (Value.int .i64 n.tm) rfl
 have S:=S.put (cs':=#[Value.slice B0 s0.length d0,Value.int .i64 n.fr,Value.slice B2 s2.length d2,Value.slice B3 s3.length d3,Value.int .i64 n.mv,Value.int .i64 n.wm,Value.slice B6 n.wk.length d6,Value.int .i64 n.tm,Value.slice B8 n.tk.length d8,Value.int .i64 0,Value.slice none 0 0,Value.slice none 0 0,Value.int .i64 0,Value.int .i64 0]) 8 (Value.slice B8 n.tk.length d8) rfl
 have S:=S.put (cs':=#[Value.slice B0 s0.length d0,Value.int .i64 n.fr,Value.slice B2 s2.length d2,Value.slice B3 s3.length d3,Value.int .i64 n.mv,Value.int .i64 n.wm,Value.slice B6 n.wk.length d6,Value.int .i64 n.tm,Value.slice B8 n.tk.length d8,Value.int .i64 n.sm,Value.slice none 0 0,Value.slice none 0 0,Value.int .i64 0,Value.int .i64 0]) 9 (Value.int .i64 n.sm) rfl
 have S:=S.put (cs':=#[Value.slice B0 s0.length d0,Value.int .i64 n.fr,Value.slice B2 s2.length d2,Value.slice B3 s3.length d3,Value.int .i64 n.mv,Value.int .i64 n.wm,Value.slice B6 n.wk.length d6,Value.int .i64 n.tm,Value.slice B8 n.tk.length d8,Value.int .i64 n.sm,Value.slice B10 n.sk.length d10,Value.slice none 0 0,Value.int .i64 0,Value.int .i64 0]) 10 (Value.slice B10 n.sk.length d10) rfl
 have S:=S.put (cs':=#[Value.slice B0 s0.length d0,Value.int .i64 n.fr,Value.slice B2 s2.length d2,Value.slice B3 s3.length d3,Value.int .i64 n.mv,Value.int .i64 n.wm,Value.slice B6 n.wk.length d6,Value.int .i64 n.tm,Value.slice B8 n.tk.length d8,Value.int .i64 n.sm,Value.slice B10 n.sk.length d10,Value.slice B11 n.ct.length d11,Value.int .i64 0,Value.int .i64 0]) 11 (Value.slice B11 n.ct.length d11) rfl
 have S:=S.put (cs':=#[Value.slice B0 s0.length d0,Value.int .i64 n.fr,Value.slice B2 s2.length d2,Value.slice B3 s3.length d3,Value.int .i64 n.mv,Value.int .i64 n.wm,Value.slice B6 n.wk.length d6,Value.int .i64 n.tm,Value.slice B8 n.tk.length d8,Value.int .i64 n.sm,Value.slice B10 n.sk.length d10,Value.slice B11 n.ct.length d11,Value.int .i64 n.ad,Value.int .i64 0]) 12 (Value.int .i64 n.ad) rfl
 have S:=S.put (cs':=#[Value.slice B0 s0.length d0,Value.int .i64 n.fr,Value.slice B2 s2.length d2,Value.slice B3 s3.length d3,Value.int .i64 n.mv,Value.int .i64 n.wm,Value.slice B6 n.wk.length d6,Value.int .i64 n.tm,Value.slice B8 n.tk.length d8,Value.int .i64 n.sm,Value.slice B10 n.sk.length d10,Value.slice B11 n.ct.length d11,Value.int .i64 n.ad,Value.int .i64 n.db]) 13 (Value.int .i64 n.db) rfl
 refine bodyPost_ret (results_cell_row rfl _ _ g2 50 #[Value.slice B0 s0.length d0,Value.int .i64 n.fr,Value.slice B2 s2.length d2,Value.slice B3 s3.length d3,Value.int .i64 n.mv,Value.int .i64 n.wm,Value.slice B6 n.wk.length d6,Value.int .i64 n.tm,Value.slice B8 n.tk.length d8,Value.int .i64 n.sm,Value.slice B10 n.sk.length d10,Value.slice B11 n.ct.length d11,Value.int .i64 n.ad,Value.int .i64 n.db] (0,0) _ rfl S.head.2 Tryz.underlying50 rfl (by kernel_rfl)) rfl ?_
 have S:=S.tail;have S:=(S.front 0 rfl rfl).tail
 have S:=(S.front 7 rfl rfl).tail
 refine⟨⟨Value.slice B0 s0.length d0,Value.slice B2 s2.length d2,Value.slice B3 s3.length d3,Value.slice B6 n.wk.length d6,Value.slice B8 n.tk.length d8,Value.slice B10 n.sk.length d10,Value.slice B11 n.ct.length d11⟩,by rw[HT.out];rfl,?_⟩
 rw[HT.out]
 exact S.perm (List.reverse_perm [Part.row k94 94 (Value.slice B0 s0.length d0) s0,Part.row k151 151 (Value.slice B2 s2.length d2) s2,Part.row k151 151 (Value.slice B3 s3.length d3) s3,Part.row Kd.string 9 (Value.slice B6 n.wk.length d6) n.wk,Part.row Kd.string 9 (Value.slice B8 n.tk.length d8) n.tk,Part.row Kd.string 9 (Value.slice B10 n.sk.length d10) n.sk,Part.row (Kd.int .i64) 3 (Value.slice B11 n.ct.length d11) n.ct]).symm
theorem eqArena_ev (l:List S94) (fr:Int) (hl:l.length≤1048576):Ev (fun k=>laws_eqArena.f k l fr l fr) true:=Ev.bind (f:=fun _ (t:Bool)=>if t=true then (if fr=fr then some true else some false) else some false) (eqSlotS_ev l hl) (Ev.congr (fun k=>by simp) (Ev.now _))
theorem eqTable_ev (l m:List S151) (mv:Int) (hl:l.length≤1048576) (hl2:m.length≤1048576):Ev (fun k=>laws_eqTable.f k l m mv l m mv) true:=Ev.bind (f:=fun k (t:Bool)=>if t=true then ((laws_eqCellS.f k m m).bind fun t234=>(if t234=true then (if mv=mv then (some true) else (some false)) else (some false))) else some false) (eqCellS_ev l hl) (Ev.congr (fun k=>if_pos rfl) (Ev.bind (f:=fun _ (t:Bool)=>if t=true then (if mv=mv then (some true) else (some false)) else (some false)) (eqCellS_ev m hl2) (Ev.congr (fun k=>by simp) (Ev.now _))))
theorem eqQueue_ev (m:Int) (l:List ByteArray) (hl:l.length≤1048576):Ev (fun k=>laws_eqQueue.f k m l m l) true:=by
 refine Ev.congr (fun k=>?_) (Ev.bind (f:=fun _ (t:Bool)=>if t=true then (some true) else (some false)) (eqStringS_ev l hl) (Ev.congr (fun k=>if_pos rfl) (Ev.now _)))
 unfold laws_eqQueue.f
 rw[if_pos rfl]
theorem eqSketch_ev (l:List Int) (ad:Int) (hl:l.length≤1048576):Ev (fun k=>laws_eqSketch.f k l ad l ad) true:=Ev.bind (f:=fun _ (t:Bool)=>if t=true then (if ad=ad then (some true) else (some false)) else (some false)) (eqIntS_ev l (by omega)) (Ev.congr (fun k=>by simp) (Ev.now _))
set_option maxHeartbeats 4000000 in
set_option maxRecDepth 100000 in
theorem eqNearS (w:World) (v u:NV) (n:Nr) (hn:n.small) (hC:NearC w v n) (hD:NearC w u n) :
  Calls Tryz.prog 16 #[.agg (v.cells n),.agg (u.cells n)] w fun e w'=>e=.returned (.bool true)∧Below w.heap.size w w':=by
 obtain⟨A0,c0,A2,c2,A3,c3,A6,c6,A8,c8,A10,c10,A11,c11,rfl,hF⟩:=hC.open_;have HF:=Aside0.mk hF
 clear hC hF;dsimp only [NV.cells]
 obtain⟨E0,e0,E2,e2,E3,e3,E6,e6,E8,e8,E10,e10,E11,e11,rfl,hG⟩:=hD.open_;have HG:=Aside0.mk hG
 clear hD hG;dsimp only [NV.cells]
 have HS:=Aside0.mk (St.start w)
 have HN:=Aside0.mk hn
 clear hn;have HS0:=HS;clear HS;go_enter Tryz.func16,Tryz.ntmps16
 go_wp2_with (first|((with_reducible refine gate_dst (N:=2) rfl ?_);refine box_event ?hg (N:=2) ?hd (cs:=#[Value.slice A0 n.sl.length c0,Value.int .i64 n.fr,Value.slice A2 n.ce.length c2,Value.slice A3 n.old.length c3,Value.int .i64 n.mv,Value.int .i64 n.wm,Value.slice A6 n.wk.length c6,Value.int .i64 n.tm,Value.slice A8 n.tk.length c8,Value.int .i64 n.sm,Value.slice A10 n.sk.length c10,Value.slice A11 n.ct.length c11,Value.int .i64 n.ad,Value.int .i64 n.db]) (t:=50) ?hr ?_;(case hd=>rfl);(case hg=>rfl);(case hr=>first|(go_simp;done)|(go_simp;rfl));intro g1 hg w1 hbox hb;have S:=HS0.out.new_blk hb (Nat.le_of_eq hg.symm) hbox;clear hb hbox hg;have HS1:=Aside0.mk S;clear S)|((with_reducible refine gate_dst (N:=3) rfl ?_);refine box_event ?hg (N:=3) ?hd (cs:=#[Value.slice E0 n.sl.length e0,Value.int .i64 n.fr,Value.slice E2 n.ce.length e2,Value.slice E3 n.old.length e3,Value.int .i64 n.mv,Value.int .i64 n.wm,Value.slice E6 n.wk.length e6,Value.int .i64 n.tm,Value.slice E8 n.tk.length e8,Value.int .i64 n.sm,Value.slice E10 n.sk.length e10,Value.slice E11 n.ct.length e11,Value.int .i64 n.ad,Value.int .i64 n.db]) (t:=50) ?hr ?_;(case hd=>rfl);(case hg=>rfl);(case hr=>first|(go_simp;done)|(go_simp;rfl));intro g2 hg w2 hbox hb;have S:=HS1.out.new_blk hb (Nat.le_of_eq hg.symm) hbox;clear hb hbox hg;have HS2:=Aside0.mk S;have hc0:=S.at_cell 1 rfl 0 rfl;have hc1:=S.at_cell 1 rfl 1 rfl;have he0:=S.at_cell 0 rfl 0 rfl;have he1:=S.at_cell 0 rfl 1 rfl;clear S))
 have HS:=HS2;clear HS2 HS1 HS0;obtain⟨K,hK⟩:=eqArena_ev n.sl n.fr HN.out.s0;have hbb:=HS.out.below;refine(laws_eqArena.calls K A0 c0 n.sl n.fr E0 e0 n.sl n.fr true _ (HF.out.below hbb).h0 HF.out.l0 (HG.out.below hbb).h0 HG.out.l0 (hK K (Nat.le_refl _)) rfl).mono ?_
 rintro e x0 ⟨rfl,hb⟩
 have S:=HS.out.step hb
 clear HS hb hbb hK hc0 he0 hc1 he1;have HS:=Aside0.mk S
 have hc2:=S.at_cell 1 rfl 2 rfl
 have hc3:=S.at_cell 1 rfl 3 rfl
 have hc4:=S.at_cell 1 rfl 4 rfl
 have he2:=S.at_cell 0 rfl 2 rfl
 have he3:=S.at_cell 0 rfl 3 rfl
 have he4:=S.at_cell 0 rfl 4 rfl
 clear S;go_wp2_with fail
 obtain⟨K,hK⟩:=eqTable_ev n.ce n.old n.mv HN.out.s2 HN.out.s3;have hbb:=HS.out.below;refine(laws_eqTable.calls K A2 c2 n.ce A3 c3 n.old n.mv E2 e2 n.ce E3 e3 n.old n.mv true _ (HF.out.below hbb).h2 HF.out.l2 (HF.out.below hbb).h3 HF.out.l3 (HG.out.below hbb).h2 HG.out.l2 (HG.out.below hbb).h3 HG.out.l3 (hK K (Nat.le_refl _)) rfl).mono ?_
 rintro e x1 ⟨rfl,hb⟩
 have S:=HS.out.step hb
 clear HS hb hbb hK hc2 he2 hc3 he3 hc4 he4;have HS:=Aside0.mk S
 have hc5:=S.at_cell 1 rfl 5 rfl
 have hc6:=S.at_cell 1 rfl 6 rfl
 have he5:=S.at_cell 0 rfl 5 rfl
 have he6:=S.at_cell 0 rfl 6 rfl
 clear S;go_wp2_with fail
 obtain⟨K,hK⟩:=eqQueue_ev n.wm n.wk HN.out.s6;have hbb:=HS.out.below;refine(laws_eqQueue.calls K n.wm A6 c6 n.wk n.wm E6 e6 n.wk true _ (HF.out.below hbb).h6 HF.out.l6 (HG.out.below hbb).h6 HG.out.l6 (hK K (Nat.le_refl _)) rfl).mono ?_
 rintro e x2 ⟨rfl,hb⟩
 have S:=HS.out.step hb
 clear HS hb hbb hK hc5 he5 hc6 he6;have HS:=Aside0.mk S
 have hc7:=S.at_cell 1 rfl 7 rfl
 have hc8:=S.at_cell 1 rfl 8 rfl
 have he7:=S.at_cell 0 rfl 7 rfl
 have he8:=S.at_cell 0 rfl 8 rfl
 clear S;go_wp2_with fail
 obtain⟨K,hK⟩:=eqQueue_ev n.tm n.tk HN.out.s8;have hbb:=HS.out.below;refine(laws_eqQueue.calls K n.tm A8 c8 n.tk n.tm E8 e8 n.tk true _ (HF.out.below hbb).h8 HF.out.l8 (HG.out.below hbb).h8 HG.out.l8 (hK K (Nat.le_refl _)) rfl).mono ?_
 rintro e x3 ⟨rfl,hb⟩
 have S:=HS.out.step hb
 clear HS hb hbb hK hc7 he7 hc8 he8;have HS:=Aside0.mk S
 have hc9:=S.at_cell 1 rfl 9 rfl
 have hc10:=S.at_cell 1 rfl 10 rfl
 have he9:=S.at_cell 0 rfl 9 rfl
 have he10:=S.at_cell 0 rfl 10 rfl
 clear S;go_wp2_with fail
 obtain⟨K,hK⟩:=eqQueue_ev n.sm n.sk HN.out.s10;have hbb:=HS.out.below;refine(laws_eqQueue.calls K n.sm A10 c10 n.sk n.sm E10 e10 n.sk true _ (HF.out.below hbb).h10 HF.out.l10 (HG.out.below hbb).h10 HG.out.l10 (hK K (Nat.le_refl _)) rfl).mono ?_
 rintro e x4 ⟨rfl,hb⟩
 have S:=HS.out.step hb
 clear HS hb hbb hK hc9 he9 hc10 he10;have HS:=Aside0.mk S
 have hc11:=S.at_cell 1 rfl 11 rfl
 have hc12:=S.at_cell 1 rfl 12 rfl
 have he11:=S.at_cell 0 rfl 11 rfl
 have he12:=S.at_cell 0 rfl 12 rfl
 clear S;go_wp2_with fail
 obtain⟨K,hK⟩:=eqSketch_ev n.ct n.ad HN.out.s11;have hbb:=HS.out.below;refine(laws_eqSketch.calls K A11 c11 n.ct n.ad E11 e11 n.ct n.ad true _ (HF.out.below hbb).h11 HF.out.l11 (HG.out.below hbb).h11 HG.out.l11 (hK K (Nat.le_refl _)) rfl).mono ?_
 rintro e x5 ⟨rfl,hb⟩
 have S:=HS.out.step hb
 clear HS hb hbb hK hc11 he11 hc12 he12;have HS:=Aside0.mk S
 have hc13:=S.at_cell 1 rfl 13 rfl
 have he13:=S.at_cell 0 rfl 13 rfl
 clear S;go_wp2_with fail
 have hbb:=HS.out.below;refine(laws_eqDoor.calls n.db n.db true _ (if_pos rfl) rfl).mono ?_
 rintro e x6 ⟨rfl,hb⟩
 have S:=HS.out.step hb
 clear HS hb hbb hc13 he13;have HS:=Aside0.mk S
 clear S;go_wp2_with fail
 go_ret
 exact⟨rfl,HS.out.below⟩
end Go.Proofs.YtediiolcoilepaaGreat.Nb
