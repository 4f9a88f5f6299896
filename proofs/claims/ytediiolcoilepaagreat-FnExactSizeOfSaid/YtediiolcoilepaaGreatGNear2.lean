/- Parts of the proof: walks of callees, plain laws about what they compute. -/
import Derived.Test.YtediiolcoilepaaGreatGNear0
import Derived.Test.YtediiolcoilepaaGreatGNear1
namespace Go.Proofs.YtediiolcoilepaaGreat.GNear
open Go.RowKit Go.Proofs.YtediiolcoilepaaGreatW.PrintWords Go.Proofs.YtediiolcoilepaaGreatW.PrintLast Go.Proofs.YtediiolcoilepaaGreatW.PrintMore
attribute [local go_sem] max2_int min2_int max_two min_two max_three min_three max_four min_four
set_option linter.unusedVariables false
set_option linter.unusedSimpArgs false
theorem zc2 {w w1:World} {a:Addr} {v:Value} (hb:Below w.heap.size w w1) (h:w.cell? a=some v):w1.cell? a=some v:=(hb.cell (World.block_lt_of_cell? w _ h)).trans h
def laws_toTable.f (k:Nat) (l0_0:List (S198)) (l0_1:List (S198)) (a0_2:Int):Option ((List (S151)) × (List (S151)) × Int):=(laws_toCellS.f k l0_0).bind fun t156=>((laws_toCellS.f k l0_1).bind fun t159=>(some (t156,t159,a0_2)))
set_option maxHeartbeats 8000000 in
set_option maxRecDepth 100000 in
theorem laws_toTable.calls (k:Nat) (A0_0:Option Addr) (c0_0:Nat) (l0_0:List (S198)) (A0_1:Option Addr) (c0_1:Nat) (l0_1:List (S198)) (a0_2:Int) (r1:List (S151)) (r2:List (S151)) (r3:Int) (w:World) (hr0_0:Kd.C k198 w A0_0 l0_0.length l0_0) (hc0_0:l0_0.length≤c0_0) (hr0_1:Kd.C k198 w A0_1 l0_1.length l0_1) (hc0_1:l0_1.length≤c0_1) (h:laws_toTable.f k l0_0 l0_1 a0_2=some (r1,r2,r3)) :
  Calls Tryz.prog 47 #[.agg #[.slice A0_0 l0_0.length c0_0,.slice A0_1 l0_1.length c0_1,.int .i64 a0_2]] w fun e w'=>∃ v0_ v1_:Value,e=.returned (.agg #[v0_,v1_,.int .i64 r3])∧Kd.R k151 151 w' w.heap.size (fun k_=>some k_ ≠ (v1_:Value).ownBlock) v0_ r1∧Kd.R k151 151 w' w.heap.size (fun k_=>some k_ ≠ (v0_:Value).ownBlock) v1_ r2∧Below w.heap.size w w':=by
 have hu27:=Tryz.underlying27;have hu45:=Tryz.underlying45;have HR0_0:=Aside0.mk hr0_0
 have HC0_0:=Aside0.mk hc0_0
 clear hr0_0 hc0_0;have HR0_1:=Aside0.mk hr0_1
 have HC0_1:=Aside0.mk hc0_1
 clear hr0_1 hc0_1;have HB:=Aside0.mk (Below.refl w.heap.size w)
 have H:((laws_toCellS.f k l0_0).bind fun t156=>((laws_toCellS.f k l0_1).bind fun t159=>(some (t156,t159,a0_2))))=some (r1,r2,r3):=h
 clear h;replace H:=Option.bind_eq_some_iff.mp H;obtain⟨t156,A20,H⟩:=H;replace H:((laws_toCellS.f k l0_1).bind fun t159=>(some (t156,t159,a0_2)))=some (r1,r2,r3):=H
 have A2:=Aside0.mk A20
 clear A20;replace H:=Option.bind_eq_some_iff.mp H;obtain⟨t159,A30,H⟩:=H;replace H:(some (t156,t159,a0_2))=some (r1,r2,r3):=H
 have A3:=Aside0.mk A30
 clear A30;simp only [Option.some.injEq,Prod.mk.injEq] at H;obtain⟨rfl,rfl,rfl⟩:=H;go_enter Tryz.func47,Tryz.ntmps47
 go_wp2_with (first|((with_reducible refine gate_dst (N:=1) rfl ?_);refine yE (N:=1) (cs:=#[.slice A0_0 l0_0.length c0_0,.slice A0_1 l0_1.length c0_1,.int .i64 a0_2]) (t:=27) fun gb153 hg w4 hbox hb=>?_;obtain⟨n0_,n2_⟩:=yX (w:=w) hg hb (by repeat(with_reducible first|exact HB.out|apply zI|apply zG|apply zH));have n1_:=Aside0.mk (hbox);have n3_:=n2_;clear HB;have HB:=n0_;have BK153:=n1_;have GW153:=n2_;have GE153:=n3_;clear n0_ n1_ n2_ n3_;clear hb hbox hg)|((with_reducible refine gate_dst (N:=2) rfl ?_);refine yE (N:=2) (cs:=#[.slice none 0 0,.slice none 0 0,.int .i64 0]) (t:=45) fun gb154 hg w5 hbox hb=>?_;obtain⟨n0_,n5_,n6_⟩:=yY (g:=gb153) (o:=.cells #[.slice A0_0 l0_0.length c0_0,.slice A0_1 l0_1.length c0_1,.int .i64 a0_2] 27 (0,0)) hg hb (by(with_reducible repeat(first|apply zA|apply zC|apply zB));exact BK153.out);obtain⟨n1_,n3_⟩:=yX (w:=w) hg hb (by repeat(with_reducible first|exact HB.out|apply zI|apply zG|apply zH|refine zJ ?_ GE153.out));have n2_:=Aside0.mk (hbox);have n4_:=n3_;clear BK153;clear HB;have BK153:=n0_;have HB:=n1_;have BK154:=n2_;have GW154:=n3_;have GE154:=n4_;have NB153_154:=n5_;have NB154_153:=n6_;clear n0_ n1_ n2_ n3_ n4_ n5_ n6_;clear hb hbox hg)|((with_reducible refine gate_dst (N:=3) rfl ?_);refine yE (N:=3) (cs:=#[.slice none 0 0,.slice none 0 0,.int .i64 0]) (t:=45) fun gb155 hg w6 hbox hb=>?_;obtain⟨n0_,n6_,n7_⟩:=yY (g:=gb153) (o:=.cells #[.slice A0_0 l0_0.length c0_0,.slice A0_1 l0_1.length c0_1,.int .i64 a0_2] 27 (0,0)) hg hb (by(with_reducible repeat(first|apply zA|apply zC|apply zB));exact BK153.out);obtain⟨n1_,n8_,n9_⟩:=yY (g:=gb154) (o:=.cells #[.slice none 0 0,.slice none 0 0,.int .i64 0] 45 (0,0)) hg hb (by(with_reducible repeat(first|apply zA|apply zC|apply zB));exact BK154.out);obtain⟨n2_,n4_⟩:=yX (w:=w) hg hb (by repeat(with_reducible first|exact HB.out|apply zI|apply zG|apply zH|refine zJ ?_ GE153.out|refine zJ ?_ GE154.out));have n3_:=Aside0.mk (hbox);have n5_:=n4_;clear BK153;clear BK154;clear HB;have BK153:=n0_;have BK154:=n1_;have HB:=n2_;have BK155:=n3_;have GW155:=n4_;have GE155:=n5_;have NB153_155:=n6_;have NB155_153:=n7_;have NB154_155:=n8_;have NB155_154:=n9_;clear n0_ n1_ n2_ n3_ n4_ n5_ n6_ n7_ n8_ n9_;clear hb hbox hg;have hnb7:=NB153_154.out;have hnc7:=NB154_153.out;have hnb8:=NB153_155.out;have hnc8:=NB155_153.out;obtain⟨hcz9_0,hcz9_1,hcz9_2,hfz9_0,hfz9_1,hfz9_2⟩:=zb3 BK153.out)|((with_reducible refine gate_callee (f:=122) rfl ?_);refine goesL_ (some 6) rfl rfl Tryz.func122 (by kernel_rfl) rfl #[.slice A0_0 l0_0.length c0_0] rfl (by(try simp only [List.map_toArray,List.map_cons,List.map_nil]);first|done|rfl|(simp only [List.length_drop,List.length_take];rfl)) ?_;(with_reducible refine(laws_toCellS.calls k _ _ l0_0 t156 _ ?side1 ?side2 A2.out).mono ?_);(case side1=>repeat(first|exact(Kd.C_below HR0_0.out HB.out)|(with_reducible refine Kd.C_alloc ?_ _)|(with_reducible refine Kd.C_drewN ?_ _)|(with_reducible refine Kd.C_drew ?_)));(case side2=>exact HC0_0.out);rintro e w10 ⟨v157,rfl,ho0,hb⟩;refine⟨_,rfl,?_⟩;have n0_:=Aside0.mk (Kd.R_lower ho0 (below_size (by repeat(with_reducible first|exact HB.out|apply zI|apply zG|apply zH|refine zJ ?_ GE153.out|refine zJ ?_ GE154.out|refine zJ ?_ GE155.out))));have n1_:=Aside0.mk (zK (g:=gb153) (o:=.cells #[.slice A0_0 l0_0.length c0_0,.slice A0_1 l0_1.length c0_1,.int .i64 a0_2] 27 (0,0)) (by(with_reducible repeat(first|apply zA|apply zC|apply zB));exact BK153.out) hb);have n2_:=Aside0.mk (zK (g:=gb154) (o:=.cells #[.slice none 0 0,.slice none 0 0,.int .i64 0] 45 (0,0)) (by(with_reducible repeat(first|apply zA|apply zC|apply zB));exact BK154.out) hb);have n3_:=Aside0.mk (zK (g:=gb155) (o:=.cells #[.slice none 0 0,.slice none 0 0,.int .i64 0] 45 (0,0)) (by(with_reducible repeat(first|apply zA|apply zC|apply zB));exact BK155.out) hb);have n4_:=Aside0.mk (zN (by repeat(with_reducible first|exact HB.out|apply zI|apply zG|apply zH|refine zJ ?_ GE153.out|refine zJ ?_ GE154.out|refine zJ ?_ GE155.out)) hb);clear BK153;clear BK154;clear BK155;clear HB;have HO158:=n0_;have BK153:=n1_;have BK154:=n2_;have BK155:=n3_;have HB:=n4_;clear n0_ n1_ n2_ n3_ n4_;(try clear hb);(try clear hb2);(try clear hk);(try clear hi);(try clear ho0);obtain⟨Ao11,co11,eo11⟩:=Kd.R_slice HO158.out;subst eo11;have hnb12:=NB155_154.out;have hnc12:=NB154_155.out;obtain⟨hcz13_0,hcz13_1,hcz13_2,hfz13_0,hfz13_1,hfz13_2⟩:=zb3 BK155.out;obtain⟨hcz14_0,hcz14_1,hcz14_2,hfz14_0,hfz14_1,hfz14_2⟩:=zb3 BK153.out)|((with_reducible refine gate_callee (f:=122) rfl ?_);refine goesL_ (some 10) rfl rfl Tryz.func122 (by kernel_rfl) rfl #[.slice A0_1 l0_1.length c0_1] rfl (by(try simp only [List.map_toArray,List.map_cons,List.map_nil]);first|done|rfl|(simp only [List.length_drop,List.length_take];rfl)) ?_;(with_reducible refine(laws_toCellS.calls k _ _ l0_1 t159 _ ?side1 ?side2 A3.out).mono ?_);(case side1=>exact Kd.C_below HR0_1.out (by repeat(with_reducible first|exact HB.out|apply zI|apply zG|apply zH|refine zJ ?_ GE153.out|refine zJ ?_ GE154.out|refine zJ ?_ GE155.out)));(case side2=>exact HC0_1.out);rintro e w15 ⟨v160,rfl,ho0,hb⟩;refine⟨_,rfl,?_⟩;have n0_:=Aside0.mk (Kd.R_elder' (by(with_reducible repeat(first|apply zE|apply zD|apply zF));exact(zR (zL (p:=⟨gb155,0,none⟩) (zQ HO158.out BK155.out (by decide)) (fun _ hk=>hk.2) (.slice Ao11 t156.length co11)) (fun _ h_=>h_.1))) (Kd.R_base ho0) hb);have n1_:=Aside0.mk (Kd.R_lower (Kd.R_new' ho0 (Kd.R_lt (by(with_reducible repeat(first|apply zE|apply zD|apply zF));exact(zR (zL (p:=⟨gb155,0,none⟩) (zQ HO158.out BK155.out (by decide)) (fun _ hk=>hk.2) (.slice Ao11 t156.length co11)) (fun _ h_=>h_.1))))) (below_size (by repeat(with_reducible first|exact HB.out|apply zI|apply zG|apply zH|refine zJ ?_ GE153.out|refine zJ ?_ GE154.out|refine zJ ?_ GE155.out))));have n2_:=Aside0.mk (zK (g:=gb153) (o:=.cells #[.slice A0_0 l0_0.length c0_0,.slice A0_1 l0_1.length c0_1,.int .i64 a0_2] 27 (0,0)) (by(with_reducible repeat(first|apply zA|apply zC|apply zB));refine zT ?_ NB153_155.out _;(with_reducible repeat(first|apply zA|apply zC|apply zB));exact BK153.out) hb);have n3_:=Aside0.mk (zK (g:=gb154) (o:=.cells #[.slice none 0 0,.slice none 0 0,.int .i64 0] 45 (0,0)) (by(with_reducible repeat(first|apply zA|apply zC|apply zB));refine zT ?_ NB154_155.out _;(with_reducible repeat(first|apply zA|apply zC|apply zB));exact BK154.out) hb);have n4_:=Aside0.mk (zK (g:=gb155) (o:=.cells #[.slice Ao11 t156.length co11,.slice none 0 0,.int .i64 0] 45 (0,0)) (by(with_reducible repeat(first|apply zA|apply zC|apply zB));refine blk_put (cs:=#[.slice none 0 0,.slice none 0 0,.int .i64 0]) ?_ 0 _ rfl;(with_reducible repeat(first|apply zA|apply zC|apply zB));exact BK155.out) hb);have n5_:=Aside0.mk (zN (by repeat(with_reducible first|exact HB.out|apply zI|apply zG|apply zH|refine zJ ?_ GE153.out|refine zJ ?_ GE154.out|refine zJ ?_ GE155.out)) hb);clear HO158;clear BK153;clear BK154;clear BK155;clear HB;have HO158:=n0_;have HO161:=n1_;have BK153:=n2_;have BK154:=n3_;have BK155:=n4_;have HB:=n5_;clear n0_ n1_ n2_ n3_ n4_ n5_;(try clear hb);(try clear hb2);(try clear hk);(try clear hi);(try clear ho0);obtain⟨Ao16,co16,eo16⟩:=Kd.R_slice HO161.out;subst eo16;obtain⟨hcz17_0,hcz17_1,hcz17_2,hfz17_0,hfz17_1,hfz17_2⟩:=zb3 BK155.out;obtain⟨hcz18_0,hcz18_1,hcz18_2,hfz18_0,hfz18_1,hfz18_2⟩:=zb3 BK153.out;obtain⟨hcz19_0,hcz19_1,hcz19_2,hfz19_0,hfz19_1,hfz19_2⟩:=zb3 BK154.out))
 refine bodyPost_ret (results_cell_row rfl _ _ gb154 45 #[.slice Ao11 t156.length co11,.slice Ao16 t159.length co16,.int .i64 a0_2] (0,0) _ rfl (by(with_reducible repeat(first|apply zA|apply zC|apply zB));refine blk_put (cs:=#[.slice Ao11 t156.length co11,.slice Ao16 t159.length co16,.int .i64 0]) ?_ 2 _ rfl;(with_reducible repeat(first|apply zA|apply zC|apply zB));refine blk_put (cs:=#[.slice Ao11 t156.length co11,.slice none 0 0,.int .i64 0]) ?_ 1 _ rfl;(with_reducible repeat(first|apply zA|apply zC|apply zB));refine blk_put (cs:=#[.slice none 0 0,.slice none 0 0,.int .i64 0]) ?_ 0 _ rfl;(with_reducible repeat(first|apply zA|apply zC|apply zB));refine zT ?_ NB154_155.out _;(with_reducible repeat(first|apply zA|apply zC|apply zB));refine zT ?_ NB154_155.out _;(with_reducible repeat(first|apply zA|apply zC|apply zB));exact BK154.out) Tryz.underlying45 rfl (by kernel_rfl)) rfl ?_
 exact⟨_,_,by first|rfl|(simp[errW_none,errW_some] <;> rfl)|(simp[*,errW_none,errW_some] <;> rfl),by(with_reducible repeat(first|apply zE|apply zD|apply zF));exact zR (zL (p:=⟨gb154,2,none⟩) (zL (p:=⟨gb154,1,none⟩) (zL (p:=⟨gb154,0,none⟩) (zL (p:=⟨gb155,2,none⟩) (zL (p:=⟨gb155,1,none⟩) (zQ (zQ HO158.out BK155.out (by decide)) BK154.out (by decide)) (fun _ hk=>hk.1.2) (.slice Ao16 t159.length co16)) (fun _ hk=>hk.1.2) (.int .i64 a0_2)) (fun _ hk=>hk.2) (.slice Ao11 t156.length co11)) (fun _ hk=>hk.2) (.slice Ao16 t159.length co16)) (fun _ hk=>hk.2) (.int .i64 a0_2)) (fun _ hk=>hk.1.1.2),by(with_reducible repeat(first|apply zE|apply zD|apply zF));exact zR (zL (p:=⟨gb154,2,none⟩) (zL (p:=⟨gb154,1,none⟩) (zL (p:=⟨gb154,0,none⟩) (zL (p:=⟨gb155,2,none⟩) (zL (p:=⟨gb155,1,none⟩) (zQ (zQ HO161.out BK155.out (by decide)) BK154.out (by decide)) (fun _ hk=>hk.1.2) (.slice Ao16 t159.length co16)) (fun _ hk=>hk.1.2) (.int .i64 a0_2)) (fun _ hk=>hk.2) (.slice Ao11 t156.length co11)) (fun _ hk=>hk.2) (.slice Ao16 t159.length co16)) (fun _ hk=>hk.2) (.int .i64 a0_2)) (fun _ hk=>hk.1.1.2),by repeat(with_reducible first|exact HB.out|apply zI|apply zG|apply zH|refine zJ ?_ GE153.out|refine zJ ?_ GE154.out|refine zJ ?_ GE155.out)⟩
def laws_toStringS.l0:Nat→List ByteArray→List ByteArray→Int→Option (List ByteArray)
|0,_,_,_=>none
|k+1,x0,x3,x4=>if x4 < (x0.length:Int) then (if 0≤x4 then (if x4 < (x3.length:Int) then (laws_toStringS.l0 k x0 (x3.set (x4:Int).toNat (rdOf ByteArray.empty x0 x4)) (wrap64 (x4+1))) else (none)) else (none)) else (some x3)
def laws_toStringS.f (k:Nat) (l0:List ByteArray):Option (List ByteArray):=if 0≤(l0.length:Int) then (if ((l0.length:Int):Int).toNat≤17592186044416 then (laws_toStringS.l0 k l0 (List.replicate ((l0.length:Int):Int).toNat (⟨#[]⟩:ByteArray)) 0) else (none)) else (none)
set_option maxHeartbeats 8000000 in
set_option maxRecDepth 100000 in
theorem laws_toStringS.calls (k:Nat) (A0:Option Addr) (c0:Nat) (l0:List ByteArray) (r:List ByteArray) (w:World) (hr0:Kd.C Kd.string w A0 l0.length l0) (hc0:l0.length≤c0) (h:laws_toStringS.f k l0=some r) :
  Calls Tryz.prog 123 #[.slice A0 l0.length c0] w fun e w'=>∃ v0_:Value,e=.returned (v0_)∧Kd.R Kd.string 9 w' w.heap.size (fun _=>True) v0_ r∧Below w.heap.size w w':=by
 have HR0:=Aside0.mk hr0
 have HC0:=Aside0.mk hc0
 clear hr0 hc0;have HB:=Aside0.mk (Below.refl w.heap.size w)
 have H:(if 0≤(l0.length:Int) then (if ((l0.length:Int):Int).toNat≤17592186044416 then (laws_toStringS.l0 k l0 (List.replicate ((l0.length:Int):Int).toNat (⟨#[]⟩:ByteArray)) 0) else (none)) else (none))=some r:=h
 clear h;by_cases c2:0≤(l0.length:Int)
 ·rw[if_pos c2] at H
  have c2b0:=eq_true c2
  have c2b1:decide (0≤(l0.length:Int))=true:=decide_eq_true c2
  clear c2;by_cases c3:((l0.length:Int):Int).toNat≤17592186044416
  ·rw[if_pos c3] at H
   have c3b0:=eq_true c3
   have c3b1:decide (((l0.length:Int):Int).toNat≤17592186044416)=true:=decide_eq_true c3
   clear c3;obtain⟨y162,hy162⟩:∃ y_:List ByteArray,y_=(List.replicate ((l0.length:Int):Int).toNat (⟨#[]⟩:ByteArray)):=⟨_,rfl⟩
   replace H:(laws_toStringS.l0 k l0 y162 0)=some r:=by first|(rw[hy162];with_reducible exact H)|(have H2_:=(Option.bind_some _ _).symm.trans H;rw[hy162];with_reducible exact H2_)|(have H2_:=(Option.bind_some _ _).symm.trans H;with_reducible exact H2_)|with_reducible exact H|(rw[hy162];exact H)|exact H
   have Ny162:=Aside0.mk hy162
   clear hy162;have H':=Aside0.mk H
   clear H;go_enter Tryz.func123,Tryz.ntmps123
   go_wp2_with (first|((with_reducible refine gate_dst (N:=7) rfl ?_);refine Kd.R_make Kd.string _ 9 rfl (N:=7) rfl 28 _ _ rfl (l0.length:Int) rfl rfl Tryz.underlying28 (.string ⟨#[]⟩) 16 info9 rfl (by decide) (by omega) (⟨#[]⟩:ByteArray) (ok:=fun _=>True) (okp:=fun _=>True) rfl (fun _ hk=>hk) trivial (of_decide_eq_true (by assumption)) (Nat.le_trans (Nat.mul_le_mul_right _ (of_decide_eq_true (by assumption):(l0.length:Int).toNat≤17592186044416)) (by omega)) (Below.refl _ _) (Nat.le_refl _) ?_;intro v163 w4 ho5 hb hg_ hnew_;clear hg_ hnew_;(first|rw[← Ny162.out] at ho5|(simp only [Int.reduceToNat] at ho5;rw[← Ny162.out] at ho5));have n0_:=Aside0.mk (Kd.R_lower ho5 (below_size (by repeat(with_reducible first|exact HB.out|apply zI|apply zG|apply zH))));have n1_:=Aside0.mk (zN (by repeat(with_reducible first|exact HB.out|apply zI|apply zG|apply zH)) hb);clear HB;have HO164:=n0_;have HB:=n1_;clear n0_ n1_;clear hb ho5))
   go_loopg [4] k (fun kq v4 w'=>∃ (x3_1:List ByteArray) (x4_1:Int),v4=.int .i64 x4_1∧Aside0 (laws_toStringS.l0 kq l0 x3_1 x4_1=some r)∧Aside0 (kq≤k)∧Aside0 (Kd.R Kd.string 9 w' w.heap.size (fun _=>True) v163 x3_1)∧Aside0 (Below w.heap.size w w'))
   case atStart=>exact⟨(y162),(0),(by first|rfl|simp[*]),H',⟨Nat.le_refl _⟩,⟨by(with_reducible repeat(first|apply zE|apply zD|apply zF));exact HO164.out⟩,⟨by repeat(with_reducible first|exact HB.out|apply zI|apply zG|apply zH)⟩⟩
   case round =>
    clear H';obtain⟨x3_1,x4_1,rfl,HA,HK1,HO_3,HB⟩:=hrel;cases gk with
   |zero=>exact absurd HA.out (by simp[laws_toStringS.l0])
   |succ k1 =>
     have H:=HA.out;clear HA;simp only [laws_toStringS.l0] at H;by_cases c6:x4_1 < (l0.length:Int)
     ·rw[if_pos c6] at H
      have c6b0:decide (x4_1 < (l0.length:Int))=true:=decide_eq_true c6
      clear c6;by_cases c7:0≤x4_1
      ·rw[if_pos c7] at H
       have c7b0:decide (0≤x4_1)=true:=decide_eq_true c7
       clear c7;by_cases c8:x4_1 < (x3_1.length:Int)
       ·rw[if_pos c8] at H
        have c8b0:decide (x4_1 < (x3_1.length:Int))=true:=decide_eq_true c8
        clear c8;obtain⟨y166,hy166⟩:∃ y_:List ByteArray,y_=(x3_1.set (x4_1:Int).toNat (rdOf ByteArray.empty l0 x4_1)):=⟨_,rfl⟩
        replace H:(laws_toStringS.l0 k1 l0 y166 (wrap64 (x4_1+1)))=some r:=by first|(rw[hy166];with_reducible exact H)|(have H2_:=(Option.bind_some _ _).symm.trans H;rw[hy166];with_reducible exact H2_)|(have H2_:=(Option.bind_some _ _).symm.trans H;with_reducible exact H2_)|with_reducible exact H|(rw[hy166];exact H)|exact H
        have Ny166:=Aside0.mk hy166
        clear hy166;have H':=Aside0.mk H
        clear H;have p165:0≤(x4_1:Int):=of_decide_eq_true (by assumption)
        have q165:x4_1 < (l0.length:Int):=of_decide_eq_true (by assumption)
        obtain⟨ad165,e165,hx165_0⟩:=Kd.at_string HR0.out x4_1 p165 q165;cases e165
        replace hx165_0:=zc2 HB.out hx165_0;replace p165:=eq_true p165;replace q165:=eq_true q165;have p9:0≤(x4_1:Int):=of_decide_eq_true (by assumption)
        have q9:(x4_1:Int) < ((x3_1.length:Int):Int):=of_decide_eq_true (by assumption)
        obtain⟨go9,co9,eo9,gb9,gl9,cl9,HG9⟩:=Kd.R_form HO_3.out (by omega)
        (first|cases eo9|(injection eo9 with ea_ en_ ec_;(first|subst ea_|(injection ea_ with ea_;subst ea_));subst ec_;clear en_))
        have GB9:=Aside0.mk gb9
        have GG9:=Aside0.mk HG9
        clear gb9 gl9 HG9;obtain⟨hx9_0,hf9_0⟩:=Kd.R_celln (⟨#[]⟩:ByteArray) HO_3.out (x4_1:Int) p9 q9
        replace p9:=eq_true p9;replace q9:=eq_true q9;have HP10:=Kd.R_putg HO_3.out (x4_1:Int) (rdOf ByteArray.empty l0 x4_1)
        go_wp2_with (first|((with_reducible refine gate_store (t:=9) (p:=20) rfl ?_);refine store_event (t:=9) (p:=20) (v:=?vo_w11) (w1:=(wr.setCell ⟨go9,(x4_1:Int).toNat,none⟩ (.string (rdOf ByteArray.empty l0 x4_1)))) ?hg ?ho ?hn ?hr ?_;(case ho=>rfl);(case hg=>rfl);(case hn=>rfl);(case hr=>first|(go_simp;done)|(go_simp;rfl));intro w11 hw;have hg:wr.grownBy w11 (some go9):=(by rw[hw];exact HP10.2);have hp_:Kd.R Kd.string 9 w11 w.heap.size (fun _=>True) (.slice (some ⟨go9,0,none⟩) x3_1.length co9) y166:=(by rw[hw,Ny166.out];exact HP10.1);clear HP10;have n0_:=Aside0.mk (hp_);have n1_:=Aside0.mk ((by rw[hw];exact zJ (HB.out) GB9.out:Below w.heap.size w w11));clear HO_3;clear HB;have HO_3:=n0_;have HB:=n1_;clear n0_ n1_;clear hg hw hp_))
        go_roundg k1
        case measure=>have:=HK1.out;omega
        case rel=>exact⟨(y166),(wrap64 (x4_1+1)),(by first|rfl|simp[*]),H',⟨by have:=HK1.out;omega⟩,⟨by(with_reducible repeat(first|apply zE|apply zD|apply zF));exact HO_3.out⟩,⟨by repeat(with_reducible first|exact HB.out|apply zI|apply zG|apply zH)⟩⟩
       ·rw[if_neg c8] at H
        exact absurd H (by simp)
      ·rw[if_neg c7] at H
       exact absurd H (by simp)
     ·rw[if_neg c6] at H
      have c6b0:decide (x4_1 < (l0.length:Int))=false:=decide_eq_false c6
      clear c6;obtain rfl:=Option.some.inj H;go_wp2
      go_ret
      exact⟨_,by first|rfl|(simp[errW_none,errW_some] <;> rfl)|(simp[*,errW_none,errW_some] <;> rfl),by(with_reducible repeat(first|apply zE|apply zD|apply zF));exact HO_3.out,by repeat(with_reducible first|exact HB.out|apply zI|apply zG|apply zH)⟩
  ·rw[if_neg c3] at H
   exact absurd H (by simp)
 ·rw[if_neg c2] at H
  exact absurd H (by simp)
def laws_toQueue.f (k:Nat) (a0_0:Int) (l0_1:List ByteArray):Option (Int × List ByteArray):=(laws_toStringS.f k l0_1).bind fun t170=>(some (a0_0,t170))
set_option maxHeartbeats 8000000 in
set_option maxRecDepth 100000 in
theorem laws_toQueue.calls (k:Nat) (a0_0:Int) (A0_1:Option Addr) (c0_1:Nat) (l0_1:List ByteArray) (r1:Int) (r2:List ByteArray) (w:World) (hr0_1:Kd.C Kd.string w A0_1 l0_1.length l0_1) (hc0_1:l0_1.length≤c0_1) (h:laws_toQueue.f k a0_0 l0_1=some (r1,r2)) :
  Calls Tryz.prog 48 #[.agg #[.int .i64 a0_0,.slice A0_1 l0_1.length c0_1]] w fun e w'=>∃ v1_:Value,e=.returned (.agg #[.int .i64 r1,v1_])∧Kd.R Kd.string 9 w' w.heap.size (fun _=>True) v1_ r2∧Below w.heap.size w w':=by
 have hu30:=Tryz.underlying30;have hu46:=Tryz.underlying46;have HR0_1:=Aside0.mk hr0_1
 have HC0_1:=Aside0.mk hc0_1
 clear hr0_1 hc0_1;have HB:=Aside0.mk (Below.refl w.heap.size w)
 have H:((laws_toStringS.f k l0_1).bind fun t170=>(some (a0_0,t170)))=some (r1,r2):=h
 clear h;replace H:=Option.bind_eq_some_iff.mp H;obtain⟨t170,A20,H⟩:=H;replace H:(some (a0_0,t170))=some (r1,r2):=H
 have A2:=Aside0.mk A20
 clear A20;simp only [Option.some.injEq,Prod.mk.injEq] at H;obtain⟨rfl,rfl⟩:=H;go_enter Tryz.func48,Tryz.ntmps48
 go_wp2_with (first|((with_reducible refine gate_dst (N:=1) rfl ?_);refine yE (N:=1) (cs:=#[.int .i64 a0_0,.slice A0_1 l0_1.length c0_1]) (t:=30) fun gb167 hg w3 hbox hb=>?_;obtain⟨n0_,n2_⟩:=yX (w:=w) hg hb (by repeat(with_reducible first|exact HB.out|apply zI|apply zG|apply zH));have n1_:=Aside0.mk (hbox);have n3_:=n2_;clear HB;have HB:=n0_;have BK167:=n1_;have GW167:=n2_;have GE167:=n3_;clear n0_ n1_ n2_ n3_;clear hb hbox hg)|((with_reducible refine gate_dst (N:=2) rfl ?_);refine yE (N:=2) (cs:=#[.int .i64 0,.slice none 0 0]) (t:=46) fun gb168 hg w4 hbox hb=>?_;obtain⟨n0_,n5_,n6_⟩:=yY (g:=gb167) (o:=.cells #[.int .i64 a0_0,.slice A0_1 l0_1.length c0_1] 30 (0,0)) hg hb (by(with_reducible repeat(first|apply zA|apply zC|apply zB));exact BK167.out);obtain⟨n1_,n3_⟩:=yX (w:=w) hg hb (by repeat(with_reducible first|exact HB.out|apply zI|apply zG|apply zH|refine zJ ?_ GE167.out));have n2_:=Aside0.mk (hbox);have n4_:=n3_;clear BK167;clear HB;have BK167:=n0_;have HB:=n1_;have BK168:=n2_;have GW168:=n3_;have GE168:=n4_;have NB167_168:=n5_;have NB168_167:=n6_;clear n0_ n1_ n2_ n3_ n4_ n5_ n6_;clear hb hbox hg)|((with_reducible refine gate_dst (N:=3) rfl ?_);refine yE (N:=3) (cs:=#[.int .i64 0,.slice none 0 0]) (t:=46) fun gb169 hg w5 hbox hb=>?_;obtain⟨n0_,n6_,n7_⟩:=yY (g:=gb167) (o:=.cells #[.int .i64 a0_0,.slice A0_1 l0_1.length c0_1] 30 (0,0)) hg hb (by(with_reducible repeat(first|apply zA|apply zC|apply zB));exact BK167.out);obtain⟨n1_,n8_,n9_⟩:=yY (g:=gb168) (o:=.cells #[.int .i64 0,.slice none 0 0] 46 (0,0)) hg hb (by(with_reducible repeat(first|apply zA|apply zC|apply zB));exact BK168.out);obtain⟨n2_,n4_⟩:=yX (w:=w) hg hb (by repeat(with_reducible first|exact HB.out|apply zI|apply zG|apply zH|refine zJ ?_ GE167.out|refine zJ ?_ GE168.out));have n3_:=Aside0.mk (hbox);have n5_:=n4_;clear BK167;clear BK168;clear HB;have BK167:=n0_;have BK168:=n1_;have HB:=n2_;have BK169:=n3_;have GW169:=n4_;have GE169:=n5_;have NB167_169:=n6_;have NB169_167:=n7_;have NB168_169:=n8_;have NB169_168:=n9_;clear n0_ n1_ n2_ n3_ n4_ n5_ n6_ n7_ n8_ n9_;clear hb hbox hg;have hnb6:=NB167_168.out;have hnc6:=NB168_167.out;have hnb7:=NB167_169.out;have hnc7:=NB169_167.out;obtain⟨hcz8_0,hcz8_1,hfz8_0,hfz8_1⟩:=zb2 BK167.out;have hnb9:=NB169_168.out;have hnc9:=NB168_169.out;obtain⟨hcz10_0,hcz10_1,hfz10_0,hfz10_1⟩:=zb2 BK169.out)|((with_reducible refine gate_callee (f:=123) rfl ?_);refine goesL_ (some 9) rfl rfl Tryz.func123 (by kernel_rfl) rfl #[.slice A0_1 l0_1.length c0_1] rfl (by(try simp only [List.map_toArray,List.map_cons,List.map_nil]);first|done|rfl|(simp only [List.length_drop,List.length_take];rfl)) ?_;(with_reducible refine(laws_toStringS.calls k _ _ l0_1 t170 _ ?side1 ?side2 A2.out).mono ?_);(case side1=>exact Kd.C_below HR0_1.out (by repeat(with_reducible first|exact HB.out|apply zI|apply zG|apply zH|refine zJ ?_ GE167.out|refine zJ ?_ GE168.out|refine zJ ?_ GE169.out)));(case side2=>exact HC0_1.out);rintro e w11 ⟨v171,rfl,ho0,hb⟩;refine⟨_,rfl,?_⟩;have n0_:=Aside0.mk (Kd.R_lower ho0 (below_size (by repeat(with_reducible first|exact HB.out|apply zI|apply zG|apply zH|refine zJ ?_ GE167.out|refine zJ ?_ GE168.out|refine zJ ?_ GE169.out))));have n1_:=Aside0.mk (zK (g:=gb167) (o:=.cells #[.int .i64 a0_0,.slice A0_1 l0_1.length c0_1] 30 (0,0)) (by(with_reducible repeat(first|apply zA|apply zC|apply zB));refine zT ?_ NB167_169.out _;(with_reducible repeat(first|apply zA|apply zC|apply zB));exact BK167.out) hb);have n2_:=Aside0.mk (zK (g:=gb168) (o:=.cells #[.int .i64 0,.slice none 0 0] 46 (0,0)) (by(with_reducible repeat(first|apply zA|apply zC|apply zB));refine zT ?_ NB168_169.out _;(with_reducible repeat(first|apply zA|apply zC|apply zB));exact BK168.out) hb);have n3_:=Aside0.mk (zK (g:=gb169) (o:=.cells #[.int .i64 a0_0,.slice none 0 0] 46 (0,0)) (by(with_reducible repeat(first|apply zA|apply zC|apply zB));refine blk_put (cs:=#[.int .i64 0,.slice none 0 0]) ?_ 0 _ rfl;(with_reducible repeat(first|apply zA|apply zC|apply zB));exact BK169.out) hb);have n4_:=Aside0.mk (zN (by repeat(with_reducible first|exact HB.out|apply zI|apply zG|apply zH|refine zJ ?_ GE167.out|refine zJ ?_ GE168.out|refine zJ ?_ GE169.out)) hb);clear BK167;clear BK168;clear BK169;clear HB;have HO172:=n0_;have BK167:=n1_;have BK168:=n2_;have BK169:=n3_;have HB:=n4_;clear n0_ n1_ n2_ n3_ n4_;(try clear hb);(try clear hb2);(try clear hk);(try clear hi);(try clear ho0);obtain⟨Ao12,co12,eo12⟩:=Kd.R_slice HO172.out;subst eo12;obtain⟨hcz13_0,hcz13_1,hfz13_0,hfz13_1⟩:=zb2 BK169.out;obtain⟨hcz14_0,hcz14_1,hfz14_0,hfz14_1⟩:=zb2 BK168.out))
 refine bodyPost_ret (results_cell_row rfl _ _ gb168 46 #[.int .i64 a0_0,.slice Ao12 t170.length co12] (0,0) _ rfl (by(with_reducible repeat(first|apply zA|apply zC|apply zB));refine blk_put (cs:=#[.int .i64 a0_0,.slice none 0 0]) ?_ 1 _ rfl;(with_reducible repeat(first|apply zA|apply zC|apply zB));refine blk_put (cs:=#[.int .i64 0,.slice none 0 0]) ?_ 0 _ rfl;(with_reducible repeat(first|apply zA|apply zC|apply zB));refine zT ?_ NB168_169.out _;(with_reducible repeat(first|apply zA|apply zC|apply zB));exact BK168.out) Tryz.underlying46 rfl (by kernel_rfl)) rfl ?_
 exact⟨_,by first|rfl|(simp[errW_none,errW_some] <;> rfl)|(simp[*,errW_none,errW_some] <;> rfl),by(with_reducible repeat(first|apply zE|apply zD|apply zF));exact zR (zL (p:=⟨gb168,1,none⟩) (zL (p:=⟨gb168,0,none⟩) (zL (p:=⟨gb169,1,none⟩) (zQ (zQ HO172.out BK169.out (by decide)) BK168.out (by decide)) (fun _ hk=>hk.1.2) (.slice Ao12 t170.length co12)) (fun _ hk=>hk.2) (.int .i64 a0_0)) (fun _ hk=>hk.2) (.slice Ao12 t170.length co12)) (fun _ hk=>trivial),by repeat(with_reducible first|exact HB.out|apply zI|apply zG|apply zH|refine zJ ?_ GE167.out|refine zJ ?_ GE168.out|refine zJ ?_ GE169.out)⟩
def laws_toIntS.l0:Nat→List Int→List Int→Int→Option (List Int)
|0,_,_,_=>none
|k+1,x0,x3,x4=>if x4 < (x0.length:Int) then (if 0≤x4 then (if x4 < (x3.length:Int) then (laws_toIntS.l0 k x0 (x3.set (x4:Int).toNat (rd x0 x4)) (wrap64 (x4+1))) else (none)) else (none)) else (some x3)
def laws_toIntS.f (k:Nat) (l0:List Int):Option (List Int):=if 0≤(l0.length:Int) then (if ((l0.length:Int):Int).toNat≤35184372088832 then (laws_toIntS.l0 k l0 (List.replicate ((l0.length:Int):Int).toNat 0) 0) else (none)) else (none)
set_option maxHeartbeats 8000000 in
set_option maxRecDepth 100000 in
theorem laws_toIntS.calls (k:Nat) (A0:Option Addr) (c0:Nat) (l0:List Int) (r:List Int) (w:World) (hr0:Kd.C (Kd.int .i64) w A0 l0.length l0) (hc0:l0.length≤c0) (h:laws_toIntS.f k l0=some r) :
  Calls Tryz.prog 124 #[.slice A0 l0.length c0] w fun e w'=>∃ v0_:Value,e=.returned (v0_)∧Kd.R (Kd.int .i64) 3 w' w.heap.size (fun _=>True) v0_ r∧Below w.heap.size w w':=by
 have HR0:=Aside0.mk hr0
 have HC0:=Aside0.mk hc0
 clear hr0 hc0;have HB:=Aside0.mk (Below.refl w.heap.size w)
 have H:(if 0≤(l0.length:Int) then (if ((l0.length:Int):Int).toNat≤35184372088832 then (laws_toIntS.l0 k l0 (List.replicate ((l0.length:Int):Int).toNat 0) 0) else (none)) else (none))=some r:=h
 clear h;by_cases c2:0≤(l0.length:Int)
 ·rw[if_pos c2] at H
  have c2b0:=eq_true c2
  have c2b1:decide (0≤(l0.length:Int))=true:=decide_eq_true c2
  clear c2;by_cases c3:((l0.length:Int):Int).toNat≤35184372088832
  ·rw[if_pos c3] at H
   have c3b0:=eq_true c3
   have c3b1:decide (((l0.length:Int):Int).toNat≤35184372088832)=true:=decide_eq_true c3
   clear c3;obtain⟨y173,hy173⟩:∃ y_:List Int,y_=(List.replicate ((l0.length:Int):Int).toNat 0):=⟨_,rfl⟩
   replace H:(laws_toIntS.l0 k l0 y173 0)=some r:=by first|(rw[hy173];with_reducible exact H)|(have H2_:=(Option.bind_some _ _).symm.trans H;rw[hy173];with_reducible exact H2_)|(have H2_:=(Option.bind_some _ _).symm.trans H;with_reducible exact H2_)|with_reducible exact H|(rw[hy173];exact H)|exact H
   have Ny173:=Aside0.mk hy173
   clear hy173;have H':=Aside0.mk H
   clear H;go_enter Tryz.func124,Tryz.ntmps124
   go_wp2_with (first|((with_reducible refine gate_dst (N:=7) rfl ?_);refine Kd.R_make (Kd.int .i64) _ 3 rfl (N:=7) rfl 31 _ _ rfl (l0.length:Int) rfl rfl Tryz.underlying31 (.int .i64 0) 8 info3 rfl (by decide) (by omega) 0 (ok:=fun _=>True) (okp:=fun _=>True) rfl (fun _ hk=>hk) trivial (of_decide_eq_true (by assumption)) (Nat.le_trans (Nat.mul_le_mul_right _ (of_decide_eq_true (by assumption):(l0.length:Int).toNat≤35184372088832)) (by omega)) (Below.refl _ _) (Nat.le_refl _) ?_;intro v174 w4 ho5 hb hg_ hnew_;clear hg_ hnew_;(first|rw[← Ny173.out] at ho5|(simp only [Int.reduceToNat] at ho5;rw[← Ny173.out] at ho5));have n0_:=Aside0.mk (Kd.R_lower ho5 (below_size (by repeat(with_reducible first|exact HB.out|apply zI|apply zG|apply zH))));have n1_:=Aside0.mk (zN (by repeat(with_reducible first|exact HB.out|apply zI|apply zG|apply zH)) hb);clear HB;have HO175:=n0_;have HB:=n1_;clear n0_ n1_;clear hb ho5))
   go_loopg [4] k (fun kq v4 w'=>∃ (x3_1:List Int) (x4_1:Int),v4=.int .i64 x4_1∧Aside0 (laws_toIntS.l0 kq l0 x3_1 x4_1=some r)∧Aside0 (kq≤k)∧Aside0 (Kd.R (Kd.int .i64) 3 w' w.heap.size (fun _=>True) v174 x3_1)∧Aside0 (Below w.heap.size w w'))
   case atStart=>exact⟨(y173),(0),(by first|rfl|simp[*]),H',⟨Nat.le_refl _⟩,⟨by(with_reducible repeat(first|apply zE|apply zD|apply zF));exact HO175.out⟩,⟨by repeat(with_reducible first|exact HB.out|apply zI|apply zG|apply zH)⟩⟩
   case round =>
    clear H';obtain⟨x3_1,x4_1,rfl,HA,HK1,HO_3,HB⟩:=hrel;cases gk with
   |zero=>exact absurd HA.out (by simp[laws_toIntS.l0])
   |succ k1 =>
     have H:=HA.out;clear HA;simp only [laws_toIntS.l0] at H;by_cases c6:x4_1 < (l0.length:Int)
     ·rw[if_pos c6] at H
      have c6b0:decide (x4_1 < (l0.length:Int))=true:=decide_eq_true c6
      clear c6;by_cases c7:0≤x4_1
      ·rw[if_pos c7] at H
       have c7b0:decide (0≤x4_1)=true:=decide_eq_true c7
       clear c7;by_cases c8:x4_1 < (x3_1.length:Int)
       ·rw[if_pos c8] at H
        have c8b0:decide (x4_1 < (x3_1.length:Int))=true:=decide_eq_true c8
        clear c8;obtain⟨y177,hy177⟩:∃ y_:List Int,y_=(x3_1.set (x4_1:Int).toNat (rd l0 x4_1)):=⟨_,rfl⟩
        replace H:(laws_toIntS.l0 k1 l0 y177 (wrap64 (x4_1+1)))=some r:=by first|(rw[hy177];with_reducible exact H)|(have H2_:=(Option.bind_some _ _).symm.trans H;rw[hy177];with_reducible exact H2_)|(have H2_:=(Option.bind_some _ _).symm.trans H;with_reducible exact H2_)|with_reducible exact H|(rw[hy177];exact H)|exact H
        have Ny177:=Aside0.mk hy177
        clear hy177;have H':=Aside0.mk H
        clear H;have p176:0≤(x4_1:Int):=of_decide_eq_true (by assumption)
        have q176:x4_1 < (l0.length:Int):=of_decide_eq_true (by assumption)
        obtain⟨ad176,e176,hx176_0⟩:=Kd.at_int HR0.out x4_1 p176 q176;cases e176
        replace hx176_0:=zc2 HB.out hx176_0;replace p176:=eq_true p176;replace q176:=eq_true q176;have p9:0≤(x4_1:Int):=of_decide_eq_true (by assumption)
        have q9:(x4_1:Int) < ((x3_1.length:Int):Int):=of_decide_eq_true (by assumption)
        obtain⟨go9,co9,eo9,gb9,gl9,cl9,HG9⟩:=Kd.R_form HO_3.out (by omega)
        (first|cases eo9|(injection eo9 with ea_ en_ ec_;(first|subst ea_|(injection ea_ with ea_;subst ea_));subst ec_;clear en_))
        have GB9:=Aside0.mk gb9
        have GG9:=Aside0.mk HG9
        clear gb9 gl9 HG9;obtain⟨hx9_0,hf9_0⟩:=Kd.R_celln 0 HO_3.out (x4_1:Int) p9 q9
        replace p9:=eq_true p9;replace q9:=eq_true q9;have HP10:=Kd.R_putg HO_3.out (x4_1:Int) (rd l0 x4_1)
        go_wp2_with (first|((with_reducible refine gate_store (t:=3) (p:=20) rfl ?_);refine store_event (t:=3) (p:=20) (v:=?vo_w11) (w1:=(wr.setCell ⟨go9,(x4_1:Int).toNat,none⟩ (.int .i64 (rd l0 x4_1)))) ?hg ?ho ?hn ?hr ?_;(case ho=>rfl);(case hg=>rfl);(case hn=>rfl);(case hr=>first|(go_simp;done)|(go_simp;rfl));intro w11 hw;have hg:wr.grownBy w11 (some go9):=(by rw[hw];exact HP10.2);have hp_:Kd.R (Kd.int .i64) 3 w11 w.heap.size (fun _=>True) (.slice (some ⟨go9,0,none⟩) x3_1.length co9) y177:=(by rw[hw,Ny177.out];exact HP10.1);clear HP10;have n0_:=Aside0.mk (hp_);have n1_:=Aside0.mk ((by rw[hw];exact zJ (HB.out) GB9.out:Below w.heap.size w w11));clear HO_3;clear HB;have HO_3:=n0_;have HB:=n1_;clear n0_ n1_;clear hg hw hp_))
        go_roundg k1
        case measure=>have:=HK1.out;omega
        case rel=>exact⟨(y177),(wrap64 (x4_1+1)),(by first|rfl|simp[*]),H',⟨by have:=HK1.out;omega⟩,⟨by(with_reducible repeat(first|apply zE|apply zD|apply zF));exact HO_3.out⟩,⟨by repeat(with_reducible first|exact HB.out|apply zI|apply zG|apply zH)⟩⟩
       ·rw[if_neg c8] at H
        exact absurd H (by simp)
      ·rw[if_neg c7] at H
       exact absurd H (by simp)
     ·rw[if_neg c6] at H
      have c6b0:decide (x4_1 < (l0.length:Int))=false:=decide_eq_false c6
      clear c6;obtain rfl:=Option.some.inj H;go_wp2
      go_ret
      exact⟨_,by first|rfl|(simp[errW_none,errW_some] <;> rfl)|(simp[*,errW_none,errW_some] <;> rfl),by(with_reducible repeat(first|apply zE|apply zD|apply zF));exact HO_3.out,by repeat(with_reducible first|exact HB.out|apply zI|apply zG|apply zH)⟩
  ·rw[if_neg c3] at H
   exact absurd H (by simp)
 ·rw[if_neg c2] at H
  exact absurd H (by simp)
def laws_toSketch.f (k:Nat) (l0_0:List Int) (a0_1:Int):Option (List Int × Int):=(laws_toIntS.f k l0_0).bind fun t181=>(some (t181,a0_1))
set_option maxHeartbeats 8000000 in
set_option maxRecDepth 100000 in
theorem laws_toSketch.calls (k:Nat) (A0_0:Option Addr) (c0_0:Nat) (l0_0:List Int) (a0_1:Int) (r1:List Int) (r2:Int) (w:World) (hr0_0:Kd.C (Kd.int .i64) w A0_0 l0_0.length l0_0) (hc0_0:l0_0.length≤c0_0) (h:laws_toSketch.f k l0_0 a0_1=some (r1,r2)) :
  Calls Tryz.prog 49 #[.agg #[.slice A0_0 l0_0.length c0_0,.int .i64 a0_1]] w fun e w'=>∃ v0_:Value,e=.returned (.agg #[v0_,.int .i64 r2])∧Kd.R (Kd.int .i64) 3 w' w.heap.size (fun _=>True) v0_ r1∧Below w.heap.size w w':=by
 have hu33:=Tryz.underlying33;have hu47:=Tryz.underlying47;have HR0_0:=Aside0.mk hr0_0
 have HC0_0:=Aside0.mk hc0_0
 clear hr0_0 hc0_0;have HB:=Aside0.mk (Below.refl w.heap.size w)
 have H:((laws_toIntS.f k l0_0).bind fun t181=>(some (t181,a0_1)))=some (r1,r2):=h
 clear h;replace H:=Option.bind_eq_some_iff.mp H;obtain⟨t181,A20,H⟩:=H;replace H:(some (t181,a0_1))=some (r1,r2):=H
 have A2:=Aside0.mk A20
 clear A20;simp only [Option.some.injEq,Prod.mk.injEq] at H;obtain⟨rfl,rfl⟩:=H;go_enter Tryz.func49,Tryz.ntmps49
 go_wp2_with (first|((with_reducible refine gate_dst (N:=1) rfl ?_);refine yE (N:=1) (cs:=#[.slice A0_0 l0_0.length c0_0,.int .i64 a0_1]) (t:=33) fun gb178 hg w3 hbox hb=>?_;obtain⟨n0_,n2_⟩:=yX (w:=w) hg hb (by repeat(with_reducible first|exact HB.out|apply zI|apply zG|apply zH));have n1_:=Aside0.mk (hbox);have n3_:=n2_;clear HB;have HB:=n0_;have BK178:=n1_;have GW178:=n2_;have GE178:=n3_;clear n0_ n1_ n2_ n3_;clear hb hbox hg)|((with_reducible refine gate_dst (N:=2) rfl ?_);refine yE (N:=2) (cs:=#[.slice none 0 0,.int .i64 0]) (t:=47) fun gb179 hg w4 hbox hb=>?_;obtain⟨n0_,n5_,n6_⟩:=yY (g:=gb178) (o:=.cells #[.slice A0_0 l0_0.length c0_0,.int .i64 a0_1] 33 (0,0)) hg hb (by(with_reducible repeat(first|apply zA|apply zC|apply zB));exact BK178.out);obtain⟨n1_,n3_⟩:=yX (w:=w) hg hb (by repeat(with_reducible first|exact HB.out|apply zI|apply zG|apply zH|refine zJ ?_ GE178.out));have n2_:=Aside0.mk (hbox);have n4_:=n3_;clear BK178;clear HB;have BK178:=n0_;have HB:=n1_;have BK179:=n2_;have GW179:=n3_;have GE179:=n4_;have NB178_179:=n5_;have NB179_178:=n6_;clear n0_ n1_ n2_ n3_ n4_ n5_ n6_;clear hb hbox hg)|((with_reducible refine gate_dst (N:=3) rfl ?_);refine yE (N:=3) (cs:=#[.slice none 0 0,.int .i64 0]) (t:=47) fun gb180 hg w5 hbox hb=>?_;obtain⟨n0_,n6_,n7_⟩:=yY (g:=gb178) (o:=.cells #[.slice A0_0 l0_0.length c0_0,.int .i64 a0_1] 33 (0,0)) hg hb (by(with_reducible repeat(first|apply zA|apply zC|apply zB));exact BK178.out);obtain⟨n1_,n8_,n9_⟩:=yY (g:=gb179) (o:=.cells #[.slice none 0 0,.int .i64 0] 47 (0,0)) hg hb (by(with_reducible repeat(first|apply zA|apply zC|apply zB));exact BK179.out);obtain⟨n2_,n4_⟩:=yX (w:=w) hg hb (by repeat(with_reducible first|exact HB.out|apply zI|apply zG|apply zH|refine zJ ?_ GE178.out|refine zJ ?_ GE179.out));have n3_:=Aside0.mk (hbox);have n5_:=n4_;clear BK178;clear BK179;clear HB;have BK178:=n0_;have BK179:=n1_;have HB:=n2_;have BK180:=n3_;have GW180:=n4_;have GE180:=n5_;have NB178_180:=n6_;have NB180_178:=n7_;have NB179_180:=n8_;have NB180_179:=n9_;clear n0_ n1_ n2_ n3_ n4_ n5_ n6_ n7_ n8_ n9_;clear hb hbox hg;have hnb6:=NB178_179.out;have hnc6:=NB179_178.out;have hnb7:=NB178_180.out;have hnc7:=NB180_178.out;obtain⟨hcz8_0,hcz8_1,hfz8_0,hfz8_1⟩:=zb2 BK178.out)|((with_reducible refine gate_callee (f:=124) rfl ?_);refine goesL_ (some 6) rfl rfl Tryz.func124 (by kernel_rfl) rfl #[.slice A0_0 l0_0.length c0_0] rfl (by(try simp only [List.map_toArray,List.map_cons,List.map_nil]);first|done|rfl|(simp only [List.length_drop,List.length_take];rfl)) ?_;(with_reducible refine(laws_toIntS.calls k _ _ l0_0 t181 _ ?side1 ?side2 A2.out).mono ?_);(case side1=>repeat(first|exact(Kd.C_below HR0_0.out HB.out)|(with_reducible refine Kd.C_alloc ?_ _)|(with_reducible refine Kd.C_drewN ?_ _)|(with_reducible refine Kd.C_drew ?_)));(case side2=>exact HC0_0.out);rintro e w9 ⟨v182,rfl,ho0,hb⟩;refine⟨_,rfl,?_⟩;have n0_:=Aside0.mk (Kd.R_lower ho0 (below_size (by repeat(with_reducible first|exact HB.out|apply zI|apply zG|apply zH|refine zJ ?_ GE178.out|refine zJ ?_ GE179.out|refine zJ ?_ GE180.out))));have n1_:=Aside0.mk (zK (g:=gb178) (o:=.cells #[.slice A0_0 l0_0.length c0_0,.int .i64 a0_1] 33 (0,0)) (by(with_reducible repeat(first|apply zA|apply zC|apply zB));exact BK178.out) hb);have n2_:=Aside0.mk (zK (g:=gb179) (o:=.cells #[.slice none 0 0,.int .i64 0] 47 (0,0)) (by(with_reducible repeat(first|apply zA|apply zC|apply zB));exact BK179.out) hb);have n3_:=Aside0.mk (zK (g:=gb180) (o:=.cells #[.slice none 0 0,.int .i64 0] 47 (0,0)) (by(with_reducible repeat(first|apply zA|apply zC|apply zB));exact BK180.out) hb);have n4_:=Aside0.mk (zN (by repeat(with_reducible first|exact HB.out|apply zI|apply zG|apply zH|refine zJ ?_ GE178.out|refine zJ ?_ GE179.out|refine zJ ?_ GE180.out)) hb);clear BK178;clear BK179;clear BK180;clear HB;have HO183:=n0_;have BK178:=n1_;have BK179:=n2_;have BK180:=n3_;have HB:=n4_;clear n0_ n1_ n2_ n3_ n4_;(try clear hb);(try clear hb2);(try clear hk);(try clear hi);(try clear ho0);obtain⟨Ao10,co10,eo10⟩:=Kd.R_slice HO183.out;subst eo10;have hnb11:=NB180_179.out;have hnc11:=NB179_180.out;obtain⟨hcz12_0,hcz12_1,hfz12_0,hfz12_1⟩:=zb2 BK180.out;obtain⟨hcz13_0,hcz13_1,hfz13_0,hfz13_1⟩:=zb2 BK178.out;obtain⟨hcz14_0,hcz14_1,hfz14_0,hfz14_1⟩:=zb2 BK179.out))
 refine bodyPost_ret (results_cell_row rfl _ _ gb179 47 #[.slice Ao10 t181.length co10,.int .i64 a0_1] (0,0) _ rfl (by(with_reducible repeat(first|apply zA|apply zC|apply zB));refine blk_put (cs:=#[.slice Ao10 t181.length co10,.int .i64 0]) ?_ 1 _ rfl;(with_reducible repeat(first|apply zA|apply zC|apply zB));refine blk_put (cs:=#[.slice none 0 0,.int .i64 0]) ?_ 0 _ rfl;(with_reducible repeat(first|apply zA|apply zC|apply zB));refine zT ?_ NB179_180.out _;(with_reducible repeat(first|apply zA|apply zC|apply zB));refine zT ?_ NB179_180.out _;(with_reducible repeat(first|apply zA|apply zC|apply zB));exact BK179.out) Tryz.underlying47 rfl (by kernel_rfl)) rfl ?_
 exact⟨_,by first|rfl|(simp[errW_none,errW_some] <;> rfl)|(simp[*,errW_none,errW_some] <;> rfl),by(with_reducible repeat(first|apply zE|apply zD|apply zF));exact zR (zL (p:=⟨gb179,1,none⟩) (zL (p:=⟨gb179,0,none⟩) (zL (p:=⟨gb180,1,none⟩) (zL (p:=⟨gb180,0,none⟩) (zQ (zQ HO183.out BK180.out (by decide)) BK179.out (by decide)) (fun _ hk=>hk.1.2) (.slice Ao10 t181.length co10)) (fun _ hk=>hk.1.2) (.int .i64 a0_1)) (fun _ hk=>hk.2) (.slice Ao10 t181.length co10)) (fun _ hk=>hk.2) (.int .i64 a0_1)) (fun _ hk=>trivial),by repeat(with_reducible first|exact HB.out|apply zI|apply zG|apply zH|refine zJ ?_ GE178.out|refine zJ ?_ GE179.out|refine zJ ?_ GE180.out)⟩
def laws_toDoor.f (a0_0:Int):Option (Int):=some a0_0
set_option maxHeartbeats 8000000 in
set_option maxRecDepth 100000 in
theorem laws_toDoor.calls (a0_0:Int) (r:Int) (w:World) (h:laws_toDoor.f a0_0=some r) :
  Calls Tryz.prog 50 #[.agg #[.int .i64 a0_0]] w fun e w'=>e=.returned (.agg #[.int .i64 r])∧Below w.heap.size w w':=by
 have hu35:=Tryz.underlying35;have hu48:=Tryz.underlying48;have HB:=Aside0.mk (Below.refl w.heap.size w)
 have H:(some a0_0)=some r:=h
 clear h;obtain rfl:=Option.some.inj H;go_enter Tryz.func50,Tryz.ntmps50
 go_wp2_with (first|((with_reducible refine gate_dst (N:=1) rfl ?_);refine yE (N:=1) (cs:=#[.int .i64 a0_0]) (t:=35) fun gb184 hg w2 hbox hb=>?_;obtain⟨n0_,n2_⟩:=yX (w:=w) hg hb (by repeat(with_reducible first|exact HB.out|apply zI|apply zG|apply zH));have n1_:=Aside0.mk (hbox);have n3_:=n2_;clear HB;have HB:=n0_;have BK184:=n1_;have GW184:=n2_;have GE184:=n3_;clear n0_ n1_ n2_ n3_;clear hb hbox hg)|((with_reducible refine gate_dst (N:=2) rfl ?_);refine yE (N:=2) (cs:=#[.int .i64 0]) (t:=48) fun gb185 hg w3 hbox hb=>?_;obtain⟨n0_,n5_,n6_⟩:=yY (g:=gb184) (o:=.cells #[.int .i64 a0_0] 35 (0,0)) hg hb (by(with_reducible repeat(first|apply zA|apply zC|apply zB));exact BK184.out);obtain⟨n1_,n3_⟩:=yX (w:=w) hg hb (by repeat(with_reducible first|exact HB.out|apply zI|apply zG|apply zH|refine zJ ?_ GE184.out));have n2_:=Aside0.mk (hbox);have n4_:=n3_;clear BK184;clear HB;have BK184:=n0_;have HB:=n1_;have BK185:=n2_;have GW185:=n3_;have GE185:=n4_;have NB184_185:=n5_;have NB185_184:=n6_;clear n0_ n1_ n2_ n3_ n4_ n5_ n6_;clear hb hbox hg)|((with_reducible refine gate_dst (N:=3) rfl ?_);refine yE (N:=3) (cs:=#[.int .i64 0]) (t:=48) fun gb186 hg w4 hbox hb=>?_;obtain⟨n0_,n6_,n7_⟩:=yY (g:=gb184) (o:=.cells #[.int .i64 a0_0] 35 (0,0)) hg hb (by(with_reducible repeat(first|apply zA|apply zC|apply zB));exact BK184.out);obtain⟨n1_,n8_,n9_⟩:=yY (g:=gb185) (o:=.cells #[.int .i64 0] 48 (0,0)) hg hb (by(with_reducible repeat(first|apply zA|apply zC|apply zB));exact BK185.out);obtain⟨n2_,n4_⟩:=yX (w:=w) hg hb (by repeat(with_reducible first|exact HB.out|apply zI|apply zG|apply zH|refine zJ ?_ GE184.out|refine zJ ?_ GE185.out));have n3_:=Aside0.mk (hbox);have n5_:=n4_;clear BK184;clear BK185;clear HB;have BK184:=n0_;have BK185:=n1_;have HB:=n2_;have BK186:=n3_;have GW186:=n4_;have GE186:=n5_;have NB184_186:=n6_;have NB186_184:=n7_;have NB185_186:=n8_;have NB186_185:=n9_;clear n0_ n1_ n2_ n3_ n4_ n5_ n6_ n7_ n8_ n9_;clear hb hbox hg;have hnb5:=NB184_185.out;have hnc5:=NB185_184.out;have hnb6:=NB184_186.out;have hnc6:=NB186_184.out;have hcz7_0:w4.cell? ⟨gb184,0,none⟩=some (.int .i64 a0_0):=(zO BK184.out 0).trans rfl;have hfz7_0:=zP BK184.out 0;have hnb8:=NB186_185.out;have hnc8:=NB185_186.out;have hcz9_0:w4.cell? ⟨gb186,0,none⟩=some (.int .i64 0):=(zO BK186.out 0).trans rfl;have hfz9_0:=zP BK186.out 0;have hcz10_0:w4.cell? ⟨gb185,0,none⟩=some (.int .i64 0):=(zO BK185.out 0).trans rfl;have hfz10_0:=zP BK185.out 0))
 refine bodyPost_ret (results_cell_row rfl _ _ gb185 48 #[.int .i64 a0_0] (0,0) _ rfl (by(with_reducible repeat(first|apply zA|apply zC|apply zB));refine blk_put (cs:=#[.int .i64 0]) ?_ 0 _ rfl;(with_reducible repeat(first|apply zA|apply zC|apply zB));refine zT ?_ NB185_186.out _;(with_reducible repeat(first|apply zA|apply zC|apply zB));exact BK185.out) Tryz.underlying48 rfl (by kernel_rfl)) rfl ?_
 exact⟨by first|rfl|(simp[errW_none,errW_some] <;> rfl)|(simp[*,errW_none,errW_some] <;> rfl),by repeat(with_reducible first|exact HB.out|apply zI|apply zG|apply zH|refine zJ ?_ GE184.out|refine zJ ?_ GE185.out|refine zJ ?_ GE186.out)⟩
def laws_eqSlot.f (a0_0:Int) (a0_1:Bool) (a0_2:ByteArray) (a0_3:ByteArray) (a0_4:Int) (a1_0:Int) (a1_1:Bool) (a1_2:ByteArray) (a1_3:ByteArray) (a1_4:Int):Option (Bool):=if a0_0=a1_0 then (if (a0_1 != a1_1)=true then (some false) else (if a0_2.toList=a1_2.toList then (if a0_3.toList=a1_3.toList then (if a0_4=a1_4 then (some true) else (some false)) else (some false)) else (some false))) else (some false)
set_option maxHeartbeats 8000000 in
set_option maxRecDepth 100000 in
theorem laws_eqSlot.calls (a0_0:Int) (a0_1:Bool) (a0_2:ByteArray) (a0_3:ByteArray) (a0_4:Int) (a1_0:Int) (a1_1:Bool) (a1_2:ByteArray) (a1_3:ByteArray) (a1_4:Int) (r:Bool) (w:World) (h:laws_eqSlot.f a0_0 a0_1 a0_2 a0_3 a0_4 a1_0 a1_1 a1_2 a1_3 a1_4=some r) (HT0_:r=true) :
  Calls Tryz.prog 207 #[.agg #[.int .i64 a0_0,.bool a0_1,.string a0_2,.string a0_3,.int .i64 a0_4],.agg #[.int .i64 a1_0,.bool a1_1,.string a1_2,.string a1_3,.int .i64 a1_4]] w fun e w'=>e=.returned (.bool r)∧Below w.heap.size w w':=by
 have HTr_:=Aside0.mk HT0_
 clear HT0_;have hu94:=Tryz.underlying94;have HB:=Aside0.mk (Below.refl w.heap.size w)
 have H:(if a0_0=a1_0 then (if (a0_1 != a1_1)=true then (some false) else (if a0_2.toList=a1_2.toList then (if a0_3.toList=a1_3.toList then (if a0_4=a1_4 then (some true) else (some false)) else (some false)) else (some false))) else (some false))=some r:=h
 clear h;by_cases c3:a0_0=a1_0
 ·rw[if_pos c3] at H
  have c3b0:(a0_0 == a1_0)=true:=beq_iff_eq.mpr c3
  have c3b1:(a0_0 != a1_0)=false:=bne_eq_false_iff_eq.mpr c3
  clear c3;by_cases c4:(a0_1 != a1_1)=true
  ·rw[if_pos c4] at H
   have c4b0:(a0_1 != a1_1)=true:=c4
   (try(have c4b1:decide (a0_1=a1_1)=false:=by simpa using c4))
   (try(have c4b2:(a0_1 == a1_1)=false:=by simpa using c4))
   (try(have c4b3:¬ (a0_1=a1_1):=by simpa using c4))
   clear c4;exact absurd ((Option.some.inj H).trans HTr_.out) (by simp)
  ·rw[if_neg c4] at H
   have c4b0:(a0_1 != a1_1)=false:=by simpa using c4
   (try(have c4b1:decide (a0_1=a1_1)=true:=by simpa using c4))
   (try(have c4b2:(a0_1 == a1_1)=true:=by simpa using c4))
   clear c4;by_cases c10:a0_2.toList=a1_2.toList
   ·rw[if_pos c10] at H
    have c10b0:(a0_2.toList == a1_2.toList)=true:=beq_iff_eq.mpr c10
    have c10b1:(a0_2.toList != a1_2.toList)=false:=bne_eq_false_iff_eq.mpr c10
    clear c10;by_cases c11:a0_3.toList=a1_3.toList
    ·rw[if_pos c11] at H
     have c11b0:(a0_3.toList == a1_3.toList)=true:=beq_iff_eq.mpr c11
     have c11b1:(a0_3.toList != a1_3.toList)=false:=bne_eq_false_iff_eq.mpr c11
     clear c11;by_cases c12:a0_4=a1_4
     ·rw[if_pos c12] at H
      have c12b0:(a0_4 == a1_4)=true:=beq_iff_eq.mpr c12
      have c12b1:(a0_4 != a1_4)=false:=bne_eq_false_iff_eq.mpr c12
      clear c12;obtain rfl:=Option.some.inj H;go_enter Tryz.func207,Tryz.ntmps207
      go_wp2_with (first|((with_reducible refine gate_dst (N:=2) rfl ?_);refine yE (N:=2) (cs:=#[.int .i64 a0_0,.bool a0_1,.string a0_2,.string a0_3,.int .i64 a0_4]) (t:=94) fun gb218 hg w13 hbox hb=>?_;obtain⟨n0_,n2_⟩:=yX (w:=w) hg hb (by repeat(with_reducible first|exact HB.out|apply zI|apply zG|apply zH));have n1_:=Aside0.mk (hbox);have n3_:=n2_;clear HB;have HB:=n0_;have BK218:=n1_;have GW218:=n2_;have GE218:=n3_;clear n0_ n1_ n2_ n3_;clear hb hbox hg)|((with_reducible refine gate_dst (N:=3) rfl ?_);refine yE (N:=3) (cs:=#[.int .i64 a1_0,.bool a1_1,.string a1_2,.string a1_3,.int .i64 a1_4]) (t:=94) fun gb219 hg w14 hbox hb=>?_;obtain⟨n0_,n5_,n6_⟩:=yY (g:=gb218) (o:=.cells #[.int .i64 a0_0,.bool a0_1,.string a0_2,.string a0_3,.int .i64 a0_4] 94 (0,0)) hg hb (by(with_reducible repeat(first|apply zA|apply zC|apply zB));exact BK218.out);obtain⟨n1_,n3_⟩:=yX (w:=w) hg hb (by repeat(with_reducible first|exact HB.out|apply zI|apply zG|apply zH|refine zJ ?_ GE218.out));have n2_:=Aside0.mk (hbox);have n4_:=n3_;clear BK218;clear HB;have BK218:=n0_;have HB:=n1_;have BK219:=n2_;have GW219:=n3_;have GE219:=n4_;have NB218_219:=n5_;have NB219_218:=n6_;clear n0_ n1_ n2_ n3_ n4_ n5_ n6_;clear hb hbox hg;have hnb15:=NB218_219.out;have hnc15:=NB219_218.out;obtain⟨hcz16_0,hcz16_1,hcz16_2,hcz16_3,hcz16_4,hfz16_0,hfz16_1,hfz16_2,hfz16_3,hfz16_4⟩:=zb5 BK218.out;obtain⟨hcz17_0,hcz17_1,hcz17_2,hcz17_3,hcz17_4,hfz17_0,hfz17_1,hfz17_2,hfz17_3,hfz17_4⟩:=zb5 BK219.out))
      go_ret
      exact⟨by first|rfl|(simp[errW_none,errW_some] <;> rfl)|(simp[*,errW_none,errW_some] <;> rfl),by repeat(with_reducible first|exact HB.out|apply zI|apply zG|apply zH|refine zJ ?_ GE218.out|refine zJ ?_ GE219.out)⟩
     ·rw[if_neg c12] at H
      have c12b0:(a0_4 == a1_4)=false:=beq_eq_false_iff_ne.mpr c12
      have c12b1:(a0_4 != a1_4)=true:=bne_iff_ne.mpr c12
      exact absurd ((Option.some.inj H).trans HTr_.out) (by simp)
    ·rw[if_neg c11] at H
     have c11b0:(a0_3.toList == a1_3.toList)=false:=beq_eq_false_iff_ne.mpr c11
     have c11b1:(a0_3.toList != a1_3.toList)=true:=bne_iff_ne.mpr c11
     exact absurd ((Option.some.inj H).trans HTr_.out) (by simp)
   ·rw[if_neg c10] at H
    have c10b0:(a0_2.toList == a1_2.toList)=false:=beq_eq_false_iff_ne.mpr c10
    have c10b1:(a0_2.toList != a1_2.toList)=true:=bne_iff_ne.mpr c10
    exact absurd ((Option.some.inj H).trans HTr_.out) (by simp)
 ·rw[if_neg c3] at H
  have c3b0:(a0_0 == a1_0)=false:=beq_eq_false_iff_ne.mpr c3
  have c3b1:(a0_0 != a1_0)=true:=bne_iff_ne.mpr c3
  exact absurd ((Option.some.inj H).trans HTr_.out) (by simp)
def laws_eqSlotS.l0:Nat→List (S94)→List (S94)→Int→Option (Bool)
|0,_,_,_=>none
|k+1,x0,x1,x5=>if x5 < (x0.length:Int) then (if 0≤x5 then (if x5 < (x1.length:Int) then ((laws_eqSlot.f ((rd_T94 x0 x5).f0) ((rd_T94 x0 x5).f1) ((rd_T94 x0 x5).f2) ((rd_T94 x0 x5).f3) ((rd_T94 x0 x5).f4) ((rd_T94 x1 x5).f0) ((rd_T94 x1 x5).f1) ((rd_T94 x1 x5).f2) ((rd_T94 x1 x5).f3) ((rd_T94 x1 x5).f4)).bind fun t222=>(if t222=true then (laws_eqSlotS.l0 k x0 x1 (wrap64 (x5+1))) else (some false))) else (none)) else (none)) else (some true)
def laws_eqSlotS.f (k:Nat) (l0:List (S94)) (l1:List (S94)):Option (Bool):=if (l0.length:Int)=(l1.length:Int) then (laws_eqSlotS.l0 k l0 l1 0) else (some false)
def laws_eqSlotS.T6:Bool × List (List Nat × List Nat):=(true,[([],[]),([],[]),([0,1],[0,1]),([2],[2]),([],[]),([],[]),([4,5],[4,5]),([6],[6]),([3,7],[3,7]),([8],[8])])
def laws_eqSlotS.B6:List Nat:=[0,0,3,7,0,0,48,112,255,511]
theorem laws_eqSlotS.tab6:rtab .any (opsOf Tryz.f136 6)=laws_eqSlotS.T6:=by kernel_rfl
theorem laws_eqSlotS.bits6:waitsOk laws_eqSlotS.T6.2 laws_eqSlotS.B6=true:=by kernel_rfl
set_option maxHeartbeats 8000000 in
set_option maxRecDepth 100000 in
theorem laws_eqSlotS.calls (k:Nat) (A0:Option Addr) (c0:Nat) (l0:List (S94)) (A1:Option Addr) (c1:Nat) (l1:List (S94)) (r:Bool) (w:World) (hr0:Kd.C k94 w A0 l0.length l0) (hc0:l0.length≤c0) (hr1:Kd.C k94 w A1 l1.length l1) (hc1:l1.length≤c1) (h:laws_eqSlotS.f k l0 l1=some r) (HT0_:r=true) :
  Calls Tryz.prog 136 #[.slice A0 l0.length c0,.slice A1 l1.length c1] w fun e w'=>e=.returned (.bool r)∧Below w.heap.size w w':=by
 have HTr_:=Aside0.mk HT0_
 clear HT0_;have hu94:=Tryz.underlying94;have HR0:=Aside0.mk hr0
 have HC0:=Aside0.mk hc0
 clear hr0 hc0;have HR1:=Aside0.mk hr1
 have HC1:=Aside0.mk hc1
 clear hr1 hc1;have HB:=Aside0.mk (Below.refl w.heap.size w)
 have H:(if (l0.length:Int)=(l1.length:Int) then (laws_eqSlotS.l0 k l0 l1 0) else (some false))=some r:=h
 clear h;by_cases c3:(l0.length:Int)=(l1.length:Int)
 ·rw[if_pos c3] at H
  have c3b0:((l0.length:Int) == (l1.length:Int))=true:=beq_iff_eq.mpr c3
  have c3b1:((l0.length:Int) != (l1.length:Int))=false:=bne_eq_false_iff_eq.mpr c3
  have c3b2:(l0.length == l1.length)=true:=by first|simpa using c3|(simp at c3 ⊢;omega)
  clear c3;have H':=Aside0.mk H
  clear H;go_enter Tryz.func136,Tryz.ntmps136
  go_wp2
  go_loopg [5] k (fun kq v5 w'=>∃ (x5_1:Int),v5=.int .i64 x5_1∧Aside0 (laws_eqSlotS.l0 kq l0 l1 x5_1=some r)∧Aside0 (kq≤k)∧Aside0 (Below w.heap.size w w'))
  case atStart=>exact⟨(0),(by first|rfl|simp[*]),H',⟨Nat.le_refl _⟩,⟨by repeat(with_reducible first|exact HB.out|apply zI|apply zG|apply zH)⟩⟩
  case round =>
   clear H';obtain⟨x5_1,rfl,HA,HK1,HB⟩:=hrel;cases gk with
  |zero=>exact absurd HA.out (by simp[laws_eqSlotS.l0])
  |succ k1 =>
    have H:=HA.out;clear HA;simp only [laws_eqSlotS.l0] at H;by_cases c4:x5_1 < (l0.length:Int)
    ·rw[if_pos c4] at H
     have c4b0:decide (x5_1 < (l0.length:Int))=true:=decide_eq_true c4
     clear c4;by_cases c5:0≤x5_1
     ·rw[if_pos c5] at H
      have c5b0:decide (0≤x5_1)=true:=decide_eq_true c5
      clear c5;by_cases c6:x5_1 < (l1.length:Int)
      ·rw[if_pos c6] at H
       have c6b0:decide (x5_1 < (l1.length:Int))=true:=decide_eq_true c6
       clear c6;replace H:=Option.bind_eq_some_iff.mp H;obtain⟨t222,A70,H⟩:=H;replace H:(if t222=true then (laws_eqSlotS.l0 k1 l0 l1 (wrap64 (x5_1+1))) else (some false))=some r:=H
       have A7:=Aside0.mk A70
       clear A70;by_cases c8:t222=true
       ·subst c8
        have H1:(laws_eqSlotS.l0 k1 l0 l1 (wrap64 (x5_1+1)))=some r:=by rw[if_pos rfl] at H;exact H
        clear H;have H:=H1;clear H1;have H':=Aside0.mk H
        clear H;try go_wp2
        have n0_:=Aside0.mk (zH HB.out)
        clear HB;have HB:=n0_;clear n0_;have p220:0≤(x5_1:Int):=of_decide_eq_true (by assumption)
        have q220:x5_1 < (l0.length:Int):=of_decide_eq_true (by assumption)
        obtain⟨ad220,e220,hx220_0,hx220_1,hx220_2,hx220_3,hx220_4⟩:=at_T94 HR0.out x5_1 p220 q220;have hw220_4:=hx220_4;have hw220_3:=hx220_3;have hw220_2:=hx220_2;have hw220_1:=hx220_1;have hw220_0:=hx220_0;cases e220
        replace hx220_0:=zc2 HB.out hx220_0;replace hx220_1:=zc2 HB.out hx220_1;replace hx220_2:=zc2 HB.out hx220_2;replace hx220_3:=zc2 HB.out hx220_3;replace hx220_4:=zc2 HB.out hx220_4;replace p220:=eq_true p220;replace q220:=eq_true q220;have p221:0≤(x5_1:Int):=of_decide_eq_true (by assumption)
        have q221:x5_1 < (l1.length:Int):=of_decide_eq_true (by assumption)
        obtain⟨ad221,e221,hx221_0,hx221_1,hx221_2,hx221_3,hx221_4⟩:=at_T94 HR1.out x5_1 p221 q221;have hw221_4:=hx221_4;have hw221_3:=hx221_3;have hw221_2:=hx221_2;have hw221_1:=hx221_1;have hw221_0:=hx221_0;cases e221
        replace hx221_0:=zc2 HB.out hx221_0;replace hx221_1:=zc2 HB.out hx221_1;replace hx221_2:=zc2 HB.out hx221_2;replace hx221_3:=zc2 HB.out hx221_3;replace hx221_4:=zc2 HB.out hx221_4;replace p221:=eq_true p221;replace q221:=eq_true q221;refine start_ (n:=10) (S:=fun w'=>w'.cell? (ad220.add ((x5_1).toNat * 5))=some (.int .i64 ((rd_T94 l0 x5_1).f0))∧w'.cell? ⟨(ad220.add ((x5_1).toNat * 5)).block,(ad220.add ((x5_1).toNat * 5)).off+1,none⟩=some (.bool ((rd_T94 l0 x5_1).f1))∧w'.cell? ⟨(ad220.add ((x5_1).toNat * 5)).block,(ad220.add ((x5_1).toNat * 5)).off+2,none⟩=some (.string ((rd_T94 l0 x5_1).f2))∧w'.cell? ⟨(ad220.add ((x5_1).toNat * 5)).block,(ad220.add ((x5_1).toNat * 5)).off+3,none⟩=some (.string ((rd_T94 l0 x5_1).f3))∧w'.cell? ⟨(ad220.add ((x5_1).toNat * 5)).block,(ad220.add ((x5_1).toNat * 5)).off+4,none⟩=some (.int .i64 ((rd_T94 l0 x5_1).f4))∧w'.cell? (ad221.add ((x5_1).toNat * 5))=some (.int .i64 ((rd_T94 l1 x5_1).f0))∧w'.cell? ⟨(ad221.add ((x5_1).toNat * 5)).block,(ad221.add ((x5_1).toNat * 5)).off+1,none⟩=some (.bool ((rd_T94 l1 x5_1).f1))∧w'.cell? ⟨(ad221.add ((x5_1).toNat * 5)).block,(ad221.add ((x5_1).toNat * 5)).off+2,none⟩=some (.string ((rd_T94 l1 x5_1).f2))∧w'.cell? ⟨(ad221.add ((x5_1).toNat * 5)).block,(ad221.add ((x5_1).toNat * 5)).off+3,none⟩=some (.string ((rd_T94 l1 x5_1).f3))∧w'.cell? ⟨(ad221.add ((x5_1).toNat * 5)).block,(ad221.add ((x5_1).toNat * 5)).off+4,none⟩=some (.int .i64 ((rd_T94 l1 x5_1).f4))) (ds:=[]) #[false,false,false,false,false,false,false,false,false,false] (by kernel_rfl) rfl rfl ⟨((HB.out.cell (World.block_lt_of_cell? w _ hw220_0)).trans hw220_0),((HB.out.cell (World.block_lt_of_cell? w _ hw220_1)).trans hw220_1),((HB.out.cell (World.block_lt_of_cell? w _ hw220_2)).trans hw220_2),((HB.out.cell (World.block_lt_of_cell? w _ hw220_3)).trans hw220_3),((HB.out.cell (World.block_lt_of_cell? w _ hw220_4)).trans hw220_4),((HB.out.cell (World.block_lt_of_cell? w _ hw221_0)).trans hw221_0),((HB.out.cell (World.block_lt_of_cell? w _ hw221_1)).trans hw221_1),((HB.out.cell (World.block_lt_of_cell? w _ hw221_2)).trans hw221_2),((HB.out.cell (World.block_lt_of_cell? w _ hw221_3)).trans hw221_3),((HB.out.cell (World.block_lt_of_cell? w _ hw221_4)).trans hw221_4)⟩ (fun hHeld=>?_);refine with_tabW laws_eqSlotS.tab6 laws_eqSlotS.bits6 (fun HT_ HW_=>?_)
        generalize wr.drew=w9 at HB hx220_0 hx220_1 hx220_2 hx220_3 hx220_4 hx221_0 hx221_1 hx221_2 hx221_3 hx221_4 hHeld ⊢
        refine pure_ (i:=0) (N:=some 17) (v:=?_) (a':=?_) #[true,false,false,false,false,false,false,false,false,false] rfl rfl (any_of HT_.out (by kernel_rfl)) (fun _ _ _ h=>h) (Or.inl ⟨by rfl,?_⟩) ?_ ?_
        rotate_left
        ·intro w'
         go_simp
         with_reducible rfl
        rotate_left
        ·simp only [Act.put,List.setIfInBounds_toArray,List.set_cons_zero,List.set_cons_succ,i64_w,i32_w]
         rfl
        refine pure_ (i:=1) (N:=some 18) (v:=?_) (a':=?_) #[true,true,false,false,false,false,false,false,false,false] rfl rfl (any_of HT_.out (by kernel_rfl)) (fun _ _ _ h=>h) (Or.inl ⟨by rfl,?_⟩) ?_ ?_
        rotate_left
        ·intro w'
         go_simp
         with_reducible rfl
        rotate_left
        ·simp only [Act.put,List.setIfInBounds_toArray,List.set_cons_zero,List.set_cons_succ,i64_w,i32_w]
         rfl
        refine pure_ (i:=2) (N:=some 19) (v:=?_) (a':=?_) #[true,true,true,false,false,false,false,false,false,false] rfl rfl (any_of HT_.out (by kernel_rfl)) (fun _ _ _ h=>h) (Or.inl ⟨by rfl,?_⟩) ?_ ?_
        rotate_left
        ·intro w'
         go_simp
         with_reducible rfl
        rotate_left
        ·simp only [Act.put,List.setIfInBounds_toArray,List.set_cons_zero,List.set_cons_succ,i64_w,i32_w]
         rfl
        refine pure_ (i:=4) (N:=some 21) (v:=?_) (a':=?_) #[true,true,true,false,true,false,false,false,false,false] rfl rfl (any_of HT_.out (by kernel_rfl)) (fun _ _ _ h=>h) (Or.inl ⟨by rfl,?_⟩) ?_ ?_
        rotate_left
        ·intro w'
         go_simp
         with_reducible rfl
        rotate_left
        ·simp only [Act.put,List.setIfInBounds_toArray,List.set_cons_zero,List.set_cons_succ,i64_w,i32_w]
         rfl
        refine pure_ (i:=5) (N:=some 22) (v:=?_) (a':=?_) #[true,true,true,false,true,true,false,false,false,false] rfl rfl (any_of HT_.out (by kernel_rfl)) (fun _ _ _ h=>h) (Or.inl ⟨by rfl,?_⟩) ?_ ?_
        rotate_left
        ·intro w'
         go_simp
         with_reducible rfl
        rotate_left
        ·simp only [Act.put,List.setIfInBounds_toArray,List.set_cons_zero,List.set_cons_succ,i64_w,i32_w]
         rfl
        refine pure_ (i:=6) (N:=some 23) (v:=?_) (a':=?_) #[true,true,true,false,true,true,true,false,false,false] rfl rfl (any_of HT_.out (by kernel_rfl)) (fun _ _ _ h=>h) (Or.inl ⟨by rfl,?_⟩) ?_ ?_
        rotate_left
        ·intro w'
         go_simp
         with_reducible rfl
        rotate_left
        ·simp only [Act.put,List.setIfInBounds_toArray,List.set_cons_zero,List.set_cons_succ,i64_w,i32_w]
         rfl
        refine take_ (i:=3) (N:=some 20) (v:=?_) (a':=?_) #[true,true,true,true,true,true,true,false,false,false] rfl rfl (take_ofW HT_.out HW_.out (by kernel_rfl)) (fun _ _ _ h=>h) (Or.inl ⟨by rfl,?_⟩) hHeld ?_ ?_
        rotate_left
        ·rintro w' ⟨s0,s1,s2,s3,s4,s5,s6,s7,s8,s9⟩
         go_simp
         with_reducible rfl
        rotate_left
        ·simp only [Act.put,List.setIfInBounds_toArray,List.set_cons_zero,List.set_cons_succ,i64_w,i32_w]
         rfl
        refine take_ (i:=7) (N:=some 24) (v:=?_) (a':=?_) #[true,true,true,true,true,true,true,true,false,false] rfl rfl (take_ofW HT_.out HW_.out (by kernel_rfl)) (fun _ _ _ h=>h) (Or.inl ⟨by rfl,?_⟩) hHeld ?_ ?_
        rotate_left
        ·rintro w' ⟨s0,s1,s2,s3,s4,s5,s6,s7,s8,s9⟩
         go_simp
         with_reducible rfl
        rotate_left
        ·simp only [Act.put,List.setIfInBounds_toArray,List.set_cons_zero,List.set_cons_succ,i64_w,i32_w]
         rfl
        refine one_ (i:=8) (N:=some 25) #[true,true,true,true,true,true,true,true,true,false] rfl rfl (one_of HT_.out (by kernel_rfl)) (by decide) (fun K hK=>?_)
        refine goes_ Tryz.func207 (by kernel_rfl) rfl #[.agg #[.int .i64 ((rd_T94 l0 x5_1).f0),.bool ((rd_T94 l0 x5_1).f1),.string ((rd_T94 l0 x5_1).f2),.string ((rd_T94 l0 x5_1).f3),.int .i64 ((rd_T94 l0 x5_1).f4)],.agg #[.int .i64 ((rd_T94 l1 x5_1).f0),.bool ((rd_T94 l1 x5_1).f1),.string ((rd_T94 l1 x5_1).f2),.string ((rd_T94 l1 x5_1).f3),.int .i64 ((rd_T94 l1 x5_1).f4)]] (by rfl) rfl rfl (by(try simp only [List.map_toArray,List.map_cons,List.map_nil]);first|done|rfl|(simp only [List.length_drop,List.length_take];rfl)) ?_
        with_reducible refine(laws_eqSlot.calls ((rd_T94 l0 x5_1).f0) ((rd_T94 l0 x5_1).f1) ((rd_T94 l0 x5_1).f2) ((rd_T94 l0 x5_1).f3) ((rd_T94 l0 x5_1).f4) ((rd_T94 l1 x5_1).f0) ((rd_T94 l1 x5_1).f1) ((rd_T94 l1 x5_1).f2) ((rd_T94 l1 x5_1).f3) ((rd_T94 l1 x5_1).f4) true _ A7.out ?prem).mono ?_
        case prem=>first|(rfl)|(exact HTr_.out)|(assumption)|(refine(Bool.eq_false_or_eq_true _).resolve_right (fun hz=>?_);rw[hz,if_neg (by decide)] at H;exact absurd ((Option.some.inj H).trans HTr_.out) (by simp))
        rintro e w10 ⟨rfl,hb⟩
        refine⟨_,rfl,?_⟩
        have n0_:=Aside0.mk (zN (by repeat(with_reducible first|exact HB.out|apply zI|apply zG|apply zH)) hb)
        clear HB;have HB:=n0_;clear n0_;(try clear hb)
        (try clear hb2)
        (try clear hk)
        (try clear hi)
        refine hK.out _ _ ⟨((HB.out.cell (World.block_lt_of_cell? w _ hw220_0)).trans hw220_0),((HB.out.cell (World.block_lt_of_cell? w _ hw220_1)).trans hw220_1),((HB.out.cell (World.block_lt_of_cell? w _ hw220_2)).trans hw220_2),((HB.out.cell (World.block_lt_of_cell? w _ hw220_3)).trans hw220_3),((HB.out.cell (World.block_lt_of_cell? w _ hw220_4)).trans hw220_4),((HB.out.cell (World.block_lt_of_cell? w _ hw221_0)).trans hw221_0),((HB.out.cell (World.block_lt_of_cell? w _ hw221_1)).trans hw221_1),((HB.out.cell (World.block_lt_of_cell? w _ hw221_2)).trans hw221_2),((HB.out.cell (World.block_lt_of_cell? w _ hw221_3)).trans hw221_3),((HB.out.cell (World.block_lt_of_cell? w _ hw221_4)).trans hw221_4)⟩ (fun hHeld=>?_)
        clear hK K;refine norm_ (a':=?_) ?_ ?_
        rotate_left
        ·show Act.put _ (some 25) _=_
         simp only [Act.put,List.setIfInBounds_toArray,List.set_cons_zero,List.set_cons_succ,i64_w,i32_w]
         rfl
        refine pure_ (i:=9) (N:=some 26) (v:=?_) (a':=?_) #[true,true,true,true,true,true,true,true,true,true] rfl rfl (any_of HT_.out (by kernel_rfl)) (fun _ _ _ h=>h) (Or.inl ⟨by rfl,?_⟩) ?_ ?_
        rotate_left
        ·intro w'
         go_simp
         with_reducible rfl
        rotate_left
        ·simp only [Act.put,List.setIfInBounds_toArray,List.set_cons_zero,List.set_cons_succ,i64_w,i32_w]
         rfl
        refine done_ (done_of HT_.out (by kernel_rfl)) ?_
        try go_wp2
        go_roundg k1
        case measure=>have:=HK1.out;omega
        case rel=>exact⟨(wrap64 (x5_1+1)),(by first|rfl|simp[*]),H',⟨by have:=HK1.out;omega⟩,⟨by repeat(with_reducible first|exact HB.out|apply zI|apply zG|apply zH)⟩⟩
       ·replace c8:=Bool.eq_false_iff.mpr c8
        subst c8;have H1:(some false)=some r:=by rw[if_neg (show ¬ (false=true) by decide)] at H;exact H
        clear H;have H:=H1;clear H1;exact absurd ((Option.some.inj H).trans HTr_.out) (by simp)
      ·rw[if_neg c6] at H
       exact absurd H (by simp)
     ·rw[if_neg c5] at H
      exact absurd H (by simp)
    ·rw[if_neg c4] at H
     have c4b0:decide (x5_1 < (l0.length:Int))=false:=decide_eq_false c4
     clear c4;obtain rfl:=Option.some.inj H;go_wp2
     go_ret
     exact⟨by first|rfl|(simp[errW_none,errW_some] <;> rfl)|(simp[*,errW_none,errW_some] <;> rfl),by repeat(with_reducible first|exact HB.out|apply zI|apply zG|apply zH)⟩
 ·rw[if_neg c3] at H
  have c3b0:((l0.length:Int) == (l1.length:Int))=false:=beq_eq_false_iff_ne.mpr c3
  have c3b1:((l0.length:Int) != (l1.length:Int))=true:=bne_iff_ne.mpr c3
  have c3b2:(l0.length == l1.length)=false:=by first|simpa using c3|(simp at c3 ⊢;omega)
  exact absurd ((Option.some.inj H).trans HTr_.out) (by simp)
def laws_eqArena.f (k:Nat) (l0_0:List (S94)) (a0_1:Int) (l1_0:List (S94)) (a1_1:Int):Option (Bool):=(laws_eqSlotS.f k l0_0 l1_0).bind fun t225=>(if t225=true then (if a0_1=a1_1 then (some true) else (some false)) else (some false))
set_option maxHeartbeats 8000000 in
set_option maxRecDepth 100000 in
theorem laws_eqArena.calls (k:Nat) (A0_0:Option Addr) (c0_0:Nat) (l0_0:List (S94)) (a0_1:Int) (A1_0:Option Addr) (c1_0:Nat) (l1_0:List (S94)) (a1_1:Int) (r:Bool) (w:World) (hr0_0:Kd.C k94 w A0_0 l0_0.length l0_0) (hc0_0:l0_0.length≤c0_0) (hr1_0:Kd.C k94 w A1_0 l1_0.length l1_0) (hc1_0:l1_0.length≤c1_0) (h:laws_eqArena.f k l0_0 a0_1 l1_0 a1_1=some r) (HT0_:r=true) :
  Calls Tryz.prog 59 #[.agg #[.slice A0_0 l0_0.length c0_0,.int .i64 a0_1],.agg #[.slice A1_0 l1_0.length c1_0,.int .i64 a1_1]] w fun e w'=>e=.returned (.bool r)∧Below w.heap.size w w':=by
 have HTr_:=Aside0.mk HT0_
 clear HT0_;have hu42:=Tryz.underlying42;have HR0_0:=Aside0.mk hr0_0
 have HC0_0:=Aside0.mk hc0_0
 clear hr0_0 hc0_0;have HR1_0:=Aside0.mk hr1_0
 have HC1_0:=Aside0.mk hc1_0
 clear hr1_0 hc1_0;have HB:=Aside0.mk (Below.refl w.heap.size w)
 have H:((laws_eqSlotS.f k l0_0 l1_0).bind fun t225=>(if t225=true then (if a0_1=a1_1 then (some true) else (some false)) else (some false)))=some r:=h
 clear h;replace H:=Option.bind_eq_some_iff.mp H;obtain⟨t225,A30,H⟩:=H;replace H:(if t225=true then (if a0_1=a1_1 then (some true) else (some false)) else (some false))=some r:=H
 have A3:=Aside0.mk A30
 clear A30;go_enter Tryz.func59,Tryz.ntmps59
 go_wp2_with (first|((with_reducible refine gate_dst (N:=2) rfl ?_);refine yE (N:=2) (cs:=#[.slice A0_0 l0_0.length c0_0,.int .i64 a0_1]) (t:=42) fun gb223 hg w6 hbox hb=>?_;obtain⟨n0_,n2_⟩:=yX (w:=w) hg hb (by repeat(with_reducible first|exact HB.out|apply zI|apply zG|apply zH));have n1_:=Aside0.mk (hbox);have n3_:=n2_;clear HB;have HB:=n0_;have BK223:=n1_;have GW223:=n2_;have GE223:=n3_;clear n0_ n1_ n2_ n3_;clear hb hbox hg)|((with_reducible refine gate_dst (N:=3) rfl ?_);refine yE (N:=3) (cs:=#[.slice A1_0 l1_0.length c1_0,.int .i64 a1_1]) (t:=42) fun gb224 hg w7 hbox hb=>?_;obtain⟨n0_,n5_,n6_⟩:=yY (g:=gb223) (o:=.cells #[.slice A0_0 l0_0.length c0_0,.int .i64 a0_1] 42 (0,0)) hg hb (by(with_reducible repeat(first|apply zA|apply zC|apply zB));exact BK223.out);obtain⟨n1_,n3_⟩:=yX (w:=w) hg hb (by repeat(with_reducible first|exact HB.out|apply zI|apply zG|apply zH|refine zJ ?_ GE223.out));have n2_:=Aside0.mk (hbox);have n4_:=n3_;clear BK223;clear HB;have BK223:=n0_;have HB:=n1_;have BK224:=n2_;have GW224:=n3_;have GE224:=n4_;have NB223_224:=n5_;have NB224_223:=n6_;clear n0_ n1_ n2_ n3_ n4_ n5_ n6_;clear hb hbox hg;have hnb8:=NB223_224.out;have hnc8:=NB224_223.out;obtain⟨hcz9_0,hcz9_1,hfz9_0,hfz9_1⟩:=zb2 BK223.out;obtain⟨hcz10_0,hcz10_1,hfz10_0,hfz10_1⟩:=zb2 BK224.out)|((with_reducible refine gate_callee (f:=136) rfl ?_);refine goesL_ (some 9) rfl rfl Tryz.func136 (by kernel_rfl) rfl #[.slice A0_0 l0_0.length c0_0,.slice A1_0 l1_0.length c1_0] rfl (by(try simp only [List.map_toArray,List.map_cons,List.map_nil]);first|done|rfl|(simp only [List.length_drop,List.length_take];rfl)) ?_;(with_reducible refine(laws_eqSlotS.calls k _ _ l0_0 _ _ l1_0 t225 _ ?side1 ?side2 ?side3 ?side4 A3.out ?prem).mono ?_);(case prem=>first|(rfl)|(exact HTr_.out)|(assumption)|(refine(Bool.eq_false_or_eq_true _).resolve_right (fun hz=>?_);rw[hz,if_neg (by decide)] at H;exact absurd ((Option.some.inj H).trans HTr_.out) (by simp)));(case side1=>repeat(first|exact(Kd.C_below HR0_0.out HB.out)|(with_reducible refine Kd.C_alloc ?_ _)|(with_reducible refine Kd.C_drewN ?_ _)|(with_reducible refine Kd.C_drew ?_)));(case side2=>exact HC0_0.out);(case side3=>repeat(first|exact(Kd.C_below HR1_0.out HB.out)|(with_reducible refine Kd.C_alloc ?_ _)|(with_reducible refine Kd.C_drewN ?_ _)|(with_reducible refine Kd.C_drew ?_)));(case side4=>exact HC1_0.out);rintro e w11 ⟨rfl,hb⟩;refine⟨_,rfl,?_⟩;have n0_:=Aside0.mk (zK (g:=gb223) (o:=.cells #[.slice A0_0 l0_0.length c0_0,.int .i64 a0_1] 42 (0,0)) (by(with_reducible repeat(first|apply zA|apply zC|apply zB));exact BK223.out) hb);have n1_:=Aside0.mk (zK (g:=gb224) (o:=.cells #[.slice A1_0 l1_0.length c1_0,.int .i64 a1_1] 42 (0,0)) (by(with_reducible repeat(first|apply zA|apply zC|apply zB));exact BK224.out) hb);have n2_:=Aside0.mk (zN (by repeat(with_reducible first|exact HB.out|apply zI|apply zG|apply zH|refine zJ ?_ GE223.out|refine zJ ?_ GE224.out)) hb);clear BK223;clear BK224;clear HB;have BK223:=n0_;have BK224:=n1_;have HB:=n2_;clear n0_ n1_ n2_;(try clear hb);(try clear hb2);(try clear hk);(try clear hi);obtain⟨hcz12_0,hcz12_1,hfz12_0,hfz12_1⟩:=zb2 BK223.out;obtain⟨hcz13_0,hcz13_1,hfz13_0,hfz13_1⟩:=zb2 BK224.out;(refine Classical.byCases (p:=(t225=true)) (fun c4=>?zp13) (fun c4=>?zn13);(case' zn13=>(replace c4:=Bool.eq_false_iff.mpr c4);(subst c4);(have H1:(some false)=some r:=by rw[if_neg (show ¬ (false=true) by decide)] at H;exact H);(clear H);(have H:=H1);(clear H1);(exact absurd ((Option.some.inj H).trans HTr_.out) (by simp)));(case' zp13=>(subst c4);(have H1:(if a0_1=a1_1 then (some true) else (some false))=some r:=by rw[if_pos rfl] at H;exact H);(clear H);(have H:=H1);(clear H1);(refine Classical.byCases (p:=(a0_1=a1_1)) (fun c5=>?zp12) (fun c5=>?zn12);(case' zn12=>(rw[if_neg c5] at H);(have c5b0:(a0_1 == a1_1)=false:=beq_eq_false_iff_ne.mpr c5);(have c5b1:(a0_1 != a1_1)=true:=bne_iff_ne.mpr c5);(exact absurd ((Option.some.inj H).trans HTr_.out) (by simp)));(case' zp12=>(rw[if_pos c5] at H);(have c5b0:(a0_1 == a1_1)=true:=beq_iff_eq.mpr c5);(have c5b1:(a0_1 != a1_1)=false:=bne_eq_false_iff_eq.mpr c5);(clear c5);(obtain rfl:=Option.some.inj H)))))))
 ·go_ret
  exact⟨by first|rfl|(simp[errW_none,errW_some] <;> rfl)|(simp[*,errW_none,errW_some] <;> rfl),by repeat(with_reducible first|exact HB.out|apply zI|apply zG|apply zH|refine zJ ?_ GE223.out|refine zJ ?_ GE224.out)⟩
def laws_eqCell.f (a0_0:ByteArray) (a0_1:Int) (a1_0:ByteArray) (a1_1:Int):Option (Bool):=if a0_0.toList=a1_0.toList then (if a0_1=a1_1 then (some true) else (some false)) else (some false)
set_option maxHeartbeats 8000000 in
set_option maxRecDepth 100000 in
theorem laws_eqCell.calls (a0_0:ByteArray) (a0_1:Int) (a1_0:ByteArray) (a1_1:Int) (r:Bool) (w:World) (h:laws_eqCell.f a0_0 a0_1 a1_0 a1_1=some r) (HT0_:r=true) :
  Calls Tryz.prog 208 #[.agg #[.string a0_0,.int .i64 a0_1],.agg #[.string a1_0,.int .i64 a1_1]] w fun e w'=>e=.returned (.bool r)∧Below w.heap.size w w':=by
 have HTr_:=Aside0.mk HT0_
 clear HT0_;have hu151:=Tryz.underlying151;have HB:=Aside0.mk (Below.refl w.heap.size w)
 have H:(if a0_0.toList=a1_0.toList then (if a0_1=a1_1 then (some true) else (some false)) else (some false))=some r:=h
 clear h;by_cases c3:a0_0.toList=a1_0.toList
 ·rw[if_pos c3] at H
  have c3b0:(a0_0.toList == a1_0.toList)=true:=beq_iff_eq.mpr c3
  have c3b1:(a0_0.toList != a1_0.toList)=false:=bne_eq_false_iff_eq.mpr c3
  clear c3;by_cases c4:a0_1=a1_1
  ·rw[if_pos c4] at H
   have c4b0:(a0_1 == a1_1)=true:=beq_iff_eq.mpr c4
   have c4b1:(a0_1 != a1_1)=false:=bne_eq_false_iff_eq.mpr c4
   clear c4;obtain rfl:=Option.some.inj H;go_enter Tryz.func208,Tryz.ntmps208
   go_wp2_with (first|((with_reducible refine gate_dst (N:=2) rfl ?_);refine yE (N:=2) (cs:=#[.string a0_0,.int .i64 a0_1]) (t:=151) fun gb226 hg w5 hbox hb=>?_;obtain⟨n0_,n2_⟩:=yX (w:=w) hg hb (by repeat(with_reducible first|exact HB.out|apply zI|apply zG|apply zH));have n1_:=Aside0.mk (hbox);have n3_:=n2_;clear HB;have HB:=n0_;have BK226:=n1_;have GW226:=n2_;have GE226:=n3_;clear n0_ n1_ n2_ n3_;clear hb hbox hg)|((with_reducible refine gate_dst (N:=3) rfl ?_);refine yE (N:=3) (cs:=#[.string a1_0,.int .i64 a1_1]) (t:=151) fun gb227 hg w6 hbox hb=>?_;obtain⟨n0_,n5_,n6_⟩:=yY (g:=gb226) (o:=.cells #[.string a0_0,.int .i64 a0_1] 151 (0,0)) hg hb (by(with_reducible repeat(first|apply zA|apply zC|apply zB));exact BK226.out);obtain⟨n1_,n3_⟩:=yX (w:=w) hg hb (by repeat(with_reducible first|exact HB.out|apply zI|apply zG|apply zH|refine zJ ?_ GE226.out));have n2_:=Aside0.mk (hbox);have n4_:=n3_;clear BK226;clear HB;have BK226:=n0_;have HB:=n1_;have BK227:=n2_;have GW227:=n3_;have GE227:=n4_;have NB226_227:=n5_;have NB227_226:=n6_;clear n0_ n1_ n2_ n3_ n4_ n5_ n6_;clear hb hbox hg;have hnb7:=NB226_227.out;have hnc7:=NB227_226.out;obtain⟨hcz8_0,hcz8_1,hfz8_0,hfz8_1⟩:=zb2 BK226.out;obtain⟨hcz9_0,hcz9_1,hfz9_0,hfz9_1⟩:=zb2 BK227.out))
   go_ret
   exact⟨by first|rfl|(simp[errW_none,errW_some] <;> rfl)|(simp[*,errW_none,errW_some] <;> rfl),by repeat(with_reducible first|exact HB.out|apply zI|apply zG|apply zH|refine zJ ?_ GE226.out|refine zJ ?_ GE227.out)⟩
  ·rw[if_neg c4] at H
   have c4b0:(a0_1 == a1_1)=false:=beq_eq_false_iff_ne.mpr c4
   have c4b1:(a0_1 != a1_1)=true:=bne_iff_ne.mpr c4
   exact absurd ((Option.some.inj H).trans HTr_.out) (by simp)
 ·rw[if_neg c3] at H
  have c3b0:(a0_0.toList == a1_0.toList)=false:=beq_eq_false_iff_ne.mpr c3
  have c3b1:(a0_0.toList != a1_0.toList)=true:=bne_iff_ne.mpr c3
  exact absurd ((Option.some.inj H).trans HTr_.out) (by simp)
def laws_eqCellS.l0:Nat→List (S151)→List (S151)→Int→Option (Bool)
|0,_,_,_=>none
|k+1,x0,x1,x5=>if x5 < (x0.length:Int) then (if 0≤x5 then (if x5 < (x1.length:Int) then ((laws_eqCell.f ((rd_T151 x0 x5).f0) ((rd_T151 x0 x5).f1) ((rd_T151 x1 x5).f0) ((rd_T151 x1 x5).f1)).bind fun t230=>(if t230=true then (laws_eqCellS.l0 k x0 x1 (wrap64 (x5+1))) else (some false))) else (none)) else (none)) else (some true)
def laws_eqCellS.f (k:Nat) (l0:List (S151)) (l1:List (S151)):Option (Bool):=if (l0.length:Int)=(l1.length:Int) then (laws_eqCellS.l0 k l0 l1 0) else (some false)
def laws_eqCellS.T6:Bool × List (List Nat × List Nat):=(true,[([],[]),([],[]),([0,1],[0,1]),([2],[2]),([],[]),([],[]),([4,5],[4,5]),([6],[6]),([3,7],[3,7]),([8],[8])])
def laws_eqCellS.B6:List Nat:=[0,0,3,7,0,0,48,112,255,511]
theorem laws_eqCellS.tab6:rtab .any (opsOf Tryz.f137 6)=laws_eqCellS.T6:=by kernel_rfl
theorem laws_eqCellS.bits6:waitsOk laws_eqCellS.T6.2 laws_eqCellS.B6=true:=by kernel_rfl
set_option maxHeartbeats 8000000 in
set_option maxRecDepth 100000 in
theorem laws_eqCellS.calls (k:Nat) (A0:Option Addr) (c0:Nat) (l0:List (S151)) (A1:Option Addr) (c1:Nat) (l1:List (S151)) (r:Bool) (w:World) (hr0:Kd.C k151 w A0 l0.length l0) (hc0:l0.length≤c0) (hr1:Kd.C k151 w A1 l1.length l1) (hc1:l1.length≤c1) (h:laws_eqCellS.f k l0 l1=some r) (HT0_:r=true) :
  Calls Tryz.prog 137 #[.slice A0 l0.length c0,.slice A1 l1.length c1] w fun e w'=>e=.returned (.bool r)∧Below w.heap.size w w':=by
 have HTr_:=Aside0.mk HT0_
 clear HT0_;have hu151:=Tryz.underlying151;have HR0:=Aside0.mk hr0
 have HC0:=Aside0.mk hc0
 clear hr0 hc0;have HR1:=Aside0.mk hr1
 have HC1:=Aside0.mk hc1
 clear hr1 hc1;have HB:=Aside0.mk (Below.refl w.heap.size w)
 have H:(if (l0.length:Int)=(l1.length:Int) then (laws_eqCellS.l0 k l0 l1 0) else (some false))=some r:=h
 clear h;by_cases c3:(l0.length:Int)=(l1.length:Int)
 ·rw[if_pos c3] at H
  have c3b0:((l0.length:Int) == (l1.length:Int))=true:=beq_iff_eq.mpr c3
  have c3b1:((l0.length:Int) != (l1.length:Int))=false:=bne_eq_false_iff_eq.mpr c3
  have c3b2:(l0.length == l1.length)=true:=by first|simpa using c3|(simp at c3 ⊢;omega)
  clear c3;have H':=Aside0.mk H
  clear H;go_enter Tryz.func137,Tryz.ntmps137
  go_wp2
  go_loopg [5] k (fun kq v5 w'=>∃ (x5_1:Int),v5=.int .i64 x5_1∧Aside0 (laws_eqCellS.l0 kq l0 l1 x5_1=some r)∧Aside0 (kq≤k)∧Aside0 (Below w.heap.size w w'))
  case atStart=>exact⟨(0),(by first|rfl|simp[*]),H',⟨Nat.le_refl _⟩,⟨by repeat(with_reducible first|exact HB.out|apply zI|apply zG|apply zH)⟩⟩
  case round =>
   clear H';obtain⟨x5_1,rfl,HA,HK1,HB⟩:=hrel;cases gk with
  |zero=>exact absurd HA.out (by simp[laws_eqCellS.l0])
  |succ k1 =>
    have H:=HA.out;clear HA;simp only [laws_eqCellS.l0] at H;by_cases c4:x5_1 < (l0.length:Int)
    ·rw[if_pos c4] at H
     have c4b0:decide (x5_1 < (l0.length:Int))=true:=decide_eq_true c4
     clear c4;by_cases c5:0≤x5_1
     ·rw[if_pos c5] at H
      have c5b0:decide (0≤x5_1)=true:=decide_eq_true c5
      clear c5;by_cases c6:x5_1 < (l1.length:Int)
      ·rw[if_pos c6] at H
       have c6b0:decide (x5_1 < (l1.length:Int))=true:=decide_eq_true c6
       clear c6;replace H:=Option.bind_eq_some_iff.mp H;obtain⟨t230,A70,H⟩:=H;replace H:(if t230=true then (laws_eqCellS.l0 k1 l0 l1 (wrap64 (x5_1+1))) else (some false))=some r:=H
       have A7:=Aside0.mk A70
       clear A70;by_cases c8:t230=true
       ·subst c8
        have H1:(laws_eqCellS.l0 k1 l0 l1 (wrap64 (x5_1+1)))=some r:=by rw[if_pos rfl] at H;exact H
        clear H;have H:=H1;clear H1;have H':=Aside0.mk H
        clear H;try go_wp2
        have n0_:=Aside0.mk (zH HB.out)
        clear HB;have HB:=n0_;clear n0_;have p228:0≤(x5_1:Int):=of_decide_eq_true (by assumption)
        have q228:x5_1 < (l0.length:Int):=of_decide_eq_true (by assumption)
        obtain⟨ad228,e228,hx228_0,hx228_1⟩:=at_T151 HR0.out x5_1 p228 q228;have hw228_1:=hx228_1;have hw228_0:=hx228_0;cases e228
        replace hx228_0:=zc2 HB.out hx228_0;replace hx228_1:=zc2 HB.out hx228_1;replace p228:=eq_true p228;replace q228:=eq_true q228;have p229:0≤(x5_1:Int):=of_decide_eq_true (by assumption)
        have q229:x5_1 < (l1.length:Int):=of_decide_eq_true (by assumption)
        obtain⟨ad229,e229,hx229_0,hx229_1⟩:=at_T151 HR1.out x5_1 p229 q229;have hw229_1:=hx229_1;have hw229_0:=hx229_0;cases e229
        replace hx229_0:=zc2 HB.out hx229_0;replace hx229_1:=zc2 HB.out hx229_1;replace p229:=eq_true p229;replace q229:=eq_true q229;refine start_ (n:=10) (S:=fun w'=>w'.cell? (ad228.add ((x5_1).toNat * 2))=some (.string ((rd_T151 l0 x5_1).f0))∧w'.cell? ⟨(ad228.add ((x5_1).toNat * 2)).block,(ad228.add ((x5_1).toNat * 2)).off+1,none⟩=some (.int .i64 ((rd_T151 l0 x5_1).f1))∧w'.cell? (ad229.add ((x5_1).toNat * 2))=some (.string ((rd_T151 l1 x5_1).f0))∧w'.cell? ⟨(ad229.add ((x5_1).toNat * 2)).block,(ad229.add ((x5_1).toNat * 2)).off+1,none⟩=some (.int .i64 ((rd_T151 l1 x5_1).f1))) (ds:=[]) #[false,false,false,false,false,false,false,false,false,false] (by kernel_rfl) rfl rfl ⟨((HB.out.cell (World.block_lt_of_cell? w _ hw228_0)).trans hw228_0),((HB.out.cell (World.block_lt_of_cell? w _ hw228_1)).trans hw228_1),((HB.out.cell (World.block_lt_of_cell? w _ hw229_0)).trans hw229_0),((HB.out.cell (World.block_lt_of_cell? w _ hw229_1)).trans hw229_1)⟩ (fun hHeld=>?_);refine with_tabW laws_eqCellS.tab6 laws_eqCellS.bits6 (fun HT_ HW_=>?_)
        generalize wr.drew=w9 at HB hx228_0 hx228_1 hx229_0 hx229_1 hHeld ⊢
        refine pure_ (i:=0) (N:=some 17) (v:=?_) (a':=?_) #[true,false,false,false,false,false,false,false,false,false] rfl rfl (any_of HT_.out (by kernel_rfl)) (fun _ _ _ h=>h) (Or.inl ⟨by rfl,?_⟩) ?_ ?_
        rotate_left
        ·intro w'
         go_simp
         with_reducible rfl
        rotate_left
        ·simp only [Act.put,List.setIfInBounds_toArray,List.set_cons_zero,List.set_cons_succ,i64_w,i32_w]
         rfl
        refine pure_ (i:=1) (N:=some 18) (v:=?_) (a':=?_) #[true,true,false,false,false,false,false,false,false,false] rfl rfl (any_of HT_.out (by kernel_rfl)) (fun _ _ _ h=>h) (Or.inl ⟨by rfl,?_⟩) ?_ ?_
        rotate_left
        ·intro w'
         go_simp
         with_reducible rfl
        rotate_left
        ·simp only [Act.put,List.setIfInBounds_toArray,List.set_cons_zero,List.set_cons_succ,i64_w,i32_w]
         rfl
        refine pure_ (i:=2) (N:=some 19) (v:=?_) (a':=?_) #[true,true,true,false,false,false,false,false,false,false] rfl rfl (any_of HT_.out (by kernel_rfl)) (fun _ _ _ h=>h) (Or.inl ⟨by rfl,?_⟩) ?_ ?_
        rotate_left
        ·intro w'
         go_simp
         with_reducible rfl
        rotate_left
        ·simp only [Act.put,List.setIfInBounds_toArray,List.set_cons_zero,List.set_cons_succ,i64_w,i32_w]
         rfl
        refine pure_ (i:=4) (N:=some 21) (v:=?_) (a':=?_) #[true,true,true,false,true,false,false,false,false,false] rfl rfl (any_of HT_.out (by kernel_rfl)) (fun _ _ _ h=>h) (Or.inl ⟨by rfl,?_⟩) ?_ ?_
        rotate_left
        ·intro w'
         go_simp
         with_reducible rfl
        rotate_left
        ·simp only [Act.put,List.setIfInBounds_toArray,List.set_cons_zero,List.set_cons_succ,i64_w,i32_w]
         rfl
        refine pure_ (i:=5) (N:=some 22) (v:=?_) (a':=?_) #[true,true,true,false,true,true,false,false,false,false] rfl rfl (any_of HT_.out (by kernel_rfl)) (fun _ _ _ h=>h) (Or.inl ⟨by rfl,?_⟩) ?_ ?_
        rotate_left
        ·intro w'
         go_simp
         with_reducible rfl
        rotate_left
        ·simp only [Act.put,List.setIfInBounds_toArray,List.set_cons_zero,List.set_cons_succ,i64_w,i32_w]
         rfl
        refine pure_ (i:=6) (N:=some 23) (v:=?_) (a':=?_) #[true,true,true,false,true,true,true,false,false,false] rfl rfl (any_of HT_.out (by kernel_rfl)) (fun _ _ _ h=>h) (Or.inl ⟨by rfl,?_⟩) ?_ ?_
        rotate_left
        ·intro w'
         go_simp
         with_reducible rfl
        rotate_left
        ·simp only [Act.put,List.setIfInBounds_toArray,List.set_cons_zero,List.set_cons_succ,i64_w,i32_w]
         rfl
        refine take_ (i:=3) (N:=some 20) (v:=?_) (a':=?_) #[true,true,true,true,true,true,true,false,false,false] rfl rfl (take_ofW HT_.out HW_.out (by kernel_rfl)) (fun _ _ _ h=>h) (Or.inl ⟨by rfl,?_⟩) hHeld ?_ ?_
        rotate_left
        ·rintro w' ⟨s0,s1,s2,s3⟩
         go_simp
         with_reducible rfl
        rotate_left
        ·simp only [Act.put,List.setIfInBounds_toArray,List.set_cons_zero,List.set_cons_succ,i64_w,i32_w]
         rfl
        refine take_ (i:=7) (N:=some 24) (v:=?_) (a':=?_) #[true,true,true,true,true,true,true,true,false,false] rfl rfl (take_ofW HT_.out HW_.out (by kernel_rfl)) (fun _ _ _ h=>h) (Or.inl ⟨by rfl,?_⟩) hHeld ?_ ?_
        rotate_left
        ·rintro w' ⟨s0,s1,s2,s3⟩
         go_simp
         with_reducible rfl
        rotate_left
        ·simp only [Act.put,List.setIfInBounds_toArray,List.set_cons_zero,List.set_cons_succ,i64_w,i32_w]
         rfl
        refine one_ (i:=8) (N:=some 25) #[true,true,true,true,true,true,true,true,true,false] rfl rfl (one_of HT_.out (by kernel_rfl)) (by decide) (fun K hK=>?_)
        refine goes_ Tryz.func208 (by kernel_rfl) rfl #[.agg #[.string ((rd_T151 l0 x5_1).f0),.int .i64 ((rd_T151 l0 x5_1).f1)],.agg #[.string ((rd_T151 l1 x5_1).f0),.int .i64 ((rd_T151 l1 x5_1).f1)]] (by rfl) rfl rfl (by(try simp only [List.map_toArray,List.map_cons,List.map_nil]);first|done|rfl|(simp only [List.length_drop,List.length_take];rfl)) ?_
        with_reducible refine(laws_eqCell.calls ((rd_T151 l0 x5_1).f0) ((rd_T151 l0 x5_1).f1) ((rd_T151 l1 x5_1).f0) ((rd_T151 l1 x5_1).f1) true _ A7.out ?prem).mono ?_
        case prem=>first|(rfl)|(exact HTr_.out)|(assumption)|(refine(Bool.eq_false_or_eq_true _).resolve_right (fun hz=>?_);rw[hz,if_neg (by decide)] at H;exact absurd ((Option.some.inj H).trans HTr_.out) (by simp))
        rintro e w10 ⟨rfl,hb⟩
        refine⟨_,rfl,?_⟩
        have n0_:=Aside0.mk (zN (by repeat(with_reducible first|exact HB.out|apply zI|apply zG|apply zH)) hb)
        clear HB;have HB:=n0_;clear n0_;(try clear hb)
        (try clear hb2)
        (try clear hk)
        (try clear hi)
        refine hK.out _ _ ⟨((HB.out.cell (World.block_lt_of_cell? w _ hw228_0)).trans hw228_0),((HB.out.cell (World.block_lt_of_cell? w _ hw228_1)).trans hw228_1),((HB.out.cell (World.block_lt_of_cell? w _ hw229_0)).trans hw229_0),((HB.out.cell (World.block_lt_of_cell? w _ hw229_1)).trans hw229_1)⟩ (fun hHeld=>?_)
        clear hK K;refine norm_ (a':=?_) ?_ ?_
        rotate_left
        ·show Act.put _ (some 25) _=_
         simp only [Act.put,List.setIfInBounds_toArray,List.set_cons_zero,List.set_cons_succ,i64_w,i32_w]
         rfl
        refine pure_ (i:=9) (N:=some 26) (v:=?_) (a':=?_) #[true,true,true,true,true,true,true,true,true,true] rfl rfl (any_of HT_.out (by kernel_rfl)) (fun _ _ _ h=>h) (Or.inl ⟨by rfl,?_⟩) ?_ ?_
        rotate_left
        ·intro w'
         go_simp
         with_reducible rfl
        rotate_left
        ·simp only [Act.put,List.setIfInBounds_toArray,List.set_cons_zero,List.set_cons_succ,i64_w,i32_w]
         rfl
        refine done_ (done_of HT_.out (by kernel_rfl)) ?_
        try go_wp2
        go_roundg k1
        case measure=>have:=HK1.out;omega
        case rel=>exact⟨(wrap64 (x5_1+1)),(by first|rfl|simp[*]),H',⟨by have:=HK1.out;omega⟩,⟨by repeat(with_reducible first|exact HB.out|apply zI|apply zG|apply zH)⟩⟩
       ·replace c8:=Bool.eq_false_iff.mpr c8
        subst c8;have H1:(some false)=some r:=by rw[if_neg (show ¬ (false=true) by decide)] at H;exact H
        clear H;have H:=H1;clear H1;exact absurd ((Option.some.inj H).trans HTr_.out) (by simp)
      ·rw[if_neg c6] at H
       exact absurd H (by simp)
     ·rw[if_neg c5] at H
      exact absurd H (by simp)
    ·rw[if_neg c4] at H
     have c4b0:decide (x5_1 < (l0.length:Int))=false:=decide_eq_false c4
     clear c4;obtain rfl:=Option.some.inj H;go_wp2
     go_ret
     exact⟨by first|rfl|(simp[errW_none,errW_some] <;> rfl)|(simp[*,errW_none,errW_some] <;> rfl),by repeat(with_reducible first|exact HB.out|apply zI|apply zG|apply zH)⟩
 ·rw[if_neg c3] at H
  have c3b0:((l0.length:Int) == (l1.length:Int))=false:=beq_eq_false_iff_ne.mpr c3
  have c3b1:((l0.length:Int) != (l1.length:Int))=true:=bne_iff_ne.mpr c3
  have c3b2:(l0.length == l1.length)=false:=by first|simpa using c3|(simp at c3 ⊢;omega)
  exact absurd ((Option.some.inj H).trans HTr_.out) (by simp)
end Go.Proofs.YtediiolcoilepaaGreat.GNear
