/- Parts of the proof: walks of callees, plain laws about what they compute. -/
import Derived.Test.YtediiolcoilepaaGreatNbT
import Derived.BigRegion
import Derived.BigQuiet
namespace Go.Proofs.YtediiolcoilepaaGreat.Nb
open Go.RowKit Go.Proofs.YtediiolcoilepaaGreat.GNear Go.Proofs.YtediiolcoilepaaGreatW.PrintWords Go.Proofs.YtediiolcoilepaaGreatW.PrintLast Go.Proofs.YtediiolcoilepaaGreatW.PrintMore
attribute [local go_sem] max2_int min2_int max_two min_two max_three min_three max_four min_four
set_option linter.unusedVariables false
set_option linter.unusedSimpArgs false
theorem seekI_none (cs:List S151) (key:ByteArray) (hl:cs.length≤1048576) (hk:key.size=0) (hs:key.size≤4611686018427387904):Ev (fun k=>impl_seek.f k cs key) (-1):=by
 unfold impl_seek.f
 by_cases h0:cs.length=0
 ·rw[List.eq_nil_of_length_eq_zero h0]
  exact Ev.now _
 ·simp only [if_neg (show ¬ (cs.length:Int)=0 by omega)]
  refine Ev.bind (hashI_ev key hs 0 (by omega)) ?_
  have:=seekI_none_loop cs key hl hk cs.length 0 (stOf key % cs.length) (by omega) (Nat.mod_lt _ (by omega))
  have e:Int.tmod ((hashN key 0:Nat):Int) (cs.length:Int)=((stOf key % cs.length:Nat):Int):=by rw[Int.tmod_eq_emod_of_nonneg (by omega)];rfl
  simp only [e]
  exact this
theorem findI_any {n:Nr} (hn:n.small) (hP:PartsR n) (ho:n.old = []) (key:ByteArray) (hz:key.size≤4611686018427387904) :
  ∃ h b,Ev (fun k=>impl_Table_find.f k n.ce n.old n.mv key) (h,b)∧(b=true ↔ key.size ≠ 0∧∃ c ∈ n.ce,c.f0=key):=by
 have hold:∀ k,impl_seek.f k n.old key=some (-1):=fun k=>by rw[ho];rfl
 have miss:Ev (fun k=>impl_seek.f k n.ce key) (-1)→Ev (fun k=>impl_Table_find.f k n.ce n.old n.mv key) (0,false):=fun h=>by
  refine Ev.bind h ?_
  refine Ev.step (f:=fun _=>some (0,false)) (fun k=>?_) (Ev.now _)
  show(if ((-1:Int)) ≥ 0 then _ else _)=_
  rw[if_neg (by omega),hold]
  rfl
 by_cases hk:key.size=0
 ·exact⟨0,false,miss (seekI_none n.ce key hn.s2 hk hz),⟨fun h=>Bool.noConfusion h,fun h=>absurd hk h.1⟩⟩
 ·have hs:=seekI_ev n.ce key hn.s2 hk hz
  cases hq:TM.seek S151.f0 S151.f1 n.ce key (stOf key) with
  |none =>
   rw[hq] at hs;refine⟨0,false,miss hs,⟨fun h=>Bool.noConfusion h,fun ⟨_,c,hc,e⟩=>?_⟩⟩
   exact absurd e ((TM.Found.seek S151.f0 S151.f1 hP.table.cells.found hk).1 hq c hc)
  |some i =>
   rw[hq] at hs;replace hs:Ev (fun k=>impl_seek.f k n.ce key) ((i:Nat):Int):=hs
   obtain⟨x,hx,hxk⟩:=TM.seekF_some S151.f0 S151.f1 hq;have hi:i < n.ce.length:=(List.getElem?_eq_some_iff.1 hx).1
   refine⟨(rd_T151 n.ce ((i:Nat):Int)).f1,true,Ev.bind hs ?_,⟨fun _=>⟨hk,x,List.mem_of_getElem? hx,hxk⟩,fun _=>rfl⟩⟩
   refine Ev.step (f:=fun _=>some ((rd_T151 n.ce ((i:Nat):Int)).f1,true)) (fun k=>?_) (Ev.now _)
   show(if ((i:Nat):Int) ≥ 0 then _ else _)=_
   rw[if_pos (by omega),if_pos (by omega),if_pos (by omega)]
theorem ix113 (p q r:Value) (W:World):Sem.run Tryz.prog (Instr.index 113 (.agg #[p,q,r]) (.int .i64 0)) W=.ok p W∧Sem.run Tryz.prog (Instr.index 113 (.agg #[p,q,r]) (.int .i64 1)) W=.ok q W∧Sem.run Tryz.prog (Instr.index 113 (.agg #[p,q,r]) (.int .i64 2)) W=.ok r W:=by
 have hu:=Tryz.underlying113;refine⟨?_,?_,?_⟩ <;> (unfold Instr.index;go_simp)
def Nr.drops (n:Nr) (key:ByteArray) (j:Nat):Nr:={ n with wk:=if 0 < j then dropK key n.wk else n.wk,tk:=if 1 < j then dropK key n.tk else n.tk,sk:=if 2 < j then dropK key n.sk else n.sk }
set_option maxHeartbeats 4000000 in
set_option maxRecDepth 100000 in
theorem forgetI_no (w:World) (v:NV) (n:Nr) (hn:n.small) (hC:NearC w v n) (key:ByteArray) (hkz:key.size≤4611686018427387904) (hno:¬ (NearR n∧key.size ≠ 0∧∃ c ∈ n.ce,c.f0=key)):Calls Tryz.prog 21 #[.agg (v.cells n),.string key] w fun e w'=>e=.returned (.tuple #[.agg #[Value.slice none 0 0,Value.int .i64 0,Value.slice none 0 0,Value.slice none 0 0,Value.int .i64 0,Value.int .i64 0,Value.slice none 0 0,Value.int .i64 0,Value.slice none 0 0,Value.int .i64 0,Value.slice none 0 0,Value.slice none 0 0,Value.int .i64 0,Value.int .i64 0],.bool false])∧Below w.heap.size w w':=by
 have hO:=fun w1 hb=>nearOkI w1 v n hn (hC.below (w':=w1) hb)
 have hN:=fun w1 hb=>copyNearL w1 v n hn.short (hC.below (w':=w1) hb)
 obtain⟨A0,c0,A2,c2,A3,c3,A6,c6,A8,c8,A10,c10,A11,c11,rfl,hF⟩:=hC.open_;have HN:=Aside0.mk hn
 have HNO:=Aside0.mk hno
 clear hno;have HKZ:=Aside0.mk hkz
 have HS:=Aside0.mk (St.start w)
 clear hC hF hn hkz;dsimp only [NV.cells] at *
 have HO:=Aside0.mk hO
 have HCN:=Aside0.mk hN
 clear hO hN;go_enter Tryz.func21,Tryz.ntmps21
 go_wp2_with (first|((with_reducible refine gate_dst (N:=2) rfl ?_);refine boxS HS (N:=2) (cs:=#[.slice A0 n.sl.length c0,.int .i64 n.fr,.slice A2 n.ce.length c2,.slice A3 n.old.length c3,.int .i64 n.mv,.int .i64 n.wm,.slice A6 n.wk.length c6,.int .i64 n.tm,.slice A8 n.tk.length c8,.int .i64 n.sm,.slice A10 n.sk.length c10,.slice A11 n.ct.length c11,.int .i64 n.ad,.int .i64 n.db]) (t:=50) fun g2 w2 S=>?_;clear HS;have HS:=Aside0.mk S;clear S)|((with_reducible refine gate_dst (N:=4) rfl ?_);refine boxS HS (N:=4) (cs:=#[.slice none 0 0,.int .i64 0,.slice none 0 0,.slice none 0 0,.int .i64 0,.int .i64 0,.slice none 0 0,.int .i64 0,.slice none 0 0,.int .i64 0,.slice none 0 0,.slice none 0 0,.int .i64 0,.int .i64 0]) (t:=50) fun g4 w4 S=>?_;clear HS;have HS:=Aside0.mk S;obtain⟨ha0,ha1,ha2,ha3,ha4,ha5,ha6,ha7,ha8,ha9,ha10,ha11,ha12,ha13⟩:=S.cells14 1 rfl;clear S))
 refine(HO.out _ HS.out.below).mono ?_
 rintro e w1 ⟨b,rfl,hq,hb⟩
 have S:=HS.out.step hb
 clear HS hb HO ha0 ha1 ha2 ha3 ha4 ha5 ha6 ha7 ha8 ha9 ha10 ha11 ha12 ha13;have HQ:=Aside0.mk hq
 clear hq;have HS:=Aside0.mk S
 cases b with
 |false =>
  clear S;obtain⟨hr0,hr1,hr2,hr3,hr4,hr5,hr6,hr7,hr8,hr9,hr10,hr11,hr12,hr13⟩:=HS.out.cells14 0 rfl
  obtain⟨fr0,fr1,fr2,fr3,fr4,fr5,fr6,fr7,fr8,fr9,fr10,fr11,fr12,fr13⟩:=HS.out.frozen14 0 rfl
  go_wp2_with fail
  have S:=HS.out.front 0 rfl rfl
  have S:=S.put14 (Value.slice none 0 0) (Value.int .i64 0) (Value.slice none 0 0) (Value.slice none 0 0) (Value.int .i64 0) (Value.int .i64 0) (Value.slice none 0 0) (Value.int .i64 0) (Value.slice none 0 0) (Value.int .i64 0) (Value.slice none 0 0) (Value.slice none 0 0) (Value.int .i64 0) (Value.int .i64 0)
  refine bodyPost_ret (results_ct rfl _ _ g4 50 #[Value.slice none 0 0,Value.int .i64 0,Value.slice none 0 0,Value.slice none 0 0,Value.int .i64 0,Value.int .i64 0,Value.slice none 0 0,Value.int .i64 0,Value.slice none 0 0,Value.int .i64 0,Value.slice none 0 0,Value.slice none 0 0,Value.int .i64 0,Value.int .i64 0] (0,0) _ rfl S.head.2 Tryz.underlying50 rfl (by kernel_rfl)) rfl ?_
  exact⟨rfl,S.below⟩
 |true =>
 obtain⟨ha0,ha1,ha2,ha3,ha4,ha5,ha6,ha7,ha8,ha9,ha10,ha11,ha12,ha13⟩:=S.cells14 1 rfl
 clear S;have hR:=HQ.out.1 rfl
 have ho:n.old = []:=List.eq_nil_of_length_eq_zero hR.shape.old
 obtain⟨fh,fb,⟨KF,hKF⟩,hfb⟩:=findI_any HN.out hR.parts ho key HKZ.out;obtain rfl:fb=false:=by cases fb with|false=>rfl|true=>exact absurd ⟨hR,hfb.1 rfl⟩ HNO.out
 have HFK:=Aside0.mk (hKF KF (Nat.le_refl _))
 clear hKF hfb ho hR;go_wp2_with fail
 refine(HCN.out _ HS.out.below).mono ?_
 rintro e w2 ⟨u,rfl,st⟩
 have S:=HS.out.join st
 clear HS st HCN ha0 ha1 ha2 ha3 ha4 ha5 ha6 ha7 ha8 ha9 ha10 ha11 ha12 ha13;obtain⟨B0,d0,B2,d2,B3,d3,B6,d6,B8,d8,B10,d10,B11,d11,rfl⟩:=NV.shape S;dsimp only [NV.cells]
 have HS:=Aside0.mk S
 clear S;go_wp2_with (first|((with_reducible refine gate_dst (N:=6) rfl ?_);refine boxS HS (N:=6) (cs:=#[.slice none 0 0,.int .i64 0,.slice none 0 0,.slice none 0 0,.int .i64 0,.int .i64 0,.slice none 0 0,.int .i64 0,.slice none 0 0,.int .i64 0,.slice none 0 0,.slice none 0 0,.int .i64 0,.int .i64 0]) (t:=50) fun g6 w6 S=>?_;clear HS;have HS:=Aside0.mk S;obtain⟨ho0,ho1,ho2,ho3,ho4,ho5,ho6,ho7,ho8,ho9,ho10,ho11,ho12,ho13⟩:=S.cells14 0 rfl;obtain⟨fo0,fo1,fo2,fo3,fo4,fo5,fo6,fo7,fo8,fo9,fo10,fo11,fo12,fo13⟩:=S.frozen14 0 rfl;clear S))
 have S:=HS.out;clear HS ho0 fo0 ho1 fo1 ho2 fo2 ho3 fo3 ho4 fo4 ho5 fo5 ho6 fo6 ho7 fo7 ho8 fo8 ho9 fo9 ho10 fo10 ho11 fo11 ho12 fo12 ho13 fo13;have S:=S.put14 (Value.slice B0 n.sl.length d0) (Value.int .i64 n.fr) (Value.slice B2 n.ce.length d2) (Value.slice B3 n.old.length d3) (Value.int .i64 n.mv) (Value.int .i64 n.wm) (Value.slice B6 n.wk.length d6) (Value.int .i64 n.tm) (Value.slice B8 n.tk.length d8) (Value.int .i64 n.sm) (Value.slice B10 n.sk.length d10) (Value.slice B11 n.ct.length d11) (Value.int .i64 n.ad) (Value.int .i64 n.db)
 have HS:=Aside0.mk S
 clear S;refine(impl_Table_find.calls KF B2 d2 n.ce B3 d3 n.old n.mv key fh false _ (HS.out.at_C 2 rfl).2.2 (HS.out.at_C 2 rfl).2.1 (HS.out.at_C 3 rfl).2.2 (HS.out.at_C 3 rfl).2.1 HFK.out).mono ?_
 rintro e w4 ⟨rfl,hb⟩
 have HS2:=Aside0.mk (HS.out.step hb)
 clear HS hb;have HS:=HS2;clear HS2;obtain⟨hr0,hr1,hr2,hr3,hr4,hr5,hr6,hr7,hr8,hr9,hr10,hr11,hr12,hr13⟩:=HS.out.cells14 8 rfl
 obtain⟨fr0,fr1,fr2,fr3,fr4,fr5,fr6,fr7,fr8,fr9,fr10,fr11,fr12,fr13⟩:=HS.out.frozen14 8 rfl
 go_wp2_with fail
 have S:=HS.out.front 8 rfl rfl
 have S:=S.put14 (Value.slice none 0 0) (Value.int .i64 0) (Value.slice none 0 0) (Value.slice none 0 0) (Value.int .i64 0) (Value.int .i64 0) (Value.slice none 0 0) (Value.int .i64 0) (Value.slice none 0 0) (Value.int .i64 0) (Value.slice none 0 0) (Value.slice none 0 0) (Value.int .i64 0) (Value.int .i64 0)
 refine bodyPost_ret (results_ct rfl _ _ g4 50 #[Value.slice none 0 0,Value.int .i64 0,Value.slice none 0 0,Value.slice none 0 0,Value.int .i64 0,Value.int .i64 0,Value.slice none 0 0,Value.int .i64 0,Value.slice none 0 0,Value.int .i64 0,Value.slice none 0 0,Value.slice none 0 0,Value.int .i64 0,Value.int .i64 0] (0,0) _ rfl S.head.2 Tryz.underlying50 rfl (by kernel_rfl)) rfl ?_
 exact⟨rfl,S.below⟩
set_option maxHeartbeats 4000000 in
set_option maxRecDepth 100000 in
theorem forgetI_yes (w:World) (v:NV) (n:Nr) (hn:n.small) (hC:NearC w v n) (key:ByteArray) (hkz:key.size≤4611686018427387904) (hR:NearR n) (i k:Nat) (c:S151) (x:S94) (hc:n.ce[i]? = some c) (he:c.f0=key) (hk:key.size ≠ 0) (hx:n.sl[k]? = some x) (hu:x.f1=true) (hh:24 * x.f0+(k:Int)=c.f1):Calls Tryz.prog 21 #[.agg (v.cells n),.string key] w fun e w'=>∃ u:NV,e=.returned (.tuple #[.agg (u.cells ((n.remove i k x).drops key 3)),.bool true])∧St w w' (u.rows ((n.remove i k x).drops key 3)):=by
 have hO:=fun w1 hb=>nearOkI w1 v n hn (hC.below (w':=w1) hb)
 have hN:=fun w1 hb=>copyNearL w1 v n hn.short (hC.below (w':=w1) hb)
 obtain⟨A0,c0,A2,c2,A3,c3,A6,c6,A8,c8,A10,c10,A11,c11,rfl,hF⟩:=hC.open_;subst he;have HN:=Aside0.mk hn
 have HR:=Aside0.mk hR
 have HI:=Aside0.mk (And.intro hc (And.intro hk (And.intro hx (And.intro hu hh))))
 have HOLD:=Aside0.mk (show n.old = [] from List.eq_nil_of_length_eq_zero hR.shape.old)
 clear hR hc hk hx hu hh;have HKZ:=Aside0.mk hkz
 have HS:=Aside0.mk (St.start w)
 clear hC hF hn hkz;dsimp only [NV.cells] at *
 have HO:=Aside0.mk hO
 have HCN:=Aside0.mk hN
 clear hO hN;go_enter Tryz.func21,Tryz.ntmps21
 go_wp2_with (first|((with_reducible refine gate_dst (N:=2) rfl ?_);refine boxS HS (N:=2) (cs:=#[.slice A0 n.sl.length c0,.int .i64 n.fr,.slice A2 n.ce.length c2,.slice A3 n.old.length c3,.int .i64 n.mv,.int .i64 n.wm,.slice A6 n.wk.length c6,.int .i64 n.tm,.slice A8 n.tk.length c8,.int .i64 n.sm,.slice A10 n.sk.length c10,.slice A11 n.ct.length c11,.int .i64 n.ad,.int .i64 n.db]) (t:=50) fun g2 w2 S=>?_;clear HS;have HS:=Aside0.mk S;clear S)|((with_reducible refine gate_dst (N:=4) rfl ?_);refine boxS HS (N:=4) (cs:=#[.slice none 0 0,.int .i64 0,.slice none 0 0,.slice none 0 0,.int .i64 0,.int .i64 0,.slice none 0 0,.int .i64 0,.slice none 0 0,.int .i64 0,.slice none 0 0,.slice none 0 0,.int .i64 0,.int .i64 0]) (t:=50) fun g4 w4 S=>?_;clear HS;have HS:=Aside0.mk S;obtain⟨ha0,ha1,ha2,ha3,ha4,ha5,ha6,ha7,ha8,ha9,ha10,ha11,ha12,ha13⟩:=S.cells14 1 rfl;clear S))
 refine(HO.out _ HS.out.below).mono ?_
 rintro e w1 ⟨b,rfl,hq,hb⟩
 have S:=HS.out.step hb
 clear HS hb HO ha0 ha1 ha2 ha3 ha4 ha5 ha6 ha7 ha8 ha9 ha10 ha11 ha12 ha13;have HQ:=Aside0.mk hq
 clear hq;have HS:=Aside0.mk S
 obtain rfl:b=true:=HQ.out.2 HR.out
 obtain⟨ha0,ha1,ha2,ha3,ha4,ha5,ha6,ha7,ha8,ha9,ha10,ha11,ha12,ha13⟩:=S.cells14 1 rfl
 clear S;obtain⟨fh,fb,⟨KF,hKF⟩,hfb⟩:=findI_any HN.out HR.out.parts HOLD.out c.f0 HKZ.out;obtain rfl:fb=true:=hfb.2 ⟨HI.out.2.1,c,List.mem_of_getElem? HI.out.1,rfl⟩
 have HFK:=Aside0.mk (hKF KF (Nat.le_refl _))
 clear hKF hfb;go_wp2_with fail
 refine(HCN.out _ HS.out.below).mono ?_
 rintro e w2 ⟨u,rfl,st⟩
 have S:=HS.out.join st
 clear HS st HCN ha0 ha1 ha2 ha3 ha4 ha5 ha6 ha7 ha8 ha9 ha10 ha11 ha12 ha13;obtain⟨B0,d0,B2,d2,B3,d3,B6,d6,B8,d8,B10,d10,B11,d11,rfl⟩:=NV.shape S;dsimp only [NV.cells]
 have HS:=Aside0.mk S
 clear S;go_wp2_with (first|((with_reducible refine gate_dst (N:=6) rfl ?_);refine boxS HS (N:=6) (cs:=#[.slice none 0 0,.int .i64 0,.slice none 0 0,.slice none 0 0,.int .i64 0,.int .i64 0,.slice none 0 0,.int .i64 0,.slice none 0 0,.int .i64 0,.slice none 0 0,.slice none 0 0,.int .i64 0,.int .i64 0]) (t:=50) fun g6 w6 S=>?_;clear HS;have HS:=Aside0.mk S;obtain⟨ho0,ho1,ho2,ho3,ho4,ho5,ho6,ho7,ho8,ho9,ho10,ho11,ho12,ho13⟩:=S.cells14 0 rfl;obtain⟨fo0,fo1,fo2,fo3,fo4,fo5,fo6,fo7,fo8,fo9,fo10,fo11,fo12,fo13⟩:=S.frozen14 0 rfl;clear S))
 have S:=HS.out;clear HS ho0 fo0 ho1 fo1 ho2 fo2 ho3 fo3 ho4 fo4 ho5 fo5 ho6 fo6 ho7 fo7 ho8 fo8 ho9 fo9 ho10 fo10 ho11 fo11 ho12 fo12 ho13 fo13;have S:=S.put14 (Value.slice B0 n.sl.length d0) (Value.int .i64 n.fr) (Value.slice B2 n.ce.length d2) (Value.slice B3 n.old.length d3) (Value.int .i64 n.mv) (Value.int .i64 n.wm) (Value.slice B6 n.wk.length d6) (Value.int .i64 n.tm) (Value.slice B8 n.tk.length d8) (Value.int .i64 n.sm) (Value.slice B10 n.sk.length d10) (Value.slice B11 n.ct.length d11) (Value.int .i64 n.ad) (Value.int .i64 n.db)
 have HS:=Aside0.mk S
 clear S;refine(impl_Table_find.calls KF B2 d2 n.ce B3 d3 n.old n.mv c.f0 fh true _ (HS.out.at_C 2 rfl).2.2 (HS.out.at_C 2 rfl).2.1 (HS.out.at_C 3 rfl).2.2 (HS.out.at_C 3 rfl).2.1 HFK.out).mono ?_
 rintro e w4 ⟨rfl,hb⟩
 have HS2:=Aside0.mk (HS.out.step hb)
 clear HS hb;have HS:=HS2;clear HS2;go_wp2_with fail
 refine(removeL g6 (⟨.slice B0 n.sl.length d0,.slice B2 n.ce.length d2,.slice B3 n.old.length d3,.slice B6 n.wk.length d6,.slice B8 n.tk.length d8,.slice B10 n.sk.length d10,.slice B11 n.ct.length d11⟩:NV) n HN.out HR.out.parts HOLD.out i k c x HI.out.1 HI.out.2.1 HI.out.2.2.1 HI.out.2.2.2.1 HI.out.2.2.2.2 HS.out).mono ?_
 rintro e w5 ⟨rfl,S⟩
 clear HS;obtain⟨N,hN⟩:∃ N,N=n.remove i k x:=⟨_,rfl⟩
 rw[← hN] at S;have HNN:=Aside0.mk hN
 have HL:=Aside0.mk (show N.wk.length≤1048576∧N.tk.length≤1048576∧N.sk.length≤1048576 by rw[hN];exact⟨HN.out.s6,HN.out.s8,HN.out.s10⟩)
 clear hN;have HS:=Aside0.mk S
 clear S;go_wp2_with fail
 go_loopw [10,33] (fun v10 v33 w'=>∃ (j:Nat) (z:NV) (la lb ld:List ByteArray),v33=.int .i64 j∧Aside0 (j≤3)∧Aside0 (la=(if 0 < j then dropK c.f0 N.wk else N.wk)∧lb=(if 1 < j then dropK c.f0 N.tk else N.tk)∧ld=(if 2 < j then dropK c.f0 N.sk else N.sk))∧Aside0 (St w w' (Part.blk g6 50 (z.cells { N with wk:=la,tk:=lb,sk:=ld }) :: (z.rows { N with wk:=la,tk:=lb,sk:=ld } ++ [Part.blk g4 50 #[Value.slice none 0 0,Value.int .i64 0,Value.slice none 0 0,Value.slice none 0 0,Value.int .i64 0,Value.int .i64 0,Value.slice none 0 0,Value.int .i64 0,Value.slice none 0 0,Value.int .i64 0,Value.slice none 0 0,Value.slice none 0 0,Value.int .i64 0,Value.int .i64 0],Part.blk g2 50 #[Value.slice A0 n.sl.length c0,Value.int .i64 n.fr,Value.slice A2 n.ce.length c2,Value.slice A3 n.old.length c3,Value.int .i64 n.mv,Value.int .i64 n.wm,Value.slice A6 n.wk.length c6,Value.int .i64 n.tm,Value.slice A8 n.tk.length c8,Value.int .i64 n.sm,Value.slice A10 n.sk.length c10,Value.slice A11 n.ct.length c11,Value.int .i64 n.ad,Value.int .i64 n.db]])))) (fun _ v33 _=>3 - (intOf v33).toNat)
 case atStart=>exact⟨0,(⟨.slice B0 n.sl.length d0,.slice B2 n.ce.length d2,.slice B3 n.old.length d3,.slice B6 n.wk.length d6,.slice B8 n.tk.length d8,.slice B10 n.sk.length d10,.slice B11 n.ct.length d11⟩:NV),N.wk,N.tk,N.sk,rfl,⟨by omega⟩,⟨by simp⟩,HS⟩
 case round =>
  clear HS;obtain⟨j,z,la,lb,ld,rfl,HJ,HA,HS⟩:=hrel;have ix0:=fun W=>(ix113 (.pointer (some ⟨g6,5,none⟩)) (.pointer (some ⟨g6,7,none⟩)) (.pointer (some ⟨g6,9,none⟩)) W).1
  have ix1:=fun W=>(ix113 (.pointer (some ⟨g6,5,none⟩)) (.pointer (some ⟨g6,7,none⟩)) (.pointer (some ⟨g6,9,none⟩)) W).2.1
  have ix2:=fun W=>(ix113 (.pointer (some ⟨g6,5,none⟩)) (.pointer (some ⟨g6,7,none⟩)) (.pointer (some ⟨g6,9,none⟩)) W).2.2
  obtain⟨E0,e0,E2,e2,E3,e3,E6,e6,E8,e8,E10,e10,E11,e11,rfl⟩:=NV.shape HS.out.tail;by_cases c1:j < 3
  ·obtain rfl|rfl|rfl:j=0 ∨ j=1 ∨ j=2:=by omega
   ·go_wp2_with fail
    have S:=(HS.out.front 4 rfl rfl).swap
    have hl:la.length≤1048576:=by have h1:=HA.out;have h2:=HL.out;simp at h1;rw[h1.1];exact h2.1
    refine(dropL g6 5 50 e6 _ E6 la c.f0 hl S rfl).mono ?_
    clear S hl HS;rintro e w7 ⟨bb,rfl,-,S⟩
    have S:=S.front 4 rfl rfl
    have S:=S.front 4 rfl rfl
    have S:=S.front 4 rfl rfl
    have S:=S.front 3 rfl rfl
    have HS:=Aside0.mk S
    clear S;go_wp2_with fail
    go_roundw
    case rel=>exact⟨1,⟨.slice E0 N.sl.length e0,.slice E2 N.ce.length e2,.slice E3 N.old.length e3,.slice E6 (dropK c.f0 la).length e6,.slice E8 lb.length e8,.slice E10 ld.length e10,.slice E11 N.ct.length e11⟩,dropK c.f0 la,lb,ld,by go_num,⟨by omega⟩,⟨by have h1:=HA.out;simp at h1 ⊢;obtain⟨rfl,rfl,rfl⟩:=h1;simp⟩,HS⟩
    case measure=>simp only [intOf];omega
   ·go_wp2_with fail
    have S:=(HS.out.front 5 rfl rfl).swap
    have hl:lb.length≤1048576:=by have h1:=HA.out;have h2:=HL.out;simp at h1;rw[h1.2.1];exact h2.2.1
    refine(dropL g6 7 50 e8 _ E8 lb c.f0 hl S rfl).mono ?_
    clear S hl HS;rintro e w7 ⟨bb,rfl,-,S⟩
    have S:=S.front 5 rfl rfl
    have S:=S.front 5 rfl rfl
    have S:=S.front 5 rfl rfl
    have S:=S.front 5 rfl rfl
    have S:=S.front 4 rfl rfl
    have HS:=Aside0.mk S
    clear S;go_wp2_with fail
    go_roundw
    case rel=>exact⟨2,⟨.slice E0 N.sl.length e0,.slice E2 N.ce.length e2,.slice E3 N.old.length e3,.slice E6 la.length e6,.slice E8 (dropK c.f0 lb).length e8,.slice E10 ld.length e10,.slice E11 N.ct.length e11⟩,la,dropK c.f0 lb,ld,by go_num,⟨by omega⟩,⟨by have h1:=HA.out;simp at h1 ⊢;obtain⟨rfl,rfl,rfl⟩:=h1;simp⟩,HS⟩
    case measure=>simp only [intOf];omega
   ·go_wp2_with fail
    have S:=(HS.out.front 6 rfl rfl).swap
    have hl:ld.length≤1048576:=by have h1:=HA.out;have h2:=HL.out;simp at h1;rw[h1.2.2];exact h2.2.2
    refine(dropL g6 9 50 e10 _ E10 ld c.f0 hl S rfl).mono ?_
    clear S hl HS;rintro e w7 ⟨bb,rfl,-,S⟩
    have S:=S.front 6 rfl rfl
    have S:=S.front 6 rfl rfl
    have S:=S.front 6 rfl rfl
    have S:=S.front 6 rfl rfl
    have S:=S.front 6 rfl rfl
    have S:=S.front 5 rfl rfl
    have HS:=Aside0.mk S
    clear S;go_wp2_with fail
    go_roundw
    case rel=>exact⟨3,⟨.slice E0 N.sl.length e0,.slice E2 N.ce.length e2,.slice E3 N.old.length e3,.slice E6 la.length e6,.slice E8 lb.length e8,.slice E10 (dropK c.f0 ld).length e10,.slice E11 N.ct.length e11⟩,la,lb,dropK c.f0 ld,by go_num,⟨by omega⟩,⟨by have h1:=HA.out;simp at h1 ⊢;obtain⟨rfl,rfl,rfl⟩:=h1;simp⟩,HS⟩
    case measure=>simp only [intOf];omega
  ·have hj:j=3:=by have:=HJ.out;omega
   subst hj;clear c1;have ho0:wr.cell? ⟨g6,0,none⟩=some (Value.slice E0 N.sl.length e0):=HS.out.at_cell 0 rfl 0 rfl
   have hr0:=HS.out.at_cell 8 rfl 0 rfl
   have fr0:=HS.out.at_frozen 8 rfl 0
   have ho1:wr.cell? ⟨g6,1,none⟩=some (Value.int .i64 N.fr):=HS.out.at_cell 0 rfl 1 rfl
   have hr1:=HS.out.at_cell 8 rfl 1 rfl
   have fr1:=HS.out.at_frozen 8 rfl 1
   have ho2:wr.cell? ⟨g6,2,none⟩=some (Value.slice E2 N.ce.length e2):=HS.out.at_cell 0 rfl 2 rfl
   have hr2:=HS.out.at_cell 8 rfl 2 rfl
   have fr2:=HS.out.at_frozen 8 rfl 2
   have ho3:wr.cell? ⟨g6,3,none⟩=some (Value.slice E3 N.old.length e3):=HS.out.at_cell 0 rfl 3 rfl
   have hr3:=HS.out.at_cell 8 rfl 3 rfl
   have fr3:=HS.out.at_frozen 8 rfl 3
   have ho4:wr.cell? ⟨g6,4,none⟩=some (Value.int .i64 N.mv):=HS.out.at_cell 0 rfl 4 rfl
   have hr4:=HS.out.at_cell 8 rfl 4 rfl
   have fr4:=HS.out.at_frozen 8 rfl 4
   have ho5:wr.cell? ⟨g6,5,none⟩=some (Value.int .i64 N.wm):=HS.out.at_cell 0 rfl 5 rfl
   have hr5:=HS.out.at_cell 8 rfl 5 rfl
   have fr5:=HS.out.at_frozen 8 rfl 5
   have ho6:wr.cell? ⟨g6,6,none⟩=some (Value.slice E6 la.length e6):=HS.out.at_cell 0 rfl 6 rfl
   have hr6:=HS.out.at_cell 8 rfl 6 rfl
   have fr6:=HS.out.at_frozen 8 rfl 6
   have ho7:wr.cell? ⟨g6,7,none⟩=some (Value.int .i64 N.tm):=HS.out.at_cell 0 rfl 7 rfl
   have hr7:=HS.out.at_cell 8 rfl 7 rfl
   have fr7:=HS.out.at_frozen 8 rfl 7
   have ho8:wr.cell? ⟨g6,8,none⟩=some (Value.slice E8 lb.length e8):=HS.out.at_cell 0 rfl 8 rfl
   have hr8:=HS.out.at_cell 8 rfl 8 rfl
   have fr8:=HS.out.at_frozen 8 rfl 8
   have ho9:wr.cell? ⟨g6,9,none⟩=some (Value.int .i64 N.sm):=HS.out.at_cell 0 rfl 9 rfl
   have hr9:=HS.out.at_cell 8 rfl 9 rfl
   have fr9:=HS.out.at_frozen 8 rfl 9
   have ho10:wr.cell? ⟨g6,10,none⟩=some (Value.slice E10 ld.length e10):=HS.out.at_cell 0 rfl 10 rfl
   have hr10:=HS.out.at_cell 8 rfl 10 rfl
   have fr10:=HS.out.at_frozen 8 rfl 10
   have ho11:wr.cell? ⟨g6,11,none⟩=some (Value.slice E11 N.ct.length e11):=HS.out.at_cell 0 rfl 11 rfl
   have hr11:=HS.out.at_cell 8 rfl 11 rfl
   have fr11:=HS.out.at_frozen 8 rfl 11
   have ho12:wr.cell? ⟨g6,12,none⟩=some (Value.int .i64 N.ad):=HS.out.at_cell 0 rfl 12 rfl
   have hr12:=HS.out.at_cell 8 rfl 12 rfl
   have fr12:=HS.out.at_frozen 8 rfl 12
   have ho13:wr.cell? ⟨g6,13,none⟩=some (Value.int .i64 N.db):=HS.out.at_cell 0 rfl 13 rfl
   have hr13:=HS.out.at_cell 8 rfl 13 rfl
   have fr13:=HS.out.at_frozen 8 rfl 13
   have n1:=HS.out.at_ne 0 8 rfl rfl (by decide)
   have n2:=HS.out.at_ne 8 0 rfl rfl (by decide)
   go_wp2_with fail
   have S:=HS.out.front 8 rfl rfl
   have S:=S.put14 (Value.slice E0 N.sl.length e0) (Value.int .i64 N.fr) (Value.slice E2 N.ce.length e2) (Value.slice E3 N.old.length e3) (Value.int .i64 N.mv) (Value.int .i64 N.wm) (Value.slice E6 la.length e6) (Value.int .i64 N.tm) (Value.slice E8 lb.length e8) (Value.int .i64 N.sm) (Value.slice E10 ld.length e10) (Value.slice E11 N.ct.length e11) (Value.int .i64 N.ad) (Value.int .i64 N.db)
   refine bodyPost_ret (results_ct rfl _ _ g4 50 #[Value.slice E0 N.sl.length e0,Value.int .i64 N.fr,Value.slice E2 N.ce.length e2,Value.slice E3 N.old.length e3,Value.int .i64 N.mv,Value.int .i64 N.wm,Value.slice E6 la.length e6,Value.int .i64 N.tm,Value.slice E8 lb.length e8,Value.int .i64 N.sm,Value.slice E10 ld.length e10,Value.slice E11 N.ct.length e11,Value.int .i64 N.ad,Value.int .i64 N.db] (0,0) _ rfl S.head.2 Tryz.underlying50 rfl (by kernel_rfl)) rfl ?_
   have S:=(S.tail.tail.front 7 rfl rfl).tail
   have e:(n.remove i k x).drops c.f0 3 = { N with wk:=la,tk:=lb,sk:=ld }:=by rw[← HNN.out,HA.out.1,HA.out.2.1,HA.out.2.2];rfl
   rw[e]
   exact⟨⟨.slice E0 N.sl.length e0,.slice E2 N.ce.length e2,.slice E3 N.old.length e3,.slice E6 la.length e6,.slice E8 lb.length e8,.slice E10 ld.length e10,.slice E11 N.ct.length e11⟩,rfl,S⟩
end Go.Proofs.YtediiolcoilepaaGreat.Nb
