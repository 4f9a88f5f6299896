/- Walks of callees. -/
import Derived.Test.YtediiolcoilepaaGreatNbB
import Derived.BigRegion
namespace Go.Proofs.YtediiolcoilepaaGreat.Nb
set_option maxHeartbeats 8000000
set_option maxRecDepth 100000
open Go.RowKit Go.Proofs.YtediiolcoilepaaGreat.GNear Go.Proofs.YtediiolcoilepaaGreatW.PrintWords Go.Proofs.YtediiolcoilepaaGreatW.PrintLast Go.Proofs.YtediiolcoilepaaGreatW.PrintMore
set_option linter.unusedVariables false
set_option linter.unusedSimpArgs false
theorem hand24 (g k:Int) (h0:0≤g) (h1:g≤41666665) (k0:0≤k) (k1:k≤1048576):wrap64 (wrap64 (24 * g)+k)=24 * g+k:=by unfold wrap64;omega
def plV:Option Nat→Int
 |none=>-1
 |some k=>(k:Int)
theorem rd_get {xs:List S94} {k:Nat} {x:S94} (h:xs[k]? = some x):rd_T94 xs (k:Int)=x:=by
 unfold rd_T94;rw[List.getD_eq_getElem?_getD,Int.toNat_natCast,h];rfl
def placeOf (xs:List S94) (h:Int):Option Nat:=if 0≤h∧h % 24 < (xs.length:Int)∧(rd_T94 xs (h % 24)).f1=true∧24 * (rd_T94 xs (h % 24)).f0+h % 24=h then some (h % 24).toNat else none
theorem placeOf_some {xs:List S94} {fr:Int} (hr:arR xs fr) {h:Int} {k:Nat}:placeOf xs h=some k ↔ ∃ x,xs[k]? = some x∧x.f1=true∧24 * x.f0+(k:Int)=h:=by
 have hl:=hr.len;unfold placeOf;constructor
 ·intro e
  split at e
  ·rename_i c
   have e:=Option.some.inj e;subst e;have hk:(((h % 24).toNat:Nat):Int)=h % 24:=by omega
   have hlt:(h % 24).toNat < xs.length:=by omega
   refine⟨xs[(h % 24).toNat],List.getElem?_eq_getElem hlt,?_⟩;have hg:=rd_get (List.getElem?_eq_getElem hlt);rw[hk] at hg;rw[← hg,hk];exact c.2.2
  ·cases e
 ·rintro ⟨x,hx,hu,rfl⟩
  have hk:=(List.getElem?_eq_some_iff.1 hx).1;have h0:=(hr.slots x (List.mem_of_getElem? hx)).1;have em:(24 * x.f0+(k:Int)) % 24=(k:Int):=by omega
  rw[em,rd_get hx,if_pos ⟨by omega,by omega,hu,rfl⟩,Int.toNat_natCast]
theorem tmod24 (h:Int) (h0:0≤h):Int.tmod h 24=h % 24:=Int.tmod_eq_emod_of_nonneg h0
theorem placeI (xs:List S94) (fr h:Int) (hr:arR xs fr):impl_Arena_place.f xs fr h=some (plV (placeOf xs h)):=by
 have hl:=hr.len;unfold impl_Arena_place.f placeOf
 by_cases c0:h < 0
 ·rw[if_pos c0,if_neg (by omega)];rfl
 rw[if_neg c0,tmod24 h (by omega)]
 by_cases c1:h % 24 ≥ (xs.length:Int)
 ·rw[if_pos c1,if_neg (by omega)];rfl
 rw[if_neg c1,if_pos (by omega),if_pos (by omega)]
 by_cases c2:(rd_T94 xs (h % 24)).f1=true
 ·rw[if_pos c2]
  unfold impl_Arena_handle.f;rw[if_pos (by omega),if_pos (by omega)];simp only [Option.bind_some];have hm:rd_T94 xs (h % 24) ∈ xs:=by
   have hk:(((h % 24).toNat:Nat):Int)=h % 24:=by omega
   have hlt:(h % 24).toNat < xs.length:=by omega
   have hg:=rd_get (List.getElem?_eq_getElem hlt);rw[hk] at hg;rw[hg];exact List.getElem_mem hlt
  have hg:=hr.slots _ hm;rw[hand24 _ _ hg.1 hg.2.1 (by omega) (by omega)]
  by_cases c3:24 * (rd_T94 xs (h % 24)).f0+h % 24=h
  ·rw[if_pos c3,if_pos ⟨by omega,by omega,c2,c3⟩]
   show some (h % 24)=some (((h % 24).toNat:Nat):Int)
   congr 1;omega
  ·rw[if_neg c3,if_neg (fun hh=>c3 hh.2.2.2)];rfl
 ·rw[if_neg c2,if_neg (fun hh=>c2 hh.2.2.1)];rfl
def usedK (l:List S94):List ByteArray:=(l.filter fun x=>x.f1).map S94.f2
theorem three_rows {w:World} {g t a b c:Nat} {A B C:Option Addr} {xs ys zs:List ByteArray} (hg:w.heap[g]? = some (.cells #[.slice A xs.length a,.slice B ys.length b,.slice C zs.length c] t (0,0)))
  (hx:Kd.C Kd.string w A xs.length xs) (lx:xs.length≤a) (hy:Kd.C Kd.string w B ys.length ys) (ly:ys.length≤b) (hz:Kd.C Kd.string w C zs.length zs) (lz:zs.length≤c) :
  Kd.C (Kd.slice 9 Kd.string) w (some ⟨g,0,none⟩) 3 [xs,ys,zs]:=by
 refine⟨rfl,by omega,fun _=>⟨_,rfl,fun j p hj=>?_⟩⟩
 match j,hj with
 |0,hj =>
  obtain rfl:xs=p:=by simpa using hj
  refine⟨[.slice A xs.length a],rfl,⟨A,a,rfl,lx,hx⟩,fun i u hu=>?_⟩
  match i,hu with
  |0,hu=>obtain rfl:_=u:=Option.some.inj hu;exact blk_cell hg 0
 |1,hj =>
  obtain rfl:ys=p:=by simpa using hj
  refine⟨[.slice B ys.length b],rfl,⟨B,b,rfl,ly,hy⟩,fun i u hu=>?_⟩
  match i,hu with
  |0,hu=>obtain rfl:_=u:=Option.some.inj hu;exact blk_cell hg 1
 |2,hj =>
  obtain rfl:zs=p:=by simpa using hj
  refine⟨[.slice C zs.length c],rfl,⟨C,c,rfl,lz,hz⟩,fun i u hu=>?_⟩
  match i,hu with
  |0,hu=>obtain rfl:_=u:=Option.some.inj hu;exact blk_cell hg 2
section
variable {w0 w w':World} {ps:List Part}
theorem St.sorted {α:Type} {d:Kd α} {e:Nat} {ok:Nat→Prop} {v:Value} {xs ys:List α} (hE:d.E = []) (h:St w0 w (Part.row d e v xs :: ps)) (hb:Below w0.heap.size w0 w') (hr:d.R e w' w0.heap.size ok v ys) (hk:Kept w w' (fun k=>some k=v.ownBlock)):St w0 w' (Part.row d e v ys :: ps):=by
 refine⟨hb,fun q hq=>?_,List.pairwise_cons.2 ⟨h.away,h.tail.apart⟩⟩
 rcases List.mem_cons.1 hq with rfl|hq
 ·exact Part.of_R hE hr
 ·exact q.keep (fun k hk'=>hk.2 k (q.bound (h.tail.all q hq) k hk').2 (fun ek=>h.away q hq k ek.symm hk')) (h.tail.all q hq)
end
theorem usedK_next {l:List S94} {i:Nat} {x:S94} (h:l[i]? = some x):usedK (l.take (i+1))=usedK (l.take i) ++ (if x.f1=true then [x.f2] else []):=by
 unfold usedK;rw[List.take_add_one,h,List.filter_append,List.map_append]
 congr 1
 cases hu:x.f1 <;> simp[hu]
theorem usedK_len (l:List S94):(usedK l).length≤l.length:=by unfold usedK;rw[List.length_map];exact List.length_filter_le _ _
theorem eqS_loop (l m:List ByteArray) (hl:l.length=m.length) (hb:l.length≤4194304) (d:Nat):∀ (i:Nat),i+d=l.length→l.take i=m.take i→Ev (fun k=>slices_Equal_string_string.l0 k l m (l.length:Int) (i:Int)) (decide (l=m)):=by
 induction d with
 |zero =>
  intro i hi ht;refine Ev.step (f:=fun _=>some true) (fun k=>?_) ?_
  ·simp only [slices_Equal_string_string.l0];rw[if_neg (by omega)]
  ·have e:l=m:=by rw[List.take_of_length_le (by omega),List.take_of_length_le (by omega)] at ht;exact ht
   rw[decide_eq_true e];exact Ev.now _
 |succ d ih =>
  intro i hi ht;have h1:i < l.length:=by omega
  have h2:i < m.length:=by omega
  by_cases he:l[i]=m[i]
  ·refine Ev.step (fun k=>?_) (ih (i+1) (by omega) (by rw[List.take_add_one,List.take_add_one,ht,List.getElem?_eq_getElem h1,List.getElem?_eq_getElem h2,he]))
   simp only [slices_Equal_string_string.l0];rw[if_pos (by omega),if_pos (by omega),if_pos (by omega),if_pos (by omega),rdS_at l i h1,rdS_at m i h2,if_pos (str_eq.2 he),w64 i (by omega)]
  ·refine Ev.step (f:=fun _=>some false) (fun k=>?_) ?_
   ·simp only [slices_Equal_string_string.l0]
    rw[if_pos (by omega),if_pos (by omega),if_pos (by omega),if_pos (by omega),rdS_at l i h1,rdS_at m i h2,if_neg (fun e=>he (str_eq.1 e))]
   ·rw[decide_eq_false (fun e=>he (by subst e;rfl))];exact Ev.now _
theorem eqS_ev (l m:List ByteArray) (hb:l.length≤4194304):Ev (fun k=>slices_Equal_string_string.f k l m) (decide (l=m)):=by
 by_cases hl:l.length=m.length
 ·refine Ev.congr (fun k=>?_) (eqS_loop l m hl hb l.length 0 (by omega) (by simp))
  simp only [slices_Equal_string_string.f];rw[if_pos (by omega)];rfl
 ·refine Ev.step (f:=fun _=>some false) (fun k=>?_) ?_
  ·simp only [slices_Equal_string_string.f];rw[if_neg (by omega)]
  ·rw[decide_eq_false (fun e=>hl (by rw[e]))];exact Ev.now _
theorem findI_ev {n:Nr} (hn:n.small) (hP:PartsR n) {c:S151} (hc:c ∈ n.ce) (hk:c.f0.size ≠ 0):Ev (fun k=>impl_Table_find.f k n.ce n.old n.mv c.f0) (c.f1,true):=by
 obtain⟨i,hi,rfl⟩:=List.getElem_of_mem hc;have hf:=(hP.table.cells i _ (List.getElem?_eq_getElem hi)).2 hk;have hs:=seekI_ev n.ce n.ce[i].f0 hn.s2 hk (by omega);rw[hf.2.2] at hs;replace hs:Ev (fun k=>impl_seek.f k n.ce n.ce[i].f0) ((i:Nat):Int):=hs;refine Ev.bind hs ?_;refine Ev.step (f:=fun _=>some (n.ce[i].f1,true)) (fun k=>?_) (Ev.now _);show(if ((i:Nat):Int) ≥ 0 then _ else _)=_;rw[if_pos (by omega),if_pos (by omega),if_pos (by omega),rd_ce n.ce i hi]
theorem same_cell {n:Nr} (hP:PartsR n) {c c':S151} (hc:c ∈ n.ce) (hc':c' ∈ n.ce) (hk:c.f0.size ≠ 0) (he:c'.f0=c.f0):c'=c:=by
 obtain⟨i,hi,rfl⟩:=List.getElem_of_mem hc;obtain⟨j,hj,rfl⟩:=List.getElem_of_mem hc';have h1:=hP.table.cells.found S151.f0 S151.f1;have:=h1.once S151.f0 S151.f1 (List.getElem?_eq_getElem hj) (List.getElem?_eq_getElem hi) he (by rw[he];exact hk);subst this;rfl
def linkC (n:Nr) (c:S151):Prop:=∃ (k:Nat) (x:S94),n.sl[k]? = some x∧x.f1=true∧24 * x.f0+(k:Int)=c.f1∧x.f2=c.f0
theorem perm_of_sort {l m:List ByteArray} (h:sortS l=sortS m):l.Perm m:=(sortS_perm l).symm.trans (h ▸ sortS_perm m)
theorem concat3 {n:Nr} (hn:n.small):slices_Concat_string_string.f [n.wk,n.tk,n.sk]=some (n.wk ++ n.tk ++ n.sk):=by
 have h1:=hn.s6;have h2:=hn.s8;have h3:=hn.s10;unfold slices_Concat_string_string.f;rw[if_pos (by simp;omega)];simp
theorem sort_some {l:List ByteArray} (h:l.length≤4194304):slices_Sort_string_string.f l=some (sortS l):=if_pos h
theorem keysC_len (cs:List S151):(keysC cs).length≤cs.length:=by unfold keysC TM.keysOf;rw[List.length_map];exact List.length_filter_le _ _
structure NearR (n:Nr):Prop where
 parts:PartsR n
 shape:ShapeR n
 queued:(n.wk ++ n.tk ++ n.sk).Perm (keysC n.ce)
 laid:(usedK n.sl).Perm (keysC n.ce)
 linked:∀ c ∈ n.ce,c.f0.size ≠ 0→linkC n c
theorem RowC.below {α:Type} {d:Kd α} {w w':World} {v:Value} {xs:List α} (h:RowC d w v xs) (hb:Below w.heap.size w w'):RowC d w' v xs:=by
 obtain⟨A,c,e,hl,hc⟩:=h;exact⟨A,c,e,hl,Kd.C_below hc hb⟩
theorem NearC.below {w w':World} {v:NV} {n:Nr} (h:NearC w v n) (hb:Below w.heap.size w w'):NearC w' v n:=⟨h.r0.below hb,h.r2.below hb,h.r3.below hb,h.r6.below hb,h.r8.below hb,h.r10.below hb,h.r11.below hb⟩
theorem shapeOkI (w:World) (v:NV) (n:Nr) (hn:n.small) (hC:NearC w v n) :
  Calls Tryz.prog 52 #[.agg (v.cells n)] w fun e w'=>∃ b,e=.returned (.bool b)∧(b=true ↔ ShapeR n)∧Below w.heap.size w w':=by
 by_cases hs:2≤n.sl.length∧n.sl.length≤24
 ·refine(shapeIn w v n hn hC hs _ _ _ _ rfl rfl rfl rfl).mono ?_
  rintro e w1 ⟨rfl,hb⟩;refine⟨_,rfl,?_,hb⟩;simp only [Bool.and_eq_true,decide_eq_true_eq];exact⟨fun ⟨⟨⟨⟨h1,h2⟩,h3⟩,h4⟩,h5⟩=>⟨hs,h1,h2,h3,h4,h5⟩,fun h=>⟨⟨⟨⟨h.old,h.cells⟩,h.wm⟩,h.tm⟩,h.sm⟩⟩
 ·refine(shapeOut w v n hn hC hs).mono ?_
  rintro e w1 ⟨rfl,hb⟩;exact⟨false,rfl,⟨fun h=>Bool.noConfusion h,fun h=>absurd h.size hs⟩,hb⟩
theorem nearOkI (w:World) (v:NV) (n:Nr) (hn:n.small) (hC:NearC w v n) :
  Calls Tryz.prog 15 #[.agg (v.cells n)] w fun e w'=>∃ b,e=.returned (.bool b)∧(b=true ↔ NearR n)∧Below w.heap.size w w':=by
 have hP:=fun w1 hb=>partsOkI w1 v n hn (hC.below (w':=w1) hb);have hH:=fun w1 hb=>shapeOkI w1 v n hn (hC.below (w':=w1) hb);obtain⟨A0,c0,A2,c2,A3,c3,A6,c6,A8,c8,A10,c10,A11,c11,rfl,hF⟩:=hC.open_;have HF:=Aside0.mk hF;clear hC hF;dsimp only [NV.cells] at *;have HP:=Aside0.mk hP;have HH:=Aside0.mk hH;clear hP hH;have HS:=Aside0.mk (St.start w);have HN:=Aside0.mk hn;clear hn;go_enter Tryz.func15,Tryz.ntmps15;go_wp2_with fail;have S:=HS.out.alloc #[Value.slice A0 n.sl.length c0,Value.int .i64 n.fr,Value.slice A2 n.ce.length c2,Value.slice A3 n.old.length c3,Value.int .i64 n.mv,Value.int .i64 n.wm,Value.slice A6 n.wk.length c6,Value.int .i64 n.tm,Value.slice A8 n.tk.length c8,Value.int .i64 n.sm,Value.slice A10 n.sk.length c10,Value.slice A11 n.ct.length c11,Value.int .i64 n.ad,Value.int .i64 n.db] 50;clear HS;refine(HP.out _ S.below).mono ?_;rintro e w1 ⟨b0,rfl,hq,hb⟩;have S:=S.step hb;clear hb HP;have HS:=Aside0.mk S;obtain⟨hc0,hc1,hc2,hc3,hc4,hc5,hc6,hc7,hc8,hc9,hc10,hc11,hc12,hc13⟩:=S.cells14 0 rfl;clear S;have HQ0:=Aside0.mk hq;clear hq;cases b0 with
 |false =>
  go_wp2_with fail;go_ret;exact⟨false,rfl,⟨fun h=>Bool.noConfusion h,fun h=>absurd (HQ0.out.2 h.parts) (by simp)⟩,HS.out.below⟩
 |true =>
 go_wp2_with fail;refine(HH.out _ HS.out.below).mono ?_;rintro e w2 ⟨b1,rfl,hq,hb⟩;have S:=HS.out.step hb;clear hb HH HS hc0 hc1 hc2 hc3 hc4 hc5 hc6 hc7 hc8 hc9 hc10 hc11 hc12 hc13;have HS:=Aside0.mk S;have hc6:=S.at_cell 0 rfl 6 rfl;have hc8:=S.at_cell 0 rfl 8 rfl;have hc10:=S.at_cell 0 rfl 10 rfl;clear S;have HQ1:=Aside0.mk hq;clear hq;cases b1 with
 |false =>
  go_wp2_with fail;go_ret;exact⟨false,rfl,⟨fun h=>Bool.noConfusion h,fun h=>absurd (HQ1.out.2 h.shape) (by simp)⟩,HS.out.below⟩
 |true =>
 go_wp2_with fail;have S:=HS.out.alloc #[Value.slice A6 n.wk.length c6,Value.slice A8 n.tk.length c8,Value.slice A10 n.sk.length c10] 28;clear HS hc6 hc8 hc10;have hbb:=S.below;obtain⟨q0,hq0⟩:∃ q,q=n.wk ++ n.tk ++ n.sk:=⟨_,rfl⟩;obtain⟨q1,hq1⟩:∃ q,q=sortS q0:=⟨_,rfl⟩;have hl1:q0.length=q1.length:=by rw[hq1,sortS_len]
 have HL1:=Aside0.mk hl1;have hs1:slices_Sort_string_string.f q0=some q1:=by
  rw[hq1];exact sort_some (by have:=HN.out.s6;have:=HN.out.s8;have:=HN.out.s10;rw[hq0];simp only [List.length_append];omega)
 have HS1:=Aside0.mk hs1;have hcc:=concat3 HN.out;rw[← hq0] at hcc;have HQ:=Aside0.mk (show q1=sortS (n.wk ++ n.tk ++ n.sk) by rw[hq1,hq0]);have HQB:=Aside0.mk (show q1.length≤3145728 by have:=HN.out.s6;have:=HN.out.s8;have:=HN.out.s10;rw[← hl1,hq0];simp only [List.length_append];omega);clear hq0 hq1 hs1;refine(slices_Concat_string_string.calls (some ⟨_,0,none⟩) 3 [n.wk,n.tk,n.sk] q0 _ (three_rows S.head.2 (HF.out.below hbb).h6 HF.out.l6 (HF.out.below hbb).h8 HF.out.l8 (HF.out.below hbb).h10 HF.out.l10) (Nat.le_refl 3) hcc).mono ?_;rintro e w3 ⟨v0,rfl,hr,hb⟩;have S:=(S.tail).new_row rfl hb hr;obtain⟨B0,d0,rfl⟩:=Kd.R_slice hr;clear hb hr hbb hcc;rw[hl1] at S ⊢;clear hl1;have HS:=Aside0.mk S;clear S;go_wp2_with fail;refine(slices_Sort_string_string.calls (fun k=>some k=(Value.slice B0 q1.length d0).ownBlock) (.slice B0 q1.length d0) q0 q1 w _ HS.out.below (HS.out.at_R 0 rfl) HS1.out).mono ?_;rintro e w4 ⟨rfl,hr,hb,hk⟩;have S:=HS.out.sorted rfl hb hr hk;clear HS hr hb hk HS1;have HS:=Aside0.mk S;have hc0:=S.at_cell 1 rfl 0 rfl;clear S;go_wp2_with fail;clear hc0;go_loopw [4,38] (fun v4 v38 wr=>∃ (i:Nat) (acc:List ByteArray),v38=.int .i64 i∧Aside0 (i≤n.sl.length)∧Aside0 (acc=usedK (n.sl.take i))∧Aside0 (St w wr [Part.row Kd.string 9 v4 acc,Part.row Kd.string 9 (.slice B0 q1.length d0) q1,Part.blk w.heap.size 50 #[Value.slice A0 n.sl.length c0,Value.int .i64 n.fr,Value.slice A2 n.ce.length c2,Value.slice A3 n.old.length c3,Value.int .i64 n.mv,Value.int .i64 n.wm,Value.slice A6 n.wk.length c6,Value.int .i64 n.tm,Value.slice A8 n.tk.length c8,Value.int .i64 n.sm,Value.slice A10 n.sk.length c10,Value.slice A11 n.ct.length c11,Value.int .i64 n.ad,Value.int .i64 n.db]])) (fun _ v38 _=>n.sl.length - (intOf v38).toNat)
 case atStart=>exact⟨0,[],rfl,⟨by omega⟩,⟨by simp[usedK]⟩,⟨by exact HS.out.nil_row Kd.string 9⟩⟩
 case round =>
  obtain⟨i,acc,rfl,HI,HA,HS⟩:=hrel;by_cases c1:i < n.sl.length
  ·have c1b:decide ((i:Int) < (n.sl.length:Int))=true:=decide_eq_true (by omega)
   have p5:(0:Int)≤(i:Int):=by omega
   have q5:(i:Int) < (n.sl.length:Int):=by omega
   obtain⟨ad,e5,hx0,hx1,hx2,hx3,hx4⟩:=at_T94 (HF.out.below HS.out.below).h0 (i:Int) p5 q5;cases e5;obtain⟨x,hx⟩:∃ x,x=rd_T94 n.sl (i:Int):=⟨_,rfl⟩;rw[← hx] at hx0 hx1 hx2 hx3 hx4;rw[Int.toNat_natCast] at hx0 hx1 hx2 hx3 hx4;have HX:=Aside0.mk (show n.sl[i]? = some x by rw[hx,rd_sl n.sl i c1,List.getElem?_eq_getElem c1]);have C1:=Aside0.mk c1;clear hx c1;replace p5:=eq_true p5;replace q5:=eq_true q5;have p6:i < 1048576:=by have:=HN.out.s0;have h_:=of_eq_true q5;omega
   cases hu:x.f1 with
   |false =>
    rw[hu] at hx1;have HU:=Aside0.mk hu;clear hu;go_wp2_with (first|((with_reducible refine gate_dst (N:=6) rfl ?_);refine box_event ?hg (N:=6) ?hd (cs:=#[.int .i64 0,.bool false,.string (⟨#[]⟩:ByteArray),.string (⟨#[]⟩:ByteArray),.int .i64 0]) (t:=94) ?hr ?_;(case hd=>rfl);(case hg=>rfl);(case hr=>first|(go_simp;done)|(go_simp;rfl));intro g6 hg w6 hbox hb;have S:=HS.out.new_blk hb (Nat.le_of_eq hg.symm) hbox;clear hb hbox hg;obtain⟨hz0,hz1,hz2,hz3,hz4⟩:=S.cells5 0 rfl;obtain⟨hf0,hf1,hf2,hf3,hf4⟩:=S.frozen5 0 rfl;have HS6:=Aside0.mk S;clear S));go_roundw
    case rel=>exact⟨i+1,acc,by go_num,⟨by have h_:=of_eq_true q5;omega⟩,⟨by rw[HA.out,usedK_next HX.out,if_neg (by simp[HU.out]),List.append_nil]⟩,⟨(((((HS6.out.put 0 (.int .i64 x.f0) rfl).put 1 (.bool false) rfl).put 2 (.string x.f2) rfl).put 3 (.string x.f3) rfl).put 4 (.int .i64 x.f4) rfl).tail⟩⟩
    case measure=>have h_:=of_eq_true q5;simp only [intOf];omega
   |true =>
    rw[hu] at hx1;have HU:=Aside0.mk hu;clear hu;have hal:acc.length≤1048576:=by rw[HA.out];have h1_:=usedK_len (n.sl.take i);have h2_:=HN.out.s0;rw[List.length_take] at h1_;omega
    have HAL:=Aside0.mk hal;clear hal;go_wp2_with (first|((with_reducible refine gate_dst (N:=6) rfl ?_);refine box_event ?hg (N:=6) ?hd (cs:=#[.int .i64 0,.bool false,.string (⟨#[]⟩:ByteArray),.string (⟨#[]⟩:ByteArray),.int .i64 0]) (t:=94) ?hr ?_;(case hd=>rfl);(case hg=>rfl);(case hr=>first|(go_simp;done)|(go_simp;rfl));intro g6 hg w6 hbox hb;have S:=HS.out.new_blk hb (Nat.le_of_eq hg.symm) hbox;clear hb hbox hg;obtain⟨hz0,hz1,hz2,hz3,hz4⟩:=S.cells5 0 rfl;obtain⟨hf0,hf1,hf2,hf3,hf4⟩:=S.frozen5 0 rfl;have HS6:=Aside0.mk S;clear S)|((with_reducible refine gate_builtin (b:=.append) (xs:=#[.tmp 44,.tmp 47]) rfl ?_);at_builtin;have S:=(((((HS6.out.put 0 (.int .i64 x.f0) rfl).put 1 (.bool true) rfl).put 2 (.string x.f2) rfl).put 3 (.string x.f3) rfl).put 4 (.int .i64 x.f4) rfl).tail;refine Kd.R_append Kd.string (w0:=w) w.heap.size rfl (.tmp 44) (.tmp 47) 28 9 (.string ⟨#[]⟩) 16 rfl Tryz.underlying28 info9 rfl (by decide) (by omega) u4 acc x.f2 [.string x.f2] (fun k_=>(w.heap.size≤k_)) (fun _=>False) rfl (by first|(go_simp;done)|(go_simp;rfl)) ?aP (fun _ hk=>hk.elim) ?aF ?aO ?aB ?aS ?aL ?_;(case aP=>exact rfl);(case aB=>exact S.below);(case aF=>exact(fun k_ hk=>Nat.le_trans S.below.size hk));(case aO=>exact(Kd.R_reok rfl (S.at_R 0 rfl) (fun k_ hk=>Kd.R_base (S.at_R 0 rfl) k_ hk)));(case aS=>exact S.below.size);(case aL=>have:=HAL.out;omega);intro v7 w7 ho hb hg hat;have S:=S.appended rfl hb hg ho hat;have HS7:=Aside0.mk S;clear S ho hb hg hat));go_roundw
    case rel=>exact⟨i+1,acc ++ [x.f2],by go_num,⟨by have h_:=of_eq_true q5;omega⟩,⟨by rw[HA.out,usedK_next HX.out,if_pos HU.out]⟩,⟨HS7.out⟩⟩
    case measure=>have h_:=of_eq_true q5;simp only [intOf];omega
  ·have c1b:decide ((i:Int) < (n.sl.length:Int))=false:=decide_eq_false (by omega)
   have c1c:decide (i < n.sl.length)=false:=decide_eq_false c1;have ha:acc=usedK n.sl:=by rw[HA.out,List.take_of_length_le (by omega)]
   have hal:acc.length≤1048576:=by rw[ha];exact Nat.le_trans (usedK_len _) HN.out.s0
   obtain⟨l1,hl1⟩:∃ q,q=sortS acc:=⟨_,rfl⟩;have hln:acc.length=l1.length:=by rw[hl1,sortS_len]
   have HS2:=Aside0.mk (show slices_Sort_string_string.f acc=some l1 by rw[hl1];exact sort_some (by omega));have HL:=Aside0.mk (show l1=sortS (usedK n.sl) by rw[hl1,ha]);have HLB:=Aside0.mk (show l1.length≤1048576 by omega);have S:=HS.out;clear HA HI HS ha hl1 hal;obtain⟨B1,d1,rfl⟩:=Kd.R_slice (S.at_R 0 rfl);rw[hln] at S ⊢;clear hln;have HS:=Aside0.mk S;clear S c1;go_wp2_with fail;refine(slices_Sort_string_string.calls (fun k=>some k=(Value.slice B1 l1.length d1).ownBlock) (.slice B1 l1.length d1) acc l1 w _ HS.out.below (HS.out.at_R 0 rfl) HS2.out).mono ?_;rintro e w5 ⟨rfl,hr,hb,hk⟩;have S:=HS.out.sorted rfl hb hr hk;clear HS hr hb hk HS2 c1b c1c;have HS:=Aside0.mk S;have hc2:=S.at_cell 2 rfl 2 rfl;have hc3:=S.at_cell 2 rfl 3 rfl;have hc4:=S.at_cell 2 rfl 4 rfl;clear S;go_wp2_with fail;obtain⟨ks,hks⟩:∃ q,q=sortS (keysC (n.ce ++ n.old)):=⟨_,rfl⟩;have hkk:∃ K,impl_Table_keys.f K n.ce n.old n.mv=some ks:=by
    obtain⟨K,hK⟩:=keysI_ev n.ce n.old n.mv HN.out.s2 HN.out.s3;exact⟨K,by rw[hks];exact hK K (Nat.le_refl _)⟩
   obtain⟨Kk,hKk⟩:=hkk;have HK:=Aside0.mk (show ks=sortS (keysC n.ce) by rw[hks,List.eq_nil_of_length_eq_zero (HQ1.out.1 trivial).old,List.append_nil]);have HKB:=Aside0.mk (show ks.length≤1048576 by rw[HK.out,sortS_len];exact Nat.le_trans (keysC_len _) HN.out.s2);clear hks;have hbb:=HS.out.below;refine(impl_Table_keys.calls Kk _ A2 c2 n.ce _ A3 c3 n.old n.mv ks _ (Kd.V_mk HF.out.l2 (Kd.C_F k151_heap (HF.out.below hbb).h2)) (Kd.V_mk HF.out.l3 (Kd.C_F k151_heap (HF.out.below hbb).h3)) hKk).mono ?_;rintro e w6 ⟨v6,rfl,hr,hb⟩;have S:=HS.out.new_row rfl hb hr;obtain⟨B2,d2,rfl⟩:=Kd.R_slice hr;clear hb hr hbb HS hKk hc2 hc3 hc4;have HS:=Aside0.mk S;clear S;go_wp2_with fail;obtain⟨Ka,hKa⟩:=eqS_ev q1 ks (by have:=HQB.out;omega);refine(slices_Equal_string_string.calls Ka B0 d0 q1 B2 d2 ks (decide (q1=ks)) _ (HS.out.at_C 2 rfl).2.2 (HS.out.at_C 2 rfl).2.1 (HS.out.at_C 0 rfl).2.2 (HS.out.at_C 0 rfl).2.1 (hKa Ka (Nat.le_refl _))).mono ?_;rintro e w7 ⟨rfl,hd⟩;have S:=HS.out.step hd.below;clear HS hd hKa;have HS:=Aside0.mk S;clear S;by_cases hA:q1=ks
   case neg =>
    rw[decide_eq_false hA];have HA:=Aside0.mk hA;clear hA;go_wp2_with fail;go_ret;exact⟨false,rfl,⟨fun h=>Bool.noConfusion h,fun h=>absurd (show q1=ks by rw[HQ.out,HK.out];exact sortS_congr h.queued) HA.out⟩,HS.out.below⟩
   rw[decide_eq_true hA];have HA:=Aside0.mk hA;clear hA;go_wp2_with fail;obtain⟨Kb,hKb⟩:=eqS_ev l1 ks (by have:=HLB.out;omega);refine(slices_Equal_string_string.calls Kb B1 d1 l1 B2 d2 ks (decide (l1=ks)) _ (HS.out.at_C 1 rfl).2.2 (HS.out.at_C 1 rfl).2.1 (HS.out.at_C 0 rfl).2.2 (HS.out.at_C 0 rfl).2.1 (hKb Kb (Nat.le_refl _))).mono ?_;rintro e w8 ⟨rfl,hd⟩;have S:=HS.out.step hd.below;clear HS hd hKb;have HS:=Aside0.mk S;clear S;by_cases hB:l1=ks
   case neg =>
    rw[decide_eq_false hB];have HB:=Aside0.mk hB;clear hB;go_wp2_with fail;go_ret;exact⟨false,rfl,⟨fun h=>Bool.noConfusion h,fun h=>absurd (show l1=ks by rw[HL.out,HK.out];exact sortS_congr h.laid) HB.out⟩,HS.out.below⟩
   rw[decide_eq_true hB];have HB:=Aside0.mk hB;clear hB;go_wp2_with fail;go_loopw [67] (fun v67 wr=>∃ j:Nat,v67=.int .i64 j∧Aside0 (j≤ks.length)∧Aside0 (∀ c ∈ n.ce,c.f0 ∈ ks.take j→linkC n c)∧Aside0 (St w wr [Part.row Kd.string 9 (.slice B2 ks.length d2) ks,Part.row Kd.string 9 (.slice B1 l1.length d1) l1,Part.row Kd.string 9 (.slice B0 q1.length d0) q1,Part.blk w.heap.size 50 #[Value.slice A0 n.sl.length c0,Value.int .i64 n.fr,Value.slice A2 n.ce.length c2,Value.slice A3 n.old.length c3,Value.int .i64 n.mv,Value.int .i64 n.wm,Value.slice A6 n.wk.length c6,Value.int .i64 n.tm,Value.slice A8 n.tk.length c8,Value.int .i64 n.sm,Value.slice A10 n.sk.length c10,Value.slice A11 n.ct.length c11,Value.int .i64 n.ad,Value.int .i64 n.db]])) (fun v67 _=>ks.length - (intOf v67).toNat)
   case atStart=>exact⟨0,rfl,⟨by omega⟩,⟨by simp⟩,⟨HS.out⟩⟩
   case round =>
    clear HS;obtain⟨j,rfl,HJ,HG,HS⟩:=hrel;by_cases c1:j < ks.length
    ·have c1b:decide ((j:Int) < (ks.length:Int))=true:=decide_eq_true (by omega)
     have p5:(0:Int)≤(j:Int):=by omega
     have q5:(j:Int) < (ks.length:Int):=by omega
     have c1c:decide (j < ks.length)=true:=decide_eq_true c1;have p6:j < 1048576:=by have:=HKB.out;omega
     obtain⟨ad,e5,hx0⟩:=Kd.at_string (HS.out.at_C 0 rfl).2.2 (j:Int) p5 q5;cases e5;rw[Int.toNat_natCast,rdS_at ks j c1] at hx0;obtain⟨key,hkey⟩:∃ y,y=ks[j]:=⟨_,rfl⟩;rw[← hkey] at hx0;have hmem:key ∈ keysC n.ce:=by
      have h_:key ∈ ks:=hkey ▸ List.getElem_mem c1;rw[HK.out] at h_;exact(sortS_perm _).mem_iff.1 h_
     have hkj:ks[j]? = some key:=by rw[hkey,List.getElem?_eq_getElem c1]
     clear hkey;obtain⟨c,hc,hck,hks⟩:=(TM.mem_keysOf S151.f0).1 hmem;subst hck;have HC:=Aside0.mk hc;have HKS:=Aside0.mk hks;have HKJ:=Aside0.mk (show ∃ m,m=j∧ks[m]? = some c.f0 from⟨j,rfl,hkj⟩);clear hc hks hkj hmem c1;replace p5:=eq_true p5;replace q5:=eq_true q5;have hc2:=HS.out.at_cell 3 rfl 2 rfl;have hc3:=HS.out.at_cell 3 rfl 3 rfl;have hc4:=HS.out.at_cell 3 rfl 4 rfl;go_wp2_with fail;obtain⟨Kf,hKf⟩:=findI_ev HN.out (HQ0.out.1 trivial) HC.out HKS.out;have hbb:=HS.out.below;refine(impl_Table_find.calls Kf A2 c2 n.ce A3 c3 n.old n.mv c.f0 c.f1 true _ (HF.out.below hbb).h2 HF.out.l2 (HF.out.below hbb).h3 HF.out.l3 (hKf Kf (Nat.le_refl _))).mono ?_;rintro e w9 ⟨rfl,hb⟩;have S:=HS.out.step hb;clear HS hb hbb hKf hc2 hc3 hc4 hx0;have HS:=Aside0.mk S;obtain⟨hc0,hc1⟩:=S.cells2 3 rfl;clear S;go_wp2_with fail;obtain⟨pl,hpl⟩:∃ p,p=plV (placeOf n.sl c.f1):=⟨_,rfl⟩;have hbb:=HS.out.below;refine(impl_Arena_place.calls A0 c0 n.sl n.fr c.f1 pl _ (HF.out.below hbb).h0 HF.out.l0 (by rw[hpl];exact placeI _ _ _ (HQ0.out.1 trivial).arena)).mono ?_;rintro e w10 ⟨rfl,hb⟩;have S:=HS.out.step hb;clear HS hb hbb hc0 hc1;have HS:=Aside0.mk S;have hc0:=S.at_cell 3 rfl 0 rfl;clear S;cases hp:placeOf n.sl c.f1 with
     |none =>
      obtain rfl:pl = -1:=by rw[hpl,hp];rfl
      have HP:=Aside0.mk hp;clear hp hpl;go_wp2_with fail;go_ret;exact⟨false,rfl,⟨fun h=>Bool.noConfusion h,fun h=>by
       obtain⟨k,x,hx,hu,hh,_⟩:=h.linked c HC.out HKS.out;have:=(placeOf_some (HQ0.out.1 trivial).arena).2 ⟨x,hx,hu,hh⟩;rw[HP.out] at this;cases this⟩,HS.out.below⟩
     |some k =>
      obtain rfl:pl=(k:Int):=by rw[hpl,hp];rfl
      obtain⟨x,hx,hu,hh⟩:=(placeOf_some (HQ0.out.1 trivial).arena).1 hp;have hkl:k < n.sl.length:=(List.getElem?_eq_some_iff.1 hx).1;have k5:(0:Int)≤(k:Int):=by omega
      have l5:(k:Int) < (n.sl.length:Int):=by omega
      have k6:decide ((k:Int) < 0)=false:=decide_eq_false (by omega);obtain⟨ad2,e6,_,_,hy2,_,_⟩:=at_T94 (HF.out.below HS.out.below).h0 (k:Int) k5 l5;cases e6;rw[Int.toNat_natCast,rd_get hx] at hy2;have HP:=Aside0.mk hp;have HL2:=Aside0.mk (show ∃ (m:Nat) (y:S94),n.sl[m]? = some y∧y.f1=true∧24 * y.f0+(m:Int)=c.f1∧m=k∧y=x from⟨k,x,hx,hu,hh,rfl,rfl⟩);clear hp hpl hx hu hh hkl;replace k5:=eq_true k5;replace l5:=eq_true l5;by_cases hkx:x.f2=c.f0
      ·have t1:(x.f2.toList == c.f0.toList)=true:=beq_iff_eq.2 (by rw[hkx])
       have t2:(x.f2.toList != c.f0.toList)=false:=bne_eq_false_iff_eq.2 (by rw[hkx]);have HX:=Aside0.mk hkx;clear hkx;go_wp2_with fail;go_roundw
       case rel =>
        refine⟨j+1,by go_num,⟨by have h_:=of_eq_true q5;omega⟩,⟨fun c' hc' hm'=>?_⟩,HS⟩;obtain⟨m,hm,hj⟩:=HKJ.out;rw[List.take_add_one,← hm,hj] at hm'
        rcases List.mem_append.1 hm' with h1|h1
        ·rw[hm] at h1;exact HG.out c' hc' h1
        ·obtain rfl:=same_cell (HQ0.out.1 trivial) HC.out hc' HKS.out (by simpa using h1)
         obtain⟨m',y',hx',hu',hh',rfl,rfl⟩:=HL2.out;exact⟨m',y',hx',hu',hh',HX.out⟩
       case measure=>have h_:=of_eq_true q5;simp only [intOf];omega
      ·have t1:(x.f2.toList == c.f0.toList)=false:=beq_eq_false_iff_ne.2 (fun e=>hkx (str_eq.1 e))
       have t2:(x.f2.toList != c.f0.toList)=true:=bne_iff_ne.2 (fun e=>hkx (str_eq.1 e));have HX:=Aside0.mk hkx;clear hkx;go_wp2_with fail;go_ret;exact⟨false,rfl,⟨fun h=>Bool.noConfusion h,fun h=>by
        obtain⟨m,y,hx,hu,hh,hk⟩:=h.linked c HC.out HKS.out;have h2:=(placeOf_some (HQ0.out.1 trivial).arena).2 ⟨y,hx,hu,hh⟩;obtain⟨m',y',hx',hu',hh',rfl,rfl⟩:=HL2.out;rw[HP.out] at h2;obtain rfl:=Option.some.inj h2;rw[hx'] at hx;obtain rfl:=Option.some.inj hx;exact(HX.out hk).elim⟩,HS.out.below⟩
    ·have c1b:decide ((j:Int) < (ks.length:Int))=false:=decide_eq_false (by omega)
     have c1c:decide (j < ks.length)=false:=decide_eq_false c1;have HT:=Aside0.mk (show ks.take j=ks from List.take_of_length_le (by omega));clear c1;go_wp2_with fail;go_ret;refine⟨true,rfl,⟨fun _=>⟨HQ0.out.1 trivial,HQ1.out.1 trivial,perm_of_sort (by rw[← HQ.out,HA.out,HK.out]),perm_of_sort (by rw[← HL.out,HB.out,HK.out]),fun c hc hk=>HG.out c hc ?_⟩,fun _=>rfl⟩,HS.out.below⟩;rw[HT.out,HK.out];exact(sortS_perm _).mem_iff.2 ((TM.mem_keysOf S151.f0).2 ⟨c,hc,rfl,hk⟩)
end Go.Proofs.YtediiolcoilepaaGreat.Nb
