/- Walks of callees. -/
import Derived.Test.YtediiolcoilepaaGreatNbA
namespace Go.Proofs.YtediiolcoilepaaGreat.GNear
set_option maxHeartbeats 8000000
set_option maxRecDepth 100000
open Go.RowKit YtediiolcoilepaaGreatW.PrintWords YtediiolcoilepaaGreatW.PrintLast YtediiolcoilepaaGreatW.PrintMore
attribute [local go_sem] A4b A4c A5j A5k A3u A3v A4d A4e
def A1p.l0:Nat→List (S94)→Int→Int→List (S94)→Int→Option (Bool)
|0,_,_,_,_,_=>none
|k+1,x6,x7,x8,x341000,x341001=>if x8 < x7 then (if 0≤x8 then (if x8 < (x6.length:Int) then ((A3o.f ((A0p x6 x8).f0) ((A0p x6 x8).f1) ((A0p x6 x8).f2) ((A0p x6 x8).f3) ((A0p x6 x8).f4)).bind fun t343=>(if t343=true then (A1p.l0 k x6 x7 (wrap64 (x8+1)) x341000 x341001) else (some false))) else (none)) else (none)) else ((A0n.f (x341000.length:Int) 1 24).bind fun t344=>(if t344=true then ((A00.f k x341000 x341001).bind fun t345=>((A04.f k x341000 x341001).bind fun t346=>(some (t345 == (wrap64 ((x341000.length:Int) - t346)))))) else (some false)))
def A1p.f (k:Nat) (l0_0:List (S94)) (a0_1:Int):Option (Bool):=A1p.l0 k l0_0 (l0_0.length:Int) 0 l0_0 a0_1
theorem A1p.calls (k:Nat) (A0_0:Option Addr) (c0_0:Nat) (l0_0:List (S94)) (a0_1:Int) (r:Bool) (w:World) (hr0_0:Kd.C k94 w A0_0 l0_0.length l0_0) (hc0_0:l0_0.length≤c0_0) (h:A1p.f k l0_0 a0_1=some r) :
  Calls Tryz.prog 125 #[.agg #[.slice A0_0 l0_0.length c0_0,.int .i64 a0_1]] w fun e w'=>e=.returned (.bool r)∧Below w.heap.size w w':=by
 have hu94:=Tryz.underlying94;have HA:=B98 hr0_0;have HC:=B98 hc0_0;have HH:=B98 (show A1p.l0 k l0_0 (l0_0.length:Int) ((0:Nat):Int) l0_0 a0_1=some r from h);have HS:=B98 (Nb.St.start w);clear hr0_0 hc0_0 h;go_enter Tryz.func125,Tryz.ntmps125;go_wp2_with (first|((with_reducible refine A0b (N:=1) rfl ?_);refine Nb.boxS HS (N:=1) fun g1 w1 S=>?_;clear HS;have HS:=B98 S;obtain⟨ha0,ha1⟩:=S.cells2 0 rfl;clear S));clear ha0 ha1;go_loopw [8] (fun v8 w'=>∃ (i kq:Nat) (ps:List Nb.Part),v8=.int .i64 i∧A0a (i≤l0_0.length)∧A0a (A1p.l0 kq l0_0 (l0_0.length:Int) (i:Int) l0_0 a0_1=some r)∧A0a (Nb.St w w' (Nb.Part.blk g1 42 #[.slice A0_0 l0_0.length c0_0,.int .i64 a0_1] :: ps))) (fun v8 _=>l0_0.length - (intOf v8).toNat)
 case atStart=>exact⟨0,k,[],rfl,⟨by omega⟩,HH,HS⟩
 case round =>
  clear HS HH;obtain⟨i,kq,ps,rfl,HI,HH,HS⟩:=hrel;have H:=HH.o;clear HH;cases kq with
  |zero=>simp[A1p.l0] at H
  |succ kq =>
  simp only [A1p.l0] at H;by_cases c1:i < l0_0.length
  ·have p5:(0:Int)≤(i:Int):=by omega
   have q5:(i:Int) < (l0_0.length:Int):=by omega
   rw[if_pos q5,if_pos p5,if_pos q5] at H;obtain⟨b,hb,H⟩:=C0f.mp H;obtain⟨ad,e5,hy0,hy1,hy2,hy3,hy4⟩:=A2d HA.o (i:Int) p5 q5;cases e5;obtain⟨x,hx⟩:∃ x,x=A0p l0_0 (i:Int):=⟨_,rfl⟩;rw[← hx] at hy0 hy1 hy2 hy3 hy4 hb;rw[C0k] at hy0 hy1 hy2 hy3 hy4;obtain⟨bo,hbo⟩:∃ b,i * 5=b:=⟨_,rfl⟩;rw[hbo] at hy0 hy1 hy2 hy3 hy4;have es:=w64n i (by have h1:=HA.o.2.1;unfold maxLen at h1;omega);have HB:=B98 hb;have H2:=B98 H;have HI2:=B98 c1;have hlt:=World.block_lt_of_cell? w _ hy0;have hz0:=(HS.o.below.cell hlt).trans hy0;have hz1:=(HS.o.below.cell (p:=⟨(ad.add bo).block,(ad.add bo).off+1,none⟩) hlt).trans hy1;have hz2:=(HS.o.below.cell (p:=⟨(ad.add bo).block,(ad.add bo).off+2,none⟩) hlt).trans hy2;have hz3:=(HS.o.below.cell (p:=⟨(ad.add bo).block,(ad.add bo).off+3,none⟩) hlt).trans hy3;have hz4:=(HS.o.below.cell (p:=⟨(ad.add bo).block,(ad.add bo).off+4,none⟩) hlt).trans hy4;have d1:decide ((i:Int) < (l0_0.length:Int))=true:=B99 q5;have d2:decide (i < l0_0.length)=true:=B99 c1;replace p5:=eq_true p5;replace q5:=eq_true q5;clear hb H hx hy0 hy1 hy2 hy3 hy4 hlt;go_upto_region 4 with (first|((with_reducible refine A0b (N:=4) rfl ?_);refine Nb.boxS HS (N:=4) fun g4 w4 S=>?_;clear HS;have HS:=B98 S;obtain⟨hs0,hs1,hs2,hs3,hs4⟩:=S.cells5 0 rfl;obtain⟨fs0,fs1,fs2,fs3,fs4⟩:=S.frozen5 0 rfl;clear S));have S:=HS.o;clear HS hs0 fs0 hz0 hs1 fs1 hz1 hs2 fs2 hz2 hs3 fs3 hz3 hs4 fs4 hz4;have S:=S.put (cs':=#[.int .i64 x.f0,.bool false,.string ⟨#[]⟩,.string ⟨#[]⟩,.int .i64 0]) 0 (.int .i64 x.f0) rfl;have S:=S.put (cs':=#[.int .i64 x.f0,.bool x.f1,.string ⟨#[]⟩,.string ⟨#[]⟩,.int .i64 0]) 1 (.bool x.f1) rfl;have S:=S.put (cs':=#[.int .i64 x.f0,.bool x.f1,.string x.f2,.string ⟨#[]⟩,.int .i64 0]) 2 (.string x.f2) rfl;have S:=S.put (cs':=#[.int .i64 x.f0,.bool x.f1,.string x.f2,.string x.f3,.int .i64 0]) 3 (.string x.f3) rfl;have S:=S.put (cs':=#[.int .i64 x.f0,.bool x.f1,.string x.f2,.string x.f3,.int .i64 x.f4]) 4 (.int .i64 x.f4) rfl;obtain⟨w5,hw,S⟩:∃ w',w'=_∧Nb.St w w' _:=⟨_,rfl,S⟩;rw[← hw];clear hw;have HS:=B98 S;obtain⟨hs0,hs1,hs2,hs3,hs4⟩:=S.cells5 0 rfl;clear S;go_wp2_with fail;refine(A3o.calls x.f0 x.f1 x.f2 x.f3 x.f4 b _ HB.o).mono ?_;rintro e w6 ⟨rfl,hb⟩;have S:=HS.o.step hb;clear HS hb hs0 hs1 hs2 hs3 hs4;have HS:=B98 S.swap;clear S;have H:=H2.o;cases b with
   |false =>
    obtain rfl:=C0d H;clear H;go_wp2_with fail;go_ret;exact⟨rfl,HS.o.below⟩
   |true =>
    rw[es] at H;have HH:=B98 H;clear H H2;go_wp2_with fail;go_roundw
    case rel=>exact⟨i+1,kq,_,by rw[es],⟨by have:=HI2.o;omega⟩,HH,HS⟩
    case measure=>rw[es];have:=HI2.o;simp only [intOf];omega
  ·rw[if_neg Zo] at H
   have d1:decide ((i:Int) < (l0_0.length:Int))=false:=C0a Zo;have d2:decide (i < l0_0.length)=false:=C0a c1;obtain⟨b,hb,H⟩:=C0f.mp H;have HB:=B98 hb;clear hb c1;go_wp2_with fail;have hne:Nonempty (Nb.WSt w (Nb.Part.blk g1 42 #[.slice A0_0 l0_0.length c0_0,.int .i64 a0_1] :: ps)):=⟨⟨_,HS.o⟩⟩;have ha0:∀ p:Nb.WSt w (Nb.Part.blk g1 42 #[.slice A0_0 l0_0.length c0_0,.int .i64 a0_1] :: ps),p.w'.cell? ⟨g1,0,none⟩=some (.slice A0_0 l0_0.length c0_0):=fun p=>p.st.at_cell 0 rfl 0 rfl;have ha1:∀ p:Nb.WSt w (Nb.Part.blk g1 42 #[.slice A0_0 l0_0.length c0_0,.int .i64 a0_1] :: ps),p.w'.cell? ⟨g1,1,none⟩=some (.int .i64 a0_1):=fun p=>p.st.at_cell 0 rfl 1 rfl
   cases b with
   |false =>
    obtain rfl:=C0d H;clear H;refine Nb.A0s (C:=fun w'=>∃ p:Nb.WSt w (Nb.Part.blk g1 42 #[.slice A0_0 l0_0.length c0_0,.int .i64 a0_1] :: ps),w'=p.w') Zk Zk ⟨⟨_,HS.o.drew⟩,rfl⟩ ?_
    repeat(go_big_quiet_step ((go_at_call 89;refine(A0n.calls (l0_0.length:Int) 1 24 _ _ HB.o).mono ?_;rintro e w2 ⟨rfl,hb⟩;exact⟨rfl,Nb.WSt.on _ Zh⟩)))
    refine wpQuiet_nil ?_;rintro w9 ⟨⟨w9,S⟩,rfl⟩;clear ha0 ha1;go_wp2_with fail;go_ret;exact⟨rfl,S.below⟩
   |true =>
    obtain⟨c,hc,H⟩:=C0f.mp H;obtain⟨u,hu,H⟩:=C0f.mp H;have HCH:=B98 hc;have HUS:=B98 hu;have HR:=B98 (C0d H);clear hc hu H;refine Nb.A0s (C:=fun w'=>∃ p:Nb.WSt w (Nb.Part.blk g1 42 #[.slice A0_0 l0_0.length c0_0,.int .i64 a0_1] :: ps),w'=p.w') Zk Zk ⟨⟨_,HS.o.drew⟩,rfl⟩ ?_
    repeat(go_big_quiet_step (first|(go_at_call 89;refine(A0n.calls (l0_0.length:Int) 1 24 _ _ HB.o).mono ?_;rintro e w2 ⟨rfl,hb⟩;exact⟨rfl,Nb.WSt.on _ Zh⟩)|(go_at_call 191;refine(A00.calls kq A0_0 c0_0 l0_0 a0_1 c _ (Kd.C_below HA.o (Nb.WSt.st _).below) HC.o HCH.o).mono ?_;rintro e w2 ⟨rfl,hb⟩;exact⟨rfl,Nb.WSt.on _ Zh⟩)|(go_at_call 64;refine(A04.calls kq A0_0 c0_0 l0_0 a0_1 u _ (Kd.C_below HA.o (Nb.WSt.st _).below) HC.o HUS.o).mono ?_;rintro e w2 ⟨rfl,hb⟩;exact⟨rfl,Nb.WSt.on _ Zh⟩)))
    refine wpQuiet_nil ?_;rintro w9 ⟨⟨w9,S⟩,rfl⟩;clear ha0 ha1;go_wp2_with fail;go_ret;rw[← HR.o];exact⟨rfl,S.below⟩
section
structure Flat {α:Type} (d:Kd α) (enc:α→List Value):Prop where
 E:d.E = []
 K:∀ w x cs,d.K w x cs ↔ cs=enc x
 M:∀ w base ok x cs,d.M w base ok x cs ↔ cs=enc x
 len:∀ x,(enc x).length=d.sz
 one:∀ x,∀ v ∈ enc x,v.oneCell'=true
theorem A2p {α:Type} (enc:α→List Value) (sz:Nat) (hl:∀ x,(enc x).length=sz):∀ (xs:List α) (j:Nat) (x:α),xs[j]? = some x→((xs.flatMap enc).drop (j * sz)).take sz=enc x
|[],j,x,h=>by simp at h
|y :: ys,0,x,h=>by
  obtain rfl:=C0d h;rw[List.flatMap_cons,Nat.zero_mul,List.drop_zero,List.take_left' (hl y)]
|y :: ys,j+1,x,h=>by
  rw[List.flatMap_cons,Nat.succ_mul,Nat.add_comm,← List.drop_drop,List.drop_left' (hl y)];exact A2p enc sz hl ys j x h
theorem A2l {α:Type} (enc:α→List Value) (sz:Nat) (hl:∀ x,(enc x).length=sz):∀ (xs:List α),(xs.flatMap enc).length=xs.length * sz
|[]=>by simp
|y :: ys=>by rw[List.flatMap_cons,List.length_append,hl,A2l enc sz hl ys,List.length_cons,Nat.succ_mul,Nat.add_comm]
theorem A4j {α:Type} (enc:α→List Value) (sz:Nat) (hl:∀ x,(enc x).length=sz) {R:α→List Value→Prop} (hR:∀ x cs,R x cs ↔ cs=enc x) :
  ∀ (xs:List α) (cs:List Value),Reps R sz xs cs ↔ cs=xs.flatMap enc
|[],cs=>by
  constructor
  ·rintro ⟨h,_⟩
   rw[List.length_nil,Nat.zero_mul] at h;rw[List.eq_nil_of_length_eq_zero h];rfl
  ·rintro rfl;exact Reps.none _ _
|y :: ys,cs=>by
  constructor
  ·rintro ⟨h,hr⟩
   have h0:cs.take sz=enc y:=by
    have:=(hR _ _).1 (hr 0 y rfl)
    rwa [Nat.zero_mul,List.drop_zero] at this
   have h1:=(A4j enc sz hl hR ys (cs.drop sz)).1 ⟨by rw[List.length_drop,h,List.length_cons,Nat.succ_mul];omega,fun j p hj=>by
    have:=hr (j+1) p hj
    rwa [Nat.succ_mul,Nat.add_comm,← List.drop_drop] at this⟩
   rw[List.flatMap_cons,← h0,← h1,List.take_append_drop]
  ·rintro rfl
   exact⟨A2l enc sz hl _,fun j p hj=>(hR _ _).2 (A2p enc sz hl _ j p hj)⟩
theorem A6l {α:Type} {d:Kd α} {enc:α→List Value} (F:Flat d enc) {e base:Nat} {ok:Nat→Prop} {w:World} {A:Option Addr} {n c:Nat} {xs:List α} (h:d.R e w base ok (.slice A n c) xs) :
  n=xs.length∧((A=none∧n=0∧c=0) ∨ ∃ g cur,A=some ⟨g,0,none⟩∧ok g∧base≤g∧w.heap[g]? = some (.cells cur e (0,0))∧n≤c∧c≤maxLen∧cur.size=c * d.sz∧cur.toList.take (n * d.sz)=xs.flatMap enc):=by
 obtain⟨h0,inner,⟨hlen,ho⟩,hr⟩:=h;obtain rfl:=(A4j enc d.sz F.len (fun x cs=>F.M _ _ _ x cs) xs inner).1 hr
 rcases ho with ⟨hv,hn⟩|⟨g,cap,cur,hv,hb,hc,hn,hm,hs,ht⟩
 ·obtain⟨rfl,rfl,rfl⟩:=Value.slice.inj hv
  exact⟨hn.symm,.inl ⟨rfl,rfl,rfl⟩⟩
 ·obtain⟨rfl,rfl,rfl⟩:=Value.slice.inj hv
  exact⟨rfl,.inr ⟨g,cur,rfl,h0 g rfl,hb,hc,hn,hm,hs,ht⟩⟩
theorem A7j {α:Type} {d:Kd α} {enc:α→List Value} (F:Flat d enc) {e base:Nat} {ok:Nat→Prop} {w:World} {g n c:Nat} {cur:Array Value} {xs:List α} (hk:ok g) (hb:base≤g)
  (hc:w.heap[g]? = some (.cells cur e (0,0))) (hn:n=xs.length) (hnc:n≤c) (hm:c≤maxLen) (hs:cur.size=c * d.sz) (ht:cur.toList.take (n * d.sz)=xs.flatMap enc) :
  d.R e w base ok (.slice (some ⟨g,0,none⟩) n c) xs:=by
 subst hn;refine⟨fun k hk'=>?_,xs.flatMap enc,⟨A2l enc d.sz F.len xs,.inr ⟨g,c,cur,rfl,hb,hc,hnc,hm,hs,ht⟩⟩,(A4j enc d.sz F.len (fun x cs=>F.M _ _ _ x cs) xs _).2 rfl⟩;simp[Value.ownBlock] at hk';rw[← hk'];exact hk
theorem B0g {α:Type} {d:Kd α} {enc:α→List Value} (F:Flat d enc) {w:World} {A:Option Addr} {n:Nat} {xs:List α} (h:d.C w A n xs) (hp:0 < n) :
  ∃ ad,A=some ad∧∀ j v,(xs.flatMap enc)[j]? = some v→w.cell? (ad.add j)=some v:=by
 obtain⟨h1,_,h2⟩:=h;obtain⟨ad,e,hc⟩:=h2 hp;refine⟨ad,e,fun j v hj=>?_⟩;have hjl:j < xs.length * d.sz:=by
  have:=(C0e.1 hj).1
  rwa [A2l enc d.sz F.len] at this
 have hs:0 < d.sz:=by
  rcases Nat.eq_zero_or_pos d.sz with h|h
  ·rw[h,Nat.mul_zero] at hjl;omega
  ·exact h
 have hq:j / d.sz < xs.length:=Nat.div_lt_of_lt_mul (by rwa [Nat.mul_comm] at hjl);obtain⟨c,hc1,hc2,hc3⟩:=hc (j / d.sz) xs[j / d.sz] (C0c hq);obtain rfl:=(F.K _ _ _).1 hc2;have ht:=A2p enc d.sz F.len xs (j / d.sz) _ (C0c hq);have hm:=Nat.mod_lt j hs;have hdm:=Nat.div_add_mod' j d.sz;have:=hc3 (j % d.sz) v (by
  rw[← ht,List.getElem?_take,if_pos hm,List.getElem?_drop,hdm];exact hj)
 rwa [hdm] at this
theorem B21 {α:Type} {d:Kd α} {enc:α→List Value} (F:Flat d enc) {w:World} {ad:Addr} {n:Nat} {xs:List α} (h:d.C w (some ad) n xs) (hp:0 < n) (j:Nat) (v:Value) (hj:(xs.flatMap enc)[j]? = some v):w.cell? (ad.add j)=some v:=by
 obtain⟨ad',e,hc⟩:=B0g F h hp;obtain rfl:=C0d e;exact hc j v hj
theorem B6y {w:World} {g e:Nat} {cur:Array Value} (hc:w.heap[g]? = some (.cells cur e (0,0))) {cs:List Value} {m:Nat} (ht:cur.toList.take m=cs) (j:Nat) (v:Value) (hj:cs[j]? = some v):w.cell? ⟨g,j,none⟩=some v:=by
 rw[zO hc j];subst ht;rw[List.getElem?_take] at hj;split at hj
 ·rw[← Array.getElem?_toList];exact hj
 ·cases hj
end
theorem FS:Flat Kd.string (fun s:ByteArray=>[Value.string s]) where
 E:=rfl
 K:=fun _ _ _=>Iff.rfl
 M:=fun _ _ _ _ _=>Iff.rfl
 len:=fun _=>rfl
 one:=fun x v h=>by rw[List.mem_singleton.1 h];rfl
theorem B0h (l:List ByteArray):l.flatMap (fun s:ByteArray=>[Value.string s])=l.map Value.string:=by
 induction l with
|nil=>rfl
|cons a l ih=>rw[List.flatMap_cons,ih];rfl
section
open Go.Lib Go.Sort
shelf_lay Lays.n190 Nm 190 at Tryz as slices_Sort_string_string_lay
def A1m (l:List ByteArray):List ByteArray:=((l.map fun s:ByteArray=>s.data.toList).mergeSort fun x y=>decide (x≤y)).map fun b=>(⟨b.toArray⟩:ByteArray)
theorem B0i (l:List ByteArray):(A1m l).length=l.length:=by simp[A1m]
def A01.f (l0:List ByteArray):Option (List ByteArray):=if l0.length≤4194304 then some (A1m l0) else none
theorem A01.calls (P0_:Nat→Prop) (u9000_:Value) (l0:List ByteArray) (r:List ByteArray) (w0 w:World) (hB:Below w0.heap.size w0 w) (ho0:Kd.R Kd.string 9 w w0.heap.size P0_ u9000_ l0) (h:A01.f l0=some r) :
  Calls Tryz.prog 54 #[u9000_] w fun e w'=>e=.returned (.tuple #[])∧Kd.R Kd.string 9 w' w0.heap.size (fun k_=>(P0_ k_ ∨ w.heap.size≤k_)) u9000_ r∧Below w0.heap.size w0 w'∧Kept w w' (fun k_=>P0_ k_):=by
 unfold A01.f at h
 split at h
 case isFalse=>cases h
 case isTrue hl =>
 obtain rfl:=C0d h;obtain⟨A,c,rfl⟩:=Kd.R_slice ho0;obtain⟨_,⟨rfl,hn,rfl⟩|⟨g,cur,rfl,hk,hb,hc,hnc,hm,hs,ht⟩⟩:=A6l FS ho0
 ·obtain rfl:=List.eq_nil_of_length_eq_zero hn
  refine(Any.slices_Sort_string_none slices_Sort_string_string_lay none 0 w).mono ?_;rintro e w' ⟨rfl,rfl⟩;rw[show A1m [] = [] by simp[A1m]];exact⟨rfl,Kd.R_nil _ _ _ _ _,hB,Kept.refl _ _⟩
 ·have hsz:(Kd.string).sz=1:=rfl
  rw[hsz,Nat.mul_one] at ht hs;rw[B0h] at ht;have hlen:(l0.map fun s:ByteArray=>s.data.toList).length=l0.length:=List.length_map _;have hms:(l0.map fun s:ByteArray=>s.data.toList).map encStr=l0.map Value.string:=by
   rw[List.map_map];exact List.map_congr_left (fun s _=>rfl)
  have hcon:=Any.slices_Sort_string slices_Sort_string_string_lay g 0 c (l0.map fun s:ByteArray=>s.data.toList) w (holds_of_block hc (by rw[hlen,hms];exact ht)) (A6c hc) (by rw[hlen];omega);rw[hlen] at hcon;refine hcon.mono ?_;rintro e w' ⟨rfl,n,os,rfl⟩;have hg:=grownBy_sorted (w:=w) (g:=g) (n:=n) (os:=os) ((l0.map fun s:ByteArray=>s.data.toList).mergeSort fun x y=>decide (x≤y)).toArray;have hh:=heap_sorted (n:=n) (os:=os) ((l0.map fun s:ByteArray=>s.data.toList).mergeSort fun x y=>decide (x≤y)).toArray hc;refine⟨rfl,?_,hB.grown hg hB.size (fun j e=>by rw[← C0d e];exact hb),Kept.of_grown hg (Kept.refl w _) (fun k e=>.inl (by rw[← C0d e];exact hk))⟩;refine A7j FS (.inl hk) hb hh (B0i l0).symm hnc hm ?_ ?_
  ·rw[hsz,Nat.mul_one];simp[putCells,hs]
  ·rw[hsz,Nat.mul_one,B0h]
   have h1:=take_putCells cur ((l0.map fun s:ByteArray=>s.data.toList).mergeSort fun x y=>decide (x≤y)) (by simp;omega);rw[List.length_mergeSort,hlen] at h1;rw[h1,A1m,List.map_map];rfl
end
def A38 (x:S151):List Value:=[.string x.f0,.int .i64 x.f1]
theorem F151:Flat k151 A38 where
 E:=rfl
 K:=fun w x cs=>⟨fun h=>A7u h,fun h=>h ▸ B3t w x⟩
 M:=fun w base ok x cs=>⟨fun h=>A8o h,fun h=>h ▸ A54 w base ok x⟩
 len:=fun _=>rfl
 one:=fun x v h=>by
  simp only [A38,List.mem_cons,List.not_mem_nil,or_false] at h;rcases h with rfl|rfl <;> rfl
section
theorem A6v (n:Nat) (hn:n≤4194304) (w:World) :
  Calls Tryz.prog 205 #[.slice none 0 0,.int .i64 (n:Int)] w fun e w'=>∃ v,e=.returned v∧Kd.R k151 151 w' w.heap.size (fun _=>True) v ([]:List S151)∧Below w.heap.size w w':=by
 have HB:=B98 (Below.refl w.heap.size w);have HN:=B98 hn;have n1:((n:Int) < 0)=False:=by simp
 by_cases h0:n=0
 ·subst h0
  go_enter Tryz.func205,Tryz.ntmps205
  go_wp2
  go_ret;exact⟨_,rfl,Kd.R_nil _ _ _ _ _,HB.o⟩
 ·have n2:(0:Int) < (n:Int):=by omega
  go_enter Tryz.func205,Tryz.ntmps205;go_wp2_with ((with_reducible refine A1c (b:=.append) (xs:=#[.tmp 20,.tmp 21]) rfl ?_);at_builtin;refine Kd.R_append_zeros k151 (w0:=w) w.heap.size rfl (.tmp 20) (.tmp 21) 43 3 151 (.agg #[(.string ⟨#[]⟩),(.int .i64 0)]) 24 rfl Tryz.underlying43 Tryz.underlying3 A4y rfl Zd Zo (.slice none 0 0) [] z151 (n:Int) (fun _=>True) rfl rfl ?aZ (fun _ _=>trivial) (Kd.R_nil _ _ _ _ _) ?a0 ?aB ?aS ?aL ?_;(case aZ=>exact(F151.M _ _ _ _ _).2 rfl);(case a0=>omega);(case aB=>exact HB.o);(case aS=>exact Nat.le_refl _);(case aL=>have:=HN.o;simp only [List.length_nil,Int.toNat_natCast];omega);intro v1 w1 ho1 hb1 hg_ hat_;clear hg_ hat_;obtain⟨Ao,co,eo⟩:=Kd.R_slice ho1;subst eo;have HO:=B98 (Kd.R_take ho1 (Nat.zero_le _));have HB1:=B98 hb1;clear ho1 hb1 HB);go_ret;exact⟨_,rfl,by simpa using HO.o,HB1.o⟩
theorem A5n {w:World} {A:Option Addr} {n:Nat} {xs:List (List S151)} (h:Kd.C (Kd.slice 151 k151) w A n xs) (i:Nat) (hi:i < n):∃ ad A0 c0,A=some ad∧w.cell? (ad.add i)=some (.slice A0 (xs.getD i []).length c0)∧(xs.getD i []).length≤c0∧Kd.C k151 w A0 (xs.getD i []).length (xs.getD i []):=by
 obtain⟨ad,c,e,_,hK,hc⟩:=Kd.C_get h ([]:List S151) (i:Int) Zo Zo;obtain⟨A0,c0,rfl,h1,h2⟩:=hK;have:=hc 0 _ rfl;rw[C0k,show(Kd.slice 151 k151).sz=1 from rfl,Nat.mul_one,Nat.add_zero] at this;exact⟨ad,A0,c0,e,this,h1,h2⟩
theorem A49 (l:List (List S151)) (k:Nat) (hk:k < l.length):((l.take (k+1)).map List.length).sum=((l.take k).map List.length).sum+(l.getD k []).length:=by
 rw[List.take_add_one,List.map_append,List.sum_append,C0c hk,C0j,C0c hk];simp
theorem A6w (l:List (List S151)) (k:Nat) (hk:k < l.length):(l.take (k+1)).flatten=(l.take k).flatten ++ l.getD k []:=by
 rw[List.take_add_one,List.flatten_append,C0c hk,C0j,C0c hk];simp
theorem A5o (l:List (List S151)) (k:Nat):((l.take k).map List.length).sum≤(l.map List.length).sum:=by
 conv=>rhs;rw[← List.take_append_drop k l]
 rw[List.map_append,List.sum_append];omega
def A3g.f (l0:List (List S151)):Option (List S151):=if (l0.map List.length).sum≤4194304 then some l0.flatten else none
theorem A3g.calls (A0:Option Addr) (c0:Nat) (l0:List (List S151)) (r:List S151) (w:World) (hr0:Kd.C (Kd.slice 151 k151) w A0 l0.length l0) (hc0:l0.length≤c0) (h:A3g.f l0=some r) :
  Calls Tryz.prog 133 #[.slice A0 l0.length c0] w fun e w'=>∃ v0_:Value,e=.returned (v0_)∧Kd.R k151 151 w' w.heap.size (fun _=>True) v0_ r∧Below w.heap.size w w':=by
 unfold A3g.f at h
 split at h
 case isFalse=>cases h
 case isTrue hs =>
 obtain rfl:=C0d h;have hmax:l0.length≤9223372036854775807:=Kd.C_max hr0;have HM:=B98 hmax;have HS:=B98 hs;have HR:=B98 hr0;clear h hs hr0 hmax;go_enter Tryz.func133,Tryz.ntmps133
 go_wp2
 go_loop [3,5,11] (fun v3 v5 v11=>∃ k:Nat,k≤l0.length∧v11=.int .i64 k∧v3=.int .i64 (((l0.take k).map List.length).sum:Nat)) (fun _ _ v11=>l0.length - (intOf v11).toNat)
 case atStart=>exact⟨0,Nat.zero_le _,rfl,rfl⟩
 case round =>
  obtain⟨k,hk,rfl,rfl⟩:=hrel;by_cases hlt:k < l0.length
  ·have hsum:=A49 l0 k hlt
   have hle:=Nat.le_trans (A5o l0 (k+1)) HS.o;obtain⟨ad,B0,cB,e0,hcell,_,_⟩:=A5n HR.o k hlt;cases e0;generalize (l0.getD k []).length=y at hcell hsum;obtain⟨s,hs⟩:∃ s:Nat,s=((l0.take k).map List.length).sum:=⟨_,rfl⟩;have hsy:s+y≤4194304:=by omega
   have HE:=B98 (hs ▸ hsum);rw[← hs];have HY:=B98 hsy;have p1:=eq_true (show(0:Int)≤(k:Int) by omega);have p2:=eq_true (show(k:Int) < (l0.length:Int) by omega);have p3:IntKind.i64.wrap ((s:Int)+(y:Int))=((s+y:Nat):Int):=by unfold IntKind.wrap;simp[IntKind.bits,IntKind.signed];omega
   have p4:(((s+y:Nat):Int) < 0)=False:=by simp;omega
   have hklt:=B98 hlt;clear hsum hle hs hsy hlt hk;go_wp2
   go_round
   case rel=>exact⟨k+1,hklt.o,by have:=HM.o;have:=hklt.o;rw[show wrap64 ((k:Int)+1)=((k+1:Nat):Int) by unfold wrap64;omega],by rw[HE.o];rfl⟩
   case measure=>have:=HM.o;have:=hklt.o;rw[show wrap64 ((k:Int)+1)=((k+1:Nat):Int) by unfold wrap64;omega];simp[intOf];omega
  ·have hkl:k=l0.length:=by omega
   subst hkl;rw[List.take_length];obtain⟨s,hs⟩:∃ s:Nat,s=(l0.map List.length).sum:=⟨_,rfl⟩;have hsb:=HS.o;rw[← hs] at hsb ⊢;have HSB:=B98 hsb;clear hs hlt hk hsb;have HB:=B98 (Below.refl w.heap.size w);go_wp2_with (go_at_call 205;refine(A6v s HSB.o _).mono ?_;rintro e w1 ⟨v1,rfl,ho1,hb1⟩;have HO:=B98 ho1;have HB1:=B98 hb1;clear HB ho1 hb1);go_loopw [6,8,27] (fun v6 v8 v27 wr=>∃ k:Nat,k≤l0.length∧v27=.int .i64 k∧A0a (Kd.R k151 151 wr w.heap.size (fun _=>True) v6 (l0.take k).flatten)∧A0a (Below w.heap.size w wr)) (fun _ _ v27 _=>l0.length - (intOf v27).toNat)
   case atStart=>exact⟨0,Nat.zero_le _,rfl,HO,HB1⟩
   case round =>
    clear HO HB1;obtain⟨k,hk,rfl,HO,HB⟩:=hrel;by_cases hlt:k < l0.length
    ·have hsum:=A49 l0 k hlt
     have hle:=Nat.le_trans (A5o l0 (k+1)) HS.o;have hlf:(l0.take k).flatten.length=((l0.take k).map List.length).sum:=List.length_flatten;have hfl:=A6w l0 k hlt;obtain⟨ad,B0,cB,e0,hcell,hlen,hC⟩:=A5n (Kd.C_below HR.o HB.o) k hlt;cases e0;obtain⟨ys,hys⟩:∃ ys,ys=l0.getD k []:=⟨_,rfl⟩;obtain⟨xs,hxs⟩:∃ xs,xs=(l0.take k).flatten:=⟨_,rfl⟩;rw[← hys] at hcell hlen hC hsum hfl;rw[← hxs] at HO hlf hfl;have HL:=B98 (show xs.length+ys.length≤4194304 by omega);have HC:=B98 hC;have HF:=B98 hfl;have p1:=eq_true (show(0:Int)≤(k:Int) by omega);have p2:=eq_true (show(k:Int) < (l0.length:Int) by omega);have hklt:=B98 hlt;clear hsum hle hlf hfl hlen hC hys hxs hlt hk;go_wp2_with ((with_reducible refine A1c (b:=.append) (xs:=#[.tmp 31,.tmp 32]) rfl ?_);at_builtin;refine Kd.R_append_rows k151 (w0:=w) w.heap.size rfl (.tmp 31) (.tmp 32) 43 151 (.agg #[(.string ⟨#[]⟩),(.int .i64 0)]) 24 rfl Tryz.underlying43 A4y rfl Zd Zo _ xs ys _ _ _ (fun _=>True) (fun _=>False) rfl rfl HO.o HC.o ?aM (fun _ h=>h.elim) (fun _ _=>trivial) HB.o ?aS ?aL ?_;(case aM=>exact fun _ _ h=>(F151.M _ _ _ _ _).2 ((F151.K _ _ _).1 h));(case aS=>exact A02 HB.o);(case aL=>have:=HL.o;omega);intro v1 w9 ho hb hg hat;have HO9:=B98 ho;have HB9:=B98 hb;clear HO HB ho hb hg hat hcell);go_roundw
     case rel=>exact⟨k+1,hklt.o,by have:=HM.o;have:=hklt.o;rw[show wrap64 ((k:Int)+1)=((k+1:Nat):Int) by unfold wrap64;omega],HF.o ▸ HO9,HB9⟩
     case measure=>have:=HM.o;have:=hklt.o;rw[show wrap64 ((k:Int)+1)=((k+1:Nat):Int) by unfold wrap64;omega];simp[intOf];omega
    ·have hkl:k=l0.length:=by omega
     subst hkl;rw[List.take_length] at HO;go_wp2
     go_ret;exact⟨_,rfl,HO.o,HB.o⟩
end
def A0x.l0:Nat→List ByteArray→List (S151)→Int→Int→Option (List ByteArray)
|0,_,_,_,_=>none
|k+1,x3,x11,x12,x13=>if x13 < x12 then (if 0≤x13 then (if x13 < (x11.length:Int) then (if ((A0c x11 x13).f0).toList=([]:List UInt8) then (A0x.l0 k x3 x11 x12 (wrap64 (x13+1))) else (if x3.length < 8796093022208 then (A0x.l0 k (x3 ++ [(A0c x11 x13).f0]) x11 x12 (wrap64 (x13+1))) else (none))) else (none)) else (none)) else ((A01.f x3).bind fun t359=>(some t359))
def A0x.f (k:Nat) (l0_0:List (S151)) (l0_1:List (S151)) (a0_2:Int):Option (List ByteArray):=(A3g.f (([l0_0,l0_1]:List (List (S151))))).bind fun t351=>(A0x.l0 k ([]:List ByteArray) t351 (t351.length:Int) 0)
theorem B6z {w:World} {g t a b:Nat} {A B:Option Addr} {xs ys:List S151} (hg:w.heap[g]? = some (.cells #[.slice A xs.length a,.slice B ys.length b] t (0,0))) (hx:Kd.C k151 w A xs.length xs) (lx:xs.length≤a) (hy:Kd.C k151 w B ys.length ys) (ly:ys.length≤b):Kd.C (Kd.slice 151 k151) w (some ⟨g,0,none⟩) 2 [xs,ys]:=by
 refine⟨rfl,by omega,fun _=>⟨_,rfl,fun j p hj=>?_⟩⟩
 match j,hj with
 |0,hj =>
  obtain rfl:xs=p:=by simpa using hj
  refine⟨[.slice A xs.length a],rfl,⟨A,a,rfl,lx,hx⟩,fun i u hu=>?_⟩
  match i,hu with
  |0,hu=>obtain rfl:_=u:=C0d hu;exact A1h hg 0
 |1,hj =>
  obtain rfl:ys=p:=by simpa using hj
  refine⟨[.slice B ys.length b],rfl,⟨B,b,rfl,ly,hy⟩,fun i u hu=>?_⟩
  match i,hu with
  |0,hu=>obtain rfl:_=u:=C0d hu;exact A1h hg 1
theorem A0x.calls (k:Nat) (P0_0_:Nat→Prop) (A0_0:Option Addr) (c0_0:Nat) (l0_0:List (S151)) (P0_1_:Nat→Prop) (A0_1:Option Addr) (c0_1:Nat) (l0_1:List (S151)) (a0_2:Int) (r:List ByteArray) (w:World) (hs0_0:Kd.V k151 151 w w.heap.size (fun k_=>P0_0_ k_) (.slice A0_0 l0_0.length c0_0) l0_0) (hs0_1:Kd.V k151 151 w w.heap.size (fun k_=>P0_1_ k_) (.slice A0_1 l0_1.length c0_1) l0_1) (h:A0x.f k l0_0 l0_1 a0_2=some r) :
  Calls Tryz.prog 55 #[.agg #[.slice A0_0 l0_0.length c0_0,.slice A0_1 l0_1.length c0_1,.int .i64 a0_2]] w fun e w'=>∃ v0_:Value,e=.returned (v0_)∧Kd.R Kd.string 9 w' w.heap.size (fun k_=>(w.heap.size≤k_)) v0_ r∧Below w.heap.size w w':=by
 have hu45:=Tryz.underlying45;have hu151:=Tryz.underlying151;have HA0:=B98 (Kd.V_reads' hs0_0);have HA1:=B98 (Kd.V_reads' hs0_1);have HS:=B98 (Nb.St.start w);unfold A0x.f at h;have H:=h;clear h hs0_0 hs0_1;obtain⟨Y,h1,H⟩:=C0f.mp H;have HY:=B98 h1;clear h1;have HH:=B98 (show A0x.l0 k [] Y (Y.length:Int) ((0:Nat):Int)=some r from H);clear H;go_enter Tryz.func55,Tryz.ntmps55;go_wp2_with (first|((with_reducible refine A0b (N:=1) rfl ?_);refine Nb.boxS HS (N:=1) fun g1 w1 S=>?_;clear HS;have HS:=B98 S;obtain⟨ha0,ha1,ha2⟩:=S.cells3 0 rfl;clear S));have S:=HS.o.alloc #[.slice A0_0 l0_0.length c0_0,.slice A0_1 l0_1.length c0_1] 43;clear HS ha0 ha1 ha2;refine(A3g.calls _ 2 [l0_0,l0_1] Y _ (B6z S.head.2 (Kd.C_below HA0.o.2.2 S.below) HA0.o.2.1 (Kd.C_below HA1.o.2.2 S.below) HA1.o.2.1) (Nat.le_refl 2) HY.o).mono ?_;rintro e w3 ⟨v,rfl,hr,hb⟩;have S:=S.new_row rfl hb hr;obtain⟨A,c,rfl⟩:=Kd.R_slice hr;have hyl:=(S.at_C 0 rfl).2.2.2.1;unfold maxLen at hyl;have HYL:=B98 hyl;clear hr hb hyl;have HS:=B98 S;clear S;go_wp2_with fail;go_loopw [3,13] (fun v3 v13 w'=>∃ (i kq:Nat) (acc:List ByteArray) (ps:List Nb.Part),v13=.int .i64 i∧A0a (i≤Y.length)∧A0a (A0x.l0 kq acc Y (Y.length:Int) (i:Int)=some r)∧A0a (Nb.St w w' (Nb.Part.row Kd.string 9 v3 acc :: Nb.Part.row k151 151 (.slice A Y.length c) Y :: ps))) (fun _ v13 _=>Y.length - (intOf v13).toNat)
 case atStart=>exact⟨0,k,[],_,rfl,⟨by omega⟩,HH,⟨HS.o.nil_row Kd.string 9⟩⟩
 case round =>
  clear HS HH;obtain⟨i,kq,acc,ps,rfl,HI,HH,HS⟩:=hrel;have H:=HH.o;clear HH;cases kq with
  |zero=>simp[A0x.l0] at H
  |succ kq =>
  simp only [A0x.l0] at H;by_cases c1:i < Y.length
  ·have p5:(0:Int)≤(i:Int):=by omega
   have q5:(i:Int) < (Y.length:Int):=by omega
   rw[if_pos q5,if_pos p5,if_pos q5] at H;have es:=w64n i (by have:=HYL.o;omega);obtain⟨ad,e5,hz0,hz1⟩:=A1t (HS.o.at_C 1 rfl).2.2 (i:Int) p5 q5;cases e5;obtain⟨x,hx⟩:∃ x,x=A0c Y (i:Int):=⟨_,rfl⟩;rw[← hx] at hz0 hz1 H;rw[C0k] at hz0 hz1;obtain⟨bo,hbo⟩:∃ b,i * 2=b:=⟨_,rfl⟩;rw[hbo] at hz0 hz1;have d1:decide ((i:Int) < (Y.length:Int))=true:=B99 q5;have d2:decide (i < Y.length)=true:=B99 c1;have HI2:=B98 c1;have H2:=B98 H;replace p5:=eq_true p5;replace q5:=eq_true q5;clear H c1 hx;go_upto_region 5 with (first|((with_reducible refine A0b (N:=5) rfl ?_);refine Nb.boxS HS (N:=5) fun g5 w5 S=>?_;clear HS;have HS:=B98 S;obtain⟨hs0,hs1⟩:=S.cells2 0 rfl;obtain⟨fs0,fs1⟩:=S.frozen2 0 rfl;clear S));have S:=HS.o;clear HS hs0 fs0 hs1 fs1 hz0 hz1;have S:=S.put2 (.string x.f0) (.int .i64 x.f1);obtain⟨w5,hw,S⟩:∃ w',w'=_∧Nb.St w w' _:=⟨_,rfl,S⟩;rw[← hw];clear hw;have HS:=B98 S;clear S;obtain⟨hs0,hs1⟩:=HS.o.cells2 0 rfl;have H:=H2.o;clear H2;by_cases c3:x.f0.toList=([]:List UInt8)
   ·rw[if_pos c3,es] at H
    have c3a:(x.f0.toList == ([]:List UInt8))=true:=beq_iff_eq.mpr c3;have c3b:(x.f0.toList != ([]:List UInt8))=false:=by rw[bne,c3a];rfl
    clear c3;go_wp2_with fail;have HH:=B98 H;clear H;go_roundw
    case rel=>exact⟨i+1,kq,acc,_,by rw[es],⟨by have:=HI2.o;omega⟩,HH,⟨HS.o.tail⟩⟩
    case measure=>rw[es];have:=HI2.o;simp only [intOf];omega
   ·rw[if_neg c3] at H
    have c3a:(x.f0.toList == ([]:List UInt8))=false:=C0g.mpr c3;have c3b:(x.f0.toList != ([]:List UInt8))=true:=bne_iff_ne.mpr c3;clear c3;by_cases c4:acc.length < 8796093022208
    case neg=>rw[if_neg c4] at H;cases H
    rw[if_pos c4,es] at H;have HAL:=B98 c4;clear c4;have S:=HS.o.front 1 rfl rfl;clear HS;have HS:=B98 S;clear S;go_wp2_with ((with_reducible refine A1c (b:=.append) (xs:=#[.tmp 20,.tmp 23]) rfl ?_);at_builtin;have S:=HS.o;refine Kd.R_append Kd.string (w0:=w) w.heap.size rfl (.tmp 20) (.tmp 23) 28 9 (.string ⟨#[]⟩) 16 rfl Tryz.underlying28 A57 rfl Zd Zo u3 acc x.f0 [.string x.f0] (fun k_=>(w.heap.size≤k_)) (fun _=>False) rfl (by first|(go_simp;done)|(go_simp;rfl)) ?aP (fun _ hk=>hk.elim) ?aF ?aO ?aB ?aS ?aL ?_;(case aP=>exact rfl);(case aB=>exact S.below);(case aF=>exact(fun k_ hk=>Nat.le_trans S.below.size hk));(case aO=>exact(Kd.R_reok rfl (S.at_R 0 rfl) (fun k_ hk=>Kd.R_base (S.at_R 0 rfl) k_ hk)));(case aS=>exact S.below.size);(case aL=>have:=HAL.o;omega);intro v7 w7 ho hb hg hat;have S:=S.appended rfl hb hg ho hat;clear HS ho hb hg hat;have HS:=B98 S;clear S);have HH:=B98 H;clear H;go_roundw
    case rel=>exact⟨i+1,kq,(acc ++ [x.f0]),_,by rw[es],⟨by have:=HI2.o;omega⟩,HH,⟨(HS.o.front 2 rfl rfl).swap⟩⟩
    case measure=>rw[es];have:=HI2.o;simp only [intOf];omega
  ·have hi:i=Y.length:=by have:=HI.o;omega
   subst hi;rw[if_neg Zo] at H;have d1:decide ((Y.length:Int) < (Y.length:Int))=false:=C0a Zo;have d2:decide (Y.length < Y.length)=false:=C0a Zo;clear c1;obtain⟨q,hq,H⟩:=C0f.mp H;obtain rfl:=C0d H;have HQ:=B98 hq;clear hq H;obtain⟨A9,c9,e9⟩:=Kd.R_slice (HS.o.at_R 0 rfl);subst e9;go_wp2_with fail;refine(A01.calls (fun k=>some k=(Value.slice A9 acc.length c9).ownBlock) (.slice A9 acc.length c9) acc q w _ HS.o.below (HS.o.at_R 0 rfl) HQ.o).mono ?_;rintro e w4 ⟨rfl,hr,hb,hk⟩;have hbk:∀ k,(Value.slice A9 acc.length c9).ownBlock=some k→w.heap.size≤k:=fun k e=>Kd.R_base (HS.o.at_R 0 rfl) k e;clear HS;have HB:=B98 hb;have HR:=B98 (Kd.R_reok rfl hr (fun k_ hk=>Kd.R_base hr k_ hk));clear hr hb hk hbk;go_wp2_with fail;go_ret;exact⟨_,rfl,HR.o,HB.o⟩
def A29.f (a0:Int):Option (Bool):=if a0=4 then (some true) else (if a0=8 then (some true) else (if a0=16 then (some true) else (if a0=32 then (some true) else (if a0=64 then (some true) else (some false)))))
theorem A29.calls (a0:Int) (r:Bool) (w:World) (h:A29.f a0=some r) :
  Calls Tryz.prog 167 #[.int .i64 a0] w fun e w'=>e=.returned (.bool r)∧A2e w w':=by
 unfold A29.f at h;have H:=h;clear h;by_cases c2:a0=4
 ·rw[if_pos c2] at H
  have c2b0:(a0 == 4)=true:=beq_iff_eq.mpr c2;have c2b1:(a0 != 4)=false:=bne_eq_false_iff_eq.mpr c2;clear c2;obtain rfl:=C0d H;go_enter Tryz.func167,Tryz.ntmps167
  go_wp2
  go_ret;exact⟨by first|rfl|(simp;done)|(simp[*];done),md⟩
 ·rw[if_neg c2] at H
  have c2b0:(a0 == 4)=false:=C0g.mpr c2;have c2b1:(a0 != 4)=true:=bne_iff_ne.mpr c2
  by_cases c3:a0=8
  ·rw[if_pos c3] at H
   have c3b0:(a0 == 8)=true:=beq_iff_eq.mpr c3;have c3b1:(a0 != 8)=false:=bne_eq_false_iff_eq.mpr c3;clear c3;obtain rfl:=C0d H;go_enter Tryz.func167,Tryz.ntmps167
   go_wp2
   go_ret;exact⟨by first|rfl|(simp;done)|(simp[*];done),md⟩
  ·rw[if_neg c3] at H
   have c3b0:(a0 == 8)=false:=C0g.mpr c3;have c3b1:(a0 != 8)=true:=bne_iff_ne.mpr c3
   by_cases c4:a0=16
   ·rw[if_pos c4] at H
    have c4b0:(a0 == 16)=true:=beq_iff_eq.mpr c4;have c4b1:(a0 != 16)=false:=bne_eq_false_iff_eq.mpr c4;clear c4;obtain rfl:=C0d H;go_enter Tryz.func167,Tryz.ntmps167
    go_wp2
    go_ret;exact⟨by first|rfl|(simp;done)|(simp[*];done),md⟩
   ·rw[if_neg c4] at H
    have c4b0:(a0 == 16)=false:=C0g.mpr c4;have c4b1:(a0 != 16)=true:=bne_iff_ne.mpr c4
    by_cases c5:a0=32
    ·rw[if_pos c5] at H
     have c5b0:(a0 == 32)=true:=beq_iff_eq.mpr c5;have c5b1:(a0 != 32)=false:=bne_eq_false_iff_eq.mpr c5;clear c5;obtain rfl:=C0d H;go_enter Tryz.func167,Tryz.ntmps167
     go_wp2
     go_ret;exact⟨by first|rfl|(simp;done)|(simp[*];done),md⟩
    ·rw[if_neg c5] at H
     have c5b0:(a0 == 32)=false:=C0g.mpr c5;have c5b1:(a0 != 32)=true:=bne_iff_ne.mpr c5
     by_cases c6:a0=64
     ·rw[if_pos c6] at H
      have c6b0:(a0 == 64)=true:=beq_iff_eq.mpr c6;have c6b1:(a0 != 64)=false:=bne_eq_false_iff_eq.mpr c6;clear c6;obtain rfl:=C0d H;go_enter Tryz.func167,Tryz.ntmps167
      go_wp2
      go_ret;exact⟨by first|rfl|(simp;done)|(simp[*];done),md⟩
     ·rw[if_neg c6] at H
      have c6b0:(a0 == 64)=false:=C0g.mpr c6;have c6b1:(a0 != 64)=true:=bne_iff_ne.mpr c6;obtain rfl:=C0d H;go_enter Tryz.func167,Tryz.ntmps167
      go_wp2
      go_ret;exact⟨by first|rfl|(simp;done)|(simp[*];done),md⟩
def A0w.l0:Nat→ByteArray→Int→Int→Option (Int)
|0,_,_,_=>none
|k+1,x0,x5,x6=>if x6 < (x0.size:Int) then (if 0≤x6 then (A0w.l0 k x0 (((Go.bits .xor .u32 x5 ((bt x0 x6) % 4294967296)) * 16777619) % 4294967296) (wrap64 (x6+1))) else (none)) else (some (wrap64 (Go.bits .xor .u32 x5 (x5 / 65536))))
def A0w.f (k:Nat) (a0:ByteArray) (a1:Int):Option (Int):=A0w.l0 k a0 (2166136261+(mx 0 (mn a1 1000000000))) 0
theorem A0w.calls (k:Nat) (a0:ByteArray) (a1:Int) (r:Int) (w:World) (h:A0w.f k a0 a1=some r) :
  Calls Tryz.prog 206 #[.string a0,.int .i64 a1] w fun e w'=>e=.returned (.int .i64 r)∧Below w.heap.size w w':=by
 have HB:=B98 (Below.refl w.heap.size w);unfold A0w.f at h;have H:=h;clear h;obtain⟨ji3,hji3⟩:∃ j_:Int,(mn a1 1000000000)=j_:=⟨_,rfl⟩;replace H:(A0w.l0 k a0 (2166136261+(mx 0 (ji3))) 0)=some r:=by first|(rw[hji3] at H;exact H)|(simp only [hji3] at H ⊢;exact H)
 (try(have hji3h:ji3≤1000000000:=by(rw[← hji3];unfold mn;(repeat' split) <;> omega)))
 (try(have hji3g:ji3≤64:=by omega))
 have hji3_:(if 1000000000 < a1 then 1000000000 else a1)=ji3:=hji3;obtain⟨ji4,hji4⟩:∃ j_:Int,(mx 0 (ji3))=j_:=⟨_,rfl⟩;replace H:(A0w.l0 k a0 (2166136261+(ji4)) 0)=some r:=by first|(rw[hji4] at H;exact H)|(simp only [hji4] at H ⊢;exact H)
 have hji4_:(if 0 < (ji3) then (ji3) else 0)=ji4:=hji4;have H':=B98 H;clear H;go_enter Tryz.func206,Tryz.ntmps206
 go_wp2
 go_loopg [5,6] k (fun kq v5 v6 w'=>∃ (x5_1:Int) (x6_1:Int),v5=.int .u32 x5_1∧v6=.int .i64 x6_1∧A0a (A0w.l0 kq a0 x5_1 x6_1=some r)∧A0a (kq≤k)∧A0a (Below w.heap.size w w'))
 case atStart=>exact⟨(2166136261+(ji4)),(0),(by first|rfl|(simp;done)|(simp only [← hji4] <;> (first|rfl|simp))|(simp[*];done)),mt,H',⟨Nat.le_refl _⟩,⟨mq⟩⟩
 case round =>
  clear H';obtain⟨x5_1,x6_1,rfl,rfl,HA,HK1,HB⟩:=hrel;cases gk with
 |zero=>exact absurd HA.o (by simp[A0w.l0])
 |succ k1 =>
   have H:=HA.o;clear HA;simp only [A0w.l0] at H;by_cases c5:x6_1 < (a0.size:Int)
   ·rw[if_pos c5] at H
    have c5b0:decide (x6_1 < (a0.size:Int))=true:=B99 c5;clear c5;by_cases c6:0≤x6_1
    ·rw[if_pos c6] at H
     have c6b0:decide (0≤x6_1)=true:=B99 c6;clear c6;have H':=B98 H;clear H;have p7:0≤(x6_1:Int):=mo;have q7:x6_1 < (a0.size:Int):=mo;have hx7:=B9y a0 x6_1;replace p7:=eq_true p7;replace q7:=eq_true q7;go_wp2
     go_roundg k1
     case measure=>have:=HK1.o;omega
     case rel=>exact⟨(((Go.bits .xor .u32 x5_1 ((bt a0 x6_1) % 4294967296)) * 16777619) % 4294967296),(wrap64 (x6_1+1)),mt,mt,H',⟨by have:=HK1.o;omega⟩,⟨mq⟩⟩
    ·rw[if_neg c6] at H
     exact absurd H Zs
   ·rw[if_neg c5] at H
    have c5b0:decide (x6_1 < (a0.size:Int))=false:=C0a c5;clear c5;obtain rfl:=C0d H;go_wp2
    go_ret;exact⟨by first|rfl|(simp[] <;> rfl)|(simp only [← hji3,← hji4];first|rfl|(simp[] <;> rfl))|(simp[*] <;> rfl),mq⟩
theorem zc5 {w w1:World} {a:Addr} {v:Value} (hb:Below w.heap.size w w1) (h:w.cell? a=some v):w1.cell? a=some v:=(hb.cell (World.block_lt_of_cell? w _ h)).trans h
attribute [local go_sem high] B7h
mutual
def A0q.l0:Nat→List (S151)→ByteArray→Int→Int→Int→Option (Int)
|0,_,_,_,_,_=>none
|k+1,x0,x1,x5,x16,x17=>if x17 < x16 then (if 0≤x5 then (if x5 < (x0.length:Int) then (if ((A0c x0 x5).f0).toList=x1.toList then (A0q.j1 k x0 x1 x5 x16 x17 (x1.toList != ([]:List UInt8)) ((A0c x0 x5).f0) ((A0c x0 x5).f1)) else (A0q.j1 k x0 x1 x5 x16 x17 false ((A0c x0 x5).f0) ((A0c x0 x5).f1))) else (none)) else (none)) else (some (-1))
def A0q.j1:Nat→List (S151)→ByteArray→Int→Int→Int→Bool→ByteArray→Int→Option (Int)
|0,_,_,_,_,_,_,_,_=>none
|k+1,x0,x1,x5,x16,x17,x23,x363000,x363001=>if x23=true then (some x5) else (if x363000.toList=([]:List UInt8) then (if x363001=(-1) then (some (-1)) else (if (x0.length:Int)=0 then (none) else (A0q.l0 k x0 x1 (Int.tmod (wrap64 (x5+1)) (x0.length:Int)) x16 (wrap64 (x17+1))))) else (if (x0.length:Int)=0 then (none) else (A0q.l0 k x0 x1 (Int.tmod (wrap64 (x5+1)) (x0.length:Int)) x16 (wrap64 (x17+1)))))
end
def A0q.f (k:Nat) (l0:List (S151)) (a1:ByteArray):Option (Int):=if (l0.length:Int)=0 then (some (-1)) else ((A0w.f k a1 0).bind fun t360=>(A0q.l0 k l0 a1 (Int.tmod t360 (l0.length:Int)) (l0.length:Int) 0))
theorem A0q.calls (k:Nat) (A0:Option Addr) (c0:Nat) (l0:List (S151)) (a1:ByteArray) (r:Int) (w:World) (hr0:Kd.C k151 w A0 l0.length l0) (hc0:l0.length≤c0) (h:A0q.f k l0 a1=some r) :
  Calls Tryz.prog 134 #[.slice A0 l0.length c0,.string a1] w fun e w'=>e=.returned (.int .i64 r)∧Below w.heap.size w w':=by
 have hu151:=Tryz.underlying151;have HR0:=B98 hr0;have HC0:=B98 hc0;clear hr0 hc0;have HB:=B98 (Below.refl w.heap.size w);unfold A0q.f at h;have H:=h;clear h;by_cases c3:(l0.length:Int)=0
 ·rw[if_pos c3] at H
  have c3b0:((l0.length:Int) == 0)=true:=beq_iff_eq.mpr c3;have c3b1:((l0.length:Int) != 0)=false:=bne_eq_false_iff_eq.mpr c3;clear c3;obtain rfl:=C0d H;go_enter Tryz.func134,Tryz.ntmps134
  go_wp2
  go_ret;exact⟨mr,mq⟩
 ·rw[if_neg c3] at H
  have c3b0:((l0.length:Int) == 0)=false:=C0g.mpr c3;have c3b1:((l0.length:Int) != 0)=true:=bne_iff_ne.mpr c3;have c3b2:¬ (l0 = []):=fun h_=>c3 (by rw[h_];rfl);replace H:=C0f.mp H;obtain⟨t360,A40,H⟩:=H;(try dsimp only at H)
  have A4:=B98 A40;clear A40;have H':=B98 H;clear H;go_enter Tryz.func134,Tryz.ntmps134;go_wp2_with (first|((with_reducible refine A0j (f:=206) rfl ?_);refine A1l (some 11) rfl rfl Tryz.func206 Zk rfl #[.string a1,.int .i64 0] rfl ml ?_;(with_reducible refine(A0w.calls k a1 0 t360 _ A4.o).mono ?_);rintro e w5 ⟨rfl,hb⟩;refine⟨_,rfl,?_⟩;have n0_:=B98 (zN mq hb);clear HB;have HB:=n0_;clear n0_;(try clear hb);(try clear hb2);(try clear hk);(try clear hi)))
  go_loopg [5,17] k (fun kq v5 v17 w'=>∃ (x5_1:Int) (x17_1:Int),v5=.int .i64 x5_1∧v17=.int .i64 x17_1∧A0a (A0q.l0 kq l0 a1 x5_1 (l0.length:Int) x17_1=some r)∧A0a (kq≤k)∧A0a (Below w.heap.size w w'))
  case atStart=>exact⟨(Int.tmod t360 (l0.length:Int)),(0),mt,mt,H',⟨Nat.le_refl _⟩,⟨mq⟩⟩
  case round =>
   clear H';obtain⟨x5_1,x17_1,rfl,rfl,HA,HK1,HB⟩:=hrel;cases gk with
  |zero=>exact absurd HA.o (by simp[A0q.l0])
  |succ k1 =>
    have H:=HA.o;clear HA;simp only [A0q.l0] at H;by_cases c6:x17_1 < (l0.length:Int)
    ·rw[if_pos c6] at H
     have c6b0:decide (x17_1 < (l0.length:Int))=true:=B99 c6;clear c6;by_cases c7:0≤x5_1
     ·rw[if_pos c7] at H
      have c7b0:decide (0≤x5_1)=true:=B99 c7;clear c7;by_cases c8:x5_1 < (l0.length:Int)
      ·rw[if_pos c8] at H
       have c8b0:decide (x5_1 < (l0.length:Int))=true:=B99 c8;clear c8;have HC9:=B98 H;clear H;have p361:0≤(x5_1:Int):=mo;have q361:x5_1 < (l0.length:Int):=mo;obtain⟨ad361,e361,hx361_0,hx361_1⟩:=A1t (Kd.C_below HR0.o HB.o) x5_1 p361 q361;cases e361;replace p361:=eq_true p361;replace q361:=eq_true q361;go_upto_region 7 with (first|((with_reducible refine A0b (N:=6) rfl ?_);refine yE (N:=6) (cs:=#[.string (⟨#[]⟩:ByteArray),.int .i64 0]) (t:=151) fun gb362 hg w10 hbox hb=>?_;obtain⟨n0_,n2_⟩:=yX (w:=w) hg hb mq;have n1_:=B98 (hbox);have n3_:=n2_;clear HB;have HB:=n0_;have BK362:=n1_;have GW362:=n2_;have GE362:=n3_;clear n0_ n1_ n2_ n3_;clear hb hbox hg;obtain⟨hcz11_0,hcz11_1,hfz11_0,hfz11_1⟩:=zb2 BK362.o))
       (try simp only [Act.put,List.setIfInBounds_toArray,List.set_cons_zero,List.set_cons_succ])
       go_cut [23] (fun v23 wc=>∃ (kq:Nat) (x23_8:Bool),v23=.bool x23_8∧A0a (A0q.j1 kq l0 a1 x5_1 (l0.length:Int) x17_1 x23_8 ((A0c l0 x5_1).f0) ((A0c l0 x5_1).f1)=some r)∧A0a (kq≤k1)∧A0a (wc.heap[gb362]? = some (.cells #[.string ((A0c l0 x5_1).f0),.int .i64 ((A0c l0 x5_1).f1)] 151 (0,0)))∧A0a (Below w.heap.size w wc))
       case first =>
        have H:=HC9.o;clear HC9;by_cases c12:((A0c l0 x5_1).f0).toList=a1.toList
        ·rw[if_pos c12] at H
         have c12b0:(((A0c l0 x5_1).f0).toList == a1.toList)=true:=beq_iff_eq.mpr c12;have c12b1:(((A0c l0 x5_1).f0).toList != a1.toList)=false:=bne_eq_false_iff_eq.mpr c12;clear c12;(first|rw[c12b0]|(simp only [A1y,A15];rw[c12b0])|skip)
         have H':=B98 H;clear H;obtain⟨hcz13_0,hcz13_1,hfz13_0,hfz13_1⟩:=zb2 BK362.o;go_wp2
         go_meet
         case rel=>exact⟨_,((a1.toList != ([]:List UInt8))),(by first|rfl|(simp;done)|(simp[*];done)|(simp[*];generalize ByteArray.toList _=l_;cases l_ <;> rfl)),H',⟨by have:=HK1.o;first|omega|exact Nat.le_refl _⟩,⟨by(with_reducible repeat(first|apply zA|apply zC|apply zB));refine A1u (cs:=#[.string ((A0c l0 x5_1).f0),.int .i64 0]) ?_ 1 _ rfl;(with_reducible repeat(first|apply zA|apply zC|apply zB));refine A1u (cs:=#[.string (⟨#[]⟩:ByteArray),.int .i64 0]) ?_ 0 _ rfl;(with_reducible repeat(first|apply zA|apply zC|apply zB));exact BK362.o⟩,⟨mq⟩⟩
        ·rw[if_neg c12] at H
         have c12b0:(((A0c l0 x5_1).f0).toList == a1.toList)=false:=C0g.mpr c12;have c12b1:(((A0c l0 x5_1).f0).toList != a1.toList)=true:=bne_iff_ne.mpr c12
         (first|rw[c12b0]|(simp only [A1y,A15];rw[c12b0])|skip)
         have H':=B98 H;clear H;obtain⟨hcz14_0,hcz14_1,hfz14_0,hfz14_1⟩:=zb2 BK362.o;go_wp2
         go_meet
         case rel=>exact⟨_,(false),mt,H',⟨by have:=HK1.o;first|omega|exact Nat.le_refl _⟩,⟨by(with_reducible repeat(first|apply zA|apply zC|apply zB));refine A1u (cs:=#[.string ((A0c l0 x5_1).f0),.int .i64 0]) ?_ 1 _ rfl;(with_reducible repeat(first|apply zA|apply zC|apply zB));refine A1u (cs:=#[.string (⟨#[]⟩:ByteArray),.int .i64 0]) ?_ 0 _ rfl;(with_reducible repeat(first|apply zA|apply zC|apply zB));exact BK362.o⟩,⟨mq⟩⟩
       case rest =>
        clear HC9;obtain⟨kq,x23_8,rfl,HA,HJ8,BK362,HB⟩:=hcut;cases kq with
       |zero=>exact absurd HA.o (by simp[A0q.j1])
       |succ kj8 =>
         have H:=HA.o;clear HA;simp only [A0q.j1] at H;by_cases c15:x23_8=true
         ·subst c15
          rw[if_pos rfl] at H;obtain rfl:=C0d H;go_wp2
          go_ret;exact⟨mr,mq⟩
         ·replace c15:=Bool.eq_false_iff.mpr c15
          subst c15;rw[if_neg (show ¬ (false=true) by decide)] at H;by_cases c16:((A0c l0 x5_1).f0).toList=([]:List UInt8)
          ·rw[if_pos c16] at H
           have c16b0:(((A0c l0 x5_1).f0).toList == ([]:List UInt8))=true:=beq_iff_eq.mpr c16;have c16b1:(((A0c l0 x5_1).f0).toList != ([]:List UInt8))=false:=bne_eq_false_iff_eq.mpr c16;clear c16;by_cases c17:((A0c l0 x5_1).f1)=(-1)
           ·rw[if_pos c17] at H
            have c17b0:(((A0c l0 x5_1).f1) == (-1))=true:=beq_iff_eq.mpr c17;have c17b1:(((A0c l0 x5_1).f1) != (-1))=false:=bne_eq_false_iff_eq.mpr c17;clear c17;obtain rfl:=C0d H;obtain⟨hcz18_0,hcz18_1,hfz18_0,hfz18_1⟩:=zb2 BK362.o;go_wp2
            go_ret;exact⟨mr,mq⟩
           ·rw[if_neg c17] at H
            have c17b0:(((A0c l0 x5_1).f1) == (-1))=false:=C0g.mpr c17;have c17b1:(((A0c l0 x5_1).f1) != (-1))=true:=bne_iff_ne.mpr c17
            by_cases c19:(l0.length:Int)=0
            ·rw[if_pos c19] at H
             exact absurd H Zs
            ·rw[if_neg c19] at H
             have c19b0:((l0.length:Int) == 0)=false:=C0g.mpr c19;have c19b1:((l0.length:Int) != 0)=true:=bne_iff_ne.mpr c19;have c19b2:¬ (l0 = []):=fun h_=>c19 (by rw[h_];rfl);have H':=B98 H;clear H;obtain⟨hcz20_0,hcz20_1,hfz20_0,hfz20_1⟩:=zb2 BK362.o;go_wp2
             go_roundg kj8
             case measure=>have:=HK1.o;have:=HJ8.o;omega
             case rel=>exact⟨(Int.tmod (wrap64 (x5_1+1)) (l0.length:Int)),(wrap64 (x17_1+1)),mt,mt,H',⟨by have:=HK1.o;have:=HJ8.o;omega⟩,⟨mq⟩⟩
          ·rw[if_neg c16] at H
           have c16b0:(((A0c l0 x5_1).f0).toList == ([]:List UInt8))=false:=C0g.mpr c16;have c16b1:(((A0c l0 x5_1).f0).toList != ([]:List UInt8))=true:=bne_iff_ne.mpr c16
           by_cases c21:(l0.length:Int)=0
           ·rw[if_pos c21] at H
            exact absurd H Zs
           ·rw[if_neg c21] at H
            have c21b0:((l0.length:Int) == 0)=false:=C0g.mpr c21;have c21b1:((l0.length:Int) != 0)=true:=bne_iff_ne.mpr c21;have c21b2:¬ (l0 = []):=fun h_=>c21 (by rw[h_];rfl);have H':=B98 H;clear H;obtain⟨hcz22_0,hcz22_1,hfz22_0,hfz22_1⟩:=zb2 BK362.o;go_wp2
            go_roundg kj8
            case measure=>have:=HK1.o;have:=HJ8.o;omega
            case rel=>exact⟨(Int.tmod (wrap64 (x5_1+1)) (l0.length:Int)),(wrap64 (x17_1+1)),mt,mt,H',⟨by have:=HK1.o;have:=HJ8.o;omega⟩,⟨mq⟩⟩
      ·rw[if_neg c8] at H
       exact absurd H Zs
     ·rw[if_neg c7] at H
      exact absurd H Zs
    ·rw[if_neg c6] at H
     have c6b0:decide (x17_1 < (l0.length:Int))=false:=C0a c6;clear c6;obtain rfl:=C0d H;go_wp2
     go_ret;exact⟨mr,mq⟩
def A0y.l0:Nat→List (S151)→List (S151)→Int→Int→Option (Bool)
|0,_,_,_,_=>none
|k+1,x0,x5,x6,x7=>if x7 < x6 then (if 0≤x7 then (if x7 < (x5.length:Int) then (if ((A0c x5 x7).f0).toList=([]:List UInt8) then (if ((A0c x5 x7).f1)=(-1) then (A0y.l0 k x0 x5 x6 (wrap64 (x7+1))) else (if ((A0c x5 x7).f1)=(-2) then (A0y.l0 k x0 x5 x6 (wrap64 (x7+1))) else (some false))) else ((A1j.f ((A0c x5 x7).f0)).bind fun t365=>(if t365=true then (if ((A0c x5 x7).f1) < 0 then (some false) else ((A0q.f k x0 ((A0c x5 x7).f0)).bind fun t366=>(if t366=x7 then (A0y.l0 k x0 x5 x6 (wrap64 (x7+1))) else (some false)))) else (some false)))) else (none)) else (none)) else (some true)
def A0y.f (k:Nat) (l0:List (S151)):Option (Bool):=A0y.l0 k l0 l0 (l0.length:Int) 0
theorem A0y.calls (k:Nat) (A0:Option Addr) (c0:Nat) (l0:List (S151)) (r:Bool) (w:World) (hr0:Kd.C k151 w A0 l0.length l0) (hc0:l0.length≤c0) (h:A0y.f k l0=some r) :
  Calls Tryz.prog 192 #[.slice A0 l0.length c0] w fun e w'=>e=.returned (.bool r)∧Below w.heap.size w w':=by
 have hu151:=Tryz.underlying151;have HR0:=B98 hr0;have HC0:=B98 hc0;clear hr0 hc0;have HB:=B98 (Below.refl w.heap.size w);unfold A0y.f at h;have H:=h;clear h;have H':=B98 H;clear H;go_enter Tryz.func192,Tryz.ntmps192
 go_wp2
 go_loopg [7] k (fun kq v7 w'=>∃ (x7_1:Int),v7=.int .i64 x7_1∧A0a (A0y.l0 kq l0 l0 (l0.length:Int) x7_1=some r)∧A0a (kq≤k)∧A0a (Below w.heap.size w w'))
 case atStart=>exact⟨(0),mt,H',⟨Nat.le_refl _⟩,⟨mq⟩⟩
 case round =>
  clear H';obtain⟨x7_1,rfl,HA,HK1,HB⟩:=hrel;cases gk with
 |zero=>exact absurd HA.o (by simp[A0y.l0])
 |succ k1 =>
   have H:=HA.o;clear HA;simp only [A0y.l0] at H;by_cases c2:x7_1 < (l0.length:Int)
   ·rw[if_pos c2] at H
    have c2b0:decide (x7_1 < (l0.length:Int))=true:=B99 c2;clear c2;by_cases c3:0≤x7_1
    ·rw[if_pos c3] at H
     have c3b0:decide (0≤x7_1)=true:=B99 c3;clear c3;by_cases c4:x7_1 < (l0.length:Int)
     ·rw[if_pos c4] at H
      have c4b0:decide (x7_1 < (l0.length:Int))=true:=B99 c4;clear c4;by_cases c5:((A0c l0 x7_1).f0).toList=([]:List UInt8)
      ·rw[if_pos c5] at H
       have c5b0:(((A0c l0 x7_1).f0).toList == ([]:List UInt8))=true:=beq_iff_eq.mpr c5;have c5b1:(((A0c l0 x7_1).f0).toList != ([]:List UInt8))=false:=bne_eq_false_iff_eq.mpr c5;clear c5;by_cases c6:((A0c l0 x7_1).f1)=(-1)
       ·rw[if_pos c6] at H
        have c6b0:(((A0c l0 x7_1).f1) == (-1))=true:=beq_iff_eq.mpr c6;have c6b1:(((A0c l0 x7_1).f1) != (-1))=false:=bne_eq_false_iff_eq.mpr c6;clear c6;have H':=B98 H;clear H;have p363:0≤(x7_1:Int):=mo;have q363:x7_1 < (l0.length:Int):=mo;obtain⟨ad363,e363,hx363_0,hx363_1⟩:=A1t (Kd.C_below HR0.o HB.o) x7_1 p363 q363;cases e363;replace p363:=eq_true p363;replace q363:=eq_true q363;go_wp2_with (first|((with_reducible refine A0b (N:=4) rfl ?_);refine yE (N:=4) (cs:=#[.string (⟨#[]⟩:ByteArray),.int .i64 0]) (t:=151) fun gb364 hg w7 hbox hb=>?_;obtain⟨n0_,n2_⟩:=yX (w:=w) hg hb mq;have n1_:=B98 (hbox);have n3_:=n2_;clear HB;have HB:=n0_;have BK364:=n1_;have GW364:=n2_;have GE364:=n3_;clear n0_ n1_ n2_ n3_;clear hb hbox hg;obtain⟨hcz8_0,hcz8_1,hfz8_0,hfz8_1⟩:=zb2 BK364.o))
        go_roundg k1
        case measure=>have:=HK1.o;omega
        case rel=>exact⟨(wrap64 (x7_1+1)),mt,H',⟨by have:=HK1.o;omega⟩,⟨mq⟩⟩
       ·rw[if_neg c6] at H
        have c6b0:(((A0c l0 x7_1).f1) == (-1))=false:=C0g.mpr c6;have c6b1:(((A0c l0 x7_1).f1) != (-1))=true:=bne_iff_ne.mpr c6
        by_cases c9:((A0c l0 x7_1).f1)=(-2)
        ·rw[if_pos c9] at H
         have c9b0:(((A0c l0 x7_1).f1) == (-2))=true:=beq_iff_eq.mpr c9;have c9b1:(((A0c l0 x7_1).f1) != (-2))=false:=bne_eq_false_iff_eq.mpr c9;clear c9;have H':=B98 H;clear H;have p363:0≤(x7_1:Int):=mo;have q363:x7_1 < (l0.length:Int):=mo;obtain⟨ad363,e363,hx363_0,hx363_1⟩:=A1t (Kd.C_below HR0.o HB.o) x7_1 p363 q363;cases e363;replace p363:=eq_true p363;replace q363:=eq_true q363;go_wp2_with (first|((with_reducible refine A0b (N:=4) rfl ?_);refine yE (N:=4) (cs:=#[.string (⟨#[]⟩:ByteArray),.int .i64 0]) (t:=151) fun gb364 hg w10 hbox hb=>?_;obtain⟨n0_,n2_⟩:=yX (w:=w) hg hb mq;have n1_:=B98 (hbox);have n3_:=n2_;clear HB;have HB:=n0_;have BK364:=n1_;have GW364:=n2_;have GE364:=n3_;clear n0_ n1_ n2_ n3_;clear hb hbox hg;obtain⟨hcz11_0,hcz11_1,hfz11_0,hfz11_1⟩:=zb2 BK364.o))
         go_roundg k1
         case measure=>have:=HK1.o;omega
         case rel=>exact⟨(wrap64 (x7_1+1)),mt,H',⟨by have:=HK1.o;omega⟩,⟨mq⟩⟩
        ·rw[if_neg c9] at H
         have c9b0:(((A0c l0 x7_1).f1) == (-2))=false:=C0g.mpr c9;have c9b1:(((A0c l0 x7_1).f1) != (-2))=true:=bne_iff_ne.mpr c9;obtain rfl:=C0d H;have p363:0≤(x7_1:Int):=mo;have q363:x7_1 < (l0.length:Int):=mo;obtain⟨ad363,e363,hx363_0,hx363_1⟩:=A1t (Kd.C_below HR0.o HB.o) x7_1 p363 q363;cases e363;replace p363:=eq_true p363;replace q363:=eq_true q363;go_wp2_with (first|((with_reducible refine A0b (N:=4) rfl ?_);refine yE (N:=4) (cs:=#[.string (⟨#[]⟩:ByteArray),.int .i64 0]) (t:=151) fun gb364 hg w12 hbox hb=>?_;obtain⟨n0_,n2_⟩:=yX (w:=w) hg hb mq;have n1_:=B98 (hbox);have n3_:=n2_;clear HB;have HB:=n0_;have BK364:=n1_;have GW364:=n2_;have GE364:=n3_;clear n0_ n1_ n2_ n3_;clear hb hbox hg;obtain⟨hcz13_0,hcz13_1,hfz13_0,hfz13_1⟩:=zb2 BK364.o));go_ret;exact⟨mr,mq⟩
      ·rw[if_neg c5] at H
       have c5b0:(((A0c l0 x7_1).f0).toList == ([]:List UInt8))=false:=C0g.mpr c5;have c5b1:(((A0c l0 x7_1).f0).toList != ([]:List UInt8))=true:=bne_iff_ne.mpr c5;replace H:=C0f.mp H;obtain⟨t365,A140,H⟩:=H;(try dsimp only at H)
       have A14:=B98 A140;clear A140;by_cases c15:t365=true
       ·subst c15
        rw[if_pos rfl] at H;by_cases c16:((A0c l0 x7_1).f1) < 0
        ·rw[if_pos c16] at H
         have c16b0:decide (((A0c l0 x7_1).f1) < 0)=true:=B99 c16;clear c16;obtain rfl:=C0d H;have p363:0≤(x7_1:Int):=mo;have q363:x7_1 < (l0.length:Int):=mo;obtain⟨ad363,e363,hx363_0,hx363_1⟩:=A1t (Kd.C_below HR0.o HB.o) x7_1 p363 q363;cases e363;replace p363:=eq_true p363;replace q363:=eq_true q363;go_wp2_with (first|((with_reducible refine A0b (N:=4) rfl ?_);refine yE (N:=4) (cs:=#[.string (⟨#[]⟩:ByteArray),.int .i64 0]) (t:=151) fun gb364 hg w17 hbox hb=>?_;obtain⟨n0_,n2_⟩:=yX (w:=w) hg hb mq;have n1_:=B98 (hbox);have n3_:=n2_;clear HB;have HB:=n0_;have BK364:=n1_;have GW364:=n2_;have GE364:=n3_;clear n0_ n1_ n2_ n3_;clear hb hbox hg;obtain⟨hcz18_0,hcz18_1,hfz18_0,hfz18_1⟩:=zb2 BK364.o)|((with_reducible refine A0j (f:=85) rfl ?_);refine A1l (some 25) rfl rfl Tryz.func85 Zk rfl #[.string ((A0c l0 x7_1).f0)] rfl ml ?_;(with_reducible refine(A1j.calls ((A0c l0 x7_1).f0) true _ A14.o).mono ?_);rintro e w' ⟨rfl,⟨nd,rfl⟩⟩;refine⟨_,rfl,?_⟩));go_ret;exact⟨mr,mq⟩
        ·rw[if_neg c16] at H
         have c16b0:decide (((A0c l0 x7_1).f1) < 0)=false:=C0a c16;clear c16;replace H:=C0f.mp H;obtain⟨t366,A190,H⟩:=H;(try dsimp only at H)
         have A19:=B98 A190;clear A190;by_cases c20:t366=x7_1
         ·rw[if_pos c20] at H
          have c20b0:(t366 == x7_1)=true:=beq_iff_eq.mpr c20;have c20b1:(t366 != x7_1)=false:=bne_eq_false_iff_eq.mpr c20;clear c20;have H':=B98 H;clear H;have p363:0≤(x7_1:Int):=mo;have q363:x7_1 < (l0.length:Int):=mo;obtain⟨ad363,e363,hx363_0,hx363_1⟩:=A1t (Kd.C_below HR0.o HB.o) x7_1 p363 q363;cases e363;replace p363:=eq_true p363;replace q363:=eq_true q363;go_wp2_with (first|((with_reducible refine A0b (N:=4) rfl ?_);refine yE (N:=4) (cs:=#[.string (⟨#[]⟩:ByteArray),.int .i64 0]) (t:=151) fun gb364 hg w21 hbox hb=>?_;obtain⟨n0_,n2_⟩:=yX (w:=w) hg hb mq;have n1_:=B98 (hbox);have n3_:=n2_;clear HB;have HB:=n0_;have BK364:=n1_;have GW364:=n2_;have GE364:=n3_;clear n0_ n1_ n2_ n3_;clear hb hbox hg;obtain⟨hcz22_0,hcz22_1,hfz22_0,hfz22_1⟩:=zb2 BK364.o)|((with_reducible refine A0j (f:=85) rfl ?_);refine A1l (some 25) rfl rfl Tryz.func85 Zk rfl #[.string ((A0c l0 x7_1).f0)] rfl ml ?_;(with_reducible refine(A1j.calls ((A0c l0 x7_1).f0) true _ A14.o).mono ?_);rintro e w' ⟨rfl,⟨nd,rfl⟩⟩;refine⟨_,rfl,?_⟩)|(go_at_call 134;(with_reducible refine(A0q.calls k1 _ _ l0 ((A0c l0 x7_1).f0) t366 _ ?side1 ?side2 A19.o).mono ?_);(case side1=>exact Kd.C_below HR0.o mq);(case side2=>exact HC0.o);rintro e w23 ⟨rfl,hb⟩;have n0_:=B98 (zK (g:=gb364) (o:=.cells #[.string ((A0c l0 x7_1).f0),.int .i64 ((A0c l0 x7_1).f1)] 151 (0,0)) (by(with_reducible repeat(first|apply zA|apply zC|apply zB));refine A1u (cs:=#[.string ((A0c l0 x7_1).f0),.int .i64 0]) ?_ 1 _ rfl;(with_reducible repeat(first|apply zA|apply zC|apply zB));refine A1u (cs:=#[.string (⟨#[]⟩:ByteArray),.int .i64 0]) ?_ 0 _ rfl;(with_reducible repeat(first|apply zA|apply zC|apply zB));exact BK364.o) hb);have n1_:=B98 (zN mq hb);clear BK364;clear HB;have BK364:=n0_;have HB:=n1_;clear n0_ n1_;(try clear hb);(try clear hb2);(try clear hk);(try clear hi)))
          go_roundg k1
          case measure=>have:=HK1.o;omega
          case rel=>exact⟨(wrap64 (x7_1+1)),mt,H',⟨by have:=HK1.o;omega⟩,⟨mq⟩⟩
         ·rw[if_neg c20] at H
          have c20b0:(t366 == x7_1)=false:=C0g.mpr c20;have c20b1:(t366 != x7_1)=true:=bne_iff_ne.mpr c20;obtain rfl:=C0d H;have p363:0≤(x7_1:Int):=mo;have q363:x7_1 < (l0.length:Int):=mo;obtain⟨ad363,e363,hx363_0,hx363_1⟩:=A1t (Kd.C_below HR0.o HB.o) x7_1 p363 q363;cases e363;replace p363:=eq_true p363;replace q363:=eq_true q363;go_wp2_with (first|((with_reducible refine A0b (N:=4) rfl ?_);refine yE (N:=4) (cs:=#[.string (⟨#[]⟩:ByteArray),.int .i64 0]) (t:=151) fun gb364 hg w24 hbox hb=>?_;obtain⟨n0_,n2_⟩:=yX (w:=w) hg hb mq;have n1_:=B98 (hbox);have n3_:=n2_;clear HB;have HB:=n0_;have BK364:=n1_;have GW364:=n2_;have GE364:=n3_;clear n0_ n1_ n2_ n3_;clear hb hbox hg;obtain⟨hcz25_0,hcz25_1,hfz25_0,hfz25_1⟩:=zb2 BK364.o)|((with_reducible refine A0j (f:=85) rfl ?_);refine A1l (some 25) rfl rfl Tryz.func85 Zk rfl #[.string ((A0c l0 x7_1).f0)] rfl ml ?_;(with_reducible refine(A1j.calls ((A0c l0 x7_1).f0) true _ A14.o).mono ?_);rintro e w' ⟨rfl,⟨nd,rfl⟩⟩;refine⟨_,rfl,?_⟩)|(go_at_call 134;(with_reducible refine(A0q.calls k1 _ _ l0 ((A0c l0 x7_1).f0) t366 _ ?side1 ?side2 A19.o).mono ?_);(case side1=>exact Kd.C_below HR0.o mq);(case side2=>exact HC0.o);rintro e w26 ⟨rfl,hb⟩;have n0_:=B98 (zK (g:=gb364) (o:=.cells #[.string ((A0c l0 x7_1).f0),.int .i64 ((A0c l0 x7_1).f1)] 151 (0,0)) (by(with_reducible repeat(first|apply zA|apply zC|apply zB));refine A1u (cs:=#[.string ((A0c l0 x7_1).f0),.int .i64 0]) ?_ 1 _ rfl;(with_reducible repeat(first|apply zA|apply zC|apply zB));refine A1u (cs:=#[.string (⟨#[]⟩:ByteArray),.int .i64 0]) ?_ 0 _ rfl;(with_reducible repeat(first|apply zA|apply zC|apply zB));exact BK364.o) hb);have n1_:=B98 (zN mq hb);clear BK364;clear HB;have BK364:=n0_;have HB:=n1_;clear n0_ n1_;(try clear hb);(try clear hb2);(try clear hk);(try clear hi)));go_ret;exact⟨mr,mq⟩
       ·replace c15:=Bool.eq_false_iff.mpr c15
        subst c15;rw[if_neg (show ¬ (false=true) by decide)] at H;obtain rfl:=C0d H;have p363:0≤(x7_1:Int):=mo;have q363:x7_1 < (l0.length:Int):=mo;obtain⟨ad363,e363,hx363_0,hx363_1⟩:=A1t (Kd.C_below HR0.o HB.o) x7_1 p363 q363;cases e363;replace p363:=eq_true p363;replace q363:=eq_true q363;go_wp2_with (first|((with_reducible refine A0b (N:=4) rfl ?_);refine yE (N:=4) (cs:=#[.string (⟨#[]⟩:ByteArray),.int .i64 0]) (t:=151) fun gb364 hg w27 hbox hb=>?_;obtain⟨n0_,n2_⟩:=yX (w:=w) hg hb mq;have n1_:=B98 (hbox);have n3_:=n2_;clear HB;have HB:=n0_;have BK364:=n1_;have GW364:=n2_;have GE364:=n3_;clear n0_ n1_ n2_ n3_;clear hb hbox hg;obtain⟨hcz28_0,hcz28_1,hfz28_0,hfz28_1⟩:=zb2 BK364.o)|((with_reducible refine A0j (f:=85) rfl ?_);refine A1l (some 25) rfl rfl Tryz.func85 Zk rfl #[.string ((A0c l0 x7_1).f0)] rfl ml ?_;(with_reducible refine(A1j.calls ((A0c l0 x7_1).f0) false _ A14.o).mono ?_);rintro e w' ⟨rfl,⟨nd,rfl⟩⟩;refine⟨_,rfl,?_⟩));go_ret;exact⟨mr,mq⟩
     ·rw[if_neg c4] at H
      exact absurd H Zs
    ·rw[if_neg c3] at H
     exact absurd H Zs
   ·rw[if_neg c2] at H
    have c2b0:decide (x7_1 < (l0.length:Int))=false:=C0a c2;clear c2;obtain rfl:=C0d H;go_wp2
    go_ret;exact⟨mr,mq⟩
def A1n.l0:Nat→Int→List (S151)→Int→Int→Option (Int)
|0,_,_,_,_=>none
|k+1,x3,x6,x7,x8=>if x8 < x7 then (if 0≤x8 then (if x8 < (x6.length:Int) then (if ((A0c x6 x8).f0).toList=([]:List UInt8) then (if ((A0c x6 x8).f1)=(-1) then (A1n.l0 k (wrap64 (x3+1)) x6 x7 (wrap64 (x8+1))) else (A1n.l0 k x3 x6 x7 (wrap64 (x8+1)))) else (A1n.l0 k x3 x6 x7 (wrap64 (x8+1)))) else (none)) else (none)) else (some x3)
def A1n.f (k:Nat) (l0:List (S151)):Option (Int):=A1n.l0 k 0 l0 (l0.length:Int) 0
theorem A1n.calls (k:Nat) (A0:Option Addr) (c0:Nat) (l0:List (S151)) (r:Int) (w:World) (hr0:Kd.C k151 w A0 l0.length l0) (hc0:l0.length≤c0) (h:A1n.f k l0=some r) :
  Calls Tryz.prog 193 #[.slice A0 l0.length c0] w fun e w'=>e=.returned (.int .i64 r)∧Below w.heap.size w w':=by
 have hu151:=Tryz.underlying151;have HR0:=B98 hr0;have HC0:=B98 hc0;clear hr0 hc0;have HB:=B98 (Below.refl w.heap.size w);unfold A1n.f at h;have H:=h;clear h;have H':=B98 H;clear H;go_enter Tryz.func193,Tryz.ntmps193
 go_wp2
 go_loopg [3,8] k (fun kq v3 v8 w'=>∃ (x3_1:Int) (x8_1:Int),v3=.int .i64 x3_1∧v8=.int .i64 x8_1∧A0a (A1n.l0 kq x3_1 l0 (l0.length:Int) x8_1=some r)∧A0a (kq≤k)∧A0a (Below w.heap.size w w'))
 case atStart=>exact⟨(0),(0),mt,mt,H',⟨Nat.le_refl _⟩,⟨mq⟩⟩
 case round =>
  clear H';obtain⟨x3_1,x8_1,rfl,rfl,HA,HK1,HB⟩:=hrel;cases gk with
 |zero=>exact absurd HA.o (by simp[A1n.l0])
 |succ k1 =>
   have H:=HA.o;clear HA;simp only [A1n.l0] at H;by_cases c2:x8_1 < (l0.length:Int)
   ·rw[if_pos c2] at H
    have c2b0:decide (x8_1 < (l0.length:Int))=true:=B99 c2;clear c2;by_cases c3:0≤x8_1
    ·rw[if_pos c3] at H
     have c3b0:decide (0≤x8_1)=true:=B99 c3;clear c3;by_cases c4:x8_1 < (l0.length:Int)
     ·rw[if_pos c4] at H
      have c4b0:decide (x8_1 < (l0.length:Int))=true:=B99 c4;clear c4;by_cases c5:((A0c l0 x8_1).f0).toList=([]:List UInt8)
      ·rw[if_pos c5] at H
       have c5b0:(((A0c l0 x8_1).f0).toList == ([]:List UInt8))=true:=beq_iff_eq.mpr c5;have c5b1:(((A0c l0 x8_1).f0).toList != ([]:List UInt8))=false:=bne_eq_false_iff_eq.mpr c5;clear c5;by_cases c6:((A0c l0 x8_1).f1)=(-1)
       ·rw[if_pos c6] at H
        have c6b0:(((A0c l0 x8_1).f1) == (-1))=true:=beq_iff_eq.mpr c6;have c6b1:(((A0c l0 x8_1).f1) != (-1))=false:=bne_eq_false_iff_eq.mpr c6;clear c6;have H':=B98 H;clear H;have p367:0≤(x8_1:Int):=mo;have q367:x8_1 < (l0.length:Int):=mo;obtain⟨ad367,e367,hx367_0,hx367_1⟩:=A1t (Kd.C_below HR0.o HB.o) x8_1 p367 q367;cases e367;replace p367:=eq_true p367;replace q367:=eq_true q367;go_wp2_with (first|((with_reducible refine A0b (N:=5) rfl ?_);refine yE (N:=5) (cs:=#[.string (⟨#[]⟩:ByteArray),.int .i64 0]) (t:=151) fun gb368 hg w7 hbox hb=>?_;obtain⟨n0_,n2_⟩:=yX (w:=w) hg hb mq;have n1_:=B98 (hbox);have n3_:=n2_;clear HB;have HB:=n0_;have BK368:=n1_;have GW368:=n2_;have GE368:=n3_;clear n0_ n1_ n2_ n3_;clear hb hbox hg;obtain⟨hcz8_0,hcz8_1,hfz8_0,hfz8_1⟩:=zb2 BK368.o))
        go_roundg k1
        case measure=>have:=HK1.o;omega
        case rel=>exact⟨(wrap64 (x3_1+1)),(wrap64 (x8_1+1)),mt,mt,H',⟨by have:=HK1.o;omega⟩,⟨mq⟩⟩
       ·rw[if_neg c6] at H
        have c6b0:(((A0c l0 x8_1).f1) == (-1))=false:=C0g.mpr c6;have c6b1:(((A0c l0 x8_1).f1) != (-1))=true:=bne_iff_ne.mpr c6;have H':=B98 H;clear H;have p367:0≤(x8_1:Int):=mo;have q367:x8_1 < (l0.length:Int):=mo;obtain⟨ad367,e367,hx367_0,hx367_1⟩:=A1t (Kd.C_below HR0.o HB.o) x8_1 p367 q367;cases e367;replace p367:=eq_true p367;replace q367:=eq_true q367;go_wp2_with (first|((with_reducible refine A0b (N:=5) rfl ?_);refine yE (N:=5) (cs:=#[.string (⟨#[]⟩:ByteArray),.int .i64 0]) (t:=151) fun gb368 hg w9 hbox hb=>?_;obtain⟨n0_,n2_⟩:=yX (w:=w) hg hb mq;have n1_:=B98 (hbox);have n3_:=n2_;clear HB;have HB:=n0_;have BK368:=n1_;have GW368:=n2_;have GE368:=n3_;clear n0_ n1_ n2_ n3_;clear hb hbox hg;obtain⟨hcz10_0,hcz10_1,hfz10_0,hfz10_1⟩:=zb2 BK368.o))
        go_roundg k1
        case measure=>have:=HK1.o;omega
        case rel=>exact⟨(x3_1),(wrap64 (x8_1+1)),mt,mt,H',⟨by have:=HK1.o;omega⟩,⟨mq⟩⟩
      ·rw[if_neg c5] at H
       have c5b0:(((A0c l0 x8_1).f0).toList == ([]:List UInt8))=false:=C0g.mpr c5;have c5b1:(((A0c l0 x8_1).f0).toList != ([]:List UInt8))=true:=bne_iff_ne.mpr c5;have H':=B98 H;clear H;have p367:0≤(x8_1:Int):=mo;have q367:x8_1 < (l0.length:Int):=mo;obtain⟨ad367,e367,hx367_0,hx367_1⟩:=A1t (Kd.C_below HR0.o HB.o) x8_1 p367 q367;cases e367;replace p367:=eq_true p367;replace q367:=eq_true q367;go_wp2_with (first|((with_reducible refine A0b (N:=5) rfl ?_);refine yE (N:=5) (cs:=#[.string (⟨#[]⟩:ByteArray),.int .i64 0]) (t:=151) fun gb368 hg w11 hbox hb=>?_;obtain⟨n0_,n2_⟩:=yX (w:=w) hg hb mq;have n1_:=B98 (hbox);have n3_:=n2_;clear HB;have HB:=n0_;have BK368:=n1_;have GW368:=n2_;have GE368:=n3_;clear n0_ n1_ n2_ n3_;clear hb hbox hg;obtain⟨hcz12_0,hcz12_1,hfz12_0,hfz12_1⟩:=zb2 BK368.o))
       go_roundg k1
       case measure=>have:=HK1.o;omega
       case rel=>exact⟨(x3_1),(wrap64 (x8_1+1)),mt,mt,H',⟨by have:=HK1.o;omega⟩,⟨mq⟩⟩
     ·rw[if_neg c4] at H
      exact absurd H Zs
    ·rw[if_neg c3] at H
     exact absurd H Zs
   ·rw[if_neg c2] at H
    have c2b0:decide (x8_1 < (l0.length:Int))=false:=C0a c2;clear c2;obtain rfl:=C0d H;go_wp2
    go_ret;exact⟨mr,mq⟩
end Go.Proofs.YtediiolcoilepaaGreat.GNear
