/- Walks of callees. -/
import Derived.Test.YtediiolcoilepaaGreatGNear3
namespace Go.Proofs.YtediiolcoilepaaGreat.Nb
set_option maxHeartbeats 8000000
set_option maxRecDepth 100000
open Go.RowKit YtediiolcoilepaaGreat.GNear YtediiolcoilepaaGreatW.PrintWords YtediiolcoilepaaGreatW.PrintLast YtediiolcoilepaaGreatW.PrintMore
attribute [local go_sem] A4b A4c A5j A5k A3u A3v A4d A4e
section
structure Flat {α:Type} (d:Kd α) (enc:α→List Value):Prop where
 E:d.E = []
 K:∀ w x cs,d.K w x cs ↔ cs=enc x
 M:∀ w base ok x cs,d.M w base ok x cs ↔ cs=enc x
 len:∀ x,(enc x).length=d.sz
 one:∀ x,∀ v ∈ enc x,v.oneCell'=true
theorem A2p {α:Type} (enc:α→List Value) (sz:Nat) (hl:∀ x,(enc x).length=sz):∀ (xs:List α) (j:Nat) (x:α),xs[j]? = some x→((xs.flatMap enc).drop (j * sz)).take sz=enc x
 |[],j,x,h=>by simp at h
 |y :: ys,0,x,h=>by
  obtain rfl:=C0d h;rw[List.flatMap_cons,Nat.zero_mul,List.drop_zero,List.take_left' (hl y)]
 |y :: ys,j+1,x,h=>by
  rw[List.flatMap_cons,Nat.succ_mul,Nat.add_comm,← List.drop_drop,List.drop_left' (hl y)];exact A2p enc sz hl ys j x h
theorem A2l {α:Type} (enc:α→List Value) (sz:Nat) (hl:∀ x,(enc x).length=sz):∀ (xs:List α),(xs.flatMap enc).length=xs.length * sz
 |[]=>by simp
 |y :: ys=>by rw[List.flatMap_cons,List.length_append,hl,A2l enc sz hl ys,List.length_cons,Nat.succ_mul,Nat.add_comm]
theorem A4j {α:Type} (enc:α→List Value) (sz:Nat) (hl:∀ x,(enc x).length=sz) {R:α→List Value→Prop} (hR:∀ x cs,R x cs ↔ cs=enc x) :
  ∀ (xs:List α) (cs:List Value),Reps R sz xs cs ↔ cs=xs.flatMap enc
 |[],cs=>by
  constructor
  ·rintro ⟨h,_⟩
   rw[List.length_nil,Nat.zero_mul] at h;rw[List.eq_nil_of_length_eq_zero h];rfl
  ·rintro rfl;exact Reps.none _ _
 |y :: ys,cs=>by
  constructor
  ·rintro ⟨h,hr⟩
   have h0:cs.take sz=enc y:=by
    have:=(hR _ _).1 (hr 0 y rfl)
    rwa [Nat.zero_mul,List.drop_zero] at this
   have h1:=(A4j enc sz hl hR ys (cs.drop sz)).1 ⟨by rw[List.length_drop,h,List.length_cons,Nat.succ_mul];omega,fun j p hj=>by
    have:=hr (j+1) p hj
    rwa [Nat.succ_mul,Nat.add_comm,← List.drop_drop] at this⟩
   rw[List.flatMap_cons,← h0,← h1,List.take_append_drop]
  ·rintro rfl
   exact⟨A2l enc sz hl _,fun j p hj=>(hR _ _).2 (A2p enc sz hl _ j p hj)⟩
theorem A6l {α:Type} {d:Kd α} {enc:α→List Value} (F:Flat d enc) {e base:Nat} {ok:Nat→Prop} {w:World} {A:Option Addr} {n c:Nat} {xs:List α} (h:d.R e w base ok (.slice A n c) xs) :
  n=xs.length∧((A=none∧n=0∧c=0) ∨ ∃ g cur,A=some ⟨g,0,none⟩∧ok g∧base≤g∧w.heap[g]? = some (.cells cur e (0,0))∧n≤c∧c≤maxLen∧cur.size=c * d.sz∧cur.toList.take (n * d.sz)=xs.flatMap enc):=by
 obtain⟨h0,inner,⟨hlen,ho⟩,hr⟩:=h;obtain rfl:=(A4j enc d.sz F.len (fun x cs=>F.M _ _ _ x cs) xs inner).1 hr
 rcases ho with ⟨hv,hn⟩|⟨g,cap,cur,hv,hb,hc,hn,hm,hs,ht⟩
 ·obtain⟨rfl,rfl,rfl⟩:=Value.slice.inj hv
  exact⟨hn.symm,.inl ⟨rfl,rfl,rfl⟩⟩
 ·obtain⟨rfl,rfl,rfl⟩:=Value.slice.inj hv
  exact⟨rfl,.inr ⟨g,cur,rfl,h0 g rfl,hb,hc,hn,hm,hs,ht⟩⟩
theorem A7j {α:Type} {d:Kd α} {enc:α→List Value} (F:Flat d enc) {e base:Nat} {ok:Nat→Prop} {w:World} {g n c:Nat} {cur:Array Value} {xs:List α} (hk:ok g) (hb:base≤g)
  (hc:w.heap[g]? = some (.cells cur e (0,0))) (hn:n=xs.length) (hnc:n≤c) (hm:c≤maxLen) (hs:cur.size=c * d.sz) (ht:cur.toList.take (n * d.sz)=xs.flatMap enc) :
  d.R e w base ok (.slice (some ⟨g,0,none⟩) n c) xs:=by
 subst hn;refine⟨fun k hk'=>?_,xs.flatMap enc,⟨A2l enc d.sz F.len xs,.inr ⟨g,c,cur,rfl,hb,hc,hnc,hm,hs,ht⟩⟩,(A4j enc d.sz F.len (fun x cs=>F.M _ _ _ x cs) xs _).2 rfl⟩;simp[Value.ownBlock] at hk';rw[← hk'];exact hk
end
theorem flat_cell {α:Type} (enc:α→List Value) (sz:Nat) (hl:∀ x,(enc x).length=sz):∀ (xs:List α) (i j:Nat) (x x':α) (v:Value),xs[i]? = some x→j < sz→enc x'=(enc x).set j v→(xs.set i x').flatMap enc=(xs.flatMap enc).set (i * sz+j) v
 |[],i,j,x,x',v,h,_,_=>by simp at h
 |y :: ys,0,j,x,x',v,h,hj,he=>by
  obtain rfl:=C0d h;rw[List.set_cons_zero,List.flatMap_cons,List.flatMap_cons,Nat.zero_mul,Nat.zero_add,he,List.set_append_left _ _ (by rw[hl];exact hj)]
 |y :: ys,i+1,j,x,x',v,h,hj,he=>by
  rw[List.set_cons_succ,List.flatMap_cons,List.flatMap_cons,flat_cell enc sz hl ys i j x x' v (by simpa using h) hj he,List.set_append_right _ _ (by rw[hl,Nat.succ_mul];omega)]
  congr 2
  rw[hl,Nat.succ_mul];omega
theorem B5r {α:Type} {d:Kd α} {enc:α→List Value} (F:Flat d enc) {e base:Nat} {ok:Nat→Prop} {w:World} {g n c:Nat} {xs:List α} (h:d.R e w base ok (.slice (some ⟨g,0,none⟩) n c) xs)
  {i j:Nat} {x x':α} {v:Value} (hi:xs[i]? = some x) (hj:j < d.sz) (he:enc x'=(enc x).set j v):d.R e (w.setCell ⟨g,i * d.sz+j,none⟩ v) base ok (.slice (some ⟨g,0,none⟩) n c) (xs.set i x'):=by
 obtain⟨hn,ho⟩:=A6l F h;subst hn;rcases ho with ⟨hA,_⟩|⟨g',cur,hA,hk,hb,hc,hn,hm,hs,ht⟩
 ·cases hA
 ·obtain rfl:g=g':=by injection hA with hA;injection hA
  refine A7j F hk hb (A4p hc (i * d.sz+j) v) Zs hn hm (by simp[hs]) ?_;rw[Array.toList_setIfInBounds,flat_cell enc d.sz F.len xs i j x x' v hi hj he,← ht,List.take_set]
section
structure Part where
 foot:Nat→Prop
 holds:World→Nat→Prop
 keep:∀ {w w':World} {b:Nat},(∀ k,foot k→w'.heap[k]? = w.heap[k]?)→holds w b→holds w' b
 bound:∀ {w:World} {b:Nat},holds w b→∀ k,foot k→b≤k∧k < w.heap.size
 lower:∀ {w:World} {b b':Nat},b'≤b→holds w b→holds w b'
def Part.row {α:Type} (d:Kd α) (e:Nat) (v:Value) (xs:List α):Part where
 foot k:=v.ownBlock=some k
 holds w b:=d.R e w b (fun k=>some k=v.ownBlock) v xs
 keep hm h:=Kd.R_move h (fun k hk=>hm k hk.symm)
 bound h k hk:=⟨Kd.R_base h k hk,Kd.R_lt h k hk⟩
 lower hb h:=Kd.R_lower h hb
def Part.blk (g t:Nat) (cs:Array Value):Part where
 foot k:=k=g
 holds w b:=b≤g∧w.heap[g]? = some (.cells cs t (0,0))
 keep hm h:=⟨h.1,(hm _ rfl).trans h.2⟩
 bound h k hk:=by subst hk;exact⟨h.1,A6c h.2⟩
 lower hb h:=⟨Nat.le_trans hb h.1,h.2⟩
theorem Part.of_R {α:Type} {d:Kd α} {e b:Nat} {ok:Nat→Prop} {w:World} {v:Value} {xs:List α} (hE:d.E = []) (h:d.R e w b ok v xs):(Part.row d e v xs).holds w b:=by
 obtain⟨h0,inner,ho,hr⟩:=Kd.R_bound h;refine⟨fun k hk=>hk.symm,inner,ho,hr.imp_ (fun _ _ hp=>d.M_mono (fun k hk=>?_) (d.M_bound hp))⟩;obtain⟨_,_,_,q,hq,_⟩:=hk;rw[hE] at hq;exact absurd hq Zs
structure St (w0 w:World) (ps:List Part):Prop where
 below:Below w0.heap.size w0 w
 all:∀ p ∈ ps,p.holds w w0.heap.size
 apart:ps.Pairwise (fun p q=>∀ k,p.foot k→¬ q.foot k)
theorem St.start (w:World):St w w []:=⟨Below.refl _ _,by simp,List.Pairwise.nil⟩
section
variable {w0 w w':World} {ps:List Part}
theorem St.move (h:St w0 w ps) (hb:Below w0.heap.size w0 w') (hm:∀ p ∈ ps,∀ k,p.foot k→w'.heap[k]? = w.heap[k]?):St w0 w' ps:=⟨hb,fun p hp=>p.keep (hm p hp) (h.all p hp),h.apart⟩
theorem St.step (h:St w0 w ps) (hb:Below w.heap.size w w'):St w0 w' ps:=h.move (A33 h.below hb) (fun p hp k hk=>hb.block k (p.bound (h.all p hp) k hk).2)
theorem St.drew (h:St w0 w ps):St w0 w.drew ps:=h.step (A2r (Below.refl _ _))
theorem St.tail {p:Part} (h:St w0 w (p :: ps)):St w0 w ps:=⟨h.below,fun q hq=>h.all q (List.mem_cons_of_mem _ hq),(List.pairwise_cons.1 h.apart).2⟩
theorem St.head {p:Part} (h:St w0 w (p :: ps)):p.holds w w0.heap.size:=h.all p Zs
theorem St.away {p:Part} (h:St w0 w (p :: ps)):∀ q ∈ ps,∀ k,p.foot k→¬ q.foot k:=(List.pairwise_cons.1 h.apart).1
theorem St.new {p:Part} (h:St w0 w ps) (hb:Below w.heap.size w w') (hp:p.holds w' w.heap.size):St w0 w' (p :: ps):=by
 have h':=h.step hb;refine⟨h'.below,fun q hq=>?_,List.pairwise_cons.2 ⟨fun q hq k hk hq'=>?_,h'.apart⟩⟩
 ·rcases List.mem_cons.1 hq with rfl|hq
  ·exact q.lower h.below.size hp
  ·exact h'.all q hq
 ·have h1:=(p.bound hp k hk).1
  have h2:=(q.bound (h.all q hq) k hq').2;omega
theorem St.new_row {α:Type} {d:Kd α} {e:Nat} {ok:Nat→Prop} {v:Value} {xs:List α} (hE:d.E = []) (h:St w0 w ps) (hb:Below w.heap.size w w') (hr:d.R e w' w.heap.size ok v xs):St w0 w' (Part.row d e v xs :: ps):=h.new hb (Part.of_R hE hr)
theorem St.new_blk {g t:Nat} {cs:Array Value} (h:St w0 w ps) (hb:Below w.heap.size w w') (hg:w.heap.size≤g) (hc:w'.heap[g]? = some (.cells cs t (0,0))):St w0 w' (Part.blk g t cs :: ps):=h.new (p:=Part.blk g t cs) hb ⟨hg,hc⟩
theorem St.nil_row {α:Type} (d:Kd α) (e:Nat) (h:St w0 w ps):St w0 w (Part.row d e (.slice none 0 0) [] :: ps) :=
 ⟨h.below,fun q hq=>(List.mem_cons.1 hq).elim (fun e'=>e' ▸ Kd.R_nil d e w _ _) (h.all q),List.pairwise_cons.2 ⟨fun q _ k hk=>by simp[Part.row,Value.ownBlock] at hk,h.apart⟩⟩
theorem St.perm {qs:List Part} (h:St w0 w ps) (hp:qs.Perm ps):St w0 w qs:=⟨h.below,fun p hq=>h.all p (hp.mem_iff.1 hq),(hp.pairwise_iff (fun hab k hk hk'=>hab k hk' hk)).2 h.apart⟩
theorem St.swap {p q:Part} (h:St w0 w (p :: q :: ps)):St w0 w (q :: p :: ps):=h.perm (List.Perm.swap _ _ _)
theorem St.sub {qs:List Part} (h:St w0 w ps) (hs:qs.Sublist ps):St w0 w qs:=⟨h.below,fun p hp=>h.all p (hs.subset hp),h.apart.sublist hs⟩
theorem B3u {α:Type _}:∀ (l:List α) (i:Nat) (h:i < l.length),(l[i] :: l.eraseIdx i).Perm l
 |a :: l,0,_=>List.Perm.refl _
 |a :: l,i+1,h=>(List.Perm.swap _ _ _).trans ((B3u l i (by simpa using h)).cons a)
theorem St.front {p:Part} {qs:List Part} (i:Nat) (h:St w0 w ps) (e:ps[i]? = some p) (e':ps.eraseIdx i=qs):St w0 w (p :: qs):=by
 subst e';refine h.perm ?_;obtain⟨hi,rfl⟩:=C0e.1 e;exact(B3u _ _ hi)
theorem St.cell {g t:Nat} {cs:Array Value} (h:St w0 w (Part.blk g t cs :: ps)) (j:Nat) {v:Value} (e:cs[j]? = some v):w.cell? ⟨g,j,none⟩=some v:=(A1h h.head.2 j).trans e
theorem St.frozen {g t:Nat} {cs:Array Value} (h:St w0 w (Part.blk g t cs :: ps)) (j:Nat):w.frozen? ⟨g,j,none⟩=false:=A1k h.head.2 j
theorem St.put {g t:Nat} {cs cs':Array Value} (h:St w0 w (Part.blk g t cs :: ps)) (j:Nat) (u:Value) (e:cs.setIfInBounds j u=cs'):St w0 (w.setCell ⟨g,j,none⟩ u) (Part.blk g t cs' :: ps):=by
 subst e;have hb:=A3l (j:=j) (v:=u) h.below h.head.1;refine⟨hb,fun q hq=>?_,List.pairwise_cons.2 ⟨h.away,h.tail.apart⟩⟩
 rcases List.mem_cons.1 hq with rfl|hq
 ·exact⟨h.head.1,A4p h.head.2 j u⟩
 ·refine q.keep (fun k hk=>Below.heap_setCell w ⟨g,j,none⟩ u k (fun ek=>?_)) (h.tail.all q hq)
  exact h.away q hq k ek hk
theorem St.at_cell {g t:Nat} {cs:Array Value} {v:Value} (h:St w0 w ps) (i:Nat) (e:ps[i]? = some (Part.blk g t cs)) (j:Nat) (e2:cs[j]? = some v):w.cell? ⟨g,j,none⟩=some v:=(A1h (h.all _ (C0h e)).2 j).trans e2
theorem St.at_frozen {g t:Nat} {cs:Array Value} (h:St w0 w ps) (i:Nat) (e:ps[i]? = some (Part.blk g t cs)) (j:Nat):w.frozen? ⟨g,j,none⟩=false:=A1k (h.all _ (C0h e)).2 j
theorem St.at_apart {p q:Part} (h:St w0 w ps) (i j:Nat) (e:ps[i]? = some p) (e2:ps[j]? = some q) (hij:i ≠ j):∀ k,p.foot k→¬ q.foot k:=by
 obtain⟨hi,rfl⟩:=C0e.1 e;obtain⟨hj,rfl⟩:=C0e.1 e2;have hp:=List.pairwise_iff_getElem.1 h.apart
 rcases Nat.lt_or_ge i j with hl|hl
 ·exact hp i j hi hj hl
 ·exact fun k h1 h2=>hp j i hj hi Zo k h2 h1
theorem St.at_ne {g t g' t':Nat} {cs cs':Array Value} (h:St w0 w ps) (i j:Nat) (e:ps[i]? = some (Part.blk g t cs)) (e2:ps[j]? = some (Part.blk g' t' cs')) (hij:i ≠ j):g ≠ g':=fun eg=>h.at_apart i j e e2 hij g rfl eg
theorem St.at_own {α:Type} {d:Kd α} {e0:Nat} {v:Value} {xs:List α} {g t:Nat} {cs:Array Value} (h:St w0 w ps) (i j:Nat) (e:ps[i]? = some (Part.blk g t cs)) (e2:ps[j]? = some (Part.row d e0 v xs)) (hij:i ≠ j):v.ownBlock ≠ some g:=fun eg=>h.at_apart i j e e2 hij g rfl eg
theorem St.at_C {α:Type} {d:Kd α} {e0 n c:Nat} {A:Option Addr} {xs:List α} (h:St w0 w ps) (i:Nat) (e:ps[i]? = some (Part.row d e0 (.slice A n c) xs)):n=xs.length∧n≤c∧d.C w A xs.length xs:=Kd.R_reads' (h.all _ (C0h e))
theorem St.at_R {α:Type} {d:Kd α} {e0:Nat} {v:Value} {xs:List α} (h:St w0 w ps) (i:Nat) (e:ps[i]? = some (Part.row d e0 v xs)):d.R e0 w w0.heap.size (fun k=>some k=v.ownBlock) v xs:=h.all _ (C0h e)
theorem St.at_lt {g t:Nat} {cs:Array Value} (h:St w0 w ps) (i:Nat) (e:ps[i]? = some (Part.blk g t cs)):g < w.heap.size:=A6c (h.all _ (C0h e)).2
theorem St.alloc (h:St w0 w ps) (cs:Array Value) (t:Nat):St w0 (w.alloc (.cells cs t (0,0))) (Part.blk w.heap.size t cs :: ps):=h.new_blk (A2m (Below.refl _ _) _) (Nat.le_refl _) (B45 w _)
theorem St.C {α:Type} {d:Kd α} {e n c:Nat} {A:Option Addr} {xs:List α} (h:St w0 w (Part.row d e (.slice A n c) xs :: ps)):n=xs.length∧n≤c∧d.C w A xs.length xs:=Kd.R_reads' h.head
theorem St.over {α:Type} {d:Kd α} {e:Nat} {ok:Nat→Prop} {v:Value} {xs ys:List α} (hE:d.E = []) (h:St w0 w (Part.row d e v xs :: ps)) (hg:w.grownBy w' v.ownBlock) (hr:d.R e w' w0.heap.size ok v ys):St w0 w' (Part.row d e v ys :: ps):=by
 refine⟨h.below.grown hg h.below.size (fun k hk=>Kd.R_base h.head k hk),fun q hq=>?_,List.pairwise_cons.2 ⟨h.away,h.tail.apart⟩⟩
 rcases List.mem_cons.1 hq with rfl|hq
 ·exact Part.of_R hE hr
 ·refine q.keep (fun k hk=>hg.block k (q.bound (h.tail.all q hq) k hk).2 (fun ek=>?_)) (h.tail.all q hq)
  exact h.away q hq k ek.symm hk
theorem St.appended {α:Type} {d:Kd α} {e:Nat} {ok:Nat→Prop} {v v1:Value} {xs zs:List α} (hE:d.E = []) (h:St w0 w (Part.row d e v xs :: ps)) (hb:Below w0.heap.size w0 w') (hg:w.grownBy w' v.ownBlock) (hr:d.R e w' w0.heap.size ok v1 zs)
  (hat:v1.ownBlock=v.ownBlock ∨ ∃ b,v1.ownBlock=some b∧w.heap.size≤b):St w0 w' (Part.row d e v1 zs :: ps):=by
 refine⟨hb,fun q hq=>?_,List.pairwise_cons.2 ⟨fun q hq k hk hq'=>?_,h.tail.apart⟩⟩
 ·rcases List.mem_cons.1 hq with rfl|hq
  ·exact Part.of_R hE hr
  ·refine q.keep (fun k hk=>hg.block k (q.bound (h.tail.all q hq) k hk).2 (fun ek=>?_)) (h.tail.all q hq)
   exact h.away q hq k ek.symm hk
 ·rcases hat with e1|⟨b,e1,hle⟩
  ·exact h.away q hq k (by show v.ownBlock=some k;rw[← e1];exact hk) hq'
  ·have:some b=some k:=e1.symm.trans hk
   have h2:=(q.bound (h.tail.all q hq) k hq').2;injection this with this;omega
theorem St.via {α:Type} {d:Kd α} {e g t:Nat} {cs cs':Array Value} {ok:Nat→Prop} {u u':Value} {xs ys:List α} (hE:d.E = []) (h:St w0 w (Part.blk g t cs :: Part.row d e u xs :: ps))
  (hb:Below w0.heap.size w0 w') (hc:w'.heap[g]? = some (.cells cs' t (0,0))) (hr:d.R e w' w0.heap.size ok u' ys) (hk:Kept w w' (fun k=>some k=u.ownBlock ∨ k=g)) (hok:∀ k,ok k→k ≠ g∧∀ q ∈ ps,¬ q.foot k) :
  St w0 w' (Part.blk g t cs' :: Part.row d e u' ys :: ps):=by
 have hown:∀ k,u'.ownBlock=some k→k ≠ g∧∀ q ∈ ps,¬ q.foot k:=fun k hk'=>hok k (hr.1 k hk');refine⟨hb,fun q hq=>?_,List.pairwise_cons.2 ⟨fun q hq k hk' hq'=>?_,List.pairwise_cons.2 ⟨fun q hq k hk'=>(hown k hk').2 q hq,h.tail.tail.apart⟩⟩⟩
 ·rcases List.mem_cons.1 hq with rfl|hq
  ·exact⟨h.head.1,hc⟩
  ·rcases List.mem_cons.1 hq with rfl|hq
   ·exact Part.of_R hE hr
   ·refine q.keep (fun k hk'=>hk.2 k (q.bound (h.tail.tail.all q hq) k hk').2 (fun hs=>?_)) (h.tail.tail.all q hq)
    rcases hs with hs|hs
    ·exact h.tail.away q hq k hs.symm hk'
    ·exact h.away q (List.mem_cons_of_mem _ hq) k hs hk'
 ·rcases List.mem_cons.1 hq with hq|hq
  ·subst hq;exact(hown k hq').1 hk'
  ·exact h.away q (List.mem_cons_of_mem _ hq) k hk' hq'
def Free (g:Nat) (ps:List Part) (k:Nat):Prop:=k ≠ g∧∀ q ∈ ps,¬ q.foot k
theorem St.row_free {α:Type} {d:Kd α} {e g t:Nat} {cs:Array Value} {u:Value} {xs:List α} (h:St w0 w (Part.blk g t cs :: Part.row d e u xs :: ps)):d.R e w w0.heap.size (Free g ps) u xs :=
 Kd.R_mono h.tail.head (fun k hk=>⟨fun e'=>h.away (Part.row d e u xs) Zs k e' hk.symm,fun q hq=>h.tail.away q hq k hk.symm⟩)
theorem St.fresh {g t:Nat} {cs:Array Value} {p:Part} (h:St w0 w (Part.blk g t cs :: p :: ps)):∀ n,w.heap.size≤n→Free g ps n:=fun n hn=>⟨fun e=>by have:=A6c h.head.2;omega,fun q hq hk=>by have:=(q.bound (h.tail.tail.all q hq) n hk).2;omega⟩
end
end
theorem FS:Flat Kd.string (fun s:ByteArray=>[Value.string s]) where
 E:=rfl
 K:=fun _ _ _=>Iff.rfl
 M:=fun _ _ _ _ _=>Iff.rfl
 len:=fun _=>rfl
 one:=fun x v h=>by rw[List.mem_singleton.1 h];rfl
theorem FI:Flat (Kd.int .i64) (fun x:Int=>[Value.int .i64 x]) where
 E:=rfl
 K:=fun _ _ _=>Iff.rfl
 M:=fun _ _ _ _ _=>Iff.rfl
 len:=fun _=>rfl
 one:=fun x v h=>by rw[List.mem_singleton.1 h];rfl
def B9g (x:S94):List Value:=[.int .i64 x.f0,.bool x.f1,.string x.f2,.string x.f3,.int .i64 x.f4]
theorem F94:Flat k94 B9g where
 E:=rfl
 K:=fun w x cs=>⟨fun h=>B1m h,fun h=>h ▸ B9f w x⟩
 M:=fun w base ok x cs=>⟨fun h=>A7t h,fun h=>h ▸ A86 w base ok x⟩
 len:=fun _=>rfl
 one:=fun x v h=>by
  simp only [B9g,List.mem_cons,List.not_mem_nil,or_false] at h;rcases h with rfl|rfl|rfl|rfl|rfl <;> rfl
def A38 (x:S151):List Value:=[.string x.f0,.int .i64 x.f1]
theorem F151:Flat k151 A38 where
 E:=rfl
 K:=fun w x cs=>⟨fun h=>A7u h,fun h=>h ▸ B3t w x⟩
 M:=fun w base ok x cs=>⟨fun h=>A8o h,fun h=>h ▸ A54 w base ok x⟩
 len:=fun _=>rfl
 one:=fun x v h=>by
  simp only [A38,List.mem_cons,List.not_mem_nil,or_false] at h;rcases h with rfl|rfl <;> rfl
theorem St.put_flat {α:Type} {d:Kd α} {enc:α→List Value} (F:Flat d enc) {w0 w:World} {ps:List Part} {e g n c:Nat} {xs:List α} (h:St w0 w (Part.row d e (.slice (some ⟨g,0,none⟩) n c) xs :: ps)) {i j:Nat} {x x':α} {v:Value} (hi:xs[i]? = some x) (hj:j < d.sz) (he:enc x'=(enc x).set j v) :
  St w0 (w.setCell ⟨g,i * d.sz+j,none⟩ v) (Part.row d e (.slice (some ⟨g,0,none⟩) n c) (xs.set i x') :: ps):=by
 refine St.over F.E h ?_ (B5r F h.head hi hj he);exact⟨by simp[World.setCell],by simp[World.setCell],by simp[World.setCell],by simp[World.setCell],fun k hk hne=>Below.heap_setCell w ⟨g,i * d.sz+j,none⟩ v k (fun e=>hne (by rw[e];rfl))⟩
theorem B73 {α:Type} (enc:α→List Value) (sz:Nat) (hl:∀ x,(enc x).length=sz) (xs:List α) (i j:Nat) (x:α) (v:Value) (hi:xs[i]? = some x) (hv:(enc x)[j]? = some v):(xs.flatMap enc)[i * sz+j]? = some v:=by
 have h:=A2p enc sz hl xs i x hi;have hj:j < sz:=by rw[← hl x];exact(C0e.1 hv).1
 rw[← h,List.getElem?_take,if_pos hj,List.getElem?_drop] at hv;exact hv
theorem St.flat_cell {α:Type} {d:Kd α} {enc:α→List Value} (F:Flat d enc) {w0 w:World} {ps:List Part} {e g n c:Nat} {xs:List α} (h:St w0 w (Part.row d e (.slice (some ⟨g,0,none⟩) n c) xs :: ps)) {i j:Nat} {x:α} {v:Value} (hi:xs[i]? = some x) (hv:(enc x)[j]? = some v) :
  w.cell? ⟨g,i * d.sz+j,none⟩=some v∧w.frozen? ⟨g,i * d.sz+j,none⟩=false:=by
 obtain⟨hn,ho⟩:=A6l F h.head;subst hn;rcases ho with ⟨hA,_⟩|⟨g',cur,hA,_,_,hc,_,_,_,ht⟩
 ·cases hA
 ·obtain rfl:g=g':=by injection hA with hA;injection hA
  refine⟨?_,A1k hc _⟩;rw[A1h hc];have:=B73 enc d.sz F.len xs i j x v hi hv;rw[← ht,List.getElem?_take] at this;split at this
  ·rw[← Array.getElem?_toList];exact this
  ·cases this
theorem St.slot5 {w0 w:World} {ps:List Part} {gs n c:Nat} {l:List S94} (h:St w0 w (Part.row k94 94 (.slice (some ⟨gs,0,none⟩) n c) l :: ps)) {i:Nat} {x:S94} (hx:l[i]? = some x) (y:S94) :
  St w0 (((((w.setCell ⟨gs,i * 5,none⟩ (.int .i64 y.f0)).setCell ⟨gs,i * 5+1,none⟩ (.bool y.f1)).setCell ⟨gs,i * 5+2,none⟩ (.string y.f2)).setCell ⟨gs,i * 5+3,none⟩ (.string y.f3)).setCell ⟨gs,i * 5+4,none⟩ (.int .i64 y.f4)) (Part.row k94 94 (.slice (some ⟨gs,0,none⟩) n c) (l.set i y) :: ps):=by
 have hi:i < l.length:=(C0e.1 hx).1;have S1:=h.put_flat F94 (j:=0) (x':=⟨y.f0,x.f1,x.f2,x.f3,x.f4⟩) (v:=.int .i64 y.f0) hx Zd rfl;have S2:=S1.put_flat F94 (j:=1) (x':=⟨y.f0,y.f1,x.f2,x.f3,x.f4⟩) (v:=.bool y.f1) (List.getElem?_set_self (by first|exact hi|(simp only [List.length_set];exact hi))) Zd rfl;have S3:=S2.put_flat F94 (j:=2) (x':=⟨y.f0,y.f1,y.f2,x.f3,x.f4⟩) (v:=.string y.f2) (List.getElem?_set_self (by first|exact hi|(simp only [List.length_set];exact hi))) Zd rfl;have S4:=S3.put_flat F94 (j:=3) (x':=⟨y.f0,y.f1,y.f2,y.f3,x.f4⟩) (v:=.string y.f3) (List.getElem?_set_self (by first|exact hi|(simp only [List.length_set];exact hi))) Zd rfl;have S5:=S4.put_flat F94 (j:=4) (x':=y) (v:=.int .i64 y.f4) (List.getElem?_set_self (by first|exact hi|(simp only [List.length_set];exact hi))) Zd rfl;simp only [List.set_set] at S5;exact S5
section
structure Nr where
 sl:List S94
 fr:Int
 ce:List S151
 old:List S151
 mv:Int
 wm:Int
 wk:List ByteArray
 tm:Int
 tk:List ByteArray
 sm:Int
 sk:List ByteArray
 ct:List Int
 ad:Int
 db:Int
structure NV where
 v0:Value
 v2:Value
 v3:Value
 v6:Value
 v8:Value
 v10:Value
 v11:Value
abbrev nA (n:Nr) (A0 A2 A3 A6 A8 A10 A11:Option Addr) (c0 c2 c3 c6 c8 c10 c11:Nat):Array Value:=#[.slice A0 n.sl.length c0,.int .i64 n.fr,.slice A2 n.ce.length c2,.slice A3 n.old.length c3,.int .i64 n.mv,.int .i64 n.wm,.slice A6 n.wk.length c6,.int .i64 n.tm,.slice A8 n.tk.length c8,.int .i64 n.sm,.slice A10 n.sk.length c10,.slice A11 n.ct.length c11,.int .i64 n.ad,.int .i64 n.db]
abbrev nV (n:Nr) (A0 A2 A3 A6 A8 A10 A11:Option Addr) (c0 c2 c3 c6 c8 c10 c11:Nat):NV:=⟨.slice A0 n.sl.length c0,.slice A2 n.ce.length c2,.slice A3 n.old.length c3,.slice A6 n.wk.length c6,.slice A8 n.tk.length c8,.slice A10 n.sk.length c10,.slice A11 n.ct.length c11⟩
def NV.cells (v:NV) (n:Nr):Array Value:=#[v.v0,.int .i64 n.fr,v.v2,v.v3,.int .i64 n.mv,.int .i64 n.wm,v.v6,.int .i64 n.tm,v.v8,.int .i64 n.sm,v.v10,v.v11,.int .i64 n.ad,.int .i64 n.db]
def NV.rows (v:NV) (n:Nr):List Part:=[Part.row k94 94 v.v0 n.sl,Part.row k151 151 v.v2 n.ce,Part.row k151 151 v.v3 n.old,Part.row Kd.string 9 v.v6 n.wk,Part.row Kd.string 9 v.v8 n.tk,Part.row Kd.string 9 v.v10 n.sk,Part.row (Kd.int .i64) 3 v.v11 n.ct]
def RowC {α:Type} (d:Kd α) (w:World) (v:Value) (xs:List α):Prop:=∃ A c,v=.slice A xs.length c∧xs.length≤c∧d.C w A xs.length xs
structure A2c (w:World) (v:NV) (n:Nr):Prop where
 r0:RowC k94 w v.v0 n.sl
 r2:RowC k151 w v.v2 n.ce
 r3:RowC k151 w v.v3 n.old
 r6:RowC Kd.string w v.v6 n.wk
 r8:RowC Kd.string w v.v8 n.tk
 r10:RowC Kd.string w v.v10 n.sk
 r11:RowC (Kd.int .i64) w v.v11 n.ct
structure B5s (w:World) (n:Nr) (A0 A2 A3 A6 A8 A10 A11:Option Addr) (c0 c2 c3 c6 c8 c10 c11:Nat):Prop where
 h0:Kd.C k94 w A0 n.sl.length n.sl
 h2:Kd.C k151 w A2 n.ce.length n.ce
 h3:Kd.C k151 w A3 n.old.length n.old
 h6:Kd.C Kd.string w A6 n.wk.length n.wk
 h8:Kd.C Kd.string w A8 n.tk.length n.tk
 h10:Kd.C Kd.string w A10 n.sk.length n.sk
 h11:Kd.C (Kd.int .i64) w A11 n.ct.length n.ct
 l0:n.sl.length≤c0
 l2:n.ce.length≤c2
 l3:n.old.length≤c3
 l6:n.wk.length≤c6
 l8:n.tk.length≤c8
 l10:n.sk.length≤c10
 l11:n.ct.length≤c11
theorem A2c.open_ {w:World} {v:NV} {n:Nr} (h:A2c w v n):∃ A0 c0 A2 c2 A3 c3 A6 c6 A8 c8 A10 c10 A11 c11,v=⟨.slice A0 n.sl.length c0,.slice A2 n.ce.length c2,.slice A3 n.old.length c3,.slice A6 n.wk.length c6,.slice A8 n.tk.length c8,.slice A10 n.sk.length c10,.slice A11 n.ct.length c11⟩∧B5s w n A0 A2 A3 A6 A8 A10 A11 c0 c2 c3 c6 c8 c10 c11:=by
 obtain⟨v0,v2,v3,v6,v8,v10,v11⟩:=v;obtain⟨⟨A0,c0,e0,l0,h0⟩,⟨A2,c2,e2,l2,h2⟩,⟨A3,c3,e3,l3,h3⟩,⟨A6,c6,e6,l6,h6⟩,⟨A8,c8,e8,l8,h8⟩,⟨A10,c10,e10,l10,h10⟩,⟨A11,c11,e11,l11,h11⟩⟩:=h;subst e0 e2 e3 e6 e8 e10 e11;exact⟨A0,c0,A2,c2,A3,c3,A6,c6,A8,c8,A10,c10,A11,c11,rfl,h0,h2,h3,h6,h8,h10,h11,l0,l2,l3,l6,l8,l10,l11⟩
theorem B5s.below {w w':World} {n:Nr} {A0 A2 A3 A6 A8 A10 A11:Option Addr} {c0 c2 c3 c6 c8 c10 c11:Nat} (h:B5s w n A0 A2 A3 A6 A8 A10 A11 c0 c2 c3 c6 c8 c10 c11) (hb:Below w.heap.size w w'):B5s w' n A0 A2 A3 A6 A8 A10 A11 c0 c2 c3 c6 c8 c10 c11 :=
 ⟨Kd.C_below h.h0 hb,Kd.C_below h.h2 hb,Kd.C_below h.h3 hb,Kd.C_below h.h6 hb,Kd.C_below h.h8 hb,Kd.C_below h.h10 hb,Kd.C_below h.h11 hb,h.l0,h.l2,h.l3,h.l6,h.l8,h.l10,h.l11⟩
theorem RowC.of_R {α:Type} {d:Kd α} {e b:Nat} {ok:Nat→Prop} {w:World} {v:Value} {xs:List α} (h:d.R e w b ok v xs):RowC d w v xs:=Kd.R_reads h
theorem A2c.of_St {w0 w:World} {v:NV} {n:Nr} {ps:List Part} (h:St w0 w ps) (hs:∀ p ∈ v.rows n,p ∈ ps):A2c w v n :=
 ⟨RowC.of_R (h.all _ (hs (Part.row k94 94 v.v0 n.sl) (by simp[NV.rows]))),RowC.of_R (h.all _ (hs (Part.row k151 151 v.v2 n.ce) (by simp[NV.rows]))),RowC.of_R (h.all _ (hs (Part.row k151 151 v.v3 n.old) (by simp[NV.rows]))),RowC.of_R (h.all _ (hs (Part.row Kd.string 9 v.v6 n.wk) (by simp[NV.rows]))),RowC.of_R (h.all _ (hs (Part.row Kd.string 9 v.v8 n.tk) (by simp[NV.rows]))),RowC.of_R (h.all _ (hs (Part.row Kd.string 9 v.v10 n.sk) (by simp[NV.rows]))),RowC.of_R (h.all _ (hs (Part.row (Kd.int .i64) 3 v.v11 n.ct) (by simp[NV.rows])))⟩
structure Nr.small (n:Nr):Prop where
 s0:n.sl.length≤1048576
 s2:n.ce.length≤1048576
 s3:n.old.length≤1048576
 s6:n.wk.length≤1048576
 s8:n.tk.length≤1048576
 s10:n.sk.length≤1048576
 s11:n.ct.length≤1048576
 k2:∀ x ∈ n.ce,x.f0.size≤4611686018427387904
 k3:∀ x ∈ n.old,x.f0.size≤4611686018427387904
end
theorem B5t {α:Type} (a:α) (l m:List α):List.append (a :: l) m=a :: List.append l m:=rfl
theorem B74 {α:Type} (m:List α):List.append [] m=m:=rfl
theorem A0s {P:Program} {C:World→Prop} {id:Nat} {Q:Exit→Act→World→Prop} {a:Act} {w:World} {l:List Oper} (hm:P.follows .mixedOrders=true) (hB:Region.lexB .any l.toArray=true) (hC:C { w with drawn:=w.drawn+1 })
  (h:wpQuiet P l.toArray C (fun a'=>∀ w',C w'→Q .normal a' w') l a):(Code.region id l.toArray true).wp P Q a w:=wp_region_quiet hm hB hC (by simpa using h)
structure WSt (w:World) (ps:List Part) where
 w':World
 st:St w w' ps
theorem WSt.on {w:World} {ps:List Part} (p:WSt w ps) {w1:World} (hb:Below p.w'.heap.size p.w' w1):∃ q:WSt w ps,w1=q.w':=⟨⟨w1,p.st.step hb⟩,rfl⟩
theorem WSt.old {w:World} {ps:List Part} (p:WSt w ps) {a:Addr} {v:Value} (h:w.cell? a=some v):p.w'.cell? a=some v:=(p.st.below.cell (World.block_lt_of_cell? w _ h)).trans h
theorem St.cells2 {w0 w:World} {ps:List Part} {g t:Nat} {a0 a1:Value} {r:List Value} (h:St w0 w ps) (i:Nat) (e:ps[i]?=some (Part.blk g t ⟨a0::a1::r⟩)):w.cell? ⟨g,0,none⟩=some a0∧w.cell? ⟨g,1,none⟩=some a1:=⟨h.at_cell i e 0 rfl,h.at_cell i e 1 rfl⟩
theorem St.frozen2 {w0 w:World} {ps:List Part} {g t:Nat} {cs:Array Value} (h:St w0 w ps) (i:Nat) (e:ps[i]?=some (Part.blk g t cs)):w.frozen? ⟨g,0,none⟩=false∧w.frozen? ⟨g,1,none⟩=false:=⟨h.at_frozen i e 0,h.at_frozen i e 1⟩
theorem St.put2 {w0 w:World} {ps:List Part} {g t:Nat} {z0 z1:Value} (h:St w0 w (Part.blk g t #[z0,z1]::ps)) (a0 a1:Value):St w0 ((w.setCell ⟨g,0,none⟩ a0).setCell ⟨g,1,none⟩ a1) (Part.blk g t #[a0,a1]::ps):=(h.put (cs':=#[a0,z1]) 0 a0 rfl).put (cs':=#[a0,a1]) 1 a1 rfl
theorem St.cells3 {w0 w:World} {ps:List Part} {g t:Nat} {a0 a1 a2:Value} {r:List Value} (h:St w0 w ps) (i:Nat) (e:ps[i]?=some (Part.blk g t ⟨a0::a1::a2::r⟩)):w.cell? ⟨g,0,none⟩=some a0∧w.cell? ⟨g,1,none⟩=some a1∧w.cell? ⟨g,2,none⟩=some a2:=⟨h.at_cell i e 0 rfl,h.at_cell i e 1 rfl,h.at_cell i e 2 rfl⟩
theorem St.frozen3 {w0 w:World} {ps:List Part} {g t:Nat} {cs:Array Value} (h:St w0 w ps) (i:Nat) (e:ps[i]?=some (Part.blk g t cs)):w.frozen? ⟨g,0,none⟩=false∧w.frozen? ⟨g,1,none⟩=false∧w.frozen? ⟨g,2,none⟩=false:=⟨h.at_frozen i e 0,h.at_frozen i e 1,h.at_frozen i e 2⟩
theorem St.put3 {w0 w:World} {ps:List Part} {g t:Nat} {z0 z1 z2:Value} (h:St w0 w (Part.blk g t #[z0,z1,z2]::ps)) (a0 a1 a2:Value):St w0 (((w.setCell ⟨g,0,none⟩ a0).setCell ⟨g,1,none⟩ a1).setCell ⟨g,2,none⟩ a2) (Part.blk g t #[a0,a1,a2]::ps):=((h.put (cs':=#[a0,z1,z2]) 0 a0 rfl).put (cs':=#[a0,a1,z2]) 1 a1 rfl).put (cs':=#[a0,a1,a2]) 2 a2 rfl
theorem St.cells4 {w0 w:World} {ps:List Part} {g t:Nat} {a0 a1 a2 a3:Value} {r:List Value} (h:St w0 w ps) (i:Nat) (e:ps[i]?=some (Part.blk g t ⟨a0::a1::a2::a3::r⟩)):w.cell? ⟨g,0,none⟩=some a0∧w.cell? ⟨g,1,none⟩=some a1∧w.cell? ⟨g,2,none⟩=some a2∧w.cell? ⟨g,3,none⟩=some a3:=⟨h.at_cell i e 0 rfl,h.at_cell i e 1 rfl,h.at_cell i e 2 rfl,h.at_cell i e 3 rfl⟩
theorem St.frozen4 {w0 w:World} {ps:List Part} {g t:Nat} {cs:Array Value} (h:St w0 w ps) (i:Nat) (e:ps[i]?=some (Part.blk g t cs)):w.frozen? ⟨g,0,none⟩=false∧w.frozen? ⟨g,1,none⟩=false∧w.frozen? ⟨g,2,none⟩=false∧w.frozen? ⟨g,3,none⟩=false:=⟨h.at_frozen i e 0,h.at_frozen i e 1,h.at_frozen i e 2,h.at_frozen i e 3⟩
theorem St.put4 {w0 w:World} {ps:List Part} {g t:Nat} {z0 z1 z2 z3:Value} (h:St w0 w (Part.blk g t #[z0,z1,z2,z3]::ps)) (a0 a1 a2 a3:Value):St w0 ((((w.setCell ⟨g,0,none⟩ a0).setCell ⟨g,1,none⟩ a1).setCell ⟨g,2,none⟩ a2).setCell ⟨g,3,none⟩ a3) (Part.blk g t #[a0,a1,a2,a3]::ps):=(((h.put (cs':=#[a0,z1,z2,z3]) 0 a0 rfl).put (cs':=#[a0,a1,z2,z3]) 1 a1 rfl).put (cs':=#[a0,a1,a2,z3]) 2 a2 rfl).put (cs':=#[a0,a1,a2,a3]) 3 a3 rfl
theorem St.cells5 {w0 w:World} {ps:List Part} {g t:Nat} {a0 a1 a2 a3 a4:Value} {r:List Value} (h:St w0 w ps) (i:Nat) (e:ps[i]?=some (Part.blk g t ⟨a0::a1::a2::a3::a4::r⟩)):w.cell? ⟨g,0,none⟩=some a0∧w.cell? ⟨g,1,none⟩=some a1∧w.cell? ⟨g,2,none⟩=some a2∧w.cell? ⟨g,3,none⟩=some a3∧w.cell? ⟨g,4,none⟩=some a4:=⟨h.at_cell i e 0 rfl,h.at_cell i e 1 rfl,h.at_cell i e 2 rfl,h.at_cell i e 3 rfl,h.at_cell i e 4 rfl⟩
theorem St.frozen5 {w0 w:World} {ps:List Part} {g t:Nat} {cs:Array Value} (h:St w0 w ps) (i:Nat) (e:ps[i]?=some (Part.blk g t cs)):w.frozen? ⟨g,0,none⟩=false∧w.frozen? ⟨g,1,none⟩=false∧w.frozen? ⟨g,2,none⟩=false∧w.frozen? ⟨g,3,none⟩=false∧w.frozen? ⟨g,4,none⟩=false:=⟨h.at_frozen i e 0,h.at_frozen i e 1,h.at_frozen i e 2,h.at_frozen i e 3,h.at_frozen i e 4⟩
theorem St.put5 {w0 w:World} {ps:List Part} {g t:Nat} {z0 z1 z2 z3 z4:Value} (h:St w0 w (Part.blk g t #[z0,z1,z2,z3,z4]::ps)) (a0 a1 a2 a3 a4:Value):St w0 (((((w.setCell ⟨g,0,none⟩ a0).setCell ⟨g,1,none⟩ a1).setCell ⟨g,2,none⟩ a2).setCell ⟨g,3,none⟩ a3).setCell ⟨g,4,none⟩ a4) (Part.blk g t #[a0,a1,a2,a3,a4]::ps):=((((h.put (cs':=#[a0,z1,z2,z3,z4]) 0 a0 rfl).put (cs':=#[a0,a1,z2,z3,z4]) 1 a1 rfl).put (cs':=#[a0,a1,a2,z3,z4]) 2 a2 rfl).put (cs':=#[a0,a1,a2,a3,z4]) 3 a3 rfl).put (cs':=#[a0,a1,a2,a3,a4]) 4 a4 rfl
theorem St.cells14 {w0 w:World} {ps:List Part} {g t:Nat} {a0 a1 a2 a3 a4 a5 a6 a7 a8 a9 a10 a11 a12 a13:Value} {r:List Value} (h:St w0 w ps) (i:Nat) (e:ps[i]?=some (Part.blk g t ⟨a0::a1::a2::a3::a4::a5::a6::a7::a8::a9::a10::a11::a12::a13::r⟩)):w.cell? ⟨g,0,none⟩=some a0∧w.cell? ⟨g,1,none⟩=some a1∧w.cell? ⟨g,2,none⟩=some a2∧w.cell? ⟨g,3,none⟩=some a3∧w.cell? ⟨g,4,none⟩=some a4∧w.cell? ⟨g,5,none⟩=some a5∧w.cell? ⟨g,6,none⟩=some a6∧w.cell? ⟨g,7,none⟩=some a7∧w.cell? ⟨g,8,none⟩=some a8∧w.cell? ⟨g,9,none⟩=some a9∧w.cell? ⟨g,10,none⟩=some a10∧w.cell? ⟨g,11,none⟩=some a11∧w.cell? ⟨g,12,none⟩=some a12∧w.cell? ⟨g,13,none⟩=some a13:=⟨h.at_cell i e 0 rfl,h.at_cell i e 1 rfl,h.at_cell i e 2 rfl,h.at_cell i e 3 rfl,h.at_cell i e 4 rfl,h.at_cell i e 5 rfl,h.at_cell i e 6 rfl,h.at_cell i e 7 rfl,h.at_cell i e 8 rfl,h.at_cell i e 9 rfl,h.at_cell i e 10 rfl,h.at_cell i e 11 rfl,h.at_cell i e 12 rfl,h.at_cell i e 13 rfl⟩
theorem St.frozen14 {w0 w:World} {ps:List Part} {g t:Nat} {cs:Array Value} (h:St w0 w ps) (i:Nat) (e:ps[i]?=some (Part.blk g t cs)):w.frozen? ⟨g,0,none⟩=false∧w.frozen? ⟨g,1,none⟩=false∧w.frozen? ⟨g,2,none⟩=false∧w.frozen? ⟨g,3,none⟩=false∧w.frozen? ⟨g,4,none⟩=false∧w.frozen? ⟨g,5,none⟩=false∧w.frozen? ⟨g,6,none⟩=false∧w.frozen? ⟨g,7,none⟩=false∧w.frozen? ⟨g,8,none⟩=false∧w.frozen? ⟨g,9,none⟩=false∧w.frozen? ⟨g,10,none⟩=false∧w.frozen? ⟨g,11,none⟩=false∧w.frozen? ⟨g,12,none⟩=false∧w.frozen? ⟨g,13,none⟩=false:=⟨h.at_frozen i e 0,h.at_frozen i e 1,h.at_frozen i e 2,h.at_frozen i e 3,h.at_frozen i e 4,h.at_frozen i e 5,h.at_frozen i e 6,h.at_frozen i e 7,h.at_frozen i e 8,h.at_frozen i e 9,h.at_frozen i e 10,h.at_frozen i e 11,h.at_frozen i e 12,h.at_frozen i e 13⟩
theorem St.put14 {w0 w:World} {ps:List Part} {g t:Nat} {z0 z1 z2 z3 z4 z5 z6 z7 z8 z9 z10 z11 z12 z13:Value} (h:St w0 w (Part.blk g t #[z0,z1,z2,z3,z4,z5,z6,z7,z8,z9,z10,z11,z12,z13]::ps)) (a0 a1 a2 a3 a4 a5 a6 a7 a8 a9 a10 a11 a12 a13:Value):St w0 ((((((((((((((w.setCell ⟨g,0,none⟩ a0).setCell ⟨g,1,none⟩ a1).setCell ⟨g,2,none⟩ a2).setCell ⟨g,3,none⟩ a3).setCell ⟨g,4,none⟩ a4).setCell ⟨g,5,none⟩ a5).setCell ⟨g,6,none⟩ a6).setCell ⟨g,7,none⟩ a7).setCell ⟨g,8,none⟩ a8).setCell ⟨g,9,none⟩ a9).setCell ⟨g,10,none⟩ a10).setCell ⟨g,11,none⟩ a11).setCell ⟨g,12,none⟩ a12).setCell ⟨g,13,none⟩ a13) (Part.blk g t #[a0,a1,a2,a3,a4,a5,a6,a7,a8,a9,a10,a11,a12,a13]::ps):=(((((((((((((h.put (cs':=#[a0,z1,z2,z3,z4,z5,z6,z7,z8,z9,z10,z11,z12,z13]) 0 a0 rfl).put (cs':=#[a0,a1,z2,z3,z4,z5,z6,z7,z8,z9,z10,z11,z12,z13]) 1 a1 rfl).put (cs':=#[a0,a1,a2,z3,z4,z5,z6,z7,z8,z9,z10,z11,z12,z13]) 2 a2 rfl).put (cs':=#[a0,a1,a2,a3,z4,z5,z6,z7,z8,z9,z10,z11,z12,z13]) 3 a3 rfl).put (cs':=#[a0,a1,a2,a3,a4,z5,z6,z7,z8,z9,z10,z11,z12,z13]) 4 a4 rfl).put (cs':=#[a0,a1,a2,a3,a4,a5,z6,z7,z8,z9,z10,z11,z12,z13]) 5 a5 rfl).put (cs':=#[a0,a1,a2,a3,a4,a5,a6,z7,z8,z9,z10,z11,z12,z13]) 6 a6 rfl).put (cs':=#[a0,a1,a2,a3,a4,a5,a6,a7,z8,z9,z10,z11,z12,z13]) 7 a7 rfl).put (cs':=#[a0,a1,a2,a3,a4,a5,a6,a7,a8,z9,z10,z11,z12,z13]) 8 a8 rfl).put (cs':=#[a0,a1,a2,a3,a4,a5,a6,a7,a8,a9,z10,z11,z12,z13]) 9 a9 rfl).put (cs':=#[a0,a1,a2,a3,a4,a5,a6,a7,a8,a9,a10,z11,z12,z13]) 10 a10 rfl).put (cs':=#[a0,a1,a2,a3,a4,a5,a6,a7,a8,a9,a10,a11,z12,z13]) 11 a11 rfl).put (cs':=#[a0,a1,a2,a3,a4,a5,a6,a7,a8,a9,a10,a11,a12,z13]) 12 a12 rfl).put (cs':=#[a0,a1,a2,a3,a4,a5,a6,a7,a8,a9,a10,a11,a12,a13]) 13 a13 rfl
section
variable {P : Program} {ops : Array Oper} {Q : Exit → Act → World → Prop} {md : Region.Mode} {S : World → Prop} {ds : List Nat}
theorem puA {i : Nat} {N : Option Tmp} {oi : Oper} {v : Value} {fuel : Nat} {l l' : Array Bool} {a a' : Act} {w : World} (h : A03 P md ops Q S ds fuel l' a' w) (hi : ops[i]? = some oi := by rfl) (hN : oi.dst = N := by rfl) (hl : l.setIfInBounds i true = l' := by (simp only [List.setIfInBounds_toArray, List.set_cons_zero, List.set_cons_succ]; rfl)) (hc : anyB md ops l l' i = true := by kernel_rfl)
  (hw : Region.wanted oi (yielded ops a.tmps) = true := by rfl) (hy : ∀ w, (execOp a.eval oi).run P w = .ok (.value v) w := by (intro w'; go_simp; with_reducible rfl)) (ha : a.put N v = a' := by (simp only [Act.put, List.setIfInBounds_toArray, List.set_cons_zero, List.set_cons_succ, A1y, A15]; rfl)) (hQ : ∀ c a w, Q (.panic c) (a.put oi.dst v) w → Q (.panic c) a w := by exact fun _ _ _ h => h) :
  A03 P md ops Q S ds (fuel + 1) l a w := B48 l' hi hN hc hQ (Or.inl ⟨hw, hy⟩) ha h
theorem taA {i : Nat} {N : Option Tmp} {oi : Oper} {v : Value} {fuel : Nat} {l l' : Array Bool} {a a' : Act} {w : World} (hS : S w) (h : A03 P md ops Q S ds fuel l' a' w) (hi : ops[i]? = some oi := by rfl) (hN : oi.dst = N := by rfl) (hl : l.setIfInBounds i true = l' := by (simp only [List.setIfInBounds_toArray, List.set_cons_zero, List.set_cons_succ]; rfl)) (hc : B84 md ops ds l l' i = true := by kernel_rfl)
  (hw : Region.wanted oi (yielded ops a.tmps) = true := by rfl) (hy : ∀ w, S w → (execOp a.eval oi).run P w = .ok (.value v) w := by (intro w' hs; go_simp; with_reducible rfl)) (ha : a.put N v = a' := by (simp only [Act.put, List.setIfInBounds_toArray, List.set_cons_zero, List.set_cons_succ, A1y, A15]; rfl)) (hQ : ∀ c a w, Q (.panic c) (a.put oi.dst v) w → Q (.panic c) a w := by exact fun _ _ _ h => h) :
  A03 P md ops Q S ds (fuel + 1) l a w := B93 l' hi hN hc hQ (Or.inl ⟨hw, hy⟩) hS ha h
end
theorem boxS {P : Program} {ops : Array Oper} {rest : List Oper} {o : Oper} {a : Act} {Q : Exit → Act → World → Prop} {w0 W : World} {ps : List Part} {N : Tmp} {cs : Array Value} {t : TypeId} (HS : A0a (St w0 W ps)) (h : ∀ g w1, St w0 w1 (Part.blk g t cs :: ps) → wpList P ops Q rest (a.put o.dst (.pointer (some ⟨g, 0, none⟩))) w1)
  (hd : o.dst = some N := by rfl) (hgd : o.guard = none := by rfl) (hrun : (execOp a.eval o).run P W = .ok (.value (.pointer (some ⟨W.heap.size, 0, none⟩))) (W.alloc (.cells cs t (0, 0))) := by first|(go_simp;done)|(go_simp;rfl)) : wpList P ops Q (o :: rest) a W := A3m hgd hd hrun (fun g hg w1 hx hb => h g w1 (HS.o.new_blk hb (Nat.le_of_eq hg.symm) hx))
end Go.Proofs.YtediiolcoilepaaGreat.Nb
