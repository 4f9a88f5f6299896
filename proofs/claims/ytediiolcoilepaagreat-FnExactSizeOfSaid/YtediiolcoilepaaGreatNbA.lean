/- Parts of the proof: walks of callees, plain laws about what they compute. -/
import Derived.Test.YtediiolcoilepaaGreatGNear0
import Derived.BigRegion
namespace Go.Proofs.YtediiolcoilepaaGreat.Nb
open Go.RowKit Go.Proofs.YtediiolcoilepaaGreat.GNear Go.Proofs.YtediiolcoilepaaGreatW.PrintWords Go.Proofs.YtediiolcoilepaaGreatW.PrintLast Go.Proofs.YtediiolcoilepaaGreatW.PrintMore
attribute [local go_sem] max2_int min2_int max_two min_two max_three min_three max_four min_four
set_option linter.unusedVariables false
set_option linter.unusedSimpArgs false
section
structure Flat {α:Type} (d:Kd α) (enc:α→List Value):Prop where
 E:d.E = []
 K:∀ w x cs,d.K w x cs ↔ cs=enc x
 M:∀ w base ok x cs,d.M w base ok x cs ↔ cs=enc x
 len:∀ x,(enc x).length=d.sz
 one:∀ x,∀ v ∈ enc x,v.oneCell'=true
theorem take_drop_flat {α:Type} (enc:α→List Value) (sz:Nat) (hl:∀ x,(enc x).length=sz):∀ (xs:List α) (j:Nat) (x:α),xs[j]? = some x→((xs.flatMap enc).drop (j * sz)).take sz=enc x
 |[],j,x,h=>by simp at h
 |y :: ys,0,x,h=>by
  obtain rfl:=Option.some.inj h;rw[List.flatMap_cons,Nat.zero_mul,List.drop_zero,List.take_left' (hl y)]
 |y :: ys,j+1,x,h=>by
  rw[List.flatMap_cons,Nat.succ_mul,Nat.add_comm,← List.drop_drop,List.drop_left' (hl y)]
  exact take_drop_flat enc sz hl ys j x h
theorem flat_length {α:Type} (enc:α→List Value) (sz:Nat) (hl:∀ x,(enc x).length=sz):∀ (xs:List α),(xs.flatMap enc).length=xs.length * sz
 |[]=>by simp
 |y :: ys=>by rw[List.flatMap_cons,List.length_append,hl,flat_length enc sz hl ys,List.length_cons,Nat.succ_mul,Nat.add_comm]
theorem reps_flat {α:Type} (enc:α→List Value) (sz:Nat) (hl:∀ x,(enc x).length=sz) {R:α→List Value→Prop} (hR:∀ x cs,R x cs ↔ cs=enc x) :
  ∀ (xs:List α) (cs:List Value),Reps R sz xs cs ↔ cs=xs.flatMap enc
 |[],cs=>by
  constructor
  ·rintro ⟨h,_⟩
   rw[List.length_nil,Nat.zero_mul] at h;rw[List.eq_nil_of_length_eq_zero h];rfl
  ·rintro rfl;exact Reps.none _ _
 |y :: ys,cs=>by
  constructor
  ·rintro ⟨h,hr⟩
   have h0:cs.take sz=enc y:=by
    have:=(hR _ _).1 (hr 0 y rfl)
    rwa [Nat.zero_mul,List.drop_zero] at this
   have h1:=(reps_flat enc sz hl hR ys (cs.drop sz)).1 ⟨by rw[List.length_drop,h,List.length_cons,Nat.succ_mul];omega,fun j p hj=>by
    have:=hr (j+1) p hj
    rwa [Nat.succ_mul,Nat.add_comm,← List.drop_drop] at this⟩
   rw[List.flatMap_cons,← h0,← h1,List.take_append_drop]
  ·rintro rfl
   exact⟨flat_length enc sz hl _,fun j p hj=>(hR _ _).2 (take_drop_flat enc sz hl _ j p hj)⟩
theorem row_flat {α:Type} {d:Kd α} {enc:α→List Value} (F:Flat d enc) {e base:Nat} {ok:Nat→Prop} {w:World} {A:Option Addr} {n c:Nat} {xs:List α} (h:d.R e w base ok (.slice A n c) xs) :
  n=xs.length∧((A=none∧n=0∧c=0) ∨ ∃ g cur,A=some ⟨g,0,none⟩∧ok g∧base≤g∧w.heap[g]? = some (.cells cur e (0,0))∧n≤c∧c≤maxLen∧cur.size=c * d.sz∧cur.toList.take (n * d.sz)=xs.flatMap enc):=by
 obtain⟨h0,inner,⟨hlen,ho⟩,hr⟩:=h;obtain rfl:=(reps_flat enc d.sz F.len (fun x cs=>F.M _ _ _ x cs) xs inner).1 hr
 rcases ho with ⟨hv,hn⟩|⟨g,cap,cur,hv,hb,hc,hn,hm,hs,ht⟩
 ·obtain⟨rfl,rfl,rfl⟩:=Value.slice.inj hv
  exact⟨hn.symm,.inl ⟨rfl,rfl,rfl⟩⟩
 ·obtain⟨rfl,rfl,rfl⟩:=Value.slice.inj hv
  exact⟨rfl,.inr ⟨g,cur,rfl,h0 g rfl,hb,hc,hn,hm,hs,ht⟩⟩
theorem flat_row {α:Type} {d:Kd α} {enc:α→List Value} (F:Flat d enc) {e base:Nat} {ok:Nat→Prop} {w:World} {g n c:Nat} {cur:Array Value} {xs:List α} (hk:ok g) (hb:base≤g)
  (hc:w.heap[g]? = some (.cells cur e (0,0))) (hn:n=xs.length) (hnc:n≤c) (hm:c≤maxLen) (hs:cur.size=c * d.sz) (ht:cur.toList.take (n * d.sz)=xs.flatMap enc) :
  d.R e w base ok (.slice (some ⟨g,0,none⟩) n c) xs:=by
 subst hn;refine⟨fun k hk'=>?_,xs.flatMap enc,⟨flat_length enc d.sz F.len xs,.inr ⟨g,c,cur,rfl,hb,hc,hnc,hm,hs,ht⟩⟩,(reps_flat enc d.sz F.len (fun x cs=>F.M _ _ _ x cs) xs _).2 rfl⟩
 simp[Value.ownBlock] at hk';rw[← hk'];exact hk
theorem read_flat {α:Type} {d:Kd α} {enc:α→List Value} (F:Flat d enc) {w:World} {A:Option Addr} {n:Nat} {xs:List α} (h:d.C w A n xs) (hp:0 < n) :
  ∃ ad,A=some ad∧∀ j v,(xs.flatMap enc)[j]? = some v→w.cell? (ad.add j)=some v:=by
 obtain⟨h1,_,h2⟩:=h;obtain⟨ad,e,hc⟩:=h2 hp;refine⟨ad,e,fun j v hj=>?_⟩
 have hjl:j < xs.length * d.sz:=by
  have:=(List.getElem?_eq_some_iff.1 hj).1
  rwa [flat_length enc d.sz F.len] at this
 have hs:0 < d.sz:=by
  rcases Nat.eq_zero_or_pos d.sz with h|h
  ·rw[h,Nat.mul_zero] at hjl;omega
  ·exact h
 have hq:j / d.sz < xs.length:=Nat.div_lt_of_lt_mul (by rwa [Nat.mul_comm] at hjl)
 obtain⟨c,hc1,hc2,hc3⟩:=hc (j / d.sz) xs[j / d.sz] (List.getElem?_eq_getElem hq)
 obtain rfl:=(F.K _ _ _).1 hc2
 have ht:=take_drop_flat enc d.sz F.len xs (j / d.sz) _ (List.getElem?_eq_getElem hq)
 have hm:=Nat.mod_lt j hs
 have hdm:=Nat.div_add_mod' j d.sz
 have:=hc3 (j % d.sz) v (by
  rw[← ht,List.getElem?_take,if_pos hm,List.getElem?_drop,hdm]
  exact hj)
 rwa [hdm] at this
theorem read_flat' {α:Type} {d:Kd α} {enc:α→List Value} (F:Flat d enc) {w:World} {ad:Addr} {n:Nat} {xs:List α} (h:d.C w (some ad) n xs) (hp:0 < n) (j:Nat) (v:Value) (hj:(xs.flatMap enc)[j]? = some v):w.cell? (ad.add j)=some v:=by
 obtain⟨ad',e,hc⟩:=read_flat F h hp;obtain rfl:=Option.some.inj e;exact hc j v hj
theorem blk_list {w:World} {g e:Nat} {cur:Array Value} (hc:w.heap[g]? = some (.cells cur e (0,0))) {cs:List Value} {m:Nat} (ht:cur.toList.take m=cs) (j:Nat) (v:Value) (hj:cs[j]? = some v):w.cell? ⟨g,j,none⟩=some v:=by
 rw[blk_cell hc j]
 subst ht;rw[List.getElem?_take] at hj;split at hj
 ·rw[← Array.getElem?_toList];exact hj
 ·cases hj
end
section
structure Part where
 foot:Nat→Prop
 holds:World→Nat→Prop
 keep:∀ {w w':World} {b:Nat},(∀ k,foot k→w'.heap[k]? = w.heap[k]?)→holds w b→holds w' b
 bound:∀ {w:World} {b:Nat},holds w b→∀ k,foot k→b≤k∧k < w.heap.size
 lower:∀ {w:World} {b b':Nat},b'≤b→holds w b→holds w b'
def Part.row {α:Type} (d:Kd α) (e:Nat) (v:Value) (xs:List α):Part where
 foot k:=v.ownBlock=some k
 holds w b:=d.R e w b (fun k=>some k=v.ownBlock) v xs
 keep hm h:=Kd.R_move h (fun k hk=>hm k hk.symm)
 bound h k hk:=⟨Kd.R_base h k hk,Kd.R_lt h k hk⟩
 lower hb h:=Kd.R_lower h hb
def Part.blk (g t:Nat) (cs:Array Value):Part where
 foot k:=k=g
 holds w b:=b≤g∧w.heap[g]? = some (.cells cs t (0,0))
 keep hm h:=⟨h.1,(hm _ rfl).trans h.2⟩
 bound h k hk:=by subst hk;exact⟨h.1,blk_lt h.2⟩
 lower hb h:=⟨Nat.le_trans hb h.1,h.2⟩
theorem Part.of_R {α:Type} {d:Kd α} {e b:Nat} {ok:Nat→Prop} {w:World} {v:Value} {xs:List α} (hE:d.E = []) (h:d.R e w b ok v xs):(Part.row d e v xs).holds w b:=by
 obtain⟨h0,inner,ho,hr⟩:=Kd.R_bound h;refine⟨fun k hk=>hk.symm,inner,ho,hr.imp_ (fun _ _ hp=>d.M_mono (fun k hk=>?_) (d.M_bound hp))⟩
 obtain⟨_,_,_,q,hq,_⟩:=hk;rw[hE] at hq;exact absurd hq (by simp)
structure St (w0 w:World) (ps:List Part):Prop where
 below:Below w0.heap.size w0 w
 all:∀ p ∈ ps,p.holds w w0.heap.size
 apart:ps.Pairwise (fun p q=>∀ k,p.foot k→¬ q.foot k)
theorem St.start (w:World):St w w []:=⟨Below.refl _ _,by simp,List.Pairwise.nil⟩
section
variable {w0 w w':World} {ps:List Part}
theorem St.move (h:St w0 w ps) (hb:Below w0.heap.size w0 w') (hm:∀ p ∈ ps,∀ k,p.foot k→w'.heap[k]? = w.heap[k]?):St w0 w' ps:=⟨hb,fun p hp=>p.keep (hm p hp) (h.all p hp),h.apart⟩
theorem St.step (h:St w0 w ps) (hb:Below w.heap.size w w'):St w0 w' ps:=h.move (below_step h.below hb) (fun p hp k hk=>hb.block k (p.bound (h.all p hp) k hk).2)
theorem St.drew (h:St w0 w ps):St w0 w.drew ps:=h.step (below_drew1 (Below.refl _ _))
theorem St.drewN (h:St w0 w ps) (n:Nat):St w0 (w.drewN n) ps:=h.step (pw_below_drewN (Below.refl _ _) n)
theorem St.tail {p:Part} (h:St w0 w (p :: ps)):St w0 w ps:=⟨h.below,fun q hq=>h.all q (List.mem_cons_of_mem _ hq),(List.pairwise_cons.1 h.apart).2⟩
theorem St.head {p:Part} (h:St w0 w (p :: ps)):p.holds w w0.heap.size:=h.all p (by simp)
theorem St.away {p:Part} (h:St w0 w (p :: ps)):∀ q ∈ ps,∀ k,p.foot k→¬ q.foot k:=(List.pairwise_cons.1 h.apart).1
theorem St.new {p:Part} (h:St w0 w ps) (hb:Below w.heap.size w w') (hp:p.holds w' w.heap.size):St w0 w' (p :: ps):=by
 have h':=h.step hb
 refine⟨h'.below,fun q hq=>?_,List.pairwise_cons.2 ⟨fun q hq k hk hq'=>?_,h'.apart⟩⟩
 ·rcases List.mem_cons.1 hq with rfl|hq
  ·exact q.lower h.below.size hp
  ·exact h'.all q hq
 ·have h1:=(p.bound hp k hk).1
  have h2:=(q.bound (h.all q hq) k hq').2
  omega
theorem St.new_row {α:Type} {d:Kd α} {e:Nat} {ok:Nat→Prop} {v:Value} {xs:List α} (hE:d.E = []) (h:St w0 w ps) (hb:Below w.heap.size w w') (hr:d.R e w' w.heap.size ok v xs):St w0 w' (Part.row d e v xs :: ps):=h.new hb (Part.of_R hE hr)
theorem St.new_blk {g t:Nat} {cs:Array Value} (h:St w0 w ps) (hb:Below w.heap.size w w') (hg:w.heap.size≤g) (hc:w'.heap[g]? = some (.cells cs t (0,0))):St w0 w' (Part.blk g t cs :: ps):=h.new (p:=Part.blk g t cs) hb ⟨hg,hc⟩
theorem St.nil_row {α:Type} (d:Kd α) (e:Nat) (h:St w0 w ps):St w0 w (Part.row d e (.slice none 0 0) [] :: ps) :=
 ⟨h.below,fun q hq=>(List.mem_cons.1 hq).elim (fun e'=>e' ▸ Kd.R_nil d e w _ _) (h.all q),List.pairwise_cons.2 ⟨fun q _ k hk=>by simp[Part.row,Value.ownBlock] at hk,h.apart⟩⟩
theorem St.perm {qs:List Part} (h:St w0 w ps) (hp:qs.Perm ps):St w0 w qs:=⟨h.below,fun p hq=>h.all p (hp.mem_iff.1 hq),(hp.pairwise_iff (fun hab k hk hk'=>hab k hk' hk)).2 h.apart⟩
theorem St.swap {p q:Part} (h:St w0 w (p :: q :: ps)):St w0 w (q :: p :: ps):=h.perm (List.Perm.swap _ _ _)
theorem perm_at {α:Type _}:∀ (l:List α) (i:Nat) (h:i < l.length),(l[i] :: l.eraseIdx i).Perm l
 |a :: l,0,_=>List.Perm.refl _
 |a :: l,i+1,h=>(List.Perm.swap _ _ _).trans ((perm_at l i (by simpa using h)).cons a)
theorem St.front {p:Part} {qs:List Part} (i:Nat) (h:St w0 w ps) (e:ps[i]? = some p) (e':ps.eraseIdx i=qs):St w0 w (p :: qs):=by
 subst e';refine h.perm ?_
 obtain⟨hi,rfl⟩:=List.getElem?_eq_some_iff.1 e
 exact(perm_at _ _ hi)
theorem St.cell {g t:Nat} {cs:Array Value} (h:St w0 w (Part.blk g t cs :: ps)) (j:Nat) {v:Value} (e:cs[j]? = some v):w.cell? ⟨g,j,none⟩=some v:=(blk_cell h.head.2 j).trans e
theorem St.frozen {g t:Nat} {cs:Array Value} (h:St w0 w (Part.blk g t cs :: ps)) (j:Nat):w.frozen? ⟨g,j,none⟩=false:=blk_frozen h.head.2 j
theorem St.put {g t:Nat} {cs cs':Array Value} (h:St w0 w (Part.blk g t cs :: ps)) (j:Nat) (u:Value) (e:cs.setIfInBounds j u=cs'):St w0 (w.setCell ⟨g,j,none⟩ u) (Part.blk g t cs' :: ps):=by
 subst e;have hb:=below_set (j:=j) (v:=u) h.below h.head.1
 refine⟨hb,fun q hq=>?_,List.pairwise_cons.2 ⟨h.away,h.tail.apart⟩⟩
 rcases List.mem_cons.1 hq with rfl|hq
 ·exact⟨h.head.1,blk_set h.head.2 j u⟩
 ·refine q.keep (fun k hk=>Below.heap_setCell w ⟨g,j,none⟩ u k (fun ek=>?_)) (h.tail.all q hq)
  exact h.away q hq k ek hk
theorem St.at_cell {g t:Nat} {cs:Array Value} {v:Value} (h:St w0 w ps) (i:Nat) (e:ps[i]? = some (Part.blk g t cs)) (j:Nat) (e2:cs[j]? = some v):w.cell? ⟨g,j,none⟩=some v:=(blk_cell (h.all _ (List.mem_of_getElem? e)).2 j).trans e2
theorem St.at_frozen {g t:Nat} {cs:Array Value} (h:St w0 w ps) (i:Nat) (e:ps[i]? = some (Part.blk g t cs)) (j:Nat):w.frozen? ⟨g,j,none⟩=false:=blk_frozen (h.all _ (List.mem_of_getElem? e)).2 j
theorem St.at_apart {p q:Part} (h:St w0 w ps) (i j:Nat) (e:ps[i]? = some p) (e2:ps[j]? = some q) (hij:i ≠ j):∀ k,p.foot k→¬ q.foot k:=by
 obtain⟨hi,rfl⟩:=List.getElem?_eq_some_iff.1 e
 obtain⟨hj,rfl⟩:=List.getElem?_eq_some_iff.1 e2
 have hp:=List.pairwise_iff_getElem.1 h.apart
 rcases Nat.lt_or_ge i j with hl|hl
 ·exact hp i j hi hj hl
 ·exact fun k h1 h2=>hp j i hj hi (by omega) k h2 h1
theorem St.at_ne {g t g' t':Nat} {cs cs':Array Value} (h:St w0 w ps) (i j:Nat) (e:ps[i]? = some (Part.blk g t cs)) (e2:ps[j]? = some (Part.blk g' t' cs')) (hij:i ≠ j):g ≠ g':=fun eg=>h.at_apart i j e e2 hij g rfl eg
theorem St.at_C {α:Type} {d:Kd α} {e0 n c:Nat} {A:Option Addr} {xs:List α} (h:St w0 w ps) (i:Nat) (e:ps[i]? = some (Part.row d e0 (.slice A n c) xs)):n=xs.length∧n≤c∧d.C w A xs.length xs:=Kd.R_reads' (h.all _ (List.mem_of_getElem? e))
theorem St.at_R {α:Type} {d:Kd α} {e0:Nat} {v:Value} {xs:List α} (h:St w0 w ps) (i:Nat) (e:ps[i]? = some (Part.row d e0 v xs)):d.R e0 w w0.heap.size (fun k=>some k=v.ownBlock) v xs:=h.all _ (List.mem_of_getElem? e)
theorem St.at_lt {g t:Nat} {cs:Array Value} (h:St w0 w ps) (i:Nat) (e:ps[i]? = some (Part.blk g t cs)):g < w.heap.size:=blk_lt (h.all _ (List.mem_of_getElem? e)).2
theorem St.alloc (h:St w0 w ps) (cs:Array Value) (t:Nat):St w0 (w.alloc (.cells cs t (0,0))) (Part.blk w.heap.size t cs :: ps):=h.new_blk (below_alloc (Below.refl _ _) _) (Nat.le_refl _) (blk_new w _)
theorem St.C {α:Type} {d:Kd α} {e n c:Nat} {A:Option Addr} {xs:List α} (h:St w0 w (Part.row d e (.slice A n c) xs :: ps)):n=xs.length∧n≤c∧d.C w A xs.length xs:=Kd.R_reads' h.head
theorem St.over {α:Type} {d:Kd α} {e:Nat} {ok:Nat→Prop} {v:Value} {xs ys:List α} (hE:d.E = []) (h:St w0 w (Part.row d e v xs :: ps)) (hg:w.grownBy w' v.ownBlock) (hr:d.R e w' w0.heap.size ok v ys):St w0 w' (Part.row d e v ys :: ps):=by
 refine⟨h.below.grown hg h.below.size (fun k hk=>Kd.R_base h.head k hk),fun q hq=>?_,List.pairwise_cons.2 ⟨h.away,h.tail.apart⟩⟩
 rcases List.mem_cons.1 hq with rfl|hq
 ·exact Part.of_R hE hr
 ·refine q.keep (fun k hk=>hg.block k (q.bound (h.tail.all q hq) k hk).2 (fun ek=>?_)) (h.tail.all q hq)
  exact h.away q hq k ek.symm hk
theorem St.appended {α:Type} {d:Kd α} {e:Nat} {ok:Nat→Prop} {v v1:Value} {xs zs:List α} (hE:d.E = []) (h:St w0 w (Part.row d e v xs :: ps)) (hb:Below w0.heap.size w0 w') (hg:w.grownBy w' v.ownBlock) (hr:d.R e w' w0.heap.size ok v1 zs)
  (hat:v1.ownBlock=v.ownBlock ∨ ∃ b,v1.ownBlock=some b∧w.heap.size≤b):St w0 w' (Part.row d e v1 zs :: ps):=by
 refine⟨hb,fun q hq=>?_,List.pairwise_cons.2 ⟨fun q hq k hk hq'=>?_,h.tail.apart⟩⟩
 ·rcases List.mem_cons.1 hq with rfl|hq
  ·exact Part.of_R hE hr
  ·refine q.keep (fun k hk=>hg.block k (q.bound (h.tail.all q hq) k hk).2 (fun ek=>?_)) (h.tail.all q hq)
   exact h.away q hq k ek.symm hk
 ·rcases hat with e1|⟨b,e1,hle⟩
  ·exact h.away q hq k (by show v.ownBlock=some k;rw[← e1];exact hk) hq'
  ·have:some b=some k:=e1.symm.trans hk
   have h2:=(q.bound (h.tail.all q hq) k hq').2
   injection this with this
   omega
end
end
theorem FS:Flat Kd.string (fun s:ByteArray=>[Value.string s]) where
 E:=rfl
 K:=fun _ _ _=>Iff.rfl
 M:=fun _ _ _ _ _=>Iff.rfl
 len:=fun _=>rfl
 one:=fun x v h=>by rw[List.mem_singleton.1 h];rfl
theorem flat_strs (l:List ByteArray):l.flatMap (fun s:ByteArray=>[Value.string s])=l.map Value.string:=by
 induction l with
 |nil=>rfl
 |cons a l ih=>rw[List.flatMap_cons,ih];rfl
def enc151 (x:S151):List Value:=[.string x.f0,.int .i64 x.f1]
theorem F151:Flat k151 enc151 where
 E:=rfl
 K:=fun w x cs=>⟨fun h=>k151_open h,fun h=>h ▸ k151_mk w x⟩
 M:=fun w base ok x cs=>⟨fun h=>k151_openM h,fun h=>h ▸ k151_mkM w base ok x⟩
 len:=fun _=>rfl
 one:=fun x v h=>by
  simp only [enc151,List.mem_cons,List.not_mem_nil,or_false] at h;rcases h with rfl|rfl <;> rfl
section
structure Nr where
 sl:List S94
 fr:Int
 ce:List S151
 old:List S151
 mv:Int
 wm:Int
 wk:List ByteArray
 tm:Int
 tk:List ByteArray
 sm:Int
 sk:List ByteArray
 ct:List Int
 ad:Int
 db:Int
structure NV where
 v0:Value
 v2:Value
 v3:Value
 v6:Value
 v8:Value
 v10:Value
 v11:Value
def NV.cells (v:NV) (n:Nr):Array Value:=#[v.v0,.int .i64 n.fr,v.v2,v.v3,.int .i64 n.mv,.int .i64 n.wm,v.v6,.int .i64 n.tm,v.v8,.int .i64 n.sm,v.v10,v.v11,.int .i64 n.ad,.int .i64 n.db]
def NV.rows (v:NV) (n:Nr):List Part:=[Part.row k94 94 v.v0 n.sl,Part.row k151 151 v.v2 n.ce,Part.row k151 151 v.v3 n.old,Part.row Kd.string 9 v.v6 n.wk,Part.row Kd.string 9 v.v8 n.tk,Part.row Kd.string 9 v.v10 n.sk,Part.row (Kd.int .i64) 3 v.v11 n.ct]
def RowC {α:Type} (d:Kd α) (w:World) (v:Value) (xs:List α):Prop:=∃ A c,v=.slice A xs.length c∧xs.length≤c∧d.C w A xs.length xs
structure NearC (w:World) (v:NV) (n:Nr):Prop where
 r0:RowC k94 w v.v0 n.sl
 r2:RowC k151 w v.v2 n.ce
 r3:RowC k151 w v.v3 n.old
 r6:RowC Kd.string w v.v6 n.wk
 r8:RowC Kd.string w v.v8 n.tk
 r10:RowC Kd.string w v.v10 n.sk
 r11:RowC (Kd.int .i64) w v.v11 n.ct
structure NearF (w:World) (n:Nr) (A0 A2 A3 A6 A8 A10 A11:Option Addr) (c0 c2 c3 c6 c8 c10 c11:Nat):Prop where
 h0:Kd.C k94 w A0 n.sl.length n.sl
 h2:Kd.C k151 w A2 n.ce.length n.ce
 h3:Kd.C k151 w A3 n.old.length n.old
 h6:Kd.C Kd.string w A6 n.wk.length n.wk
 h8:Kd.C Kd.string w A8 n.tk.length n.tk
 h10:Kd.C Kd.string w A10 n.sk.length n.sk
 h11:Kd.C (Kd.int .i64) w A11 n.ct.length n.ct
 l0:n.sl.length≤c0
 l2:n.ce.length≤c2
 l3:n.old.length≤c3
 l6:n.wk.length≤c6
 l8:n.tk.length≤c8
 l10:n.sk.length≤c10
 l11:n.ct.length≤c11
theorem NearC.open_ {w:World} {v:NV} {n:Nr} (h:NearC w v n):∃ A0 c0 A2 c2 A3 c3 A6 c6 A8 c8 A10 c10 A11 c11,v=⟨.slice A0 n.sl.length c0,.slice A2 n.ce.length c2,.slice A3 n.old.length c3,.slice A6 n.wk.length c6,.slice A8 n.tk.length c8,.slice A10 n.sk.length c10,.slice A11 n.ct.length c11⟩∧NearF w n A0 A2 A3 A6 A8 A10 A11 c0 c2 c3 c6 c8 c10 c11:=by
 obtain⟨v0,v2,v3,v6,v8,v10,v11⟩:=v;obtain⟨⟨A0,c0,e0,l0,h0⟩,⟨A2,c2,e2,l2,h2⟩,⟨A3,c3,e3,l3,h3⟩,⟨A6,c6,e6,l6,h6⟩,⟨A8,c8,e8,l8,h8⟩,⟨A10,c10,e10,l10,h10⟩,⟨A11,c11,e11,l11,h11⟩⟩:=h;subst e0 e2 e3 e6 e8 e10 e11;exact⟨A0,c0,A2,c2,A3,c3,A6,c6,A8,c8,A10,c10,A11,c11,rfl,h0,h2,h3,h6,h8,h10,h11,l0,l2,l3,l6,l8,l10,l11⟩
theorem NearF.below {w w':World} {n:Nr} {A0 A2 A3 A6 A8 A10 A11:Option Addr} {c0 c2 c3 c6 c8 c10 c11:Nat} (h:NearF w n A0 A2 A3 A6 A8 A10 A11 c0 c2 c3 c6 c8 c10 c11) (hb:Below w.heap.size w w'):NearF w' n A0 A2 A3 A6 A8 A10 A11 c0 c2 c3 c6 c8 c10 c11 :=
 ⟨Kd.C_below h.h0 hb,Kd.C_below h.h2 hb,Kd.C_below h.h3 hb,Kd.C_below h.h6 hb,Kd.C_below h.h8 hb,Kd.C_below h.h10 hb,Kd.C_below h.h11 hb,h.l0,h.l2,h.l3,h.l6,h.l8,h.l10,h.l11⟩
theorem RowC.of_R {α:Type} {d:Kd α} {e b:Nat} {ok:Nat→Prop} {w:World} {v:Value} {xs:List α} (h:d.R e w b ok v xs):RowC d w v xs:=Kd.R_reads h
theorem NearC.of_St {w0 w:World} {v:NV} {n:Nr} {ps:List Part} (h:St w0 w ps) (hs:∀ p ∈ v.rows n,p ∈ ps):NearC w v n :=
 ⟨RowC.of_R (h.all _ (hs (Part.row k94 94 v.v0 n.sl) (by simp[NV.rows]))),RowC.of_R (h.all _ (hs (Part.row k151 151 v.v2 n.ce) (by simp[NV.rows]))),RowC.of_R (h.all _ (hs (Part.row k151 151 v.v3 n.old) (by simp[NV.rows]))),RowC.of_R (h.all _ (hs (Part.row Kd.string 9 v.v6 n.wk) (by simp[NV.rows]))),RowC.of_R (h.all _ (hs (Part.row Kd.string 9 v.v8 n.tk) (by simp[NV.rows]))),RowC.of_R (h.all _ (hs (Part.row Kd.string 9 v.v10 n.sk) (by simp[NV.rows]))),RowC.of_R (h.all _ (hs (Part.row (Kd.int .i64) 3 v.v11 n.ct) (by simp[NV.rows])))⟩
structure Nr.small (n:Nr):Prop where
 s0:n.sl.length≤1048576
 s2:n.ce.length≤1048576
 s3:n.old.length≤1048576
 s6:n.wk.length≤1048576
 s8:n.tk.length≤1048576
 s10:n.sk.length≤1048576
 s11:n.ct.length≤1048576
 k2:∀ x ∈ n.ce,x.f0.size≤4611686018427387904
 k3:∀ x ∈ n.old,x.f0.size≤4611686018427387904
end
end Go.Proofs.YtediiolcoilepaaGreat.Nb
