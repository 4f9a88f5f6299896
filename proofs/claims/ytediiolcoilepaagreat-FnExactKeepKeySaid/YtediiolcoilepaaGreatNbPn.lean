/- Walks of callees. -/
import Derived.Test.YtediiolcoilepaaGreatNbPl
namespace Go.Proofs.YtediiolcoilepaaGreat.Nb
set_option maxHeartbeats 8000000
set_option maxRecDepth 100000
open Go.RowKit YtediiolcoilepaaGreat.GNear YtediiolcoilepaaGreatW.PrintWords YtediiolcoilepaaGreatW.PrintLast YtediiolcoilepaaGreatW.PrintMore
theorem hf_in (x:Int) (h:0≤x∧x≤15):0≤hf x∧hf x≤7:=by
 unfold hf;rw[Int.tdiv_eq_ediv_of_nonneg h.1];unfold wrap64;omega
theorem B7w (l:List Int) (n:Int) (s:ByteArray) (h:skOk l n=true):skOk (cntd l n s).1 (cntd l n s).2=true:=by
 obtain⟨h48,hx,hn⟩:=A4a.1 h;have hb:=B8s l (plc s) hx 3;unfold cntd;rw[if_pos h];refine A4a.2 ⟨?_,?_,?_⟩
 ·show(if n=99 then (cl l (plc s) 3).map hf else cl l (plc s) 3).length=48
  split <;> simp[A8w,h48]
 ·show ∀ x ∈ (if n=99 then (cl l (plc s) 3).map hf else cl l (plc s) 3),_
  split
  ·intro x hx'
   obtain⟨y,hy,rfl⟩:=List.mem_map.1 hx';have:=hf_in y (hb y hy);omega
  ·exact hb
 ·show 0≤(if n=99 then 0 else n+1)∧(if n=99 then 0 else n+1)≤99
  split <;> omega
theorem B3m {α:Type} {g:Nat→Nat→Option α} {r:Nat→α}:∀ (n:Nat),(∀ i,i < n→Ev (g i) (r i))→∃ K,∀ i,i < n→∀ k,K≤k→g i k=some (r i)
 |0,_=>⟨0,fun i h=>absurd h Zo⟩
 |n+1,h=>by
  obtain⟨K,hK⟩:=B3m n (fun i hi=>h i Zo);obtain⟨L,hL⟩:=h n Zo;refine⟨K+L,fun i hi k hk=>?_⟩
  by_cases e:i=n
  ·subst e;exact hL k Zo
  ·exact hK i Zo k Zo
section
variable {α β:Type}
def fm (p:α→Bool) (f:α→β) (l:List α):List β:=(l.filter p).map f
theorem B7g (p:α→Bool) (f:α→β) {l:List α} {i:Nat} {c:α} (h:l[i]? = some c):∃ r,(fm p f l).Perm (fm p f [c] ++ r)∧∀ y,(fm p f (l.set i y)).Perm (fm p f [y] ++ r):=by
 obtain⟨hi,rfl⟩:=C0e.1 h;have e1:l=l.take i ++ [l[i]] ++ l.drop (i+1):=by simp
 have e2:∀ y,l.set i y=l.take i ++ [y] ++ l.drop (i+1):=fun y=>by rw[List.set_eq_take_append_cons_drop,if_pos hi];simp
 have g:∀ (a b d:List α),fm p f (a ++ b ++ d)=fm p f a ++ fm p f b ++ fm p f d:=fun a b d=>by simp[fm]
 have q:∀ (a b d:List β),(a ++ b ++ d).Perm (b ++ (a ++ d)):=fun a b d=>by rw[← List.append_assoc];exact List.perm_append_comm.append_right _
 refine⟨fm p f (l.take i) ++ fm p f (l.drop (i+1)),?_,fun y=>by rw[e2 y,g];exact q _ _ _⟩;have e3:=g (l.take i) [l[i]] (l.drop (i+1));rw[← e1] at e3;rw[e3];exact q _ _ _
end
theorem A58:(⟨#[]⟩:ByteArray).size=0:=rfl
instance lawB:LawfulBEq ByteArray where
 eq_of_beq {a b} h:=ByteArray.ext (eq_of_beq (α:=Array UInt8) h)
 rfl {a}:=beq_self_eq_true a.data
theorem A7r {l:List S151} {i:Nat} {c:S151} (h:l[i]? = some c):∃ r,(A1g l).Perm (A1g [c] ++ r)∧∀ y,(A1g (l.set i y)).Perm (A1g [y] ++ r):=B7g _ _ h
theorem A6k {l:List S94} {i:Nat} {c:S94} (h:l[i]? = some c):∃ r,(A4f l).Perm (A4f [c] ++ r)∧∀ y,(A4f (l.set i y)).Perm (A4f [y] ++ r):=B7g _ _ h
theorem A42 (c:S151):A1g [c]=if c.f0.size ≠ 0 then [c.f0] else []:=by
 unfold A1g TM.keysOf
 by_cases h:c.f0.size ≠ 0
 ·rw[if_pos h,List.filter_cons_of_pos (by simpa using h)];rfl
 ·rw[if_neg h,List.filter_cons_of_neg (by simpa using h)];rfl
theorem A35 (c:S94):A4f [c]=if c.f1=true then [c.f2] else []:=by
 unfold A4f
 by_cases h:c.f1=true
 ·rw[if_pos h,List.filter_cons_of_pos h];rfl
 ·rw[if_neg h,List.filter_cons_of_neg h];rfl
theorem A2u {l:List S151} {k:ByteArray}:k ∈ A1g l ↔ ∃ c ∈ l,c.f0=k∧k.size ≠ 0:=TM.mem_keysOf S151.f0
structure A1q (n:Nr) (ks:List ByteArray):Prop where
 arena:arR n.sl n.fr
 table:taR n.ce n.old n.mv
 sketch:skOk n.ct n.ad=true
 door:0≤n.db∧n.db < 4294967296
 size:2≤n.sl.length∧n.sl.length≤24
 old:n.old = []
 cells:n.ce.length=A4x n.sl.length
 keys:(A1g n.ce).Perm ks
 laid:(A4f n.sl).Perm ks
 linked:∀ c ∈ n.ce,c.f0.size ≠ 0→B1i n c
structure QueR (n:Nr) (ks:List ByteArray) (out:ByteArray):Prop where
 w:okQ n.wm n.wk
 t:okQ n.tm n.tk
 s:okQ n.sm n.sk
 wm:n.wm=(winN n.sl.length:Int)
 tm:n.tm=(triN n.sl.length:Int)
 sm:n.sm=(safN n.sl.length:Int)
 all:(n.wk ++ n.tk ++ n.sk ++ (if out.size=0 then [] else [out])).Perm ks
theorem A2i.core {n:Nr} (h:A2i n):A1q n (A1g n.ce):=⟨h.parts.arena,h.parts.table,h.parts.sketch,h.parts.door,h.shape.size,List.eq_nil_of_length_eq_zero h.shape.old,h.shape.cells,List.Perm.refl _,h.laid,h.linked⟩
theorem A2i.que {n:Nr} (h:A2i n):QueR n (A1g n.ce) ⟨#[]⟩:=⟨h.parts.window,h.parts.trial,h.parts.safe,h.shape.wm,h.shape.tm,h.shape.sm,by rw[if_pos A58,List.append_nil];exact h.queued⟩
theorem A1q.parts {n:Nr} {ks ks':List ByteArray} {o:ByteArray} (h:A1q n ks) (q:QueR n ks' o):A3b n:=⟨h.arena,h.table,q.w,q.t,q.s,h.sketch,h.door⟩
theorem A2i.of {n:Nr} {ks:List ByteArray} (h:A1q n ks) (q:QueR n ks ⟨#[]⟩):A2i n :=
 ⟨h.parts q,⟨h.size,by rw[h.old];rfl,h.cells,q.wm,q.tm,q.sm⟩,by have:=q.all;rw[if_pos A58,List.append_nil] at this;exact this.trans h.keys.symm,h.laid.trans h.keys.symm,h.linked⟩
theorem A1q.nodup {n:Nr} {ks:List ByteArray} (h:A1q n ks):ks.Nodup:=h.keys.nodup_iff.1 (by have:=h.table.once;rw[h.old,List.append_nil] at this;exact this)
theorem A1q.isK {n:Nr} {ks:List ByteArray} (h:A1q n ks) {k:ByteArray} (hk:k ∈ ks):1≤k.size∧k.size≤12:=by
 obtain⟨c,hc,rfl,hz⟩:=A2u.1 (h.keys.mem_iff.2 hk);obtain⟨i,hi,rfl⟩:=List.getElem_of_mem hc;have:=((h.table.cells i _ (C0c hi)).2 hz).1;omega
theorem A1q.spot {n:Nr} {ks:List ByteArray} (h:A1q n ks) {key:ByteArray} (hk:key ∈ ks):∃ (i k:Nat) (c:S151) (x:S94),n.ce[i]? = some c∧c.f0=key∧n.sl[k]? = some x∧x.f1=true∧24 * x.f0+(k:Int)=c.f1∧x.f2=key:=by
 obtain⟨c,hc,rfl,hz⟩:=A2u.1 (h.keys.mem_iff.2 hk);obtain⟨i,hi,e⟩:=List.getElem_of_mem hc;obtain⟨k,x,hx,hu,hh,hxk⟩:=h.linked c hc hz;exact⟨i,k,c,x,by rw[C0c hi,e],rfl,hx,hu,hh,hxk⟩
theorem B7x {xs:List S94} (hl:xs.length≤24) {k k':Nat} {x x':S94} (h:xs[k]? = some x) (h':xs[k']? = some x') (e:24 * x.f0+(k:Int)=24 * x'.f0+(k':Int)):k=k'∧x=x':=by
 have h1:=(C0e.1 h).1;have h2:=(C0e.1 h').1;obtain rfl:k=k':=by omega
 exact⟨rfl,C0d (h.symm.trans h')⟩
theorem A1q.holds {n:Nr} {ks:List ByteArray} (h:A1q n ks) {c:S151} {k:Nat} {x:S94} (hc:c ∈ n.ce) (hk:c.f0.size ≠ 0) (hx:n.sl[k]? = some x) (hh:24 * x.f0+(k:Int)=c.f1):x.f2=c.f0:=by
 obtain⟨k',x',hx',-,hh',e⟩:=h.linked c hc hk;obtain⟨rfl,rfl⟩:=B7x h.size.2 hx hx' (hh.trans hh'.symm);exact e
theorem A83 {x:S94} (h:0≤x.f0∧x.f0≤41666665):genN x=(if x.f0+1 > 41666665 then 0 else x.f0+1)∧0≤genN x∧genN x≤41666665:=by
 have e:wrap64 (x.f0+1)=x.f0+1:=by unfold wrap64;omega
 unfold genN;rw[e];refine⟨rfl,?_⟩
 split <;> omega
theorem A6e {xs:List S94} {fr:Int} {k:Nat} {x:S94} (hr:arR xs fr) (hx:xs[k]? = some x) (hu:x.f1=true):arR (xs.set k ⟨genN x,false,⟨#[]⟩,⟨#[]⟩,fr⟩) (k:Int):=by
 have hs:=hr.slots x (C0h hx);have hg:=A83 ⟨hs.1,hs.2.1⟩;exact hr.lift S94.f0 S94.f1 S94.f2 S94.f3 S94.f4 hx hu rfl rfl ⟨hg.2.1,hg.2.2,fun e=>(by cases e),fun _=>⟨rfl,rfl⟩⟩
theorem A8m {xs:List S94} {k:Nat} {x:S94} {key val:ByteArray} (hr:arR xs (k:Int)) (hx:xs[k]? = some x) (h1:1≤key.size∧key.size≤12) (h2:val.size≤20):arR (xs.set k ⟨x.f0,true,key,val,0⟩) x.f4:=by
 have hs:=hr.slots x (C0h hx);exact hr.lay S94.f0 S94.f1 S94.f2 S94.f3 S94.f4 hx rfl ⟨hs.1,hs.2.1,fun _=>⟨h1.1,h1.2,h2,rfl⟩,fun e=>(by cases e)⟩
theorem A84 {xs:List S94} {k:Nat} {y:S94} {c:S151} (h:∃ (k':Nat) (x':S94),xs[k']? = some x'∧x'.f1=true∧24 * x'.f0+(k':Int)=c.f1∧x'.f2=c.f0∧k ≠ k'):∃ (k':Nat) (x':S94),(xs.set k y)[k']? = some x'∧x'.f1=true∧24 * x'.f0+(k':Int)=c.f1∧x'.f2=c.f0:=by
 obtain⟨k',x',h1,h2,h3,h4,h5⟩:=h;exact⟨k',x',by rw[List.getElem?_set_ne h5];exact h1,h2,h3,h4⟩
theorem A2j {l:List S151} {i:Nat} {y z:S151} (h:z ∈ l.set i y):z=y ∨ ∃ j,j ≠ i∧l[j]? = some z:=by
 obtain⟨j,hj,rfl⟩:=List.getElem_of_mem h;by_cases e:j=i
 ·subst e;left;simp
 ·right;refine⟨j,e,?_⟩
  rw[List.getElem_set_ne (fun h=>e h.symm)];exact C0c _
theorem A7s {l:List S151} {i:Nat} {c:S151} (h:l[i]? = some c) (y:S151):TM.nones S151.f0 S151.f1 (l.set i y)+(if TM.isNone S151.f0 S151.f1 c then 1 else 0)=TM.nones S151.f0 S151.f1 l+(if TM.isNone S151.f0 S151.f1 y then 1 else 0):=by
 obtain⟨hi,rfl⟩:=C0e.1 h;have e1:l=l.take i ++ [l[i]] ++ l.drop (i+1):=by simp
 have e2:l.set i y=l.take i ++ [y] ++ l.drop (i+1):=by rw[List.set_eq_take_append_cons_drop,if_pos hi];simp
 have q:∀ z:S151,TM.nones S151.f0 S151.f1 [z]=if TM.isNone S151.f0 S151.f1 z then 1 else 0:=fun z=>by
  unfold TM.nones;rw[List.countP_singleton]
  by_cases c:TM.isNone S151.f0 S151.f1 z
  ·rw[if_pos c,if_pos (B99 c)]
  ·rw[if_neg c,if_neg (fun h=>c (C0b h))]
 have g:∀ a b d:List S151,TM.nones S151.f0 S151.f1 (a ++ b ++ d)=TM.nones S151.f0 S151.f1 a+TM.nones S151.f0 S151.f1 b+TM.nones S151.f0 S151.f1 d:=fun a b d=>by unfold TM.nones;rw[List.countP_append,List.countP_append]
 rw[e2,g,q y]
 conv=>rhs;rw[e1,g,q]
 omega
theorem A1q.remove {n:Nr} {ks:List ByteArray} (h:A1q n ks) {i k:Nat} {c:S151} {x:S94} (hc:n.ce[i]? = some c) (hk:c.f0.size ≠ 0) (hx:n.sl[k]? = some x) (hu:x.f1=true) (hh:24 * x.f0+(k:Int)=c.f1):A1q (n.remove i k x) (ks.erase c.f0):=by
 have hm:=C0h hc;have hxk:=h.holds hm hk hx hh;have hfd:=h.table.cells.found S151.f0 S151.f1;obtain⟨r,hr1,hr2⟩:=A7r hc;obtain⟨q,hq1,hq2⟩:=A6k hx;rw[A42,if_pos hk] at hr1;rw[A35,if_pos hu,hxk] at hq1;have e1:A1g (n.ce.set i ⟨⟨#[]⟩,-2⟩) |>.Perm r:=by have:=hr2 ⟨⟨#[]⟩,-2⟩;rw[A42,if_neg (fun h=>h A58),List.nil_append] at this;exact this
 have e2:A4f (n.sl.set k ⟨genN x,false,⟨#[]⟩,⟨#[]⟩,n.fr⟩) |>.Perm q:=by have:=hq2 ⟨genN x,false,⟨#[]⟩,⟨#[]⟩,n.fr⟩;rw[A35,if_neg Zs,List.nil_append] at this;exact this
 have pk:r.Perm (ks.erase c.f0):=by
  have p:=(h.keys.symm.trans hr1).erase c.f0;rw[List.singleton_append,List.erase_cons_head] at p;exact p.symm
 have pu:q.Perm (ks.erase c.f0):=by
  have p:=(h.laid.symm.trans hq1).erase c.f0;rw[List.singleton_append,List.erase_cons_head] at p;exact p.symm
 refine⟨A6e h.arena hx hu,⟨?_,?_,h.table.moved,h.table.gone,?_,?_,h.table.olds,?_⟩,h.sketch,h.door,?_,h.old,?_,e1.trans pk,e2.trans pu,?_⟩
 ·rw[show(n.remove i k x).ce.length=n.ce.length from C0i];exact h.table.size
 ·rw[show(n.remove i k x).ce.length=n.ce.length from C0i];exact h.table.half
 ·show(A1g (n.ce.set i _ ++ n.old)).Nodup
  rw[h.old,List.append_nil];exact(e1.trans pk).nodup_iff.2 (h.nodup.erase _)
 ·intro j z hz
  refine⟨fun hz0=>?_,fun hz0=>⟨?_,?_,?_⟩⟩
  ·rcases A2j (C0h hz) with rfl|⟨j',-,hj⟩
   ·exact .inr rfl
   ·exact(h.table.cells j' z hj).1 hz0
  ·rcases A2j (C0h hz) with rfl|⟨j',-,hj⟩
   ·exact absurd rfl hz0
   ·exact((h.table.cells j' z hj).2 hz0).1
  ·rcases A2j (C0h hz) with rfl|⟨j',-,hj⟩
   ·exact absurd rfl hz0
   ·exact((h.table.cells j' z hj).2 hz0).2.1
  ·exact hfd.take S151.f0 S151.f1 (y:=⟨⟨#[]⟩,-2⟩) hc rfl Zd j z hz hz0
 ·show 0 < TM.nones S151.f0 S151.f1 (n.ce.set i _)
  have:=A7s hc ⟨⟨#[]⟩,-2⟩;rw[if_neg (fun e:TM.isNone S151.f0 S151.f1 c=>hk e.1)] at this;have:=h.table.none;omega
 ·rw[show(n.remove i k x).sl.length=n.sl.length from C0i];exact h.size
 ·show(n.ce.set i _).length=A4x (n.sl.set k _).length;rw[C0i,C0i];exact h.cells
 ·intro z hz hz0
  rcases A2j hz with rfl|⟨j,hj,hzj⟩
  ·exact absurd rfl hz0
  ·have hzm:=C0h hzj
   obtain⟨k',x',g1,g2,g3,g4⟩:=h.linked z hzm hz0;refine A84 ⟨k',x',g1,g2,g3,g4,fun e=>?_⟩;subst e;obtain rfl:=C0d (hx.symm.trans g1);exact hj (hfd.once S151.f0 S151.f1 hzj hc (g4.symm.trans hxk) hz0)
structure PutR (ce ce2:List S151) (key:ByteArray) (hd:Int):Prop where
 len:ce2.length=ce.length
 keys:(A1g ce2).Perm (key :: A1g ce)
 cells:ceR ce2
 none:0 < TM.nones S151.f0 S151.f1 ce2
 from_:∀ c ∈ ce2,c.f0.size ≠ 0→c=⟨key,hd⟩ ∨ c ∈ ce
theorem A1q.free {n:Nr} {ks:List ByteArray} (h:A1q n ks) {k:Nat} {x:S94} (hf:n.fr=(k:Int)) (hx:n.sl[k]? = some x):x.f1=false:=by
 obtain⟨k',x',e,hx',hu⟩:=h.arena.first S94.f0 S94.f1 S94.f2 S94.f3 S94.f4 (by rw[hf];omega);obtain rfl:k=k':=by rw[hf] at e;omega
 obtain rfl:=C0d (hx.symm.trans hx');exact hu
theorem A1q.room {n:Nr} {ks:List ByteArray} (h:A1q n ks) (hl:ks.length < n.sl.length):∃ (k:Nat) (x:S94),n.fr=(k:Int)∧n.sl[k]? = some x∧0≤x.f0∧x.f0≤41666665:=by
 by_cases e:n.fr = -1
 ·have hall:=(h.arena.full S94.f0 S94.f1 S94.f2 S94.f3 S94.f4).1 e
  have h1:=h.laid.length_eq;rw[A6d,List.countP_eq_length.2 hall] at h1;omega
 ·obtain⟨k,x,hk,hx,-⟩:=h.arena.first S94.f0 S94.f1 S94.f2 S94.f3 S94.f4 e
  have hs:=h.arena.slots x (C0h hx);exact⟨k,x,hk,hx,hs.1,hs.2.1⟩
theorem A1q.lay {n:Nr} {ks:List ByteArray} (h:A1q n ks) {k:Nat} {x:S94} {key val:ByteArray} {ce:List S151} (hf:n.fr=(k:Int)) (hx:n.sl[k]? = some x) (hz:1≤key.size∧key.size≤12) (hv:val.size≤20) (hp:PutR n.ce ce key (24 * x.f0+(k:Int))) (hn:key ∉ ks):A1q (n.lay k x key val ce) (key :: ks):=by
 have hu:=h.free hf hx;obtain⟨q,hq1,hq2⟩:=A6k hx;rw[A35,if_neg (by rw[hu];simp),List.nil_append] at hq1;have e2:(A4f (n.sl.set k ⟨x.f0,true,key,val,0⟩)).Perm (key :: q):=by have:=hq2 ⟨x.f0,true,key,val,0⟩;rw[A35,if_pos rfl] at this;exact this
 refine⟨A8m (hf ▸ h.arena) hx hz hv,⟨?_,?_,h.table.moved,h.table.gone,?_,hp.cells,h.table.olds,hp.none⟩,h.sketch,h.door,?_,h.old,?_,hp.keys.trans (h.keys.cons key),e2.trans ((hq1.symm.trans h.laid).cons key),?_⟩
 ·rw[show(n.lay k x key val ce).ce.length=n.ce.length from hp.len];exact h.table.size
 ·rw[show(n.lay k x key val ce).ce.length=n.ce.length from hp.len];exact h.table.half
 ·show(A1g (ce ++ n.old)).Nodup
  rw[h.old,List.append_nil];exact(hp.keys.trans (h.keys.cons key)).nodup_iff.2 (List.nodup_cons.2 ⟨hn,h.nodup⟩)
 ·rw[show(n.lay k x key val ce).sl.length=n.sl.length from C0i];exact h.size
 ·show ce.length=A4x (n.sl.set k _).length;rw[C0i,hp.len];exact h.cells
 ·intro z hz0 hzk
  rcases hp.from_ z hz0 hzk with rfl|hzm
  ·exact⟨k,_,List.getElem?_set_self (C0e.1 hx).1,rfl,rfl,rfl⟩
  ·obtain⟨k',x',g1,g2,g3,g4⟩:=h.linked z hzm hzk
   refine A84 ⟨k',x',g1,g2,g3,g4,fun e=>?_⟩;subst e;obtain rfl:=C0d (hx.symm.trans g1);rw[hu] at g2;cases g2
def Nr.again (n:Nr) (i k:Nat) (x:S94) (key val:ByteArray):Nr:={ n with sl:=n.sl.set k ⟨genN x,true,key,val,0⟩,ce:=n.ce.set i ⟨key,24 * genN x+(k:Int)⟩ }
theorem A1q.again {n:Nr} {ks:List ByteArray} (h:A1q n ks) {i k:Nat} {c:S151} {x:S94} {val:ByteArray} (hc:n.ce[i]? = some c) (hk:c.f0.size ≠ 0) (hx:n.sl[k]? = some x) (hu:x.f1=true) (hh:24 * x.f0+(k:Int)=c.f1) (hv:val.size≤20):A1q (n.again i k x c.f0 val) ks:=by
 have hm:=C0h hc;have hxk:=h.holds hm hk hx hh;have hfd:=h.table.cells.found S151.f0 S151.f1;have hcr:=(h.table.cells i c hc).2 hk;have hs:=h.arena.slots x (C0h hx);have hg:=A83 ⟨hs.1,hs.2.1⟩;have hkl:k < n.sl.length:=(C0e.1 hx).1;obtain⟨r,hr1,hr2⟩:=A7r hc;obtain⟨q,hq1,hq2⟩:=A6k hx;rw[A42,if_pos hk] at hr1;rw[A35,if_pos hu,hxk] at hq1;have e1:(A1g (n.ce.set i ⟨c.f0,24 * genN x+(k:Int)⟩)).Perm ks:=by have:=hr2 ⟨c.f0,24 * genN x+(k:Int)⟩;rw[A42,if_pos hk] at this;exact this.trans (hr1.symm.trans h.keys)
 have e2:(A4f (n.sl.set k ⟨genN x,true,c.f0,val,0⟩)).Perm ks:=by have:=hq2 ⟨genN x,true,c.f0,val,0⟩;rw[A35,if_pos rfl] at this;exact this.trans (hq1.symm.trans h.laid)
 have ha:arR (n.sl.set k ⟨genN x,true,c.f0,val,0⟩) n.fr:=by
  have h1:=A6e h.arena hx hu;have h2:=A8m (key:=c.f0) (val:=val) h1 (List.getElem?_set_self hkl) Zo hv;rw[List.set_set] at h2;exact h2
 refine⟨ha,⟨?_,?_,h.table.moved,h.table.gone,?_,?_,h.table.olds,?_⟩,h.sketch,h.door,?_,h.old,?_,e1,e2,?_⟩
 ·rw[show(n.again i k x c.f0 val).ce.length=n.ce.length from C0i];exact h.table.size
 ·rw[show(n.again i k x c.f0 val).ce.length=n.ce.length from C0i];exact h.table.half
 ·show(A1g (n.ce.set i _ ++ n.old)).Nodup
  rw[h.old,List.append_nil];exact e1.nodup_iff.2 h.nodup
 ·intro j z hz
  refine⟨fun hz0=>?_,fun hz0=>⟨?_,?_,?_⟩⟩
  ·rcases A2j (C0h hz) with rfl|⟨j',-,hj⟩
   ·exact absurd hz0 hk
   ·exact(h.table.cells j' z hj).1 hz0
  ·rcases A2j (C0h hz) with rfl|⟨j',-,hj⟩
   ·exact hcr.1
   ·exact((h.table.cells j' z hj).2 hz0).1
  ·rcases A2j (C0h hz) with rfl|⟨j',-,hj⟩
   ·show 0≤24 * genN x+(k:Int);omega
   ·exact((h.table.cells j' z hj).2 hz0).2.1
  ·exact hfd.again S151.f0 S151.f1 (y:=⟨c.f0,24 * genN x+(k:Int)⟩) hc hk rfl j z hz hz0
 ·show 0 < TM.nones S151.f0 S151.f1 (n.ce.set i _)
  have:=A7s hc ⟨c.f0,24 * genN x+(k:Int)⟩;rw[if_neg (fun e:TM.isNone S151.f0 S151.f1 c=>hk e.1)] at this;have:=h.table.none;omega
 ·rw[show(n.again i k x c.f0 val).sl.length=n.sl.length from C0i];exact h.size
 ·show(n.ce.set i _).length=A4x (n.sl.set k _).length;rw[C0i,C0i];exact h.cells
 ·intro z hz hz0
  rcases A2j hz with rfl|⟨j,hj,hzj⟩
  ·exact⟨k,_,List.getElem?_set_self hkl,rfl,rfl,rfl⟩
  ·have hzm:=C0h hzj
   obtain⟨k',x',g1,g2,g3,g4⟩:=h.linked z hzm hz0;refine A84 ⟨k',x',g1,g2,g3,g4,fun e=>?_⟩;subst e;obtain rfl:=C0d (hx.symm.trans g1);exact hj (hfd.once S151.f0 S151.f1 hzj hc (g4.symm.trans hxk) hz0)
theorem putR {ce ce2:List S151} {key:ByteArray} {hd:Int} (hr:ceR ce) (hn:0 < TM.nones S151.f0 S151.f1 ce) (hz:1≤key.size∧key.size≤12) (hd0:0≤hd) (hno:∀ c ∈ ce,c.f0 ≠ key) (hp:putK ce key hd=some ce2):PutR ce ce2 key hd:=by
 have hs:TM.seek S151.f0 S151.f1 ce key (stOf key)=none:=(TM.Found.seek S151.f0 S151.f1 (hr.found S151.f0 S151.f1) Zo).2 hno;obtain⟨a,x,ha,hx,hxz⟩:=A39 hn (stOf key)
 by_cases hf:x.f1 = -1∧TM.nones S151.f0 S151.f1 ce=1
 ·rw[A7w hs ha hx hf] at hp;cases hp
 ·rw[A7k hs ha hx hf] at hp
  obtain rfl:=C0d hp;obtain⟨r,hr1,hr2⟩:=A7r hx;rw[A42,if_neg Zo,List.nil_append] at hr1;have hfd:=(hr.found S151.f0 S151.f1).put S151.f0 S151.f1 (y:=⟨key,hd⟩) (a:=a) (by show key.size ≠ 0;omega) hno ha;refine⟨by rw[C0i],?_,?_,?_,?_⟩
  ·have:=hr2 ⟨key,hd⟩
   rw[A42,if_pos (by show key.size ≠ 0;omega)] at this;exact this.trans (hr1.symm.cons key)
  ·intro j z hzj
   refine⟨fun hz0=>?_,fun hz0=>⟨?_,?_,hfd j z hzj hz0⟩⟩
   ·rcases A2j (C0h hzj) with rfl|⟨j',-,hj⟩
    ·exact absurd (show key.size=0 from hz0) Zo
    ·exact(hr j' z hj).1 hz0
   ·rcases A2j (C0h hzj) with rfl|⟨j',-,hj⟩
    ·exact hz.2
    ·exact((hr j' z hj).2 hz0).1
   ·rcases A2j (C0h hzj) with rfl|⟨j',-,hj⟩
    ·exact hd0
    ·exact((hr j' z hj).2 hz0).2.1
  ·have:=A7s hx ⟨key,hd⟩
   rw[if_neg (show ¬ TM.isNone S151.f0 S151.f1 ⟨key,hd⟩ from fun e=>absurd (show key.size=0 from e.1) Zo)] at this;by_cases hi:TM.isNone S151.f0 S151.f1 x
   ·rw[if_pos hi] at this
    have h1:TM.nones S151.f0 S151.f1 ce ≠ 1:=fun e=>hf ⟨hi.2,e⟩;omega
   ·rw[if_neg hi] at this;omega
  ·intro c hc hc0
   rcases A2j hc with rfl|⟨j,-,hj⟩
   ·exact .inl rfl
   ·exact .inr (C0h hj)
structure A43 (L:Nat) (s:List S151) (ps:List (ByteArray × Int)):Prop where
 len:s.length=L
 cells:ceR s
 pure:∀ c ∈ s,c.f0.size=0→c.f1 = -1
 keys:(A1g s).Perm (ps.map Prod.fst)
 from_:∀ c ∈ s,c.f0.size ≠ 0→(c.f0,c.f1) ∈ ps
theorem A43.nones {L:Nat} {s:List S151} {ps:List (ByteArray × Int)} (h:A43 L s ps):TM.nones S151.f0 S151.f1 s+ps.length=L:=by
 have h1:=List.length_eq_countP_add_countP (fun x:S151=>decide (x.f0.size ≠ 0)) (l:=s);have h2:s.countP (fun x=>decide ¬ decide (x.f0.size ≠ 0)=true)=TM.nones S151.f0 S151.f1 s:=by
  unfold TM.nones;refine List.countP_congr (fun c hc=>?_);simp only [decide_eq_true_eq,ne_eq,Decidable.not_not];exact⟨fun e=>⟨e,h.pure c hc e⟩,fun e=>e.1⟩
 have h3:=h.keys.length_eq;unfold A1g TM.keysOf at h3;rw[List.length_map,List.length_map,← List.countP_eq_length_filter] at h3;have:=h.len;omega
theorem A43.step {L:Nat} {s:List S151} {ps:List (ByteArray × Int)} (h:A43 L s ps) {key:ByteArray} {hd:Int} (hz:1≤key.size∧key.size≤12) (h0:0≤hd) (hn:key ∉ ps.map Prod.fst) (hl:ps.length+2≤L):∃ s2,putK s key hd=some s2∧PutR s s2 key hd∧A43 L s2 (ps ++ [(key,hd)]):=by
 have hN:=h.nones;have hno:∀ c ∈ s,c.f0 ≠ key:=fun c hc e=>hn (h.keys.mem_iff.1 (A2u.2 ⟨c,hc,e,by omega⟩));have hs:TM.seek S151.f0 S151.f1 s key (stOf key)=none:=(TM.Found.seek S151.f0 S151.f1 (h.cells.found S151.f0 S151.f1) Zo).2 hno;obtain⟨a,x,ha,hx,hxz⟩:=A39 (show 0 < TM.nones S151.f0 S151.f1 s by omega) (stOf key);have hp:=A7k (hd:=hd) hs ha hx (fun e=>by have:=e.2;omega);have hP:=putR h.cells Zo hz h0 hno hp;refine⟨_,hp,hP,hP.len.trans h.len,hP.cells,fun c hc e=>?_,?_,fun c hc e=>?_⟩
 ·rcases A2j hc with rfl|⟨j,-,hj⟩
  ·exact absurd (show key.size=0 from e) Zo
  ·exact h.pure c (C0h hj) e
 ·rw[List.map_append]
  exact hP.keys.trans ((h.keys.cons key).trans (List.perm_append_singleton key _).symm)
 ·rcases hP.from_ c hc e with rfl|hm
  ·simp
  ·exact List.mem_append_left _ (h.from_ c hm e)
def stC (s0:List S151) (ps:List (ByteArray × Int)) (i:Nat):List S151:=(ps.take i).foldl (fun s p=>(putK s p.1 p.2).getD s) s0
theorem B3n (s0:List S151) (ps:List (ByteArray × Int)) (i:Nat):(stC s0 ps i).length=s0.length:=by
 unfold stC;generalize ps.take i=l
 induction l generalizing s0 with
 |nil=>rfl
 |cons p l ih =>
  rw[List.foldl_cons,ih]
  cases h:putK s0 p.1 p.2 with
  |none=>rfl
  |some r=>exact B5z h
theorem B5m (s0:List S151) (ps:List (ByteArray × Int)) (i:Nat) (h:i < ps.length):stC s0 ps (i+1)=(putK (stC s0 ps i) ps[i].1 ps[i].2).getD (stC s0 ps i):=by
 unfold stC;rw[List.take_add_one,C0c h,Option.toList_some,List.foldl_append];rfl
theorem B0w {L:Nat} {s0:List S151} {ps:List (ByteArray × Int)} (h:A43 L s0 []) (hn:(ps.map Prod.fst).Nodup) (hz:∀ p ∈ ps,(1≤p.1.size∧p.1.size≤12)∧0≤p.2) (hl:ps.length+1≤L):∀ i,i≤ps.length→A43 L (stC s0 ps i) (ps.take i)∧∀ (hi:i < ps.length),putK (stC s0 ps i) ps[i].1 ps[i].2=some (stC s0 ps (i+1)):=by
 have key:∀ i,A43 L (stC s0 ps i) (ps.take i)→∀ (hi:i < ps.length),∃ s2,putK (stC s0 ps i) ps[i].1 ps[i].2=some s2∧s2=stC s0 ps (i+1)∧A43 L s2 (ps.take (i+1)):=by
  intro i hc hi;have hm:=hz ps[i] (List.getElem_mem hi);obtain⟨s2,h1,-,h2⟩:=hc.step hm.1 hm.2 (fun hk=>by
   rw[List.map_take] at hk;obtain⟨j,hj,e⟩:=List.mem_take_iff_getElem.1 hk;unfold List.Nodup at hn;rw[List.pairwise_iff_getElem] at hn;have hj2:j < (ps.map Prod.fst).length:=by omega
   refine hn j i hj2 (by simpa using hi) Zo ?_;rw[e,List.getElem_map]) (by rw[List.length_take];omega)
  refine⟨s2,h1,by rw[B5m s0 ps i hi,h1];rfl,?_⟩;rw[List.take_add_one,C0c hi];exact h2
 intro i
 induction i with
 |zero =>
  intro _;have h0:A43 L (stC s0 ps 0) (ps.take 0):=by simpa [stC] using h
  refine⟨h0,fun hi=>?_⟩;obtain⟨s2,h1,h2,-⟩:=key 0 h0 hi;rw[h1,h2]
 |succ i ih =>
  intro hi;obtain⟨h1,-⟩:=ih Zo;obtain⟨s2,-,h3,h4⟩:=key i h1 Zo;rw[h3] at h4;refine⟨h4,fun hi2=>?_⟩;obtain⟨s3,h5,h6,-⟩:=key (i+1) h4 hi2;rw[h5,h6]
def hOf (ce:List S151) (k:ByteArray):Int:=((ce.find? fun c=>decide (c.f0=k)).map S151.f1).getD 0
theorem B7y {ce:List S151} {k:ByteArray} (h:∃ c ∈ ce,c.f0=k):∃ c ∈ ce,c.f0=k∧hOf ce k=c.f1:=by
 obtain⟨c,hc,e⟩:=h;cases hf:ce.find? fun c=>decide (c.f0=k) with
 |none=>exact absurd (B99 e) (List.find?_eq_none.1 hf c hc)
 |some c'=>exact⟨c',List.mem_of_find?_eq_some hf,by have:=List.find?_some hf;simpa using this,by unfold hOf;rw[hf];rfl⟩
def psOf (ce:List S151):List (ByteArray × Int):=(A1m (A1g ce)).map fun k=>(k,hOf ce k)
theorem A4t (ce:List S151):(psOf ce).map Prod.fst=A1m (A1g ce):=by
 unfold psOf;rw[List.map_map];exact(List.map_congr_left (fun _ _=>rfl)).trans (List.map_id _)
def A3h (L:Nat):List S151:=List.replicate L ⟨⟨#[]⟩,-1⟩
theorem A9u (L:Nat):A43 L (A3h L) []:=by
 have hm:∀ c ∈ A3h L,c=⟨⟨#[]⟩,-1⟩:=fun c hc=>(List.mem_replicate.1 hc).2;have hk:A1g (A3h L) = []:=List.eq_nil_iff_forall_not_mem.2 (fun k hk=>by
  obtain⟨c,hc,e,hz⟩:=A2u.1 hk;rw[hm c hc] at e;exact hz (by rw[← e];rfl))
 exact⟨List.length_replicate,fun i c hc=>⟨fun _=>.inl (by rw[hm c (C0h hc)]),fun hz=>absurd (by rw[hm c (C0h hc)];rfl) hz⟩,fun c hc _=>by rw[hm c hc],by rw[hk];exact List.Perm.refl _,fun c hc hz=>absurd (by rw[hm c hc];rfl) hz⟩
def A4i (ce:List S151):List S151:=stC (A3h ce.length) (psOf ce) (psOf ce).length
theorem A52 {s:Nat} (h:2≤s∧s≤24):2 * s+1≤A4x s:=by
 unfold A4x
 split
 ·omega
 ·split
  ·omega
  ·split
   ·omega
   ·split <;> omega
theorem A1q.ps_len {n:Nr} {ks:List ByteArray} (h:A1q n ks):(psOf n.ce).length=ks.length:=by
 rw[show(psOf n.ce).length=((psOf n.ce).map Prod.fst).length by rw[List.length_map],A4t,A2n,h.keys.length_eq]
theorem A1q.ps_mem {n:Nr} {ks:List ByteArray} (h:A1q n ks) {p:ByteArray × Int} (hp:p ∈ psOf n.ce):p.1 ∈ ks∧∃ c ∈ n.ce,c.f0=p.1∧c.f1=p.2∧p.1.size ≠ 0:=by
 obtain⟨k,hk,rfl⟩:=List.mem_map.1 hp;have hk2:=(A1w _).mem_iff.1 hk;obtain⟨c,hc,e,hz⟩:=A2u.1 hk2;obtain⟨c',hc',e',eh⟩:=B7y ⟨c,hc,e⟩;exact⟨h.keys.mem_iff.1 hk2,c',hc',e',eh.symm,hz⟩
theorem A1q.clean {n:Nr} {ks:List ByteArray} (h:A1q n ks) (hl:ks.length+1≤n.sl.length):∀ i,i≤(psOf n.ce).length→A43 n.ce.length (stC (A3h n.ce.length) (psOf n.ce) i) ((psOf n.ce).take i)∧∀ (hi:i < (psOf n.ce).length),putK (stC (A3h n.ce.length) (psOf n.ce) i) (psOf n.ce)[i].1 (psOf n.ce)[i].2=some (stC (A3h n.ce.length) (psOf n.ce) (i+1)):=by
 have hb:=A52 h.size;have hc:=h.cells;have hp:=h.ps_len;refine B0w (A9u _) ?_ (fun p hp=>?_) Zo
 ·rw[A4t]
  exact((A1w _).trans h.keys).nodup_iff.2 h.nodup
 ·obtain⟨h1,c,hc,e1,e2,hz⟩:=h.ps_mem hp
  refine⟨h.isK h1,?_⟩;obtain⟨i,hi,rfl⟩:=List.getElem_of_mem hc;rw[← e2];exact((h.table.cells i _ (C0c hi)).2 (by rw[e1];exact hz)).2.1
def B5n (ce ce2:List S151) (key:ByteArray) (hd:Int):Prop:=putK ce key hd=some ce2 ∨ putK ce key hd=none∧putK (A4i ce) key hd=some ce2
theorem A1q.put {n:Nr} {ks:List ByteArray} (h:A1q n ks) (hl:ks.length+1≤n.sl.length) {key:ByteArray} {hd:Int} (hz:1≤key.size∧key.size≤12) (h0:0≤hd) (hn:key ∉ ks):∃ ce2,PutR n.ce ce2 key hd∧B5n n.ce ce2 key hd:=by
 have hno:∀ c ∈ n.ce,c.f0 ≠ key:=fun c hc e=>hn (h.keys.mem_iff.1 (A2u.2 ⟨c,hc,e,by omega⟩))
 cases hp:putK n.ce key hd with
 |some ce2=>exact⟨ce2,putR h.table.cells h.table.none hz h0 hno hp,.inl hp⟩
 |none =>
  have hb:=A52 h.size;have hc:=h.cells;have hpl:=h.ps_len;obtain⟨hI,-⟩:=h.clean hl _ (Nat.le_refl _);rw[List.take_length] at hI;obtain⟨ce2,h1,h2,h3⟩:=hI.step hz h0 (by rw[A4t];exact fun hk=>hn (h.keys.mem_iff.1 ((A1w _).mem_iff.1 hk))) Zo;refine⟨ce2,⟨h3.len,?_,h3.cells,?_,fun c hc hz=>?_⟩,.inr ⟨hp,h1⟩⟩
  ·refine h3.keys.trans ?_
   rw[List.map_append,A4t];exact(List.perm_append_singleton key _).trans ((A1w _).cons key)
  ·have:=h3.nones
   rw[List.length_append,List.length_singleton] at this;omega
  ·rcases List.mem_append.1 (h3.from_ c hc hz) with hm|hm
   ·obtain⟨-,c',hc',e1,e2,-⟩:=h.ps_mem hm
    right
    have:c=c':=by cases c;cases c';simp only at e1 e2;rw[e1,e2]
    rw[this];exact hc'
   ·left
    have:=List.mem_singleton.1 hm
    cases c;cases this;rfl
theorem B0x {m:Int} {l:List ByteArray}:okQ m l ↔ (0≤m∧m≤24)∧(l.length:Int)≤m∧(∀ s ∈ l,isK s)∧l.Nodup:=by
 unfold okQ;rw[A31];exact⟨fun ⟨a,b,c,d⟩=>⟨⟨a,b⟩,c,d⟩,fun ⟨⟨a,b⟩,c,d⟩=>⟨a,b,c,d⟩⟩
theorem A6f (key:ByteArray):∀ l:List ByteArray,A2s key l=l.erase key
 |[]=>rfl
 |a :: l=>by
  unfold A2s
  by_cases h:a=key
  ·subst h;rw[if_pos rfl,List.erase_cons_head]
  ·rw[if_neg h,List.erase_cons_tail (by simpa using h),A6f key l]
theorem A6g (key:ByteArray) (l:List ByteArray):(A3a key l).Perm l:=by
 unfold A3a
 split
 ·rename_i h;rw[A6f];exact(List.perm_cons_erase h).symm
 ·exact List.Perm.refl _
theorem A53 {m:Int} {l:List ByteArray} (s:ByteArray) (h:(l.length:Int) < m):A2x m l s=s :: l∧A2a m l s=⟨#[]⟩:=⟨if_pos h,if_pos h⟩
theorem A62 {m:Int} {l:List ByteArray} (s:ByteArray) (h:¬ (l.length:Int) < m):A2x m l s ++ [A2a m l s]=s :: l:=by
 unfold A2x A2a;rw[if_neg h,if_neg h];have h1:(s :: l).length=l.length+1:=rfl;rw[C0j,C0c Zo,Option.getD_some,← List.take_succ_eq_append_getElem Zo,List.take_of_length_le Zo]
theorem QueR.of {n':Nr} {ks:List ByteArray} {o:ByteArray} (hnd:ks.Nodup) (hk:∀ k ∈ ks,1≤k.size∧k.size≤12) (hs:n'.sl.length≤24) (wm:n'.wm=(winN n'.sl.length:Int)) (tm:n'.tm=(triN n'.sl.length:Int)) (sm:n'.sm=(safN n'.sl.length:Int))
  (hp:(n'.wk ++ n'.tk ++ n'.sk ++ (if o.size=0 then [] else [o])).Perm ks) (l1:(n'.wk.length:Int)≤n'.wm) (l2:(n'.tk.length:Int)≤n'.tm) (l3:(n'.sk.length:Int)≤n'.sm):QueR n' ks o:=by
 have hb:n'.wm≤24∧n'.tm≤24∧n'.sm≤24:=by
  rw[wm,tm,sm];unfold triN safN winN;split <;> omega
 have h0:=hp.nodup_iff.2 hnd;have h1:=(List.nodup_append.1 h0).1;have h2:=(List.nodup_append.1 h1).1;exact⟨B0x.2 ⟨⟨by omega,hb.1⟩,l1,fun s hs=>hk s (hp.mem_iff.1 (by simp[hs])),(List.nodup_append.1 h2).1⟩,
  B0x.2 ⟨⟨by omega,hb.2.1⟩,l2,fun s hs=>hk s (hp.mem_iff.1 (by simp[hs])),(List.nodup_append.1 h2).2.1⟩,
  B0x.2 ⟨⟨by omega,hb.2.2⟩,l3,fun s hs=>hk s (hp.mem_iff.1 (by simp[hs])),(List.nodup_append.1 h1).2.1⟩,wm,tm,sm,hp⟩
theorem A3e {l m:List ByteArray} (h:∀ a,l.count a=m.count a):l.Perm m:=List.perm_iff_count.2 h
theorem B18 {s:ByteArray} (h:s.size=0):s=⟨#[]⟩:=by apply ByteArray.ext;exact Array.eq_empty_of_size_eq_zero h
theorem QueR.touch {n:Nr} {ks:List ByteArray} (h:QueR n ks ⟨#[]⟩) (hnd:ks.Nodup) (hk:∀ k ∈ ks,1≤k.size∧k.size≤12) (hs:n.sl.length≤24) {key:ByteArray} (hm:key ∈ ks):QueR (n.touchM key) ks ⟨#[]⟩:=by
 obtain⟨e0,-,-,-,-,e5,e7,e9,-,-,-⟩:=n.touchM_same key;have hp:=h.all;have hm2:=hp.mem_iff.2 hm;have l1:=h.w.2.2.1;have l2:=h.t.2.2.1;have l3:=h.s.2.2.1;have fin:∀ {wk tk sk:List ByteArray},(n.touchM key).wk=wk→(n.touchM key).tk=tk→(n.touchM key).sk=sk→(wk ++ tk ++ sk).Perm (n.wk ++ n.tk ++ n.sk)→(wk.length:Int)≤n.wm→(tk.length:Int)≤n.tm→(sk.length:Int)≤n.sm→QueR (n.touchM key) ks ⟨#[]⟩:=fun a b c p q1 q2 q3 =>
  QueR.of hnd hk (by rw[e0];exact hs) (by rw[e0,e5];exact h.wm) (by rw[e0,e7];exact h.tm) (by rw[e0,e9];exact h.sm) (by rw[a,b,c];exact(p.append_right _).trans hp) (by rw[a,e5];exact q1) (by rw[b,e7];exact q2) (by rw[c,e9];exact q3)
 by_cases c1:key ∈ n.wk
 ·have e:n.touchM key = { n with wk:=A3a key n.wk }:=by unfold Nr.touchM;rw[if_pos c1]
  have p:=A6g key n.wk;exact fin (by rw[e]) (by rw[e]) (by rw[e]) ((p.append_right _).append_right _) (by rw[p.length_eq];exact l1) l2 l3
 by_cases c2:key ∈ n.sk
 ·have e:n.touchM key = { n with sk:=A3a key n.sk }:=by unfold Nr.touchM;rw[if_neg c1,if_pos c2]
  have p:=A6g key n.sk;exact fin (by rw[e]) (by rw[e]) (by rw[e]) (p.append_left _) l1 l2 (by rw[p.length_eq];exact l3)
 by_cases c3:n.sm=0
 ·have e:n.touchM key = { n with tk:=A3a key n.tk }:=by unfold Nr.touchM;rw[if_neg c1,if_neg c2,if_pos c3]
  have p:=A6g key n.tk;exact fin (by rw[e]) (by rw[e]) (by rw[e]) ((p.append_left _).append_right _) l1 (by rw[p.length_eq];exact l2) l3
 have c4:key ∈ n.tk:=by
  rw[if_pos (show(⟨#[]⟩:ByteArray).size=0 from rfl),List.append_nil] at hm2
  rcases List.mem_append.1 hm2 with q|q
  ·exact(List.mem_append.1 q).resolve_left c1
  ·exact absurd q c2
 have pe:=List.perm_cons_erase c4;rw[← A6f] at pe;have le:=pe.length_eq;rw[List.length_cons] at le;have hsm:0 < n.sm:=by have:=h.s.1;omega
 by_cases c5:(n.sk.length:Int) < n.sm
 ·obtain⟨q1,q2⟩:=A53 key c5
  have e:n.touchM key = { n with tk:=A2s key n.tk,sk:=key :: n.sk }:=by unfold Nr.touchM;rw[if_neg c1,if_neg c2,if_neg c3,q1,q2,if_pos rfl]
  refine fin (wk:=n.wk) (tk:=A2s key n.tk) (sk:=key :: n.sk) (by rw[e]) (by rw[e]) (by rw[e]) (A3e (fun a=>?_)) l1 Zo (by rw[List.length_cons];omega);have:=pe.count_eq a;simp only [List.count_append,List.count_cons] at this ⊢;omega
 ·have q1:=A62 key c5
  have hpo:=A6t (s:=key) c5 hsm;have hpe:A2a n.sm n.sk key ≠ ⟨#[]⟩:=fun e=>by have:=(A5q h.s hpo).1;rw[e] at this;exact this rfl
  have q2:=(A53 (A2a n.sm n.sk key) (show((A2s key n.tk).length:Int) < n.tm by omega)).1;have e:n.touchM key = { n with tk:=A2a n.sm n.sk key :: A2s key n.tk,sk:=A2x n.sm n.sk key }:=by unfold Nr.touchM;rw[if_neg c1,if_neg c2,if_neg c3,if_neg hpe,q2]
  have lq:=congrArg List.length q1;rw[List.length_append,List.length_singleton,List.length_cons] at lq;refine fin (wk:=n.wk) (tk:=A2a n.sm n.sk key :: A2s key n.tk) (sk:=A2x n.sm n.sk key) (by rw[e]) (by rw[e]) (by rw[e]) (A3e (fun a=>?_)) l1 (by rw[List.length_cons];omega) Zo;have g1:=pe.count_eq a;have g2:=congrArg (List.count a) q1;simp only [List.count_append,List.count_cons,List.count_nil] at g1 g2 ⊢;omega
theorem QueR.push {n:Nr} {ks:List ByteArray} (h:QueR n ks ⟨#[]⟩) (hnd:ks.Nodup) (hk:∀ k ∈ ks,1≤k.size∧k.size≤12) (hs:n.sl.length≤24) {key:ByteArray} (hz:1≤key.size∧key.size≤12) (hm:key ∉ ks):QueR { n with wk:=A2x n.wm n.wk key } (key :: ks) (A2a n.wm n.wk key):=by
 have hp:=h.all;have l1:=h.w.2.2.1;have l2:=h.t.2.2.1;have l3:=h.s.2.2.1;have hwm:0 < n.wm:=by rw[h.wm];unfold winN;split <;> omega
 rw[if_pos (show(⟨#[]⟩:ByteArray).size=0 from rfl),List.append_nil] at hp;have hk':∀ k ∈ key :: ks,1≤k.size∧k.size≤12:=fun k h=>(List.mem_cons.1 h).elim (fun e=>e ▸ hz) (hk k)
 by_cases c:(n.wk.length:Int) < n.wm
 ·obtain⟨q1,q2⟩:=A53 key c
  rw[q1,q2];refine QueR.of (List.nodup_cons.2 ⟨hm,hnd⟩) hk' hs h.wm h.tm h.sm ?_ (by show((key :: n.wk).length:Int)≤_;rw[List.length_cons];show _≤n.wm;omega) l2 l3;rw[if_pos (show(⟨#[]⟩:ByteArray).size=0 from rfl),List.append_nil];exact hp.cons key
 ·have q1:=A62 key c
  have hpo:=A6t (s:=key) c hwm;have hpe:(A2a n.wm n.wk key).size ≠ 0:=(A5q h.w hpo).1;have lq:=congrArg List.length q1;rw[List.length_append,List.length_singleton,List.length_cons] at lq;refine QueR.of (List.nodup_cons.2 ⟨hm,hnd⟩) hk' hs h.wm h.tm h.sm ?_ (by show((A2x n.wm n.wk key).length:Int)≤n.wm;omega) l2 l3;rw[if_neg hpe];refine A3e (fun a=>?_);have g1:=hp.count_eq a;have g2:=congrArg (List.count a) q1;simp only [List.count_append,List.count_cons,List.count_nil] at g1 g2 ⊢;omega
theorem QueR.trial {n:Nr} {ks:List ByteArray} {out:ByteArray} (h:QueR n ks out) (hnd:ks.Nodup) (hk:∀ k ∈ ks,1≤k.size∧k.size≤12) (hs:n.sl.length≤24) (ho:out.size ≠ 0):QueR (n.trialM out) ks (n.trialO out):=by
 have hp:=h.all;rw[if_neg ho] at hp;have l1:=h.w.2.2.1;have l2:=h.t.2.2.1;have l3:=h.s.2.2.1;unfold Nr.trialM Nr.trialO
 by_cases c0:n.tm=0
 ·rw[if_pos c0,if_pos c0];exact h
 rw[if_neg c0,if_neg c0]
 by_cases c1:(n.tk.length:Int) < n.tm
 ·rw[if_pos c1,if_pos c1,(A53 out c1).1]
  refine QueR.of hnd hk hs h.wm h.tm h.sm ?_ l1 (by show((out :: n.tk).length:Int)≤n.tm;rw[List.length_cons];omega) l3;rw[if_pos (show(⟨#[]⟩:ByteArray).size=0 from rfl),List.append_nil];refine A3e (fun a=>?_);have g1:=hp.count_eq a;simp only [List.count_append,List.count_cons,List.count_nil] at g1 ⊢;omega
 rw[if_neg c1,if_neg c1]
 by_cases c2:n.worth out≤n.worth (A6i n.tk)
 ·rw[if_pos c2,if_pos c2];exact h
 rw[if_neg c2,if_neg c2];have htm:0 < n.tm:=by have:=h.t.1;omega
 have q1:=A62 out c1;have hpo:=A6t (s:=out) c1 htm;have hpe:(A2a n.tm n.tk out).size ≠ 0:=(A5q h.t hpo).1;have lq:=congrArg List.length q1;rw[List.length_append,List.length_singleton,List.length_cons] at lq;refine QueR.of hnd hk hs h.wm h.tm h.sm ?_ l1 (by show((A2x n.tm n.tk out).length:Int)≤n.tm;omega) l3;rw[if_neg hpe];refine A3e (fun a=>?_);have g1:=hp.count_eq a;have g2:=congrArg (List.count a) q1;simp only [List.count_append,List.count_cons,List.count_nil] at g1 g2 ⊢;omega
theorem A1q.count {n:Nr} {ks:List ByteArray} (h:A1q n ks) (key:ByteArray):A1q (n.countM key) ks:=by
 obtain⟨e0,e1,e2,e3,e4,-,-,-,-,-,-,-⟩:=n.countM_same key;refine⟨by rw[e0,e1];exact h.arena,by rw[e2,e3,e4];exact h.table,?_,?_,by rw[e0];exact h.size,by rw[e3];exact h.old,by rw[e2,e0];exact h.cells,by rw[e2];exact h.keys,by rw[e0];exact h.laid,fun c hc hz=>?_⟩
 ·unfold Nr.countM
  split
  ·exact B7w _ _ _ h.sketch
  ·exact h.sketch
 ·have hd:=h.door
  unfold Nr.countM
  split
  ·dsimp only;split <;> omega
  ·have:=B9s n.db.toNat (A4o key) Zo (A9i key)
   dsimp only;omega
 ·rw[e2] at hc
  unfold B1i;rw[e0];exact h.linked c hc hz
theorem QueR.count {n:Nr} {ks:List ByteArray} {o:ByteArray} (h:QueR n ks o) (key:ByteArray):QueR (n.countM key) ks o:=by
 obtain⟨e0,-,-,-,-,e5,e6,e7,e8,e9,e10,-⟩:=n.countM_same key;exact⟨by rw[e5,e6];exact h.w,by rw[e7,e8];exact h.t,by rw[e9,e10];exact h.s,by rw[e5,e0];exact h.wm,by rw[e7,e0];exact h.tm,by rw[e9,e0];exact h.sm,by rw[e6,e8,e10];exact h.all⟩
theorem A1q.touch {n:Nr} {ks:List ByteArray} (h:A1q n ks) (key:ByteArray):A1q (n.touchM key) ks:=by
 obtain⟨e0,e1,e2,e3,e4,-,-,-,e11,e12,e13⟩:=n.touchM_same key;refine⟨by rw[e0,e1];exact h.arena,by rw[e2,e3,e4];exact h.table,by rw[e11,e12];exact h.sketch,by rw[e13];exact h.door,by rw[e0];exact h.size,by rw[e3];exact h.old,by rw[e2,e0];exact h.cells,by rw[e2];exact h.keys,by rw[e0];exact h.laid,fun c hc hz=>?_⟩;rw[e2] at hc;unfold B1i;rw[e0];exact h.linked c hc hz
theorem Nr.trialM_same (n:Nr) (key:ByteArray):∃ tk,n.trialM key = { n with tk:=tk }:=by
 unfold Nr.trialM
 split
 ·exact⟨n.tk,rfl⟩
 ·split
  ·exact⟨_,rfl⟩
  ·split
   ·exact⟨n.tk,rfl⟩
   ·exact⟨_,rfl⟩
theorem A1q.keysets {n:Nr} {ks:List ByteArray} (h:A1q n ks) (wk tk sk:List ByteArray):A1q { n with wk:=wk,tk:=tk,sk:=sk } ks:=⟨h.arena,h.table,h.sketch,h.door,h.size,h.old,h.cells,h.keys,h.laid,h.linked⟩
theorem A1q.trial {n:Nr} {ks:List ByteArray} (h:A1q n ks) (key:ByteArray):A1q (n.trialM key) ks:=by
 obtain⟨tk,e⟩:=n.trialM_same key;rw[e];exact h.keysets n.wk tk n.sk
theorem QueR.len {n:Nr} {ks:List ByteArray} {o:ByteArray} (h:QueR n ks o) (hs:2≤n.sl.length):ks.length≤n.sl.length+(if o.size=0 then 0 else 1):=by
 have l1:=h.w.2.2.1;have l2:=h.t.2.2.1;have l3:=h.s.2.2.1;rw[h.wm] at l1;rw[h.tm] at l2;rw[h.sm] at l3;have:=h.all.length_eq;simp only [List.length_append] at this;have e:(if o.size=0 then ([]:List ByteArray) else [o]).length=if o.size=0 then 0 else 1:=by split <;> rfl
 rw[e] at this;have:winN n.sl.length+triN n.sl.length+safN n.sl.length=n.sl.length:=by unfold triN safN winN;split <;> omega
 omega
theorem QueR.gone {n:Nr} {ks:List ByteArray} {o:ByteArray} (h:QueR n ks o) (ho:o.size ≠ 0):o ∈ ks∧QueR n (ks.erase o) ⟨#[]⟩:=by
 have hp:=h.all;rw[if_neg ho] at hp;refine⟨hp.mem_iff.1 Zs,⟨h.w,h.t,h.s,h.wm,h.tm,h.sm,?_⟩⟩;rw[if_pos (show(⟨#[]⟩:ByteArray).size=0 from rfl),List.append_nil];refine A3e (fun a=>?_);have g1:=hp.count_eq a;rw[List.count_erase];simp only [List.count_append,List.count_cons,List.count_nil] at g1 ⊢;omega
theorem QueR.again {n:Nr} {ks:List ByteArray} {o:ByteArray} (h:QueR n ks o) {i k:Nat} {x:S94} {key val:ByteArray}:QueR (n.again i k x key val) ks o :=
 ⟨h.w,h.t,h.s,by show n.wm=(winN (n.sl.set k _).length:Int);rw[C0i];exact h.wm,by show n.tm=(triN (n.sl.set k _).length:Int);rw[C0i];exact h.tm,by show n.sm=(safN (n.sl.set k _).length:Int);rw[C0i];exact h.sm,h.all⟩
theorem QueR.remove {n:Nr} {ks:List ByteArray} {o:ByteArray} (h:QueR n ks o) {i k:Nat} {x:S94}:QueR (n.remove i k x) ks o :=
 ⟨h.w,h.t,h.s,by show n.wm=(winN (n.sl.set k _).length:Int);rw[C0i];exact h.wm,by show n.tm=(triN (n.sl.set k _).length:Int);rw[C0i];exact h.tm,by show n.sm=(safN (n.sl.set k _).length:Int);rw[C0i];exact h.sm,h.all⟩
theorem QueR.lay {n:Nr} {ks:List ByteArray} {o:ByteArray} (h:QueR n ks o) {k:Nat} {x:S94} {key val:ByteArray} {ce:List S151}:QueR (n.lay k x key val ce) ks o :=
 ⟨h.w,h.t,h.s,by show n.wm=(winN (n.sl.set k _).length:Int);rw[C0i];exact h.wm,by show n.tm=(triN (n.sl.set k _).length:Int);rw[C0i];exact h.tm,by show n.sm=(safN (n.sl.set k _).length:Int);rw[C0i];exact h.sm,h.all⟩
theorem A1q.small {n:Nr} {ks ks':List ByteArray} {o:ByteArray} (h:A1q n ks) (q:QueR n ks' o):n.small:=by
 have hw:=q.w.2.1;have hw2:=q.w.2.2.1;have ht:=q.t.2.1;have ht2:=q.t.2.2.1;have hs:=q.s.2.1;have hs2:=q.s.2.2.1;have h1:=h.size;have h2:=h.table.size;have h3:=(A4a.1 h.sketch).1;refine⟨by omega,by omega,by rw[h.old];simp,by omega,by omega,by omega,by omega,fun c hc=>?_,fun c hc=>by rw[h.old] at hc;cases hc⟩
 by_cases hz:c.f0.size=0
 ·omega
 ·have:=h.isK (h.keys.mem_iff.1 (A2u.2 ⟨c,hc,rfl,hz⟩));omega
theorem A1q.high {n:Nr} {ks:List ByteArray} (h:A1q n ks):∀ c ∈ n.ce,c.f1≤9223372036854775807:=by
 intro c hc
 by_cases hz:c.f0.size=0
 ·obtain⟨i,hi,rfl⟩:=List.getElem_of_mem hc
  rcases (h.table.cells i _ (C0c hi)).1 hz with e|e <;> omega
 ·obtain⟨k,x,hx,-,e,-⟩:=h.linked c hc hz
  have hs:=(h.arena.slots x (C0h hx)).2.1;have hk:=(C0e.1 hx).1;have:=h.size;omega
def Nr.has (n:Nr) (key v:ByteArray):Prop:=∃ x ∈ n.sl,x.f1=true∧x.f2=key∧x.f3=v
theorem A1q.has_key {n:Nr} {ks:List ByteArray} (h:A1q n ks) {key:ByteArray}:(∃ v,n.has key v) ↔ key ∈ ks:=by
 rw[← h.laid.mem_iff];unfold A4f;rw[List.mem_map];constructor
 ·rintro ⟨v,x,hx,hu,hk,-⟩
  exact⟨x,List.mem_filter.2 ⟨hx,hu⟩,hk⟩
 ·rintro ⟨x,hx,hk⟩
  obtain⟨h1,h2⟩:=List.mem_filter.1 hx;exact⟨x.f3,x,h1,h2,hk,rfl⟩
theorem A1q.slot {n:Nr} {ks:List ByteArray} (h:A1q n ks) {k k':Nat} {x x':S94} (hx:n.sl[k]? = some x) (hx':n.sl[k']? = some x') (hu:x.f1=true) (hu':x'.f1=true) (e:x.f2=x'.f2):k=k':=by
 by_cases hk:k=k'
 ·exact hk
 ·exfalso
  obtain⟨q,hq1,hq2⟩:=A6k hx;have hn:=(hq1.symm.trans h.laid).nodup_iff.2 h.nodup;rw[A35,if_pos hu] at hn;have h2:=hq2 ⟨0,false,⟨#[]⟩,⟨#[]⟩,0⟩;rw[A35,if_neg Zs,List.nil_append] at h2;have hm:x'.f2 ∈ q:=h2.mem_iff.1 (List.mem_map.2 ⟨x',List.mem_filter.2 ⟨C0h (by rw[List.getElem?_set_ne hk];exact hx'),hu'⟩,rfl⟩);exact(List.nodup_cons.1 hn).1 (e ▸ hm)
theorem B1k {α:Type} {l:List α} {x:α} (h:x ∈ l):∃ i:Nat,l[i]? = some x:=by
 obtain⟨i,hi,e⟩:=List.getElem_of_mem h;exact⟨i,by rw[C0c hi,e]⟩
theorem B0y {xs:List S94} {k:Nat} {x y:S94} (hx:xs[k]? = some x) (P:S94→Prop):(∃ z ∈ xs.set k y,P z) ↔ P y ∨ ∃ j z,j ≠ k∧xs[j]? = some z∧P z:=by
 have hk:=(C0e.1 hx).1;constructor
 ·rintro ⟨z,hz,hp⟩
  obtain⟨j,hj⟩:=B1k hz;by_cases e:j=k
  ·subst e;rw[List.getElem?_set_self hk] at hj;left;rw[C0d hj];exact hp
  ·rw[List.getElem?_set_ne (fun h=>e h.symm)] at hj;exact .inr ⟨j,z,e,hj,hp⟩
 ·rintro (hp|⟨j,z,hj,hz,hp⟩)
  ·exact⟨y,C0h (List.getElem?_set_self hk),hp⟩
  ·exact⟨z,C0h (by rw[List.getElem?_set_ne (fun h=>hj h.symm)];exact hz),hp⟩
theorem B19 {n:Nr} {ks:List ByteArray} (h:A1q n ks) {i k:Nat} {x:S94} (hx:n.sl[k]? = some x) (hu:x.f1=true) (key v:ByteArray):(n.remove i k x).has key v ↔ key ≠ x.f2∧n.has key v:=by
 refine(B0y hx _).trans ?_;constructor
 ·rintro (⟨e,-⟩|⟨j,z,hj,hz,hzu,hzk,hzv⟩)
  ·cases e
  ·exact⟨fun e=>hj (h.slot hz hx hzu hu (hzk.trans e)),z,C0h hz,hzu,hzk,hzv⟩
 ·rintro ⟨hne,z,hz,hzu,hzk,hzv⟩
  obtain⟨j,hj⟩:=B1k hz;exact .inr ⟨j,z,fun e=>by subst e;rw[C0d (hx.symm.trans hj)] at hne;exact hne hzk.symm,hj,hzu,hzk,hzv⟩
theorem B7z {n:Nr} {k:Nat} {x:S94} {key val:ByteArray} {ce:List S151} (hx:n.sl[k]? = some x) (hu:x.f1=false) (key' v:ByteArray):(n.lay k x key val ce).has key' v ↔ (key=key'∧val=v) ∨ n.has key' v:=by
 refine(B0y hx _).trans ?_;constructor
 ·rintro (⟨-,e1,e2⟩|⟨j,z,-,hz,hp⟩)
  ·exact .inl ⟨e1,e2⟩
  ·exact .inr ⟨z,C0h hz,hp⟩
 ·rintro (⟨e1,e2⟩|⟨z,hz,hzu,hzk,hzv⟩)
  ·exact .inl ⟨rfl,e1,e2⟩
  ·obtain⟨j,hj⟩:=B1k hz
   exact .inr ⟨j,z,fun e=>(by subst e;rw[C0d (hx.symm.trans hj),hzu] at hu;cases hu),hj,hzu,hzk,hzv⟩
theorem B3o {n:Nr} {ks:List ByteArray} (h:A1q n ks) {i k:Nat} {x:S94} {val:ByteArray} (hx:n.sl[k]? = some x) (hu:x.f1=true) (key' v:ByteArray):(n.again i k x x.f2 val).has key' v ↔ (x.f2=key'∧val=v) ∨ key' ≠ x.f2∧n.has key' v:=by
 refine(B0y hx _).trans ?_;constructor
 ·rintro (⟨-,e1,e2⟩|⟨j,z,hj,hz,hzu,hzk,hzv⟩)
  ·exact .inl ⟨e1,e2⟩
  ·exact .inr ⟨fun e=>hj (h.slot hz hx hzu hu (hzk.trans e)),z,C0h hz,hzu,hzk,hzv⟩
 ·rintro (⟨e1,e2⟩|⟨hne,z,hz,hzu,hzk,hzv⟩)
  ·exact .inl ⟨rfl,e1,e2⟩
  ·obtain⟨j,hj⟩:=B1k hz
   exact .inr ⟨j,z,fun e=>by subst e;rw[C0d (hx.symm.trans hj)] at hne;exact hne hzk.symm,hj,hzu,hzk,hzv⟩
theorem B2a {L:Nat} (h:L=4 ∨ L=8 ∨ L=16 ∨ L=32 ∨ L=64):A18.f (L:Int)=some (A3h L):=by
 unfold A18.f A3f.f;rw[if_pos ⟨rfl,by omega⟩,C0k];rfl
theorem B2b (L:Nat) (hL:L≤1048576) (d:Nat):∀ (i:Nat),L=i+d→Ev (fun k=>A1e.l0 k (L:Int) (A3h i) (i:Int)) (A3h L):=by
 induction d with
 |zero =>
  intro i hi;obtain rfl:L=i:=by omega
  refine Ev.step (f:=fun _=>some (A3h L)) (fun k=>?_) (Ev.now _);simp only [A1e.l0];rw[if_neg Zo]
 |succ d ih =>
  intro i hi;refine Ev.step (fun k=>?_) (ih (i+1) Zo);simp only [A1e.l0];rw[if_pos Zo,if_pos (by rw[show(A3h i).length=i from List.length_replicate];omega),w64 i Zo,show A3h i ++ [⟨⟨#[]⟩,-1⟩]=A3h (i+1) from List.replicate_succ'.symm]
theorem B5o (L:Nat) (hL:L≤1048576):Ev (fun k=>A1e.f k (L:Int)) (A3h L):=B2b L hL L 0 Zo
theorem A1q.ps_find {n:Nr} {ks:List ByteArray} (h:A1q n ks) (i:Nat) (hi:i < (psOf n.ce).length):∃ c ∈ n.ce,c.f0=(psOf n.ce)[i].1∧c.f1=(psOf n.ce)[i].2∧c.f0.size ≠ 0∧c.f0.size≤12:=by
 obtain⟨h1,c,hc,e1,e2,hz⟩:=h.ps_mem (List.getElem_mem hi);have:=h.isK h1;exact⟨c,hc,e1,e2,by rw[e1];exact hz,by rw[e1];exact this.2⟩
theorem A1q.clean_at {n:Nr} {ks:List ByteArray} (h:A1q n ks) (hl:ks.length+1≤n.sl.length) (i:Nat) (hi:i < (psOf n.ce).length):putK (stC (A3h n.ce.length) (psOf n.ce) i) (psOf n.ce)[i].1 (psOf n.ce)[i].2=some (stC (A3h n.ce.length) (psOf n.ce) (i+1))∧0 < TM.nones S151.f0 S151.f1 (stC (A3h n.ce.length) (psOf n.ce) i)∧TM.seek S151.f0 S151.f1 (stC (A3h n.ce.length) (psOf n.ce) i) (psOf n.ce)[i].1 (stOf (psOf n.ce)[i].1)=none:=by
 obtain⟨hI,hp⟩:=h.clean hl i Zo;have hN:=hI.nones;have hb:=A52 h.size;have hc:=h.cells;have hpl:=h.ps_len;rw[List.length_take] at hN;obtain⟨c,-,e1,-,hz,-⟩:=h.ps_find i hi;refine⟨hp hi,by omega,(TM.Found.seek S151.f0 S151.f1 (hI.cells.found S151.f0 S151.f1) (by rw[← e1];exact hz)).2 (fun x hx e=>?_)⟩;have hm:=hI.keys.mem_iff.1 (A2u.2 ⟨x,hx,e,by rw[← e1];exact hz⟩);rw[List.map_take] at hm;obtain⟨j,hj,e2⟩:=List.mem_take_iff_getElem.1 hm;have hn:((psOf n.ce).map Prod.fst).Nodup:=by rw[A4t];exact((A1w _).trans h.keys).nodup_iff.2 h.nodup
 unfold List.Nodup at hn;rw[List.pairwise_iff_getElem] at hn;exact hn j i Zo (by simpa using hi) Zo (by rw[e2,List.getElem_map])
theorem A1q.clean_none {n:Nr} {ks:List ByteArray} (h:A1q n ks) (hl:ks.length+1≤n.sl.length):0 < TM.nones S151.f0 S151.f1 (A4i n.ce)∧(A4i n.ce).length=n.ce.length:=by
 obtain⟨hI,-⟩:=h.clean hl _ (Nat.le_refl _);have hN:=hI.nones;have hb:=A52 h.size;have hc:=h.cells;have hpl:=h.ps_len;rw[List.length_take] at hN;exact⟨by unfold A4i;omega,hI.len⟩
theorem A1q.mv {n:Nr} {ks:List ByteArray} (h:A1q n ks):n.mv=0:=by
 have:=h.table.moved;rw[h.old,List.length_nil] at this;omega
theorem B70 {n:Nr} {ks:List ByteArray} (hn:n.small) (hP:A3b n) (h:A1q n ks) (hl:ks.length+1≤n.sl.length) (w1:World) (A:Option Addr) (c:Nat) (B:Option Addr) (d:Nat) (hC:Kd.C k151 w1 A n.ce.length n.ce∧n.ce.length≤c∧Kd.C k151 w1 B n.old.length n.old∧n.old.length≤d) :
  Calls Tryz.prog 223 #[.agg #[.slice A n.ce.length c,.slice B n.old.length d,.int .i64 n.mv]] w1 fun e w'=>∃ v,e=.returned (.tuple #[.agg #[v,.slice none 0 0,.int .i64 0],.bool true])∧Kd.R k151 151 w' w1.heap.size (fun _=>True) v (A4i n.ce)∧Below w1.heap.size w1 w':=by
 obtain⟨K1,hK1⟩:=A9g n.ce n.old n.mv hn.s2 hn.s3;obtain⟨K2,hK2⟩:=B3m (g:=fun i k=>if hi:i < (psOf n.ce).length then A1a.f k n.ce n.old n.mv (psOf n.ce)[i].1 else none) (r:=fun i=>if hi:i < (psOf n.ce).length then ((psOf n.ce)[i].2,true) else (0,false)) (psOf n.ce).length (fun i hi=>by
  obtain⟨c,hc,e1,e2,hz,-⟩:=h.ps_find i hi;have:=A7p hn hP hc hz;rw[e1,e2] at this;simp only [dif_pos hi];exact this)
 refine B50 A c n.ce B d n.old n.mv (psOf n.ce) (stC (A3h n.ce.length) (psOf n.ce)) (K1+K2) hC hn.s2 ?_ ?_ (fun i hi=>?_) (fun i hi=>?_) (fun i hi=>⟨(h.clean_at hl i hi).1,(h.clean_at hl i hi).2.1⟩) (fun i=>by rw[B3n];exact List.length_replicate)
 ·exact B2a h.table.size
 ·rw[A4t]
  exact(hK1 (K1+K2) Zo).trans (by rw[h.old,List.append_nil])
 ·have:=hK2 i hi (K1+K2) Zo
  simp only [dif_pos hi] at this;exact this
 ·obtain⟨c,-,e1,-,hz,hz2⟩:=h.ps_find i hi
  rw[← e1];exact⟨hz,by omega⟩
theorem B71 {w0 w:World} {ps:List Part} {ks:List ByteArray} (g:Nat) (u:NV) (n:Nr) (hn:n.small) (hP:A3b n) (hC:A1q n ks) (hl:ks.length+1≤n.sl.length) (k:Nat) (x:S94) (key val:ByteArray) (ce:List S151) (hx:n.sl[k]? = some x) (hf:n.fr=(k:Int)) (hg:0≤x.f0∧x.f0≤41666665) (hz:1≤key.size∧key.size≤12) (hp:B5n n.ce ce key (24 * x.f0+(k:Int)))
  (h:St w0 w (Part.blk g 50 (u.cells n) :: (u.rows n ++ ps))) :
  Calls Tryz.prog 179 #[.pointer (some ⟨g,0,none⟩),.string key,.string val] w fun e w'=>∃ u:NV,e=.returned (.tuple #[])∧St w0 w' (Part.blk g 50 (u.cells (n.lay k x key val ce)) :: (u.rows (n.lay k x key val ce) ++ ps)):=by
 have hz2:key.size ≠ 0∧key.size≤4611686018427387904:=by omega
 rcases hp with hp|⟨hp,hp2⟩
 ·exact(B8a g u n hn hC.old k x key val ce hx hf hg hz2 hC.table.none hp h).mono (fun e w' h=>⟨u,h.1,h.2⟩)
 ·obtain⟨h1,h2⟩:=hC.clean_none hl
  exact B2d g u n hn hC.old k x key val hx hf hg hz2 hC.table.none (A4i n.ce) ce hp h1 h2 hp2 hC.mv (fun w1 A c B d hh=>B70 hn hP hC hl w1 A c B d hh) h
end Go.Proofs.YtediiolcoilepaaGreat.Nb
