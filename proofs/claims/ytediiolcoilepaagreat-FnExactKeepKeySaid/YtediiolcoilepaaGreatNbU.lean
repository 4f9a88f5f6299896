/- Walks of callees. -/
import Derived.Test.YtediiolcoilepaaGreatNbS
import Derived.Ground.Names2Prog
import Derived.Shelf.Slices.Delete
import Derived.Shelf.Slices.Cells
namespace Go.Proofs.YtediiolcoilepaaGreat.Nb
set_option maxHeartbeats 8000000
set_option maxRecDepth 100000
open Go.RowKit YtediiolcoilepaaGreat.GNear YtediiolcoilepaaGreatW.PrintWords YtediiolcoilepaaGreatW.PrintLast YtediiolcoilepaaGreatW.PrintMore
theorem A8s (g o gs c t:Nat) (cs:Array Value) (l:List S94) (free at_:Int) (w0 w:World) (ps:List Part)
  (h:St w0 w (Part.blk g t cs :: Part.row k94 94 (.slice (some ⟨gs,0,none⟩) l.length c) l :: ps)) (h0:cs[o]? = some (.slice (some ⟨gs,0,none⟩) l.length c)) (h1:cs[o+1]? = some (.int .i64 free)) (hf0:0≤at_) (hf1:at_ < l.length) :
  Calls Tryz.prog 147 #[.pointer (some ⟨g,o,none⟩),.int .i64 at_] w fun e w'=>e=.returned (.tuple #[]) ∧
   St w0 w' (Part.blk g t (cs.setIfInBounds (o+1) (.int .i64 at_)) :: Part.row k94 94 (.slice (some ⟨gs,0,none⟩) l.length c) (l.set at_.toNat ⟨if wrap64 ((A0p l at_).f0+1) > 41666665 then 0 else wrap64 ((A0p l at_).f0+1),false,⟨#[]⟩,⟨#[]⟩,free⟩) :: ps):=by
 have HS:=B98 h;have hc0:=h.cell o h0;have hc1:=h.cell (o+1) h1;have hz1:=h.frozen (o+1);have hx:l[at_.toNat]? = some (A0p l at_):=by unfold A0p;rw[C0j,C0c Zo];rfl
 obtain⟨hs0,hy0⟩:=h.tail.flat_cell F94 (j:=0) hx rfl;obtain⟨hs1,hy1⟩:=h.tail.flat_cell F94 (j:=1) hx rfl;obtain⟨hs2,hy2⟩:=h.tail.flat_cell F94 (j:=2) hx rfl;obtain⟨hs3,hy3⟩:=h.tail.flat_cell F94 (j:=3) hx rfl;obtain⟨hs4,hy4⟩:=h.tail.flat_cell F94 (j:=4) hx rfl;replace hs0:w.cell? ⟨gs,at_.toNat * 5,none⟩=_:=hs0;replace hy0:w.frozen? ⟨gs,at_.toNat * 5,none⟩=_:=hy0;replace hs1:w.cell? ⟨gs,at_.toNat * 5+1,none⟩=_:=hs1;replace hy1:w.frozen? ⟨gs,at_.toNat * 5+1,none⟩=_:=hy1;replace hs2:w.cell? ⟨gs,at_.toNat * 5+2,none⟩=_:=hs2;replace hy2:w.frozen? ⟨gs,at_.toNat * 5+2,none⟩=_:=hy2;replace hs3:w.cell? ⟨gs,at_.toNat * 5+3,none⟩=_:=hs3;replace hy3:w.frozen? ⟨gs,at_.toNat * 5+3,none⟩=_:=hy3;replace hs4:w.cell? ⟨gs,at_.toNat * 5+4,none⟩=_:=hs4;replace hy4:w.frozen? ⟨gs,at_.toNat * 5+4,none⟩=_:=hy4;have hne:gs ≠ g:=fun e=>h.away (Part.row k94 94 (.slice (some ⟨gs,0,none⟩) l.length c) l) Zs gs e rfl;have hne':g ≠ gs:=fun e=>hne e.symm;clear h;go_enter Tryz.func147,Tryz.ntmps147
 go_wp2
 all_goals (generalize hb_:at_.toNat * 5=b at *)
 all_goals go_region
 all_goals go_wp2
 all_goals subst hb_
 all_goals go_end0
 ·exact⟨rfl,((HS.o.swap.slot5 hx ⟨0,false,⟨#[]⟩,⟨#[]⟩,free⟩).swap.put (o+1) (.int .i64 at_) rfl).drew⟩
 ·exact⟨rfl,((HS.o.swap.slot5 hx ⟨wrap64 ((A0p l at_).f0+1),false,⟨#[]⟩,⟨#[]⟩,free⟩).swap.put (o+1) (.int .i64 at_) rfl).drew⟩
theorem A93 {e base:Nat} {ok:Nat→Prop} {w:World} {A:Option Addr} {n c:Nat} {xs:List ByteArray} (h:Kd.R Kd.string e w base ok (.slice A n c) xs) :
  n=xs.length∧((A=none∧n=0∧c=0) ∨ ∃ g cur,A=some ⟨g,0,none⟩∧ok g∧base≤g∧w.heap[g]? = some (.cells cur e (0,0))∧n≤c∧c≤maxLen∧cur.size=c∧cur.toList.take n=xs.map Value.string):=by
 obtain⟨h0,inner,⟨hlen,ho⟩,hr⟩:=h;have hinner:inner=xs.map Value.string:=by
  obtain⟨hr1,hr2⟩:=hr;apply List.ext_getElem?;intro j
  by_cases hj:j < xs.length
  ·have:=hr2 j xs[j] (C0c hj)
   have h3:(inner.drop (j * 1)).take 1 = [Value.string xs[j]]:=this;rw[Nat.mul_one] at h3;have h4:=congrArg (fun l=>l[0]?) h3;simp at h4;rw[h4];simp[hj]
  ·have hl:inner.length=xs.length:=by have:=hr1;simpa [Kd.string,Kd.scalar] using this
   rw[List.getElem?_eq_none Zo,List.getElem?_eq_none (by simp;omega)]
 rcases ho with ⟨hv,hn⟩|⟨g,cap,cur,hv,hb,hc,hn,hm,hs,ht⟩
 ·obtain⟨rfl,rfl,rfl⟩:=Value.slice.inj hv
  exact⟨hn.symm,.inl ⟨rfl,rfl,rfl⟩⟩
 ·obtain⟨rfl,rfl,rfl⟩:=Value.slice.inj hv
  refine⟨rfl,.inr ⟨g,cur,rfl,h0 g rfl,hb,hc,hn,hm,?_,?_⟩⟩
  ·rw[hs];exact Nat.mul_one _
  ·have:xs.length * (Kd.string).sz=xs.length:=Nat.mul_one _
   rw[this] at ht;rw[ht,hinner]
theorem A5r {e base:Nat} {ok:Nat→Prop} {w:World} {g n c:Nat} {cur:Array Value} {xs:List ByteArray} (hk:ok g) (hb:base≤g) (hc:w.heap[g]? = some (.cells cur e (0,0))) (hn:n=xs.length) (hnc:n≤c) (hm:c≤maxLen) (hs:cur.size=c) (ht:cur.toList.take n=xs.map Value.string) :
  Kd.R Kd.string e w base ok (.slice (some ⟨g,0,none⟩) n c) xs:=by
 subst hn;refine⟨fun k hk'=>?_,xs.map Value.string,⟨?_,.inr ⟨g,c,cur,rfl,hb,hc,hnc,hm,?_,?_⟩⟩,?_⟩
 ·simp[Value.ownBlock] at hk';rw[← hk'];exact hk
 ·show(xs.map Value.string).length=xs.length * 1;simp
 ·show cur.size=c * 1;omega
 ·show cur.toList.take (xs.length * 1)=_;rw[Nat.mul_one];exact ht
 ·exact Kd.reps_scalar (enc:=Value.string) xs
theorem A5e (g:Nat) (t:TypeId):∀ (vs:List Value) (o:Nat) (w:World) (cur:Array Value),w.heap[g]? = some (.cells cur t (0,0))→o+vs.length≤cur.size →
  ∃ cur':Array Value,(w.setCells g o vs).heap[g]? = some (.cells cur' t (0,0))∧cur'.size=cur.size∧cur'.toList=cur.toList.take o ++ vs ++ cur.toList.drop (o+vs.length)
 |[],o,w,cur,h,hl=>⟨cur,h,rfl,by simp⟩
 |v :: r,o,w,cur,h,hl=>by
  simp only [List.length_cons] at hl;obtain⟨cur',h1,h2,h3⟩:=A5e g t r (o+1) (w.setCell ⟨g,o,none⟩ v) (cur.setIfInBounds o v) (A4p h o v) (by simp;omega);refine⟨cur',h1,by rw[h2];simp,?_⟩;rw[h3,Array.toList_setIfInBounds,List.take_add_one,List.take_set_of_le (Nat.le_refl o),List.getElem?_set_self (by simp;omega),List.drop_set_of_lt Zo];simp only [List.length_cons,Option.toList_some,List.append_assoc,List.cons_append,List.nil_append];rw[show o+1+r.length=o+(r.length+1) by omega]
theorem A3z (g:Nat):∀ (vs:List Value) (o:Nat) (w:World),w.grownBy (w.setCells g o vs) (some g)
 |[],o,w=>World.grownBy.refl w _
 |v :: r,o,w=>World.grownBy.trans (⟨by simp[World.setCell],by simp[World.setCell],by simp[World.setCell],by simp[World.setCell],fun i hi hne=>Below.heap_setCell w ⟨g,o,none⟩ v i (fun e=>hne (by rw[e]))⟩) (A3z g r (o+1) _)
theorem A8t {w W:World} {row:Option Nat} (h:w.grownBy W row):w.grownBy W.drew row:=⟨h.os,h.tape,h.output,h.size,h.block⟩
theorem B6k {w:World} {g e:Nat} {cur:Array Value} {xs:List ByteArray} (hc:w.heap[g]? = some (.cells cur e (0,0))) (ht:cur.toList.take xs.length=xs.map Value.string) (j:Nat) (hj:j < xs.length):w.cell? ⟨g,0+j,none⟩=some (.string (xs.getD j ByteArray.empty)):=by
 rw[Nat.zero_add,A1h hc j];have h:=congrArg (fun l=>l[j]?) ht;simp only [List.getElem?_take,if_pos hj,List.getElem?_map,List.getElem?_eq_getElem hj,Option.map_some] at h;rw[C0j,C0c hj,← Array.getElem?_toList,h];rfl
theorem B8p (xs:List ByteArray):Lib.strsOf (fun i=>xs.getD i ByteArray.empty) xs.length=xs.map (fun s=>s.data.toList):=by
 apply List.ext_getElem
 ·simp[Lib.strsOf]
 ·intro j h1 h2
  simp[Lib.strsOf] at h1 h2 ⊢;simp[h2]
theorem B6l (xs:List ByteArray):(xs.map (fun s:ByteArray=>s.data.toList)).map encStr=xs.map Value.string:=by
 rw[List.map_map];exact List.map_congr_left (fun s _=>rfl)
shelf_lay Lays2.n24 Nm2 24 at Tryz as layD
theorem B4d (xs:List ByteArray) (i:Nat) (hi:i < xs.length) (A:Option Addr) (c base:Nat) (P_:Nat→Prop) (w:World) (ho:Kd.R Kd.string 9 w base P_ (.slice A xs.length c) xs) :
  Calls Tryz.prog 149 #[.slice A xs.length c,.int .i64 (i:Int),.int .i64 ((i+1:Nat):Int)] w fun e w'=>e=.returned (.slice A (xs.length - 1) c)∧Kd.R Kd.string 9 w' base P_ (.slice A (xs.length - 1) c) (xs.eraseIdx i)∧w.grownBy w' (Value.slice A xs.length c).ownBlock:=by
 obtain⟨_,⟨_,h0,_⟩|⟨g,cur,rfl,hk,hb,hc,hn,hm,hs,ht⟩⟩:=A93 ho
 ·omega
 have hm':c≤9223372036854775807:=hm;refine(Any.slices_Delete_string_cells layD g 0 xs.length c i (i+1) (fun i=>xs.getD i ByteArray.empty) w hn hm' Zo Zo (B6k hc ht) (fun j hj=>by rw[Nat.zero_add];exact A1k hc j)).mono ?_;rintro e w' ⟨rfl,q,rfl⟩;rw[B8p];have hl:((List.take i (xs.map (fun s:ByteArray=>s.data.toList)) ++ List.drop (i+1) (xs.map (fun s:ByteArray=>s.data.toList)) ++ List.replicate (i+1 - i) []).map encStr)=(xs.eraseIdx i).map Value.string ++ [.string ⟨#[]⟩]:=by
  rw[show i+1 - i=1 by omega,List.eraseIdx_eq_take_drop_succ,List.map_append,List.map_append,List.map_append,List.map_take,List.map_drop,List.map_take,List.map_drop,B6l];rfl
 rw[hl];have hel:(xs.eraseIdx i).length=xs.length - 1:=by rw[List.length_eraseIdx,if_pos hi]
 obtain⟨cur',h1,h2,h3⟩:=A5e g 9 ((xs.eraseIdx i).map Value.string ++ [.string ⟨#[]⟩]) 0 (w.drewN q) cur (B0m hc q) (by simp;omega);refine⟨by rw[show xs.length - (i+1 - i)=xs.length - 1 by omega],A5r hk hb h1 hel.symm Zo hm Zo ?_,?_⟩
 ·rw[h3]
  simp only [List.take_zero,List.nil_append,List.append_assoc];rw[List.take_append_of_le_length (by simp;omega),List.take_of_length_le (by simp;omega)]
 ·exact World.grownBy.trans (b:=w.drewN q) ⟨rfl,rfl,rfl,Nat.le_refl _,fun _ _ _=>rfl⟩ (A3z g _ 0 _)
def A2s (key:ByteArray):List ByteArray→List ByteArray
 |[]=>[]
 |a :: l=>if a=key then l else a :: A2s key l
theorem B1u (key:ByteArray):∀ (l:List ByteArray) (j:Nat) (h:j < l.length),l[j]=key→key ∉ l.take j→A2s key l=l.eraseIdx j
 |[],_,h,_,_=>absurd h Zs
 |a :: l,0,_,e,_=>if_pos e
 |a :: l,j+1,h,e,hn=>by
  have hne:¬ a=key:=fun e'=>hn (by simp[e']);have:=B1u key l j (by simpa using h) (by simpa using e) (fun hm=>hn (by simp[hm]));unfold A2s;rw[if_neg hne,this,List.eraseIdx_cons_succ]
theorem A68 (key:ByteArray):∀ (l:List ByteArray),key ∉ l→A2s key l=l
 |[],_=>rfl
 |a :: l,h=>by
  unfold A2s;rw[if_neg (fun e=>h (by simp[e])),A68 key l (fun hm=>h (by simp[hm]))]
theorem B6m {cs:Array Value} {i:Nat} {u:Value} (h:cs[i]? = some u):cs.setIfInBounds i u=cs:=by
 apply Array.ext_getElem?;intro j;rw[Array.getElem?_setIfInBounds]
 by_cases e:i=j
 ·subst e
  rw[if_pos rfl]
  split
  ·exact h.symm
  ·rename_i hn;rw[Array.getElem?_eq_none Zo] at h;cases h
 ·rw[if_neg e]
theorem takeL {w0 w:World} {ps:List Part} (g o t c:Nat) (cs:Array Value) (A:Option Addr) (l:List S151) (key:ByteArray) (i:Nat) (hl:l.length≤1048576) (hk:key.size ≠ 0) (hk2:key.size≤4611686018427387904) (hs:TM.seek S151.f0 S151.f1 l key (stOf key)=some i)
  (h:St w0 w (Part.blk g t cs :: Part.row k151 151 (.slice A l.length c) l :: ps)) (h0:cs[o]? = some (.slice A l.length c)) :
  Calls Tryz.prog 146 #[.pointer (some ⟨g,o,none⟩),.string key] w fun e w'=>e=.returned (.bool true)∧St w0 w' (Part.blk g t cs :: Part.row k151 151 (.slice A l.length c) (l.set i ⟨⟨#[]⟩,-2⟩) :: ps):=by
 have hu:=Tryz.underlying151;obtain⟨x,hx,-⟩:=TM.seekF_some S151.f0 S151.f1 hs;have hi:i < l.length:=(C0e.1 hx).1;obtain⟨K,hK⟩:=A5f l key hl hk hk2;rw[hs] at hK;replace hK:A0q.f K l key=some ((i:Nat):Int):=hK K (Nat.le_refl _);have HK:=B98 hK;have HX:=B98 hx;have HC:=B98 h0;obtain⟨go,co,eo,-,-,-,-⟩:=Kd.R_form (h.at_R 1 rfl) Zo;obtain⟨rfl,-,rfl⟩:=Value.slice.inj eo;have HS:=B98 h;have hc0:=h.cell o h0;clear hs hK hx h h0 eo;go_enter Tryz.func146,Tryz.ntmps146;go_wp2_with fail;refine(A0q.calls K _ c l key (i:Int) _ (HS.o.at_C 1 rfl).2.2 (HS.o.at_C 1 rfl).2.1 HK.o).mono ?_;rintro e w1 ⟨rfl,hb⟩;have S:=HS.o.step hb;clear HS hb hc0;have HS:=B98 S;have hc0:=S.cell o HC.o;have hz0:w1.cell? ⟨go,i * 2,none⟩=some (.string x.f0):=(S.tail.flat_cell F151 HX.o (j:=0) rfl).1;have hf0:w1.frozen? ⟨go,i * 2,none⟩=false:=(S.tail.flat_cell F151 HX.o (j:=0) (v:=.string x.f0) rfl).2;have hz1:w1.cell? ⟨go,i * 2+1,none⟩=some (.int .i64 x.f1):=(S.tail.flat_cell F151 HX.o (j:=1) rfl).1;have hf1:w1.frozen? ⟨go,i * 2+1,none⟩=false:=(S.tail.flat_cell F151 HX.o (j:=1) (v:=.int .i64 x.f1) rfl).2;have p5:(0:Int)≤(i:Int):=by omega
 have q5:(i:Int) < (l.length:Int):=by omega
 have c1:decide ((0:Int)≤(i:Int))=true:=B99 p5;replace p5:=eq_true p5;replace q5:=eq_true q5;clear S;go_wp2_with fail;go_ret;exact⟨rfl,(HS.o.swap.cell2 HX.o ⟨⟨#[]⟩,-2⟩).swap⟩
theorem B9m {w0 w:World} {ps:List Part} (g o t c:Nat) (cs:Array Value) (A:Option Addr) (l:List ByteArray) (key:ByteArray) (hl:l.length≤1048576)
  (h:St w0 w (Part.blk g t cs :: Part.row Kd.string 9 (.slice A l.length c) l :: ps)) (h1:cs[o+1]? = some (.slice A l.length c)) :
  Calls Tryz.prog 73 #[.pointer (some ⟨g,o,none⟩),.string key] w fun e w'=>∃ b,e=.returned (.bool b)∧(b=true ↔ key ∈ l)∧St w0 w' (Part.blk g t (cs.setIfInBounds (o+1) (.slice A (A2s key l).length c)) :: Part.row Kd.string 9 (.slice A (A2s key l).length c) (A2s key l) :: ps):=by
 obtain⟨K,hK⟩:=B1v l key hl;have HK:=B98 (hK K (Nat.le_refl _));have HC:=B98 h1;have HS:=B98 h;have hc1:=h.cell (o+1) h1;clear hK h h1;go_enter Tryz.func73,Tryz.ntmps73;go_wp2_with fail;refine(A0h.calls K A c l key _ _ (HS.o.at_C 1 rfl).2.2 (HS.o.at_C 1 rfl).2.1 HK.o).mono ?_;rintro e w1 ⟨rfl,hd⟩;have S:=HS.o.step hd.below;clear HS hd hc1;have HS:=B98 S;have hc1:=S.cell (o+1) HC.o;clear S;by_cases hk:key ∈ l
 ·obtain⟨j,hj,e1,e2,e3⟩:=B7k l key 0 hk
  rw[e3,Nat.zero_add];have HE:=B98 (B1u key l j hj e1 e2);have HJ:=B98 hj;have t1:decide ((j:Int) < 0)=false:=C0a Zo;have t2:wrap64 ((j:Int)+1)=((j+1:Nat):Int):=by unfold wrap64;omega
  have HM:=B98 hk;clear e1 e2 e3 hj hk;go_wp2_with fail;refine(B4d l j HJ.o A c w0.heap.size _ _ (HS.o.at_R 1 rfl)).mono ?_;rintro e w2 ⟨rfl,hr,hg⟩;have S:=HS.o.swap;have S:=S.appended rfl (S.below.grown hg S.below.size (fun k hk=>Kd.R_base S.head k hk)) hg hr (Or.inl (by cases A <;> rfl));have el:l.length - 1=(A2s key l).length:=by rw[HE.o,List.length_eraseIdx,if_pos HJ.o]
  rw[el,← HE.o] at S;rw[el];clear hr hg HS hc1 el;have S:=S.swap;have HS:=B98 S;have hc1:=S.cell (o+1) HC.o;have hf1:=S.frozen (o+1);clear S;go_wp2_with fail;go_ret;exact⟨true,rfl,⟨fun _=>HM.o,fun _=>rfl⟩,HS.o.put (o+1) _ rfl⟩
 ·rw[B9p l key 0 hk]
  have he:A2s key l=l:=A68 key l hk;have HE:=B98 he;have HM:=B98 hk;clear hk he;go_wp2_with fail;go_ret;exact⟨false,rfl,⟨fun h=>Bool.noConfusion h,fun h=>absurd h HM.o⟩,by rw[HE.o,B6m HC.o];exact HS.o⟩
def genN (x:S94):Int:=if wrap64 (x.f0+1) > 41666665 then 0 else wrap64 (x.f0+1)
def Nr.remove (n:Nr) (i k:Nat) (x:S94):Nr:={ n with sl:=n.sl.set k ⟨genN x,false,⟨#[]⟩,⟨#[]⟩,n.fr⟩,fr:=(k:Int),ce:=n.ce.set i ⟨⟨#[]⟩,-2⟩ }
theorem B8q {w0 w:World} {ps:List Part} (g:Nat) (u:NV) (n:Nr) (hn:n.small) (hP:A3b n) (ho:n.old = []) (i k:Nat) (c:S151) (x:S94) (hc:n.ce[i]? = some c) (hk:c.f0.size ≠ 0) (hx:n.sl[k]? = some x) (hu:x.f1=true) (hh:24 * x.f0+(k:Int)=c.f1)
  (h:St w0 w (Part.blk g 50 (u.cells n) :: (u.rows n ++ ps))) :
  Calls Tryz.prog 72 #[.pointer (some ⟨g,0,none⟩),.string c.f0] w fun e w'=>e=.returned (.tuple #[])∧St w0 w' (Part.blk g 50 (u.cells (n.remove i k x)) :: (u.rows (n.remove i k x) ++ ps)):=by
 have hi:i < n.ce.length:=(C0e.1 hc).1;have hkl:k < n.sl.length:=(C0e.1 hx).1;have hmem:=C0h hc;have hs:=((hP.table.cells i _ hc).2 hk).2.2;have hkb:=hn.k2 c hmem;obtain⟨K,hK⟩:=A7p hn hP hmem hk;have HK:=B98 (hK K (Nat.le_refl _));have hp:=B5f n.sl n.fr c.f1 hP.arena;rw[(A2h hP.arena).2 ⟨x,hx,hu,hh⟩] at hp;replace hp:A1v.f n.sl n.fr c.f1=some (k:Int):=hp;have HPL:=B98 hp;have HSK:=B98 hs;have HX:=B98 hx;have HC:=B98 hc;have HKZ:=B98 hk;have HN:=B98 hn;have HI:=B98 hi;have HKL:=B98 hkl;obtain⟨A0,c0,A2,c2,A3,c3,A6,c6,A8,c8,A10,c10,A11,c11,rfl⟩:=NV.shape h.tail;have HS:=B98 h;dsimp only [NV.cells,NV.rows,List.cons_append,List.nil_append] at HS;have HKB:=B98 (show c.f0.size≤4611686018427387904 from hkb);clear hK hp hs hx hc hk hn hi hkl h hP hmem hkb hu hh ho;obtain⟨fh,hfh⟩:∃ q,q=c.f1:=⟨_,rfl⟩;rw[← hfh] at HK HPL;clear hfh;have hc2:=HS.o.at_cell 0 rfl 2 rfl;have hc3:=HS.o.at_cell 0 rfl 3 rfl;have hc4:=HS.o.at_cell 0 rfl 4 rfl;go_enter Tryz.func72,Tryz.ntmps72;go_wp2_with fail;refine(A1a.calls K A2 c2 n.ce A3 c3 n.old n.mv c.f0 fh true _ (HS.o.at_C 2 rfl).2.2 (HS.o.at_C 2 rfl).2.1 (HS.o.at_C 3 rfl).2.2 (HS.o.at_C 3 rfl).2.1 HK.o).mono ?_;rintro e w1 ⟨rfl,hb⟩;have S:=HS.o.step hb;clear HS hb hc2 hc3 hc4;have HS:=B98 S;clear S;go_wp2_with fail;have S:=(HS.o.front 2 rfl rfl).swap;refine(takeL g 2 50 c2 _ A2 n.ce c.f0 i HN.o.s2 HKZ.o HKB.o HSK.o S rfl).mono ?_;clear S;rintro e w2 ⟨rfl,S⟩;have S:=(S.front 2 rfl rfl).swap;clear HS;obtain⟨go,co,eo,-,-,-,-⟩:=Kd.R_form (S.at_R 1 rfl) (by have:=HKL.o;omega);obtain⟨rfl,-,rfl⟩:=Value.slice.inj eo;clear eo;have HS:=B98 S;obtain⟨hc0,hc1⟩:=S.cells2 0 rfl;clear S;try go_wp2_with fail
 clear hc0 hc1;refine A5c (n:=10) (S:=fun w'=>w'.cell? ⟨g,0,none⟩=some (.slice (some ⟨go,0,none⟩) n.sl.length c0)∧w'.cell? ⟨g,1,none⟩=some (.int .i64 n.fr)) (ds:=[9]) #[false,false,false,false,false,false,false,false,false,false] Zk rfl rfl (HS.o.cells2 0 rfl) (fun hHeld=>?_);have HS:=B98 HS.o.drew;generalize w2.drew=w3 at HS hHeld ⊢;refine puA (i:=0) (N:=some 20) ?_;refine puA (i:=1) (N:=some 21) ?_;refine puA (i:=2) (N:=some 22) ?_;refine puA (i:=3) (N:=some 23) ?_;refine puA (i:=4) (N:=some 24) ?_;refine puA (i:=5) (N:=some 25) ?_;refine taA (i:=6) (N:=some 26) hHeld ?_;refine puA (i:=7) (N:=some 27) ?_;refine one_ (i:=8) (N:=some 28) #[true,true,true,true,true,true,true,true,true,false] rfl rfl Zk Zd (fun K hK=>?_);refine A5i Tryz.func58 Zk rfl #[.agg #[.slice (some ⟨go,0,none⟩) n.sl.length c0,.int .i64 n.fr],.int .i64 fh] (by rfl) rfl rfl (by(try simp only [List.map_toArray,List.map_cons,List.map_nil]);first|done|rfl|(simp only [List.length_drop,List.length_take];rfl)) ?_;refine(A1v.calls (some ⟨go,0,none⟩) c0 n.sl n.fr fh (k:Int) _ (HS.o.at_C 1 rfl).2.2 (HS.o.at_C 1 rfl).2.1 HPL.o).mono ?_;rintro e w4 ⟨rfl,hb⟩;refine⟨_,rfl,?_⟩;have S:=HS.o.step hb;clear HS hb;have HS:=B98 S;clear S;refine hK.out _ _ (HS.o.cells2 0 rfl) (fun hHeld=>?_);clear hK K;refine A2y (a':=?_) ?_ ?_;rotate_left
 ·show Act.put _ (some 28) _=_;simp only [Act.put,List.setIfInBounds_toArray,List.set_cons_zero,List.set_cons_succ,A1y,A15];rfl
 refine B49 (i:=9) (N:=some 29) #[true,true,true,true,true,true,true,true,true,true] rfl rfl Zk Zd (fun K hK=>?_);refine A5i Tryz.func147 Zk rfl #[.pointer (some ⟨g,0,none⟩),.int .i64 (k:Int)] (by rfl) rfl rfl (by(try simp only [List.map_toArray,List.map_cons,List.map_nil]);first|done|rfl|(simp only [List.length_drop,List.length_take];rfl)) ?_;refine(A8s g 0 go c0 50 _ n.sl n.fr (k:Int) w0 _ _ HS.o rfl rfl Zo (by have:=HKL.o;omega)).mono ?_;rintro e w5 ⟨rfl,S⟩;refine⟨_,rfl,?_⟩;clear HS;have HS:=B98 S;clear S;refine hK.out _ _ ?_;clear hK K;refine A2y (a':=?_) ?_ ?_;rotate_left
 ·show Act.put _ (some 29) _=_;simp only [Act.put,List.setIfInBounds_toArray,List.set_cons_zero,List.set_cons_succ,A1y,A15];rfl
 refine A7d Zk ?_
 try go_wp2_with fail
 go_end0;have S:=HS.o;rw[C0k,A41 n.sl k HKL.o] at S;have ex:n.sl[k]'HKL.o=x:=by have h_:=HX.o;rw[C0c HKL.o] at h_;exact C0d h_
 rw[ex] at S;refine⟨rfl,?_⟩;have e1:(n.sl.set k ⟨genN x,false,⟨#[]⟩,⟨#[]⟩,n.fr⟩).length=n.sl.length:=C0i;have e2:(n.ce.set i ⟨⟨#[]⟩,-2⟩).length=n.ce.length:=C0i;exact S
theorem B2s (cs:List S151) (key:ByteArray) (hl:cs.length≤1048576) (hk:key.size=0) (hs:key.size≤4611686018427387904):Ev (fun k=>A0q.f k cs key) (-1):=by
 unfold A0q.f
 by_cases h0:cs.length=0
 ·rw[List.eq_nil_of_length_eq_zero h0]
  exact Ev.now _
 ·simp only [if_neg (show ¬ (cs.length:Int)=0 by omega)]
  refine Ev.bind (A7m key hs 0 Zo) ?_;have:=A74 cs key hl hk cs.length 0 (stOf key % cs.length) Zo (Nat.mod_lt _ Zo);have e:Int.tmod ((A6h key 0:Nat):Int) (cs.length:Int)=((stOf key % cs.length:Nat):Int):=by rw[Int.tmod_eq_emod_of_nonneg Zo];rfl
  simp only [e];exact this
theorem B4e {n:Nr} (hn:n.small) (hP:A3b n) (ho:n.old = []) (key:ByteArray) (hz:key.size≤4611686018427387904) :
  ∃ h b,Ev (fun k=>A1a.f k n.ce n.old n.mv key) (h,b)∧(b=true ↔ key.size ≠ 0∧∃ c ∈ n.ce,c.f0=key):=by
 have hold:∀ k,A0q.f k n.old key=some (-1):=fun k=>by rw[ho];rfl
 have miss:Ev (fun k=>A0q.f k n.ce key) (-1)→Ev (fun k=>A1a.f k n.ce n.old n.mv key) (0,false):=fun h=>by
  refine Ev.bind h ?_;refine Ev.step (f:=fun _=>some (0,false)) (fun k=>?_) (Ev.now _);show(if ((-1:Int)) ≥ 0 then _ else _)=_;rw[if_neg Zo,hold];rfl
 by_cases hk:key.size=0
 ·exact⟨0,false,miss (B2s n.ce key hn.s2 hk hz),⟨fun h=>Bool.noConfusion h,fun h=>absurd hk h.1⟩⟩
 ·have hs:=A5f n.ce key hn.s2 hk hz
  cases hq:TM.seek S151.f0 S151.f1 n.ce key (stOf key) with
  |none =>
   rw[hq] at hs;refine⟨0,false,miss hs,⟨fun h=>Bool.noConfusion h,fun ⟨_,c,hc,e⟩=>?_⟩⟩;exact absurd e ((TM.Found.seek S151.f0 S151.f1 hP.table.cells.found hk).1 hq c hc)
  |some i =>
   rw[hq] at hs;replace hs:Ev (fun k=>A0q.f k n.ce key) ((i:Nat):Int):=hs;obtain⟨x,hx,hxk⟩:=TM.seekF_some S151.f0 S151.f1 hq;have hi:i < n.ce.length:=(C0e.1 hx).1;refine⟨(A0c n.ce ((i:Nat):Int)).f1,true,Ev.bind hs ?_,⟨fun _=>⟨hk,x,C0h hx,hxk⟩,fun _=>rfl⟩⟩;refine Ev.step (f:=fun _=>some ((A0c n.ce ((i:Nat):Int)).f1,true)) (fun k=>?_) (Ev.now _);show(if ((i:Nat):Int) ≥ 0 then _ else _)=_;rw[if_pos Zo,if_pos Zo,if_pos Zo]
end Go.Proofs.YtediiolcoilepaaGreat.Nb
