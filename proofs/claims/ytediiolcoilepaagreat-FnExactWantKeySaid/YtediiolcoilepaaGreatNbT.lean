/- Walks of callees. -/
import Derived.Test.YtediiolcoilepaaGreatNbS
import Derived.Shelf.Lay
import Derived.Ground.Names2Prog
import Derived.Shelf.Slices.Delete
import Derived.Shelf.Slices.Cells
import Derived.BigRegion
import Derived.BigQuiet
namespace Go.Proofs.YtediiolcoilepaaGreat.Nb
set_option maxHeartbeats 8000000
set_option maxRecDepth 100000
open Go.RowKit Go.Proofs.YtediiolcoilepaaGreat.GNear Go.Proofs.YtediiolcoilepaaGreatW.PrintWords Go.Proofs.YtediiolcoilepaaGreatW.PrintLast Go.Proofs.YtediiolcoilepaaGreatW.PrintMore
set_option linter.unusedVariables false
set_option linter.unusedSimpArgs false
theorem row_block {e base:Nat} {ok:Nat→Prop} {w:World} {A:Option Addr} {n c:Nat} {xs:List ByteArray} (h:Kd.R Kd.string e w base ok (.slice A n c) xs) :
  n=xs.length∧((A=none∧n=0∧c=0) ∨ ∃ g cur,A=some ⟨g,0,none⟩∧ok g∧base≤g∧w.heap[g]? = some (.cells cur e (0,0))∧n≤c∧c≤maxLen∧cur.size=c∧cur.toList.take n=xs.map Value.string):=by
 obtain⟨h0,inner,⟨hlen,ho⟩,hr⟩:=h;have hinner:inner=xs.map Value.string:=by
  obtain⟨hr1,hr2⟩:=hr;apply List.ext_getElem?;intro j
  by_cases hj:j < xs.length
  ·have:=hr2 j xs[j] (List.getElem?_eq_getElem hj)
   have h3:(inner.drop (j * 1)).take 1 = [Value.string xs[j]]:=this;rw[Nat.mul_one] at h3;have h4:=congrArg (fun l=>l[0]?) h3;simp at h4;rw[h4];simp[hj]
  ·have hl:inner.length=xs.length:=by have:=hr1;simpa [Kd.string,Kd.scalar] using this
   rw[List.getElem?_eq_none (by omega),List.getElem?_eq_none (by simp;omega)]
 rcases ho with ⟨hv,hn⟩|⟨g,cap,cur,hv,hb,hc,hn,hm,hs,ht⟩
 ·obtain⟨rfl,rfl,rfl⟩:=Value.slice.inj hv
  exact⟨hn.symm,.inl ⟨rfl,rfl,rfl⟩⟩
 ·obtain⟨rfl,rfl,rfl⟩:=Value.slice.inj hv
  refine⟨rfl,.inr ⟨g,cur,rfl,h0 g rfl,hb,hc,hn,hm,?_,?_⟩⟩
  ·rw[hs];exact Nat.mul_one _
  ·have:xs.length * (Kd.string).sz=xs.length:=Nat.mul_one _
   rw[this] at ht;rw[ht,hinner]
theorem block_row {e base:Nat} {ok:Nat→Prop} {w:World} {g n c:Nat} {cur:Array Value} {xs:List ByteArray} (hk:ok g) (hb:base≤g) (hc:w.heap[g]? = some (.cells cur e (0,0))) (hn:n=xs.length) (hnc:n≤c) (hm:c≤maxLen) (hs:cur.size=c) (ht:cur.toList.take n=xs.map Value.string) :
  Kd.R Kd.string e w base ok (.slice (some ⟨g,0,none⟩) n c) xs:=by
 subst hn;refine⟨fun k hk'=>?_,xs.map Value.string,⟨?_,.inr ⟨g,c,cur,rfl,hb,hc,hnc,hm,?_,?_⟩⟩,?_⟩
 ·simp[Value.ownBlock] at hk';rw[← hk'];exact hk
 ·show(xs.map Value.string).length=xs.length * 1;simp
 ·show cur.size=c * 1;omega
 ·show cur.toList.take (xs.length * 1)=_;rw[Nat.mul_one];exact ht
 ·exact Kd.reps_scalar (enc:=Value.string) xs
theorem blk_sets (g:Nat) (t:TypeId):∀ (vs:List Value) (o:Nat) (w:World) (cur:Array Value),w.heap[g]? = some (.cells cur t (0,0))→o+vs.length≤cur.size →
  ∃ cur':Array Value,(w.setCells g o vs).heap[g]? = some (.cells cur' t (0,0))∧cur'.size=cur.size∧cur'.toList=cur.toList.take o ++ vs ++ cur.toList.drop (o+vs.length)
 |[],o,w,cur,h,hl=>⟨cur,h,rfl,by simp⟩
 |v :: r,o,w,cur,h,hl=>by
  simp only [List.length_cons] at hl;obtain⟨cur',h1,h2,h3⟩:=blk_sets g t r (o+1) (w.setCell ⟨g,o,none⟩ v) (cur.setIfInBounds o v) (blk_set h o v) (by simp;omega);refine⟨cur',h1,by rw[h2];simp,?_⟩;rw[h3,Array.toList_setIfInBounds,List.take_add_one,List.take_set_of_le (Nat.le_refl o),List.getElem?_set_self (by simp;omega),List.drop_set_of_lt (by omega)];simp only [List.length_cons,Option.toList_some,List.append_assoc,List.cons_append,List.nil_append];rw[show o+1+r.length=o+(r.length+1) by omega]
theorem grown_sets (g:Nat):∀ (vs:List Value) (o:Nat) (w:World),w.grownBy (w.setCells g o vs) (some g)
 |[],o,w=>World.grownBy.refl w _
 |v :: r,o,w=>World.grownBy.trans (⟨by simp[World.setCell],by simp[World.setCell],by simp[World.setCell],by simp[World.setCell],fun i hi hne=>Below.heap_setCell w ⟨g,o,none⟩ v i (fun e=>hne (by rw[e]))⟩) (grown_sets g r (o+1) _)
theorem grown_drew {w W:World} {row:Option Nat} (h:w.grownBy W row):w.grownBy W.drew row:=⟨h.os,h.tape,h.output,h.size,h.block⟩
theorem row_cell {w:World} {g e:Nat} {cur:Array Value} {xs:List ByteArray} (hc:w.heap[g]? = some (.cells cur e (0,0))) (ht:cur.toList.take xs.length=xs.map Value.string) (j:Nat) (hj:j < xs.length):w.cell? ⟨g,0+j,none⟩=some (.string (xs.getD j ByteArray.empty)):=by
 rw[Nat.zero_add,blk_cell hc j];have h:=congrArg (fun l=>l[j]?) ht;simp only [List.getElem?_take,if_pos hj,List.getElem?_map,List.getElem?_eq_getElem hj,Option.map_some] at h;rw[List.getD_eq_getElem?_getD,List.getElem?_eq_getElem hj,← Array.getElem?_toList,h];rfl
theorem strs_of (xs:List ByteArray):Lib.strsOf (fun i=>xs.getD i ByteArray.empty) xs.length=xs.map (fun s=>s.data.toList):=by
 apply List.ext_getElem
 ·simp[Lib.strsOf]
 ·intro j h1 h2
  simp[Lib.strsOf] at h1 h2 ⊢;simp[h2]
theorem enc_strs (xs:List ByteArray):(xs.map (fun s:ByteArray=>s.data.toList)).map encStr=xs.map Value.string:=by
 rw[List.map_map];exact List.map_congr_left (fun s _=>rfl)
shelf_lay Lays2.n24 Nm2 24 at Tryz as layD
theorem del_calls (xs:List ByteArray) (i:Nat) (hi:i < xs.length) (A:Option Addr) (c base:Nat) (P_:Nat→Prop) (w:World) (ho:Kd.R Kd.string 9 w base P_ (.slice A xs.length c) xs) :
  Calls Tryz.prog 149 #[.slice A xs.length c,.int .i64 (i:Int),.int .i64 ((i+1:Nat):Int)] w fun e w'=>e=.returned (.slice A (xs.length - 1) c)∧Kd.R Kd.string 9 w' base P_ (.slice A (xs.length - 1) c) (xs.eraseIdx i)∧w.grownBy w' (Value.slice A xs.length c).ownBlock:=by
 obtain⟨_,⟨_,h0,_⟩|⟨g,cur,rfl,hk,hb,hc,hn,hm,hs,ht⟩⟩:=row_block ho
 ·omega
 have hm':c≤9223372036854775807:=hm;refine(Any.slices_Delete_string_cells layD g 0 xs.length c i (i+1) (fun i=>xs.getD i ByteArray.empty) w hn hm' (by omega) (by omega) (row_cell hc ht) (fun j hj=>by rw[Nat.zero_add];exact blk_frozen hc j)).mono ?_;rintro e w' ⟨rfl,q,rfl⟩;rw[strs_of];have hl:((List.take i (xs.map (fun s:ByteArray=>s.data.toList)) ++ List.drop (i+1) (xs.map (fun s:ByteArray=>s.data.toList)) ++ List.replicate (i+1 - i) []).map encStr)=(xs.eraseIdx i).map Value.string ++ [.string ⟨#[]⟩]:=by
  rw[show i+1 - i=1 by omega,List.eraseIdx_eq_take_drop_succ,List.map_append,List.map_append,List.map_append,List.map_take,List.map_drop,List.map_take,List.map_drop,enc_strs];rfl
 rw[hl];have hel:(xs.eraseIdx i).length=xs.length - 1:=by rw[List.length_eraseIdx,if_pos hi]
 obtain⟨cur',h1,h2,h3⟩:=blk_sets g 9 ((xs.eraseIdx i).map Value.string ++ [.string ⟨#[]⟩]) 0 (w.drewN q) cur (blk_drewN hc q) (by simp;omega);refine⟨by rw[show xs.length - (i+1 - i)=xs.length - 1 by omega],block_row hk hb h1 hel.symm (by omega) hm (by omega) ?_,?_⟩
 ·rw[h3]
  simp only [List.take_zero,List.nil_append,List.append_assoc];rw[List.take_append_of_le_length (by simp;omega),List.take_of_length_le (by simp;omega)]
 ·exact World.grownBy.trans (b:=w.drewN q) ⟨rfl,rfl,rfl,Nat.le_refl _,fun _ _ _=>rfl⟩ (grown_sets g _ 0 _)
def dropK (key:ByteArray):List ByteArray→List ByteArray
 |[]=>[]
 |a :: l=>if a=key then l else a :: dropK key l
theorem dropK_at (key:ByteArray):∀ (l:List ByteArray) (j:Nat) (h:j < l.length),l[j]=key→key ∉ l.take j→dropK key l=l.eraseIdx j
 |[],_,h,_,_=>absurd h (by simp)
 |a :: l,0,_,e,_=>if_pos e
 |a :: l,j+1,h,e,hn=>by
  have hne:¬ a=key:=fun e'=>hn (by simp[e']);have:=dropK_at key l j (by simpa using h) (by simpa using e) (fun hm=>hn (by simp[hm]));unfold dropK;rw[if_neg hne,this,List.eraseIdx_cons_succ]
theorem dropK_none (key:ByteArray):∀ (l:List ByteArray),key ∉ l→dropK key l=l
 |[],_=>rfl
 |a :: l,h=>by
  unfold dropK;rw[if_neg (fun e=>h (by simp[e])),dropK_none key l (fun hm=>h (by simp[hm]))]
theorem set_same {cs:Array Value} {i:Nat} {u:Value} (h:cs[i]? = some u):cs.setIfInBounds i u=cs:=by
 apply Array.ext_getElem?;intro j;rw[Array.getElem?_setIfInBounds]
 by_cases e:i=j
 ·subst e
  rw[if_pos rfl]
  split
  ·exact h.symm
  ·rename_i hn;rw[Array.getElem?_eq_none (by omega)] at h;cases h
 ·rw[if_neg e]
theorem dropL {w0 w:World} {ps:List Part} (g o t c:Nat) (cs:Array Value) (A:Option Addr) (l:List ByteArray) (key:ByteArray) (hl:l.length≤1048576)
  (h:St w0 w (Part.blk g t cs :: Part.row Kd.string 9 (.slice A l.length c) l :: ps)) (h1:cs[o+1]? = some (.slice A l.length c)) :
  Calls Tryz.prog 73 #[.pointer (some ⟨g,o,none⟩),.string key] w fun e w'=>∃ b,e=.returned (.bool b)∧(b=true ↔ key ∈ l)∧St w0 w' (Part.blk g t (cs.setIfInBounds (o+1) (.slice A (dropK key l).length c)) :: Part.row Kd.string 9 (.slice A (dropK key l).length c) (dropK key l) :: ps):=by
 obtain⟨K,hK⟩:=index_ev l key hl;have HK:=Aside0.mk (hK K (Nat.le_refl _));have HC:=Aside0.mk h1;have HS:=Aside0.mk h;have hc1:=h.cell (o+1) h1;clear hK h h1;go_enter Tryz.func73,Tryz.ntmps73;go_wp2_with fail;refine(slices_Index_string_string.calls K A c l key _ _ (HS.out.at_C 1 rfl).2.2 (HS.out.at_C 1 rfl).2.1 HK.out).mono ?_;rintro e w1 ⟨rfl,hd⟩;have S:=HS.out.step hd.below;clear HS hd hc1;have HS:=Aside0.mk S;have hc1:=S.cell (o+1) HC.out;clear S;by_cases hk:key ∈ l
 ·obtain⟨j,hj,e1,e2,e3⟩:=fi_pos l key 0 hk
  rw[e3,Nat.zero_add];have HE:=Aside0.mk (dropK_at key l j hj e1 e2);have HJ:=Aside0.mk hj;have t1:decide ((j:Int) < 0)=false:=decide_eq_false (by omega);have t2:wrap64 ((j:Int)+1)=((j+1:Nat):Int):=by unfold wrap64;omega
  have HM:=Aside0.mk hk;clear e1 e2 e3 hj hk;go_wp2_with fail;refine(del_calls l j HJ.out A c w0.heap.size _ _ (HS.out.at_R 1 rfl)).mono ?_;rintro e w2 ⟨rfl,hr,hg⟩;have S:=HS.out.swap;have S:=S.appended rfl (S.below.grown hg S.below.size (fun k hk=>Kd.R_base S.head k hk)) hg hr (Or.inl (by cases A <;> rfl));have el:l.length - 1=(dropK key l).length:=by rw[HE.out,List.length_eraseIdx,if_pos HJ.out]
  rw[el,← HE.out] at S;rw[el];clear hr hg HS hc1 el;have S:=S.swap;have HS:=Aside0.mk S;have hc1:=S.cell (o+1) HC.out;have hf1:=S.frozen (o+1);clear S;go_wp2_with fail;go_ret;exact⟨true,rfl,⟨fun _=>HM.out,fun _=>rfl⟩,HS.out.put (o+1) _ rfl⟩
 ·rw[fi_neg l key 0 hk]
  have he:dropK key l=l:=dropK_none key l hk;have HE:=Aside0.mk he;have HM:=Aside0.mk hk;clear hk he;go_wp2_with fail;go_ret;exact⟨false,rfl,⟨fun h=>Bool.noConfusion h,fun h=>absurd h HM.out⟩,by rw[HE.out,set_same HC.out];exact HS.out⟩
end Go.Proofs.YtediiolcoilepaaGreat.Nb
