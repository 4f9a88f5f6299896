/- Walks of callees. -/
import Derived.Test.YtediiolcoilepaaGreatNbWc
import Derived.Shelf.Lay
import Derived.Ground.Names2Prog
import Derived.Shelf.Spec.SlicesInsertGrow
import Derived.BigRegion
import Derived.BigQuiet
namespace Go.Proofs.YtediiolcoilepaaGreat.Nb
set_option maxHeartbeats 8000000
set_option maxRecDepth 100000
open Go.RowKit Go.Proofs.YtediiolcoilepaaGreat.GNear Go.Proofs.YtediiolcoilepaaGreatW.PrintWords Go.Proofs.YtediiolcoilepaaGreatW.PrintLast Go.Proofs.YtediiolcoilepaaGreatW.PrintMore
set_option linter.unusedVariables false
set_option linter.unusedSimpArgs false
section
open Go.Lib Go.Sort
shelf_lay Lays2.n22 Nm2 22 at Tryz as layI
theorem zero_strs (m:Nat):(Builtin.zeroCells (Value.string ⟨#[]⟩).cells m).size=m:=by simp[Builtin.zeroCells,Value.cells]
theorem ins_calls (xs:List ByteArray) (hx:xs.length≤1048576) (A:Option Addr) (c base:Nat) (P_:Nat→Prop) (w:World) (ho:Kd.R Kd.string 9 w base P_ (.slice A xs.length c) xs) (hbw:base≤w.heap.size) (hf:P_ w.heap.size)
  (vb vc:Nat) (key:ByteArray) (curv:Array Value) (hv:w.heap[vb]? = some (.cells curv 9 (0,0))) (hv0:curv[0]? = some (.string key)) (hne:some vb ≠ (Value.slice A xs.length c).ownBlock) :
  Calls Tryz.prog 217 #[.slice A xs.length c,.int .i64 (0:Int),.slice (some ⟨vb,0,none⟩) 1 vc] w fun e w'=>∃ v',e=.returned v'∧Kd.R Kd.string 9 w' base P_ v' (key :: xs)∧w.grownBy w' (Value.slice A xs.length c).ownBlock:=by
 have hvs:∀ j v,[Value.string key][j]? = some v→w.cell? ⟨vb,0+j,none⟩=some v:=fun j v hj=>by
  rw[Nat.zero_add,blk_cell hv j]
  rcases j with _|j
  ·rw[hv0];exact hj
  ·simp at hj
 have h1v:∀ v ∈ [Value.string key],v.oneCell'=true:=fun v h=>by rw[List.mem_singleton.1 h];rfl
 have hcl:(xs.map Value.string).length=xs.length:=by simp
 have h1c:∀ v ∈ xs.map Value.string,v.oneCell'=true:=fun v h=>by obtain⟨s,_,rfl⟩:=List.mem_map.1 h;rfl
 have hML:maxLen=9223372036854775807:=rfl;obtain⟨_,hrow⟩:=row_block ho;have grow0:xs.length=0→c=0→(∀ a,A=some a→∀ j v,(xs.map Value.string)[j]? = some v→w.cell? (a.add j)=some v) →
   Calls Tryz.prog 217 #[.slice A xs.length c,.int .i64 (0:Int),.slice (some ⟨vb,0,none⟩) 1 vc] w fun e w'=>∃ v',e=.returned v'∧Kd.R Kd.string 9 w' base P_ v' (key :: xs)∧w.grownBy w' (Value.slice A xs.length c).ownBlock:=by
  intro h0 hc0 hcs;obtain rfl:=List.eq_nil_of_length_eq_zero h0;subst hc0;refine(Any2.slices_Insert_string_end_grow layI A 0 0 vb 0 1 vc [] [.string key] w (by omega) (by omega) (by omega) (by omega) rfl rfl (fun _=>rfl) hcs hvs h1v).mono ?_;rintro e w' ⟨rfl,rfl⟩;simp only [show layI_ren.t 9=9 from rfl];have hG:1≤grownCap w 1 0 9:=grownCap_ge w 1 0 9;have hGm:grownCap w 1 0 9≤maxLen:=grownCap_le_maxLen w 1 0 9 (by rw[hML];omega);refine⟨_,rfl,?_,?_⟩
  ·refine block_row (cur:=([Value.string key]).toArray ++ Builtin.zeroCells (Value.string ⟨#[]⟩).cells (grownCap w (0+1) 0 9 - (0+1))) hf hbw ?_ rfl hG hGm ?_ ?_
   ·exact heap_alloc_new w.drew _
   ·rw[Array.size_append,zero_strs];simp;omega
   ·simp
  ·exact World.grownBy.trans (b:=w.drew) ⟨rfl,rfl,rfl,Nat.le_refl _,fun _ _ _=>rfl⟩ (World.grownBy_alloc w.drew _ _)
 rcases hrow with ⟨rfl,h0,hc0⟩|⟨g,cur,rfl,hk,hb,hc,hn,hm,hs,ht⟩
 ·exact grow0 h0 hc0 (fun a h=>by cases h)
 have hcs:∀ j v,(xs.map Value.string)[j]? = some v→w.cell? ⟨g,0+j,none⟩=some v:=fun j v hj=>by
  rw[Nat.zero_add,blk_cell hc j,← Array.getElem?_toList];rw[← ht] at hj;rw[List.getElem?_take] at hj;split at hj
  ·exact hj
  ·cases hj
 have hvg:vb ≠ g:=fun e=>hne (by rw[e];rfl);have hdrew:w.grownBy w.drew (some g):=⟨rfl,rfl,rfl,Nat.le_refl _,fun _ _ _=>rfl⟩
 by_cases hroom:xs.length+1≤c
 ·have hsp:∀ j,j < xs.length+1→(w.cell? ⟨g,0+j,none⟩).isSome=true:=fun j hj=>by
   rw[Nat.zero_add,blk_cell hc j,Array.getElem?_eq_getElem (by omega)];rfl
  have hfz:∀ j,j < xs.length+1→w.frozen? ⟨g,0+j,none⟩=false:=fun j hj=>by rw[Nat.zero_add];exact blk_frozen hc j
  by_cases h0:xs.length=0
  ·obtain rfl:=List.eq_nil_of_length_eq_zero h0
   refine(Any2.slices_Insert_string_end_room layI g 0 0 c vb 0 1 vc [.string key] w (by omega) hroom (by rw[← hML];exact hm) rfl (fun j hj=>by have:=hsp j (by simpa using hj);simpa using this) (fun j hj=>by have:=hfz j (by simpa using hj);simpa using this) hvs h1v).mono ?_;rintro e w' ⟨rfl,rfl⟩;obtain⟨cur',h1,h2,h3⟩:=blk_sets g 9 [.string key] 0 w cur hc (by simp at hroom ⊢;omega);refine⟨_,rfl,block_row hk hb h1 rfl (by simpa using hroom) hm (by omega) ?_,grown_sets g _ 0 _⟩;rw[h3];simp
  ·have hsh:w.shape? vb=some (9,curv.size):=by simp[World.shape?,hv]
   have hsg:w.shape? g=some (9,cur.size):=by simp[World.shape?,hc]
   refine(Any2.slices_Insert_string_shift layI g 0 xs.length c 0 vb 0 1 vc (xs.map Value.string) [.string key] w (by omega) (by omega) hroom (by rw[← hML];exact hm) hvg hcl rfl hcs hsp hfz hvs h1c h1v 9 9 curv.size cur.size hsh hsg (by omega) (blk_frozen hv 0) (blk_frozen hv curv.size)).mono ?_;rintro e w' ⟨rfl,rfl⟩;obtain⟨cur1,h1,h2,h3⟩:=blk_sets g 9 ((xs.map Value.string).drop 0) (0+(0+1)) w.drew cur (blk_drew hc) (by simp;omega);obtain⟨cur2,k1,k2,k3⟩:=blk_sets g 9 [.string key] (0+0) _ cur1 h1 (by simp;omega);refine⟨_,rfl,block_row hk hb k1 (by simp) hroom hm (by omega) ?_,World.grownBy.trans hdrew (World.grownBy.trans (grown_sets g _ _ _) (grown_sets g _ _ _))⟩;rw[k3,h3];simp only [Nat.zero_add,List.take_zero,List.nil_append,List.drop_zero,List.length_singleton];rw[List.append_assoc,List.drop_left' (by simp;omega),List.singleton_append,List.take_succ_cons,List.take_left' hcl];rfl
 ·by_cases h0:xs.length=0
  ·exact grow0 h0 (by omega) (fun a e j v hj=>by rw[List.eq_nil_of_length_eq_zero h0] at hj;simp at hj)
  ·refine(Any2.slices_Insert_string_grow layI g 0 xs.length c 0 vb 0 1 vc (xs.map Value.string) [.string key] w (by omega) (by omega) hn (by omega) (by omega) hcl rfl hcs hvs h1c h1v).mono ?_
   rintro e w' ⟨rfl,rfl⟩;simp only [show layI_ren.t 9=9 from rfl];have hG:=grownCap_ge w (xs.length+1) c 9;have hGm:=grownCap_le_maxLen w (xs.length+1) c 9 (by rw[hML];omega);have hn0:=heap_alloc_new w (.cells (((xs.map Value.string).take 0).toArray ++ Builtin.zeroCells (Value.string ⟨#[]⟩).cells (xs.length+1 - 0) ++ Builtin.zeroCells (Value.string ⟨#[]⟩).cells (grownCap w (xs.length+1) c 9 - (xs.length+1))) 9);have hsz:(((xs.map Value.string).take 0).toArray ++ Builtin.zeroCells (Value.string ⟨#[]⟩).cells (xs.length+1 - 0) ++ Builtin.zeroCells (Value.string ⟨#[]⟩).cells (grownCap w (xs.length+1) c 9 - (xs.length+1))).size=grownCap w (xs.length+1) c 9:=by
    rw[Array.size_append,Array.size_append,zero_strs,zero_strs];simp;omega
   obtain⟨cur1,h1,h2,h3⟩:=blk_sets w.heap.size 9 [.string key] 0 _ _ (blk_drew hn0) (by rw[hsz];simp;omega);obtain⟨cur2,k1,k2,k3⟩:=blk_sets w.heap.size 9 ((xs.map Value.string).drop 0) (0+1) _ cur1 (blk_drew h1) (by rw[h2,hsz];simp;omega);refine⟨_,rfl,block_row hf hbw k1 (by simp) hG hGm (by omega) ?_,?_⟩
   ·rw[k3,h3]
    simp only [Nat.zero_add,List.take_zero,List.nil_append,List.drop_zero,List.length_singleton];simp only [List.singleton_append,List.take_succ_cons,List.take_zero,List.append_assoc,List.cons_append,List.nil_append];rw[List.take_left' hcl];rfl
   ·have G1:=grown_drew (World.grownBy_alloc w (.cells (((xs.map Value.string).take 0).toArray ++ Builtin.zeroCells (Value.string ⟨#[]⟩).cells (xs.length+1 - 0) ++ Builtin.zeroCells (Value.string ⟨#[]⟩).cells (grownCap w (xs.length+1) c 9 - (xs.length+1))) 9) none)
    have G2:=World.grownBy.andThen (grown_drew (World.grownBy.andThen G1 (grown_sets w.heap.size [.string key] 0 _) (fun j hj=>.inl (by injection hj with hj;omega)))) (grown_sets w.heap.size ((xs.map Value.string).drop 0) (0+1) _) (fun j hj=>.inl (by injection hj with hj;omega));exact⟨G2.os,G2.tape,G2.output,G2.size,fun i hi _=>G2.block i hi (by simp)⟩
theorem push_calls (g o t:Nat) (cs:Array Value) (u:Value) (xs:List ByteArray) (key:ByteArray) (m:Int) (P_:Nat→Prop) (w0 w:World) (hx:xs.length≤1048575)
  (hB:Below w0.heap.size w0 w) (hb:w.heap[g]? = some (.cells cs t (0,0))) (hu0:cs[o]? = some (.int .i64 m)) (hu:cs[o+1]? = some u) (hg:w0.heap.size≤g)
  (ho:Kd.R Kd.string 9 w w0.heap.size P_ u xs) (hP:∀ k,P_ k→k ≠ g) (hf:∀ n,w.heap.size≤n→P_ n) (rs:ByteArray) (rl:List ByteArray) (hrs:rs=if (xs.length:Int) < m then ⟨#[]⟩ else (key :: xs).getD xs.length ByteArray.empty) (hrl:rl=if (xs.length:Int) < m then key :: xs else (key :: xs).take xs.length) :
  Calls Tryz.prog 166 #[.pointer (some ⟨g,o,none⟩),.string key] w fun e w'=>e=.returned (.string rs)∧∃ u',Kd.R Kd.string 9 w' w0.heap.size P_ u' rl ∧
   w'.heap[g]? = some (.cells (cs.setIfInBounds (o+1) u') t (0,0))∧Below w0.heap.size w0 w'∧Kept w w' (fun k=>some k=u.ownBlock ∨ k=g):=by
 have HB:=Aside0.mk hB;have HO:=Aside0.mk ho;have HNE:=Aside0.mk (show some g ≠ u.ownBlock from fun e=>hP g (ho.1 g e.symm) rfl);have HP:=Aside0.mk hP;have HU:=Aside0.mk hu;have HU0:=Aside0.mk hu0;have HX:=Aside0.mk hx;have HBK:=Aside0.mk hb;have HG:=Aside0.mk hg;have HF:=Aside0.mk hf;obtain⟨A1,c1,e1⟩:=Kd.R_slice ho;subst e1;have hc1:w.cell? ⟨g,o+1,none⟩=some (.slice A1 xs.length c1):=(blk_cell hb (o+1)).trans hu;have HL:=Aside0.mk (Array.getElem?_eq_some_iff.1 hu).1;have HRS:=Aside0.mk hrs;have HRL:=Aside0.mk hrl;clear hB ho hP hu hu0 hb hg hx hf hrs hrl;go_enter Tryz.func166,Tryz.ntmps166;go_wp2_with fail;have hsz:w0.heap.size≤w.heap.size:=HB.out.size;have hal:(w.alloc (Obj.cells #[Value.string key] 9)).heap.size=w.heap.size+1:=by show(w.heap.push _).size=_;rw[Array.size_push]
 refine(ins_calls xs (by have:=HX.out;omega) A1 c1 w0.heap.size P_ (w.alloc (Obj.cells #[Value.string key] 9)) (Kd.R_alloc HO.out _) (by rw[hal];omega) (HF.out _ (by rw[hal];omega)) w.heap.size 1 key #[.string key] (heap_alloc_new w _) rfl (fun e=>by have:=((Kd.R_bound HO.out).1 _ e.symm).2.2.1;omega)).mono ?_;rintro e w4 ⟨v',rfl,ho4,hgr0⟩;obtain⟨A4,c4,e4⟩:=Kd.R_slice ho4;subst e4;have hgr:=World.grownBy.trans (World.grownBy_alloc w (Obj.cells #[Value.string key] 9) _) hgr0;have HO4:=Aside0.mk ho4;have HB4:=Aside0.mk (HB.out.grown hgr hsz (fun j hj=>((Kd.R_bound HO.out).1 j hj).2.1));have HK4:=Aside0.mk (Kept.of_grown hgr (Kept.refl w (fun k=>some k=(Value.slice A1 xs.length c1).ownBlock ∨ k=g)) (fun k e=>.inl (.inl e.symm)));have hb4:=blk_grown HBK.out hgr HNE.out;have HBK4:=Aside0.mk hb4;have hc4:w4.cell? ⟨g,o+1,none⟩=some (.slice A1 xs.length c1):=(blk_cell hb4 (o+1)).trans HU.out;have hc5:w4.cell? ⟨g,o,none⟩=some (.int .i64 m):=(blk_cell hb4 o).trans HU0.out;have hf4:=blk_frozen hb4 (o+1);clear ho4 hgr0 hgr hb4 hc1 hsz hal;have hw:wrap64 (xs.length:Int)=(xs.length:Int):=by
  have h1:=HX.out;unfold wrap64;omega
 by_cases cm:(xs.length:Int) < m
 ·have cmb:decide ((xs.length:Int) < m)=true:=decide_eq_true cm
  have hrs:=HRS.out;have hrl:=HRL.out;rw[if_pos cm] at hrs hrl;have CM:=Aside0.mk cm;subst hrs hrl;clear cm HRS HRL;go_wp2
  go_ret;refine⟨rfl,.slice A4 (xs.length+1) c4,Kd.R_far HO4.out (p:=⟨g,o+1,none⟩) HP.out _,blk_set HBK4.out (o+1) _,below_set HB4.out HG.out,Kept.setCell HK4.out (.inl (.inr rfl)) _⟩
 ·have cmb:decide ((xs.length:Int) < m)=false:=decide_eq_false cm
  have hrs:=HRS.out;have hrl:=HRL.out;rw[if_neg cm] at hrs hrl;have CM:=Aside0.mk cm;have HRS:=Aside0.mk hrs;have HRL:=Aside0.mk hrl;clear cm hrs hrl;obtain⟨g5,cap5,eo5,gb5,gl5,cl5,HG5⟩:=Kd.R_form HO4.out (by simp);obtain⟨rfl,en5,rfl⟩:=Value.slice.inj eo5;obtain⟨hx5,hf5⟩:=Kd.R_celln ByteArray.empty HO4.out (xs.length:Int) (by omega) (by simp;omega);replace hx5:w4.cell? ⟨g5,xs.length,none⟩=some (.string rs):=by rw[HRS.out];exact hx5
  have hne5:g5 ≠ g:=HP.out g5 (HO4.out.1 g5 rfl);have hne6:g ≠ g5:=fun e=>hne5 e.symm;have hlt5:(xs.length:Int) < (xs.length:Int)+1:=by omega
  have h05:(0:Int)≤(xs.length:Int):=by omega
  have hcap5:(xs.length:Int)≤(c4:Int):=by
   have:=(Kd.R_reads' HO4.out).2.1;simp only [List.length_cons] at this;omega
  have hcap6:xs.length≤c4:=by omega
  clear gb5 gl5 cl5 HG5 eo5 en5;go_wp2
  go_ret;refine⟨rfl,.slice (some ⟨g5,0,none⟩) xs.length c4,?_,?_,below_set (below_set HB4.out HG.out) HG.out,Kept.setCell (Kept.setCell HK4.out (.inl (.inr rfl)) _) (.inl (.inr rfl)) _⟩
  ·rw[HRL.out]
   exact Kd.R_far (p:=⟨g,o+1,none⟩) (Kd.R_far (p:=⟨g,o+1,none⟩) (Kd.R_take HO4.out (by simp)) HP.out _) HP.out _
  ·have:=blk_set (blk_set HBK4.out (o+1) (.slice (some ⟨g5,0,none⟩) (xs.length+1) c4)) (o+1) (.slice (some ⟨g5,0,none⟩) xs.length c4)
   rw[Array.setIfInBounds_setIfInBounds] at this;exact this
end
open Classical in
noncomputable def touchK (key:ByteArray) (l:List ByteArray):List ByteArray:=if key ∈ l then key :: dropK key l else l
theorem dropK_len (key:ByteArray):∀ l:List ByteArray,(dropK key l).length≤l.length
 |[]=>Nat.le_refl _
 |a :: l=>by
  unfold dropK
  split
  ·simp
  ·have:=dropK_len key l;simp;omega
def pushQ (m:Int) (l:List ByteArray) (s:ByteArray):List ByteArray:=if (l.length:Int) < m then s :: l else (s :: l).take l.length
def pushO (m:Int) (l:List ByteArray) (s:ByteArray):ByteArray:=if (l.length:Int) < m then ⟨#[]⟩ else (s :: l).getD l.length ByteArray.empty
theorem touchQL {w0 w:World} {ps:List Part} (g o t c:Nat) (cs:Array Value) (A:Option Addr) (l:List ByteArray) (key:ByteArray) (hl:l.length≤1048576)
  (h:St w0 w (Part.blk g t cs :: Part.row Kd.string 9 (.slice A l.length c) l :: ps)) (h1:cs[o+1]? = some (.slice A l.length c)) :
  Calls Tryz.prog 165 #[.pointer (some ⟨g,o,none⟩),.string key] w fun e w'=>∃ b,e=.returned (.bool b)∧(b=true ↔ key ∈ l)∧∃ A' c',St w0 w' (Part.blk g t (cs.setIfInBounds (o+1) (.slice A' (touchK key l).length c')) :: Part.row Kd.string 9 (.slice A' (touchK key l).length c') (touchK key l) :: ps):=by
 have HL:=Aside0.mk hl;have HC:=Aside0.mk h1;have HS:=Aside0.mk h;clear h h1 hl;go_enter Tryz.func165,Tryz.ntmps165;go_wp2_with fail;refine(dropL g o t c cs A l key HL.out HS.out HC.out).mono ?_;rintro e w2 ⟨b,rfl,hb,S⟩;have HB:=Aside0.mk hb;clear hb HS;have hlt:o+1 < cs.size:=(Array.getElem?_eq_some_iff.1 HC.out).1
 cases b with
 |false =>
  have hk:¬ key ∈ l:=fun h=>by have:=HB.out.2 h;simp at this
  have HM:=Aside0.mk hk;clear HB;have HS:=Aside0.mk S;have HE:=Aside0.mk (show touchK key l=dropK key l by unfold touchK;rw[if_neg hk,dropK_none key l hk]);clear S hk hlt;go_wp2_with fail;go_ret;exact⟨false,rfl,⟨fun h=>Bool.noConfusion h,fun h=>absurd h HM.out⟩,A,c,by rw[HE.out];exact HS.out⟩
 |true =>
  have HE:=Aside0.mk (show touchK key l=key :: dropK key l by unfold touchK;rw[if_pos (HB.out.1 rfl)]);have HM:=Aside0.mk (HB.out.1 rfl);clear HB;have hln:=Nat.le_trans (dropK_len key l) HL.out;obtain⟨l1,h1⟩:∃ x,x=dropK key l:=⟨_,rfl⟩;rw[← h1] at S HE hln;have HLN:=Aside0.mk hln;have HS:=Aside0.mk S;have hc1:=S.cell (o+1) (show(cs.setIfInBounds (o+1) (.slice A l1.length c))[o+1]? = some (.slice A l1.length c) by simp[hlt]);have HLT:=Aside0.mk hlt;clear S h1 hln hlt;go_wp2_with fail;have hal:(w2.alloc (Obj.cells #[Value.string key] 9)).heap.size=w2.heap.size+1:=by show(w2.heap.push _).size=_;rw[Array.size_push]
  have hsz:=HS.out.below.size;refine(ins_calls l1 HLN.out A c w0.heap.size (Free g ps) (w2.alloc (Obj.cells #[Value.string key] 9)) (Kd.R_alloc HS.out.row_free _) (by rw[hal];omega) (HS.out.fresh _ (by rw[hal];omega)) w2.heap.size 1 key #[.string key] (heap_alloc_new w2 _) rfl (fun e=>by have:=((Kd.R_bound HS.out.row_free).1 _ e.symm).2.2.1;omega)).mono ?_;rintro e w4 ⟨v',rfl,ho4,hgr0⟩;obtain⟨A4,c4,e4⟩:=Kd.R_slice ho4;subst e4;have hgr:=World.grownBy.trans (World.grownBy_alloc w2 (Obj.cells #[Value.string key] 9) _) hgr0;have hb4:=blk_grown HS.out.head.2 hgr (fun e=>HS.out.at_own 0 1 rfl rfl (by decide) e.symm);have hB4:=HS.out.below.grown hgr hsz (fun j hj=>((Kd.R_bound HS.out.row_free).1 j hj).2.1);have S:=St.via rfl HS.out hB4 hb4 ho4 (Kept.of_grown hgr (Kept.refl w2 (fun k=>some k=(Value.slice A l1.length c).ownBlock ∨ k=g)) (fun k e=>.inl (.inl e.symm))) (fun k hk=>hk);clear HS ho4 hgr0 hgr hb4 hB4 hal hsz hc1;have HS:=Aside0.mk S;have hc4:=S.cell (o+1) (show(cs.setIfInBounds (o+1) (.slice A l1.length c))[o+1]? = some (.slice A l1.length c) by have:=HLT.out;simp[this]);have hf4:=S.frozen (o+1);clear S;go_wp2_with fail;go_ret;refine⟨true,rfl,⟨fun _=>HM.out,fun _=>rfl⟩,A4,c4,?_⟩;rw[HE.out];have S:=HS.out.put (o+1) (.slice A4 (key :: l1).length c4) rfl;rw[Array.setIfInBounds_setIfInBounds] at S;exact S
theorem pushQL {w0 w:World} {ps:List Part} (g o t c:Nat) (cs:Array Value) (A:Option Addr) (l:List ByteArray) (m:Int) (key:ByteArray) (hl:l.length≤1048575)
  (h:St w0 w (Part.blk g t cs :: Part.row Kd.string 9 (.slice A l.length c) l :: ps)) (h0:cs[o]? = some (.int .i64 m)) (h1:cs[o+1]? = some (.slice A l.length c)) :
  Calls Tryz.prog 166 #[.pointer (some ⟨g,o,none⟩),.string key] w fun e w'=>e=.returned (.string (pushO m l key))∧∃ A' c',St w0 w' (Part.blk g t (cs.setIfInBounds (o+1) (.slice A' (pushQ m l key).length c')) :: Part.row Kd.string 9 (.slice A' (pushQ m l key).length c') (pushQ m l key) :: ps):=by
 refine(push_calls g o t cs (.slice A l.length c) l key m (Free g ps) w0 w hl h.below h.head.2 h0 h1 h.head.1 h.row_free (fun k hk=>hk.1) h.fresh (pushO m l key) (pushQ m l key) rfl rfl).mono ?_;rintro e w' ⟨rfl,u',hr,hc,hb,hk⟩;obtain⟨A',c',rfl⟩:=Kd.R_slice hr;exact⟨rfl,A',c',St.via rfl h hb hc hr hk (fun k hk=>hk)⟩
end Go.Proofs.YtediiolcoilepaaGreat.Nb
