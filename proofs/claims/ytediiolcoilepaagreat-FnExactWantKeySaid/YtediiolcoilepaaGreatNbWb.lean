/- Walks of callees. -/
import Derived.Test.YtediiolcoilepaaGreatNbWa
import Derived.BigRegion
import Derived.BigQuiet
namespace Go.Proofs.YtediiolcoilepaaGreat.Nb
set_option maxHeartbeats 8000000
set_option maxRecDepth 100000
open Go.RowKit Go.Proofs.YtediiolcoilepaaGreat.GNear Go.Proofs.YtediiolcoilepaaGreatW.PrintWords Go.Proofs.YtediiolcoilepaaGreatW.PrintLast Go.Proofs.YtediiolcoilepaaGreatW.PrintMore
attribute [local go_sem] max2_int min2_int max_two min_two max_three min_three max_four min_four
set_option linter.unusedVariables false
set_option linter.unusedSimpArgs false
def hf (x:Int):Int:=wrap64 (Int.tdiv x 2)
def hl (l:List Int) (i:Nat):List Int:=(l.take i).map hf ++ l.drop i
theorem hl_len (l:List Int) (i:Nat):(hl l i).length=l.length:=by unfold hl;simp;omega
theorem hl_next (l:List Int) (i:Nat) (h:i < l.length):(hl l i).set i (hf (rd (hl l i) (i:Int)))=hl l (i+1):=by
 have e:(hl l i)[i]? = some l[i]:=by
  unfold hl;rw[List.getElem?_append_right (by simp;omega)];simp[h,Nat.min_eq_left (Nat.le_of_lt h)]
 have e2:rd (hl l i) (i:Int)=l[i]:=by unfold rd;rw[Int.toNat_natCast,List.getD_eq_getElem?_getD,e];rfl
 rw[e2];apply List.ext_getElem?;intro j;rw[List.getElem?_set];unfold hl
 by_cases c:i=j
 ·subst c
  rw[if_pos rfl,if_pos (by simp;omega),List.getElem?_append_left (by simp;omega)];simp[h]
 ·rw[if_neg c]
  by_cases c2:j < i
  ·rw[List.getElem?_append_left (by simp;omega),List.getElem?_append_left (by simp;omega)]
   simp[c2,Nat.lt_succ_of_lt c2]
  ·rw[List.getElem?_append_right (by simp;omega),List.getElem?_append_right (by simp;omega)]
   simp[Nat.min_eq_left (Nat.le_of_lt h),Nat.min_eq_left (show i+1≤l.length by omega)]
   congr 1;omega
theorem halve_calls (g o t:Nat) (cs:Array Value) (u:Value) (l:List Int) (P_:Nat→Prop) (w0 w:World) (hl0:l.length≤1048576) (hB:Below w0.heap.size w0 w) (hb:w.heap[g]? = some (.cells cs t (0,0))) (hu:cs[o]? = some u) (hg:w0.heap.size≤g)
  (ho:Kd.R (Kd.int .i64) 3 w w0.heap.size P_ u l) (hne:some g ≠ u.ownBlock) :
  Calls Tryz.prog 216 #[.pointer (some ⟨g,o,none⟩)] w fun e w'=>e=.returned (.tuple #[])∧Kd.R (Kd.int .i64) 3 w' w0.heap.size P_ u (l.map hf)∧Below w0.heap.size w0 w'∧Kept w w' (fun k=>some k=u.ownBlock):=by
 have HB:=Aside0.mk hB;have HO:=Aside0.mk ho;have HNE:=Aside0.mk hne;have HU:=Aside0.mk hu;have HL:=Aside0.mk hl0;have HBK:=Aside0.mk hb;have HG:=Aside0.mk hg;obtain⟨A,c,e⟩:=Kd.R_slice ho;subst e;have hcell:w.cell? ⟨g,o,none⟩=some (.slice A l.length c):=(blk_cell hb o).trans hu;clear hB ho hne hu hl0 hb hg;go_enter Tryz.func216,Tryz.ntmps216
 go_wp2
 clear hcell;go_loopw [8] (fun v8 wr=>∃ i:Nat,v8=.int .i64 i∧Aside0 (i≤l.length)∧Aside0 (Kd.R (Kd.int .i64) 3 wr w0.heap.size P_ (.slice A l.length c) (hl l i))∧Aside0 (Below w0.heap.size w0 wr)∧Aside0 (Kept w wr (fun k=>some k=(Value.slice A l.length c).ownBlock)) ) (fun v8 _=>l.length - (intOf v8).toNat)
 case atStart=>exact⟨0,rfl,⟨by omega⟩,⟨by simpa [hl] using HO.out⟩,HB,⟨Kept.refl _ _⟩⟩
 case round =>
  obtain⟨i,rfl,HI,HO,HB,HK⟩:=hrel;by_cases c1:i < l.length
  ·have c1b:decide ((i:Int) < (l.length:Int))=true:=decide_eq_true (by omega)
   have c1c:decide (i < l.length)=true:=decide_eq_true c1;have hbk:=HBK.out;have hbr:wr.heap[g]? = some (.cells cs t (0,0)):=(HK.out.2 g (blk_lt hbk) HNE.out).trans hbk;have hcell:wr.cell? ⟨g,o,none⟩=some (.slice A l.length c):=(blk_cell hbr o).trans HU.out;clear hbk hbr;have hll:=hl_len l i;have p5:(0:Int)≤(i:Int):=by omega
   have q5:(i:Int) < (((hl l i).length:Nat):Int):=by rw[hll];omega
   have hlen:l.length=(hl l i).length:=hll.symm;have HO1:=HO.out;obtain⟨go5,co5,eo5,gb5,gl5,cl5,HG5⟩:=Kd.R_form HO1 (by rw[hll];omega);obtain⟨rfl,en_,rfl⟩:=Value.slice.inj eo5;have GB5:=Aside0.mk gb5;obtain⟨hx5,hf5⟩:=Kd.R_celln 0 HO1 (i:Int) p5 (show(i:Int) < ((l.length:Nat):Int) by omega);rw[Int.toNat_natCast] at hx5 hf5;replace hx5:wr.cell? ⟨go5,i,none⟩=some (.int .i64 (rd (hl l i) (i:Int))):=hx5;have p6:i < 1048576:=by have:=HL.out;omega
   have HP7:=Aside0.mk (Kd.R_putg HO1 (i:Int) (hf (rd (hl l i) (i:Int))));clear HO1 gb5 gl5 cl5 HG5 eo5 en_ hlen;rw[Int.toNat_natCast] at HP7;rw[hl_next l i c1] at HP7;generalize hv:rd (hl l i) (i:Int)=v at HP7 hx5;clear hv;go_wp2
   go_roundw
   case rel=>exact⟨i+1,by go_num,⟨by omega⟩,⟨HP7.out.1⟩,⟨below_set HB.out GB5.out⟩,⟨Kept.of_grown HP7.out.2 HK.out (fun k_ e_=>.inl e_.symm)⟩⟩
   case measure=>simp[intOf];omega
  ·have c1b:decide ((i:Int) < (l.length:Int))=false:=decide_eq_false (by omega)
   have c1c:decide (i < l.length)=false:=decide_eq_false c1
   go_wp2
   go_end0;exact⟨rfl,by have:=HO.out;rw[show i=l.length by have:=HI.out;omega] at this;simpa [hl] using this,HB.out,HK.out⟩
def cl (l:List Int) (a:Nat→Int):Nat→List Int
 |0=>l
 |i+1=>(cl l a i).set (a i).toNat (mn (rd (cl l a i) (a i)+1) 15)
theorem cl_len (l:List Int) (a:Nat→Int) (i:Nat):(cl l a i).length=l.length:=by
 induction i with
 |zero=>rfl
 |succ i ih=>simp[cl,ih]
theorem cl_bd (l:List Int) (a:Nat→Int) (h:∀ x ∈ l,0≤x∧x≤15) (i:Nat):∀ x ∈ cl l a i,0≤x∧x≤15:=by
 induction i with
 |zero=>exact h
 |succ i ih =>
  intro x hx
  rcases List.mem_or_eq_of_mem_set hx with h'|h'
  ·exact ih x h'
  ·have hr:0≤rd (cl l a i) (a i)∧rd (cl l a i) (a i)≤15:=by
    unfold rd;rw[List.getD_eq_getElem?_getD]
    cases e:(cl l a i)[(a i).toNat]? with
    |none=>simp
    |some v=>exact ih v (List.mem_of_getElem? e)
   rw[h'];unfold mn;split <;> omega
theorem rd_bd {l:List Int} (h:∀ x ∈ l,0≤x∧x≤15) (i:Int):0≤rd l i∧rd l i≤15:=by
 unfold rd;rw[List.getD_eq_getElem?_getD]
 cases e:l[i.toNat]? with
 |none=>simp
 |some v=>exact h v (List.mem_of_getElem? e)
theorem count_calls (k g o t:Nat) (cs:Array Value) (u:Value) (l:List Int) (n:Int) (key:ByteArray) (a:Nat→Int) (P_:Nat→Prop) (w0 w:World) (hl0:l.length=48) (hx:∀ x ∈ l,0≤x∧x≤15) (hn:0≤n∧n≤99)
  (ha:∀ i:Nat,i < 3→impl_countAt.f k key (i:Int)=some (a i)∧0≤a i∧a i < 48)
  (hB:Below w0.heap.size w0 w) (hb:w.heap[g]? = some (.cells cs t (0,0))) (hu:cs[o]? = some u) (hn1:cs[o+1]? = some (.int .i64 n)) (hg:w0.heap.size≤g)
  (ho:Kd.R (Kd.int .i64) 3 w w0.heap.size P_ u l) (hP:∀ k,P_ k→k ≠ g) :
  Calls Tryz.prog 164 #[.pointer (some ⟨g,o,none⟩),.string key] w fun e w'=>e=.returned (.tuple #[])∧Kd.R (Kd.int .i64) 3 w' w0.heap.size P_ u (if n=99 then (cl l a 3).map hf else cl l a 3) ∧
   w'.heap[g]? = some (.cells (cs.setIfInBounds (o+1) (.int .i64 (if n=99 then 0 else n+1))) t (0,0))∧Below w0.heap.size w0 w'∧Kept w w' (fun k=>some k=u.ownBlock ∨ k=g):=by
 have HB:=Aside0.mk hB;have HO:=Aside0.mk ho;have HNE:=Aside0.mk (show some g ≠ u.ownBlock from fun e=>hP g (ho.1 g e.symm) rfl);have HP:=Aside0.mk hP;have HU:=Aside0.mk hu;have HN1:=Aside0.mk hn1;have HN:=Aside0.mk hn;have HL:=Aside0.mk hl0;have HX:=Aside0.mk hx;have HA:=Aside0.mk ha;have HBK:=Aside0.mk hb;have HG:=Aside0.mk hg;obtain⟨A,c,e⟩:=Kd.R_slice ho;subst e;clear hB ho hP hu hl0 hb hg hx hn hn1 ha;go_enter Tryz.func164,Tryz.ntmps164
 go_wp2
 go_loopw [6] (fun v6 wr=>∃ i:Nat,v6=.int .i64 i∧Aside0 (i≤3)∧Aside0 (Kd.R (Kd.int .i64) 3 wr w0.heap.size P_ (.slice A l.length c) (cl l a i))∧Aside0 (Below w0.heap.size w0 wr)∧Aside0 (Kept w wr (fun k=>some k=(Value.slice A l.length c).ownBlock))) (fun v6 _=>3 - (intOf v6).toNat)
 case atStart=>exact⟨0,rfl,⟨by omega⟩,⟨HO.out⟩,HB,⟨Kept.refl _ _⟩⟩
 case round =>
  obtain⟨i,rfl,HI,HO,HB,HK⟩:=hrel;by_cases c1:i < 3
  ·have c1b:decide ((i:Int) < 3)=true:=decide_eq_true (by omega)
   have c1c:decide (i < 3)=true:=decide_eq_true c1;obtain⟨hca,ha0,ha1⟩:=HA.out i c1;have CA:=Aside0.mk hca;clear hca;go_wp2_with (first|((with_reducible refine gate_callee (f:=215) rfl ?_);refine goesL_ (some 11) rfl rfl Tryz.func215 (by kernel_rfl) rfl #[.string key,.int .i64 (i:Int)] rfl (by(try simp only [List.map_toArray,List.map_cons,List.map_nil]);first|done|rfl) ?_;(with_reducible refine(impl_countAt.calls k key (i:Int) (a i) _ CA.out).mono ?_);rintro e w2 ⟨rfl,hb⟩;refine⟨_,rfl,?_⟩;have n0_:=Aside0.mk (Kd.R_below HO.out hb);have n1_:=Aside0.mk (below_step HB.out hb);have n2_:=Aside0.mk (Kept.below HK.out hb);clear HO HB HK hb;have HO:=n0_;have HB:=n1_;have HK:=n2_;clear n0_ n1_ n2_));have hll:=cl_len l a i;have h48:=HL.out;have hbk:=HBK.out;have hbr:w2.heap[g]? = some (.cells cs t (0,0)):=blk_kept hbk HK.out HNE.out;have hcell:w2.cell? ⟨g,o,none⟩=some (.slice A l.length c):=(blk_cell hbr o).trans HU.out;clear hbk hbr;have HO1:=HO.out;have q5:a i < (((cl l a i).length:Nat):Int):=by rw[hll];omega
   obtain⟨go5,co5,eo5,gb5,gl5,cl5,HG5⟩:=Kd.R_form HO1 (by rw[hll];omega);obtain⟨rfl,en_,rfl⟩:=Value.slice.inj eo5;have GB5:=Aside0.mk gb5;obtain⟨hx5,hf5⟩:=Kd.R_celln 0 HO1 (a i) ha0 (show a i < ((l.length:Nat):Int) by omega);replace hx5:w2.cell? ⟨go5,(a i).toNat,none⟩=some (.int .i64 (rd (cl l a i) (a i))):=hx5;have HP7:=Aside0.mk (Kd.R_putg HO1 (a i) (mn (rd (cl l a i) (a i)+1) 15));have hv1:=rd_bd (cl_bd l a HX.out i) (a i);clear HO1 gb5 gl5 cl5 HG5 eo5 en_ q5 hll;generalize hv:rd (cl l a i) (a i)=v at HP7 hx5 hv1;have HV:=Aside0.mk hv;clear hv;obtain⟨hv0,hv15⟩:=hv1;have ha1':a i < ((l.length:Nat):Int):=by omega
   have ha2':(a i).toNat < l.length:=by omega
   clear h48;go_region
   go_wp2
   go_roundw
   case rel =>
    have hset:cl l a (i+1)=(cl l a i).set (a i).toNat (mn (v+1) 15):=by show(cl l a i).set (a i).toNat (mn (rd (cl l a i) (a i)+1) 15)=_;rw[HV.out]
    have h1:=HP7.out.1;rw[← hset] at h1;exact⟨i+1,by go_num,⟨by omega⟩,⟨Kd.R_drew h1⟩,⟨below_drew1 (below_set HB.out GB5.out)⟩,⟨Kept.drew (Kept.of_grown HP7.out.2 HK.out (fun k_ e_=>.inl e_.symm))⟩⟩
   case measure=>simp[intOf];omega
  ·have c1b:decide ((i:Int) < 3)=false:=decide_eq_false (by omega)
   have c1c:decide (i < 3)=false:=decide_eq_false c1;obtain rfl:i=3:=by have:=HI.out;omega
   have hbk:=HBK.out;have hbr:wr.heap[g]? = some (.cells cs t (0,0)):=blk_kept hbk HK.out HNE.out;have hcell0:wr.cell? ⟨g,o,none⟩=some (.slice A l.length c):=(blk_cell hbr o).trans HU.out;have hcell:wr.cell? ⟨g,o+1,none⟩=some (.int .i64 n):=(blk_cell hbr (o+1)).trans HN1.out;have hfrz:=blk_frozen hbr (o+1);have HBR:=Aside0.mk hbr;obtain⟨hn0,hn99⟩:=HN.out;clear hbk hbr;by_cases c9:n=99
   ·subst c9
    have hset:=Aside0.mk (blk_set HBR.out (o+1) (.int .i64 100));go_wp2_with fail;have hR1:Kd.R (Kd.int .i64) 3 (wr.setCell ⟨g,o+1,none⟩ (.int .i64 100)) w0.heap.size P_ (.slice A l.length c) (cl l a 3):=Kd.R_far HO.out (p:=⟨g,o+1,none⟩) HP.out _;have hlt:o+1 < cs.size:=(Array.getElem?_eq_some_iff.1 HN1.out).1;refine(halve_calls g o t (cs.setIfInBounds (o+1) (.int .i64 100)) (.slice A l.length c) (cl l a 3) P_ w0 _ (by rw[cl_len];have:=HL.out;omega) (below_set HB.out HG.out) hset.out (by rw[Array.getElem?_setIfInBounds_ne (by omega)];exact HU.out) HG.out hR1 HNE.out).mono ?_;rintro e w5 ⟨rfl,hR5,hB5,hK5⟩;have HR5:=Aside0.mk hR5;have HB5:=Aside0.mk hB5;have HK5:=Aside0.mk (Kept.then_ (Kept.mono HK.out (S':=fun k=>some k=(Value.slice A l.length c).ownBlock ∨ k=g) (fun k h=>.inl h)) (Kept.then_ (Kept.setCell (Kept.refl wr (fun k=>some k=(Value.slice A l.length c).ownBlock ∨ k=g)) (p:=⟨g,o+1,none⟩) (.inl (.inr rfl)) (.int .i64 100)) hK5 (fun k h=>.inl (.inl h))) (fun k h=>.inl h));have hbr5:=blk_kept hset.out hK5 HNE.out;have HBR5:=Aside0.mk hbr5;have hcell5:w5.cell? ⟨g,o+1,none⟩=some (.int .i64 100):=(blk_cell hbr5 (o+1)).trans (by simp[hlt]);have hfrz5:=blk_frozen hbr5 (o+1);clear hR5 hB5 hK5 hbr5 hR1 hcell hcell0 hfrz hlt;go_wp2
    go_end0;refine⟨rfl,?_,?_,below_set HB5.out HG.out,Kept.setCell HK5.out (.inl (.inr rfl)) _⟩
    ·exact Kd.R_far HR5.out (p:=⟨g,o+1,none⟩) HP.out _
    ·have:=blk_set HBR5.out (o+1) (.int .i64 0)
     rw[Array.setIfInBounds_setIfInBounds] at this;exact this
   ·have c9b:((n+1:Int) == 100)=false:=beq_eq_false_iff_ne.2 (by omega)
    have hset:=Aside0.mk (blk_set HBR.out (o+1) (.int .i64 (n+1)))
    go_wp2
    go_end0;refine⟨rfl,?_,?_,below_set HB.out HG.out,Kept.setCell (Kept.mono HK.out (fun k h=>.inl h)) (.inl (.inr rfl)) _⟩
    ·exact Kd.R_far HO.out (p:=⟨g,o+1,none⟩) HP.out _
    ·exact hset.out
def plc (s:ByteArray) (i:Nat):Int:=(i:Int) * 16+((hashN s i % 16:Nat):Int)
theorem plc_in (s:ByteArray) (i:Nat) (h:i < 3):0≤plc s i∧plc s i < 48:=by
 have:=Nat.mod_lt (hashN s i) (show 16 > 0 by omega);unfold plc;omega
theorem plc_wrap (s:ByteArray) (i:Nat) (h:i < 3):wrap64 ((wrap64 ((i:Int) * 16))+(Int.tmod ((hashN s i:Nat):Int) 16))=plc s i:=by
 rw[Int.tmod_eq_emod_of_nonneg (Int.natCast_nonneg _)];have:=Nat.mod_lt (hashN s i) (show 16 > 0 by omega);unfold plc wrap64;omega
theorem at_ev (s:ByteArray) (hs:s.size≤4611686018427387904) (i:Nat) (h:i < 3):Ev (fun k=>impl_countAt.f k s (i:Int)) (plc s i)∧Ev (fun k=>spec_l05At.f k s (i:Int)) (plc s i):=by
 obtain⟨h1,h2⟩:=hash_ev s hs i (by omega);constructor
 ·unfold impl_countAt.f
  refine Ev.bind h2 ?_;rw[plc_wrap s i h];exact Ev.now _
 ·unfold spec_l05At.f
  refine Ev.bind h1 ?_;rw[plc_wrap s i h];exact Ev.now _
def cntd (l:List Int) (n:Int) (s:ByteArray):List Int × Int :=
 if skOk l n=true then (if n=99 then (cl l (plc s) 3).map hf else cl l (plc s) 3,if n=99 then 0 else n+1) else (l,n)
theorem cntd_len (l:List Int) (n:Int) (s:ByteArray):(cntd l n s).1.length=l.length:=by
 unfold cntd
 split
 ·show(if n=99 then (cl l (plc s) 3).map hf else cl l (plc s) 3).length=l.length
  split <;> simp[cl_len]
 ·rfl
theorem set_sameI (l:List Int) (i:Int) (h0:0≤i) (v:Int) (h:i < (l.length:Int)) (e:rd l i=v):l.set i.toNat v=l:=by
 subst e;unfold rd;have hi:i.toNat < l.length:=by omega
 rw[List.getD_eq_getElem?_getD,List.getElem?_eq_getElem hi];exact List.set_getElem_self hi
theorem countSkL {w0 w:World} {ps:List Part} (g o t c:Nat) (cs:Array Value) (A:Option Addr) (l:List Int) (n:Int) (key:ByteArray) (hs:key.size≤4611686018427387904) (hok:skOk l n=true)
  (h:St w0 w (Part.blk g t cs :: Part.row (Kd.int .i64) 3 (.slice A l.length c) l :: ps)) (h0:cs[o]? = some (.slice A l.length c)) (h1:cs[o+1]? = some (.int .i64 n)) :
  Calls Tryz.prog 164 #[.pointer (some ⟨g,o,none⟩),.string key] w fun e w'=>e=.returned (.tuple #[])∧St w0 w' (Part.blk g t (cs.setIfInBounds (o+1) (.int .i64 (cntd l n key).2)) :: Part.row (Kd.int .i64) 3 (.slice A l.length c) (cntd l n key).1 :: ps):=by
 obtain⟨h48,hx,hn⟩:=skOk_iff.1 hok;have hK:∃ K,∀ i:Nat,i < 3→impl_countAt.f K key (i:Int)=some (plc key i):=by
  obtain⟨K0,e0⟩:=(at_ev key hs 0 (by omega)).1;obtain⟨K1,e1⟩:=(at_ev key hs 1 (by omega)).1;obtain⟨K2,e2⟩:=(at_ev key hs 2 (by omega)).1;refine⟨K0+K1+K2,fun i hi=>?_⟩;obtain rfl|rfl|rfl:i=0 ∨ i=1 ∨ i=2:=by omega
  ·exact e0 _ (by omega)
  ·exact e1 _ (by omega)
  ·exact e2 _ (by omega)
 obtain⟨K,hK⟩:=hK;refine(count_calls K g o t cs (.slice A l.length c) l n key (plc key) (Free g ps) w0 w h48 hx hn (fun i hi=>⟨hK i hi,plc_in key i hi⟩) h.below h.head.2 h0 h1 h.head.1 h.row_free (fun k hk=>hk.1)).mono ?_;rintro e w' ⟨rfl,hr,hc,hb,hk⟩;refine⟨rfl,?_⟩;unfold cntd;rw[if_pos hok];exact St.via rfl h hb hc hr hk (fun k hk=>hk)
theorem countKeyS {A:Option Addr} {c:Nat} (l:List Int) (n:Int) (key:ByteArray) (hs:key.size≤4611686018427387904) (hok:skOk l n=true) (w:World) (hA:Kd.C (Kd.int .i64) w A l.length l) (hcl:l.length≤c) :
  Calls Tryz.prog 173 #[.agg #[.slice A l.length c,.int .i64 n],.string key] w fun e w'=>∃ v,e=.returned (.agg #[v,.int .i64 (cntd l n key).2])∧Kd.R (Kd.int .i64) 3 w' w.heap.size (fun _=>True) v (cntd l n key).1∧Below w.heap.size w w':=by
 obtain⟨h48,hx,hn⟩:=skOk_iff.1 hok;obtain⟨K,hK⟩:=skS_ev l n (by omega);have HK:=Aside0.mk ((hK K (Nat.le_refl _)).trans (by rw[hok]));have HA:=Aside0.mk hA;have HCL:=Aside0.mk hcl;have HS:=Aside0.mk (St.start w);have HX:=Aside0.mk hx;have HN:=Aside0.mk hn;have HL:=Aside0.mk h48;have HKZ:=Aside0.mk hs;have HCN:=Aside0.mk (show cntd l n key=(if n=99 then (cl l (plc key) 3).map hf else cl l (plc key) 3,if n=99 then 0 else n+1) by unfold cntd;rw[if_pos hok]);clear hK hok hA hcl hx hn hs h48;go_enter Tryz.func173,Tryz.ntmps173;go_wp2_with (first|((with_reducible refine gate_dst (N:=2) rfl ?_);refine boxS HS (N:=2) fun g2 w2 S=>?_;clear HS;have HS:=Aside0.mk S;obtain⟨ha0,ha1⟩:=S.cells2 0 rfl;clear S)|((with_reducible refine gate_dst (N:=4) rfl ?_);refine boxS HS (N:=4) fun g4 w4 S=>?_;clear HS ha0 ha1;have HS:=Aside0.mk S;obtain⟨ha0,ha1⟩:=S.cells2 1 rfl;clear S));refine(l05CopyL l (by have:=HL.out;omega) n _ (Kd.C_below HA.out HS.out.below)).mono ?_;rintro e w4 ⟨v,rfl,hr,hb⟩;have S:=HS.out.new_row rfl hb hr;obtain⟨B,d,rfl⟩:=Kd.R_slice hr;obtain⟨go,co,eo,-,-,-,-⟩:=Kd.R_form (S.at_R 0 rfl) (by have:=HL.out;omega);obtain⟨rfl,-,rfl⟩:=Value.slice.inj eo;clear HS hr hb eo ha0 ha1;have HS:=Aside0.mk S;clear S;go_upto_region 2 with (first|((with_reducible refine gate_dst (N:=5) rfl ?_);refine boxS HS (N:=5) fun g5 w5 S=>?_;clear HS;have HS:=Aside0.mk S;obtain⟨ho0,ho1⟩:=S.cells2 0 rfl;obtain⟨fo0,fo1⟩:=S.frozen2 0 rfl;clear S));have S:=HS.out;clear HS ho0 fo0 ho1 fo1;have S:=S.put2 (Value.slice (some ⟨go,0,none⟩) l.length d) (Value.int .i64 n);obtain⟨z5,hw,S⟩:=S.fold;rw[← hw];clear hw;have HS:=Aside0.mk S;obtain⟨ha0,ha1⟩:=S.cells2 3 rfl;clear S;go_wp2_with fail;refine(spec_SketchOk.calls K A c l n true _ (Kd.C_below HA.out HS.out.below) HCL.out HK.out).mono ?_;rintro e w6 ⟨rfl,hb⟩;have S:=HS.out.step (by first|exact hb|exact hb.below);clear HS hb ha0 ha1;have HS:=Aside0.mk S;clear S;go_wp2_with fail;go_loopw [6] (fun v6 w'=>∃ i:Nat,v6=.int .i64 i∧Aside0 (i≤3)∧Aside0 (St w w' (Part.blk g5 47 #[Value.slice (some ⟨go,0,none⟩) l.length d,Value.int .i64 n] :: Part.row (Kd.int .i64) 3 (.slice (some ⟨go,0,none⟩) l.length d) (cl l (plc key) i) :: [Part.blk g4 47 #[Value.slice none 0 0,Value.int .i64 0],Part.blk g2 47 #[Value.slice A l.length c,Value.int .i64 n]]))) (fun v6 _=>3 - (intOf v6).toNat)
 case atStart=>exact⟨0,rfl,⟨by omega⟩,HS⟩
 case round =>
  clear HS;obtain⟨i,rfl,HI,HS⟩:=hrel;by_cases c1:i < 3
  ·have c1b:decide ((i:Int) < 3)=true:=decide_eq_true (by omega)
   have c1c:decide (i < 3)=true:=decide_eq_true c1;obtain⟨K2,hK2⟩:=(at_ev key HKZ.out i c1).2;have HK2:=Aside0.mk (hK2 K2 (Nat.le_refl _));clear hK2;go_wp2_with fail;refine(spec_l05At.calls K2 key (i:Int) (plc key i) _ HK2.out).mono ?_;rintro e w8 ⟨rfl,hb⟩;have S:=HS.out.step (by first|exact hb|exact hb.below);clear HS hb HK2;have HS:=Aside0.mk S;have ho0:=S.at_cell 0 rfl 0 rfl;clear S;obtain⟨hp0,hp1⟩:=plc_in key i c1;have hlen:=cl_len l (plc key) i;have hbd:=rd_bd (cl_bd l (plc key) HX.out i) (plc key i);have hR:=HS.out.at_R 1 rfl;obtain⟨hx5,hf5⟩:=Kd.R_celln 0 hR (plc key i) hp0 (show(plc key i) < ((l.length:Nat):Int) by have:=HL.out;omega);replace hx5:w8.cell? ⟨go,((plc key i)).toNat,none⟩=some (.int .i64 (rd (cl l (plc key) i) (plc key i))):=hx5;have hne1:=HS.out.at_own 0 1 rfl rfl (by decide);have hne2:¬ go=g5:=fun e=>hne1 (by rw[e];rfl);have hne3:¬ g5=go:=fun e=>hne2 e.symm;clear hR hne1;have HP:=Aside0.mk hp0;have hset:cl l (plc key) (i+1)=(cl l (plc key) i).set (plc key i).toNat (mn (rd (cl l (plc key) i) (plc key i)+1) 15):=rfl;have hq:(cl l (plc key) i)[(plc key i).toNat]? = some (rd (cl l (plc key) i) (plc key i)):=by unfold rd;rw[List.getD_eq_getElem?_getD,List.getElem?_eq_getElem (by have:=HL.out;omega)];rfl
   have hsame:=set_sameI (cl l (plc key) i) (plc key i) hp0 (rd (cl l (plc key) i) (plc key i)) (by have:=HL.out;omega) rfl;have p5:plc key i < ((l.length:Nat):Int):=by have:=HL.out;omega
   have p6:(plc key i).toNat < l.length:=by have:=HL.out;omega
   generalize hv:rd (cl l (plc key) i) (plc key i)=v at *;generalize plc key i=p at *;have HSET:=Aside0.mk hset;have HQ:=Aside0.mk hq;have HSAME:=Aside0.mk hsame;clear hset hq hsame hv hlen hp1;by_cases c2:v < 15
   ·have c2b:decide (v < 15)=true:=decide_eq_true c2
    have em:mn (v+1) 15=v+1:=by unfold mn;split <;> omega
    have ew:wrap64 (v+1)=v+1:=by unfold wrap64;omega
    have HEM:=Aside0.mk em;clear c2 em hbd;go_wp2_with fail;go_region;go_wp2_with fail;go_roundw
    case rel =>
     have S:=(HS.out.swap.put_flat FI (j:=0) (x':=v+1) (v:=.int .i64 (v+1)) HQ.out (by decide) rfl).swap;rw[← HEM.out,← HSET.out,HEM.out] at S;have ep:p.toNat * (Kd.int .i64).sz+0=p.toNat:=Nat.mul_one _;rw[ep] at S;exact⟨i+1,by go_num,⟨by omega⟩,⟨by first|exact S.drew|(rw[ew];exact S.drew)⟩⟩
    case measure=>simp[intOf];omega
   ·have c2b:decide (v < 15)=false:=decide_eq_false c2
    have em:mn (v+1) 15=v:=by unfold mn;split <;> omega
    have HEM:=Aside0.mk em;clear c2 em hbd;go_wp2_with fail;go_roundw
    case rel=>exact⟨i+1,by go_num,⟨by omega⟩,⟨by rw[HSET.out,HEM.out,HSAME.out];exact HS.out⟩⟩
    case measure=>simp[intOf];omega
  ·have c1b:decide ((i:Int) < 3)=false:=decide_eq_false (by omega)
   have c1c:decide (i < 3)=false:=decide_eq_false c1;obtain rfl:i=3:=by have:=HI.out;omega
   clear c1;have en:wrap64 (n+1)=n+1:=by have:=HN.out;unfold wrap64;omega
   have hlen:=cl_len l (plc key) 3;have HLN:=Aside0.mk hlen;generalize hl3:cl l (plc key) 3=m at *;clear hl3 hlen;have ho1:=HS.out.at_cell 0 rfl 1 rfl;have fo1:=HS.out.at_frozen 0 rfl 1
   by_cases c9:n=99
   ·subst c9
    have HCN2:=Aside0.mk (show cntd l 99 key=(m.map hf,0) by rw[HCN.out];rfl);go_upto_region 11 with fail;have S:=HS.out.put (cs':=#[Value.slice (some ⟨go,0,none⟩) l.length d,Value.int .i64 100]) 1 (Value.int .i64 100) rfl;clear HS ho1 fo1;obtain⟨z6,hw,S⟩:=S.fold;rw[← hw];clear hw;have HS:=Aside0.mk S;have ho1:=S.at_cell 0 rfl 1 rfl;have fo1:=S.at_frozen 0 rfl 1;clear S;go_upto_region 13 with fail;have S:=HS.out.put (cs':=#[Value.slice (some ⟨go,0,none⟩) l.length d,Value.int .i64 0]) 1 (Value.int .i64 0) rfl;clear HS ho1 fo1;obtain⟨z7,hw,S⟩:=S.fold;rw[← hw];clear hw;have HS:=Aside0.mk S;clear S;go_wp2_with fail;go_loopw [8] (fun v8 w'=>∃ i:Nat,v8=.int .i64 i∧Aside0 (i≤l.length)∧Aside0 (St w w' (Part.blk g5 47 #[Value.slice (some ⟨go,0,none⟩) l.length d,Value.int .i64 0] :: Part.row (Kd.int .i64) 3 (.slice (some ⟨go,0,none⟩) l.length d) (hl m i) :: [Part.blk g4 47 #[Value.slice none 0 0,Value.int .i64 0],Part.blk g2 47 #[Value.slice A l.length c,Value.int .i64 99]]))) (fun v8 _=>l.length - (intOf v8).toNat)
    case atStart=>exact⟨0,rfl,⟨by omega⟩,⟨by simpa [hl] using HS.out⟩⟩
    case round =>
     clear HS;obtain⟨i,rfl,HI,HS⟩:=hrel;have ho0:=HS.out.at_cell 0 rfl 0 rfl;have hl48:=HL.out;by_cases c1:i < l.length
     ·have c1b:decide ((i:Int) < (l.length:Int))=true:=decide_eq_true (by omega)
      have c1c:decide (i < l.length)=true:=decide_eq_true c1;have hlen:=hl_len m i;have hR:=HS.out.at_R 1 rfl;obtain⟨hx5,hf5⟩:=Kd.R_celln 0 hR (i:Int) (by omega) (show(i:Int) < ((l.length:Nat):Int) by omega);replace hx5:wr.cell? ⟨go,((i:Int)).toNat,none⟩=some (.int .i64 (rd (hl m i) (i:Int))):=hx5;have hne1:=HS.out.at_own 0 1 rfl rfl (by decide);have hne2:¬ go=g5:=fun e=>hne1 (by rw[e];rfl);have hne3:¬ g5=go:=fun e=>hne2 e.symm;clear hR hne1;have hq:(hl m i)[i]? = some (rd (hl m i) (i:Int)):=by unfold rd;rw[List.getD_eq_getElem?_getD,Int.toNat_natCast,List.getElem?_eq_getElem (by have:=HLN.out;omega)];rfl
      have hnx:=hl_next m i (by have:=HLN.out;omega);generalize hv:rd (hl m i) (i:Int)=v at *;rw[Int.toNat_natCast] at hx5 hf5;have HQ:=Aside0.mk hq;have HNX:=Aside0.mk hnx;have p5:(0:Int)≤(i:Int):=by omega
      have p6:(i:Int) < ((l.length:Nat):Int):=by omega
      have p7:i < 1048576:=by omega
      clear hq hnx hv hlen hl48;go_wp2_with fail;go_region;go_wp2_with fail;go_roundw
      case rel =>
       have S:=(HS.out.swap.put_flat FI (j:=0) (x':=hf v) (v:=.int .i64 (hf v)) HQ.out (by decide) rfl).swap;rw[HNX.out] at S;have ep:i * (Kd.int .i64).sz+0=i:=Nat.mul_one _;rw[ep] at S;exact⟨i+1,by go_num,⟨by omega⟩,⟨S.drew⟩⟩
      case measure=>simp[intOf];omega
     ·have c1b:decide ((i:Int) < (l.length:Int))=false:=decide_eq_false (by omega)
      have c1c:decide (i < l.length)=false:=decide_eq_false c1;obtain rfl:i=l.length:=by have:=HI.out;omega
      clear c1 hl48;have ho1:=HS.out.at_cell 0 rfl 1 rfl;obtain⟨hr0,hr1⟩:=HS.out.cells2 2 rfl;obtain⟨fr0,fr1⟩:=HS.out.frozen2 2 rfl;have n1:=HS.out.at_ne 0 2 rfl rfl (by decide);have n2:=HS.out.at_ne 2 0 rfl rfl (by decide);go_wp2_with fail;have S:=HS.out.front 2 rfl rfl;have S:=S.put2 (Value.slice (some ⟨go,0,none⟩) l.length d) (Value.int .i64 0);refine bodyPost_ret (results_cell_row rfl _ _ g4 47 #[Value.slice (some ⟨go,0,none⟩) l.length d,Value.int .i64 0] (0,0) _ rfl S.head.2 Tryz.underlying47 rfl (by kernel_rfl)) rfl ?_;have e1:hl m l.length=m.map hf:=by unfold hl;rw[List.take_of_length_le (by have:=HLN.out;omega),List.drop_of_length_le (by have:=HLN.out;omega),List.append_nil]
      exact⟨_,by rw[HCN2.out],by rw[HCN2.out];have:=S.at_R 2 rfl;rw[e1] at this;exact Kd.R_mono this (fun _ _=>trivial),S.below⟩
   ·have HCN2:=Aside0.mk (show cntd l n key=(m,n+1) by rw[HCN.out,if_neg c9,if_neg c9])
    have c9b:((n+1:Int) == 100)=false:=beq_eq_false_iff_ne.2 (by omega);clear c9;go_upto_region 11 with fail;have S:=HS.out.put (cs':=#[Value.slice (some ⟨go,0,none⟩) l.length d,Value.int .i64 (n+1)]) 1 (Value.int .i64 (n+1)) rfl;clear HS ho1 fo1;obtain⟨z6,hw,S⟩:=S.fold;rw[← hw];clear hw;have HS:=Aside0.mk S;obtain⟨ho0,ho1⟩:=S.cells2 0 rfl;obtain⟨hr0,hr1⟩:=S.cells2 2 rfl;obtain⟨fr0,fr1⟩:=S.frozen2 2 rfl;have n1:=S.at_ne 0 2 rfl rfl (by decide);have n2:=S.at_ne 2 0 rfl rfl (by decide);clear S;go_wp2_with fail;have S:=HS.out.front 2 rfl rfl;have S:=S.put2 (Value.slice (some ⟨go,0,none⟩) l.length d) (Value.int .i64 (n+1));refine bodyPost_ret (results_cell_row rfl _ _ g4 47 #[Value.slice (some ⟨go,0,none⟩) l.length d,Value.int .i64 (n+1)] (0,0) _ rfl S.head.2 Tryz.underlying47 rfl (by kernel_rfl)) rfl ?_;exact⟨_,by rw[HCN2.out],by rw[HCN2.out];exact Kd.R_mono (S.at_R 2 rfl) (fun _ _=>trivial),S.below⟩
end Go.Proofs.YtediiolcoilepaaGreat.Nb
