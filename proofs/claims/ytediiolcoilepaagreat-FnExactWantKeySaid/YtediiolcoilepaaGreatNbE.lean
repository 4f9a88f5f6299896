/- Walks of callees. -/
import Derived.Test.YtediiolcoilepaaGreatNbD
import Derived.BigRegion
namespace Go.Proofs.YtediiolcoilepaaGreat.Nb
set_option maxHeartbeats 8000000
set_option maxRecDepth 100000
open Go.RowKit Go.Proofs.YtediiolcoilepaaGreat.GNear Go.Proofs.YtediiolcoilepaaGreatW.PrintWords Go.Proofs.YtediiolcoilepaaGreatW.PrintLast Go.Proofs.YtediiolcoilepaaGreatW.PrintMore
set_option linter.unusedVariables false
set_option linter.unusedSimpArgs false
def ltS (s t:ByteArray):Bool:=Op.bytesLess s.toList t.toList
theorem ltS_iff {s t:ByteArray}:ltS s t=true ↔ s.data.toList < t.data.toList:=by
 unfold ltS;rw[bytesLess_eq,Lib.toList_data,Lib.toList_data,decide_eq_true_iff]
def insL (l:List ByteArray) (x:ByteArray):List ByteArray:=l.filter (fun y=>ltS y x) ++ x :: l.filter (fun y=>!ltS y x)
theorem insL_perm (l:List ByteArray) (x:ByteArray):(insL l x).Perm (x :: l):=by
 unfold insL;exact List.perm_middle.trans ((List.filter_append_perm _ l).cons x)
theorem insL_sorted {l:List ByteArray} (h:l.Pairwise leS) (x:ByteArray):(insL l x).Pairwise leS:=by
 unfold insL;have ge:∀ y,(!ltS y x)=true→leS x y:=fun y hy=>by
  have:¬ y.data.toList < x.data.toList:=fun e=>by rw[ltS_iff.2 e] at hy;cases hy
  exact List.not_lt.1 this
 refine List.pairwise_append.2 ⟨h.filter _,List.pairwise_cons.2 ⟨fun y hy=>ge y (List.mem_filter.1 hy).2,h.filter _⟩,fun a ha b hb=>?_⟩;have h1:leS a x:=List.le_of_lt (ltS_iff.1 (List.mem_filter.1 ha).2)
 rcases List.mem_cons.1 hb with rfl|hb
 ·exact h1
 ·exact List.le_trans h1 (ge b (List.mem_filter.1 hb).2)
theorem insL_eq {l:List ByteArray} (h:l.Pairwise leS) (x:ByteArray):insL l x=sortS (x :: l):=sorted_eq ((insL_perm l x).trans (sortS_perm _).symm) (insL_sorted h x) (sortS_sorted _)
theorem insS_l1 (l:List ByteArray) (x:ByteArray) (hl:l.length≤4194304) (d:Nat):∀ (i:Nat) (acc:List ByteArray),l.length=i+d→acc.length≤l.length+1+i →
  Ev (fun k=>spec_l04Insert.l1 k l x acc (i:Int)) (acc ++ (l.drop i).filter (fun y=>!ltS y x)):=by
 induction d with
 |zero =>
  intro i acc hd ha;rw[List.drop_eq_nil_of_le (by omega)];refine Ev.step (f:=fun _=>some acc) (fun k=>?_) (by simpa using Ev.now acc);simp only [spec_l04Insert.l1];rw[if_neg (by omega)]
 |succ d ih =>
  intro i acc hd ha;have hi:i < l.length:=by omega
  rw[List.drop_eq_getElem_cons hi]
  by_cases c:ltS l[i] x=true
  ·rw[List.filter_cons_of_neg (by simp[c])]
   refine Ev.step (fun k=>?_) (ih (i+1) acc (by omega) (by omega));simp only [spec_l04Insert.l1];rw[if_pos (by omega),if_pos (by omega),rdS_at l i hi,if_pos (show Op.bytesLess l[i].toList x.toList=true from c),w64 i (by omega)]
  ·rw[List.filter_cons_of_pos (by simpa using c)]
   have:=ih (i+1) (acc ++ [l[i]]) (by omega) (by simp;omega);rw[List.append_assoc,List.singleton_append] at this;refine Ev.step (fun k=>?_) this;simp only [spec_l04Insert.l1];rw[if_pos (by omega),if_pos (by omega),rdS_at l i hi,if_neg (show ¬ Op.bytesLess l[i].toList x.toList=true from c),if_pos (by omega),w64 i (by omega)]
theorem insS_l0 (l:List ByteArray) (x:ByteArray) (hl:l.length≤4194304) (d:Nat):∀ (i:Nat) (acc:List ByteArray),l.length=i+d→acc.length≤i →
  Ev (fun k=>spec_l04Insert.l0 k l x acc (i:Int)) (acc ++ (l.drop i).filter (fun y=>ltS y x) ++ x :: l.filter (fun y=>!ltS y x)):=by
 induction d with
 |zero =>
  intro i acc hd ha;rw[List.drop_eq_nil_of_le (by omega),List.filter_nil,List.append_nil];have:=insS_l1 l x hl l.length 0 (acc ++ [x]) (by omega) (by simp;omega);rw[List.drop_zero,List.append_assoc,List.singleton_append] at this;refine Ev.step (fun k=>?_) this;simp only [spec_l04Insert.l0];rw[if_neg (by omega),if_pos (by omega)];rfl
 |succ d ih =>
  intro i acc hd ha;have hi:i < l.length:=by omega
  rw[List.drop_eq_getElem_cons hi]
  by_cases c:ltS l[i] x=true
  ·rw[List.filter_cons_of_pos (p:=fun y=>ltS y x) c]
   have:=ih (i+1) (acc ++ [l[i]]) (by omega) (by simp;omega);rw[List.append_assoc acc,List.singleton_append] at this;refine Ev.step (fun k=>?_) this;simp only [spec_l04Insert.l0];rw[if_pos (by omega),if_pos (by omega),rdS_at l i hi,if_pos (show Op.bytesLess l[i].toList x.toList=true from c),if_pos (by omega),w64 i (by omega)]
  ·rw[List.filter_cons_of_neg (by simpa using c)]
   refine Ev.step (fun k=>?_) (ih (i+1) acc (by omega) (by omega));simp only [spec_l04Insert.l0];rw[if_pos (by omega),if_pos (by omega),rdS_at l i hi,if_neg (show ¬ Op.bytesLess l[i].toList x.toList=true from c),w64 i (by omega)]
theorem insS_ev {l:List ByteArray} (hl:l.length≤4194304) (hs:l.Pairwise leS) (x:ByteArray):Ev (fun k=>spec_l04Insert.f k l x) (sortS (x :: l)):=by
 rw[← insL_eq hs x];have:=insS_l0 l x hl l.length 0 [] (by omega) (by simp);rw[List.drop_zero,List.nil_append] at this;exact this
theorem sort_cons (x:ByteArray) (l:List ByteArray):sortS (x :: sortS l)=sortS (l ++ [x]):=sortS_congr (((sortS_perm l).cons x).trans (List.perm_append_comm (l₁:=[x]) (l₂:=l)))
theorem keysC_next {cs:List S151} {i:Nat} (hi:i < cs.length):keysC (cs.take (i+1))=keysC (cs.take i) ++ (if cs[i].f0.size ≠ 0 then [cs[i].f0] else []):=by
 unfold keysC TM.keysOf;rw[List.take_add_one,List.getElem?_eq_getElem hi,List.filter_append,List.map_append]
 congr 1
 show((([cs[i]]:List S151).filter fun x=>decide (x.f0.size ≠ 0)).map S151.f0)=_
 by_cases h:cs[i].f0.size ≠ 0
 ·rw[List.filter_cons_of_pos (by exact decide_eq_true h),List.filter_nil,if_pos h];rfl
 ·rw[List.filter_cons_of_neg (by rw[decide_eq_true_iff];exact h),List.filter_nil,if_neg h];rfl
theorem keysC_le (cs:List S151):(keysC cs).length≤cs.length:=by unfold keysC TM.keysOf;rw[List.length_map];exact List.length_filter_le _ _
theorem tableS_true {cs:List S151} {m:Int} (h1:cs.length≤1048576) (hs:∀ x ∈ cs,x.f0.size≤4611686018427387904) (ht:taR cs [] m):Ev (fun k=>spec_TableOk.f k cs [] m) true:=by
 obtain⟨b,hb,hq⟩:=tableS_ev cs [] m h1 (by simp) hs (by simp);obtain rfl:=(hq rfl).2 ht;exact hb
theorem keysS_loop (cs:List S151) (m:Int) (hl:cs.length≤1048576) (d:Nat):∀ (i:Nat),cs.length=i+d →
  Ev (fun k=>spec_KeysOf.l0 k (sortS (keysC (cs.take i))) (i:Int) cs [] m) (sortS (keysC cs)):=by
 induction d with
 |zero =>
  intro i hd;rw[List.take_of_length_le (by omega)];refine Ev.step (f:=fun k=>spec_KeysOf.l1 k (sortS (keysC cs)) 0 cs [] m) (fun k=>?_) (Ev.step (f:=fun _=>some (sortS (keysC cs))) (fun k=>?_) (Ev.now _))
  ·simp only [spec_KeysOf.l0];rw[if_neg (by omega)]
  ·simp only [spec_KeysOf.l1];rw[if_neg (by simp)]
 |succ d ih =>
  intro i hd;have hi:i < cs.length:=by omega
  have hn:=ih (i+1) (by omega);rw[keysC_next hi] at hn;by_cases e0:cs[i].f0.toList=([]:List UInt8)
  ·rw[if_neg (by simp[(empty_iff _).1 e0]),List.append_nil] at hn
   refine Ev.step (fun k=>?_) hn;simp only [spec_KeysOf.l0];rw[if_pos (by omega),if_pos (by omega),rd_ce cs i hi,if_pos e0,w64 i (by omega)]
  ·rw[if_pos (fun e=>e0 ((empty_iff _).2 e)),← sort_cons] at hn
   have hb:(sortS (keysC (cs.take i))).length≤4194304:=by
    rw[sortS_len];have:=keysC_le (cs.take i);rw[List.length_take] at this;omega
   refine Ev.step (f:=fun k=>(spec_l04Insert.f k (sortS (keysC (cs.take i))) cs[i].f0).bind fun t763=>(spec_KeysOf.l0 k t763 (wrap64 ((i:Int)+1)) cs [] m)) (fun k=>?_) (Ev.bind (insS_ev hb (sortS_sorted _) cs[i].f0) ?_)
   ·simp only [spec_KeysOf.l0]
    rw[if_pos (by omega),if_pos (by omega),rd_ce cs i hi,if_neg e0]
   ·rw[w64 i (by omega)]
    exact hn
theorem keysS_ev {cs:List S151} {m:Int} (h1:cs.length≤1048576) (hs:∀ x ∈ cs,x.f0.size≤4611686018427387904) (ht:taR cs [] m):Ev (fun k=>spec_KeysOf.f k cs [] m) (sortS (keysC cs)):=by
 have:=keysS_loop cs m h1 cs.length 0 (by omega);have e:sortS (keysC (cs.take 0)) = []:=by simp[keysC,TM.keysOf,sortS_nil]
 rw[e] at this;refine Ev.congr (fun k=>?_) (Ev.bind (f:=fun k (t:Bool)=>if t=true then spec_KeysOf.l0 k ([]:List ByteArray) 0 cs [] m else some []) (tableS_true h1 hs ht) (Ev.congr (fun k=>if_pos rfl) this));unfold spec_KeysOf.f;rfl
theorem findS_ev {cs:List S151} {m:Int} {key:ByteArray} (h1:cs.length≤1048576) (hs:∀ x ∈ cs,x.f0.size≤4611686018427387904) (ht:taR cs [] m) (hk:key.size ≠ 0) (hks:key.size≤4611686018427387904) :
  Ev (fun k=>spec_SeekKey.f k cs [] m key) (match TM.seek S151.f0 S151.f1 cs key (stOf key) with|some i=>((rd_T151 cs (i:Int)).f1,true)|none=>(0,false)):=by
 have hv:=seekS_ev cs key h1 hks;rw[seekSV_eq (fun x hx e=>by
  obtain⟨j,hj,rfl⟩:=List.getElem_of_mem hx;exact((ht.cells j _ (List.getElem?_eq_getElem hj)).2 (by rw[e];exact hk)).2.1)] at hv
 have hkb:(key.toList == ([]:List UInt8))=false:=beq_eq_false_iff_ne.2 (fun e=>hk ((empty_iff _).1 e));refine Ev.congr (fun k=>?_) (Ev.bind (f:=fun k (t:Bool)=>if t=true then spec_SeekKey.j0 k key (key.toList == ([]:List UInt8)) cs [] m else spec_SeekKey.j0 k key true cs [] m) (tableS_true h1 hs ht) (Ev.congr (fun k=>if_pos rfl) ?_))
 ·unfold spec_SeekKey.f;rfl
 rw[hkb];have h0:=seekS_ev ([]:List S151) key (by simp) hks;replace h0:Ev (fun k=>spec_l04Seek.f k ([]:List S151) key) (-1):=h0
 cases hsk:TM.seek S151.f0 S151.f1 cs key (stOf key) with
 |none =>
  rw[hsk] at hv;replace hv:Ev (fun k=>spec_l04Seek.f k cs key) (-1):=hv;refine Ev.step (fun k=>?_) (Ev.bind (f:=fun k (t776:Int)=>(if t776 ≥ 0 then (if 0≤t776 then (if t776 < (cs.length:Int) then (some ((rd_T151 cs t776).f1,true)) else (none)) else (none)) else ((spec_l04Seek.f k ([]:List S151) key).bind fun t778=>(if t778 ≥ 0 then (if 0≤t778 then (if t778 < (([]:List S151).length:Int) then (some ((rd_T151 ([]:List S151) t778).f1,true)) else (none)) else (none)) else (some (0,false)))))) hv (Ev.congr (fun k=>if_neg (by omega)) (Ev.bind (f:=fun _ (t778:Int)=>(if t778 ≥ 0 then (if 0≤t778 then (if t778 < (([]:List S151).length:Int) then (some ((rd_T151 ([]:List S151) t778).f1,true)) else (none)) else (none)) else (some (0,false)))) h0 (Ev.congr (fun k=>if_neg (by omega)) (Ev.now _)))));simp only [spec_SeekKey.j0,Bool.false_eq_true,if_false]
 |some i =>
  rw[hsk] at hv;replace hv:Ev (fun k=>spec_l04Seek.f k cs key) ((i:Nat):Int):=hv;obtain⟨x,hx,_⟩:=TM.seekF_some S151.f0 S151.f1 hsk;have hi:=(List.getElem?_eq_some_iff.1 hx).1;refine Ev.step (fun k=>?_) (Ev.bind (f:=fun k (t776:Int)=>(if t776 ≥ 0 then (if 0≤t776 then (if t776 < (cs.length:Int) then (some ((rd_T151 cs t776).f1,true)) else (none)) else (none)) else ((spec_l04Seek.f k ([]:List S151) key).bind fun t778=>(if t778 ≥ 0 then (if 0≤t778 then (if t778 < (([]:List S151).length:Int) then (some ((rd_T151 ([]:List S151) t778).f1,true)) else (none)) else (none)) else (some (0,false)))))) hv (Ev.congr (fun k=>by rw[if_pos (by omega),if_pos (by omega),if_pos (by omega)]) (Ev.now _)));simp only [spec_SeekKey.j0,Bool.false_eq_true,if_false]
theorem rdb_at (l:List Bool) (i:Nat):rdOf false l (i:Int)=l.getD i false:=by unfold rdOf;rw[Int.toNat_natCast]
theorem slotS_step (xs:List S94) (fr:Int) (free:List Bool) (hf:free.length=xs.length) (hl:xs.length≤1048576) (i:Nat) (hi:i < xs.length) (b:Bool) (hb:Ev (fun k=>spec_ArenaOk.l1 k (xs.length:Int) free ((i+1:Nat):Int) xs fr) b) :
  ∃ c:Bool,Ev (fun k=>spec_ArenaOk.l1 k (xs.length:Int) free (i:Int) xs fr) c∧(c=true ↔ (slR xs[i]∧xs[i].f1 = !(free.getD i false))∧b=true):=by
 have bad:Ev (fun k=>spec_ArenaOk.l1 k (xs.length:Int) free (i:Int) xs fr) false→¬ (slR xs[i]∧xs[i].f1 = !(free.getD i false))→∃ c:Bool,Ev (fun k=>spec_ArenaOk.l1 k (xs.length:Int) free (i:Int) xs fr) c∧(c=true ↔ (slR xs[i]∧xs[i].f1 = !(free.getD i false))∧b=true):=fun h hn=>⟨false,h,fun e=>Bool.noConfusion e,fun e=>absurd e.1 hn⟩
 by_cases h1:0≤xs[i].f0∧xs[i].f0≤41666665
 ·have st:∀ {c:Bool},Ev (fun k=>spec_ArenaOk.j2 k (xs.length:Int) free (i:Int) (xs[i].f1 == free.getD i false) xs fr xs[i].f0 xs[i].f1 xs[i].f2 xs[i].f3 xs[i].f4) c→Ev (fun k=>spec_ArenaOk.l1 k (xs.length:Int) free (i:Int) xs fr) c:=fun h=>by
   refine Ev.step (fun k=>?_) h;simp only [spec_ArenaOk.l1];rw[if_pos (by omega),if_pos (by omega),if_pos (by omega),rd_sl xs i hi,rangeS];simp only [Option.bind_some];rw[if_pos (decide_eq_true h1),if_pos (by omega),rdb_at]
  cases hm:(xs[i].f1 == free.getD i false) with
  |true =>
   refine bad (st ?_) (fun h=>?_)
   ·rw[hm]
    refine Ev.step (f:=fun _=>some false) (fun k=>?_) (Ev.now _);simp only [spec_ArenaOk.j2,if_true]
   ·have:=beq_iff_eq.1 hm
    rw[this] at h;cases hq:free.getD i false <;> rw[hq] at h <;> simp at h
  |false =>
   have hne:xs[i].f1 = !(free.getD i false):=by
    have:=beq_eq_false_iff_ne.1 hm
    cases h2:xs[i].f1 <;> cases h3:free.getD i false <;> simp_all
   rw[hm] at st;rcases Bool.eq_false_or_eq_true xs[i].f1 with hu|hu
   ·rw[hu] at st
    by_cases h2:1≤(xs[i].f2.size:Int)∧(xs[i].f2.size:Int)≤12
    ·by_cases h3:(xs[i].f3.size:Int) > 20
     ·refine bad (st (Ev.step (f:=fun _=>some false) (fun k=>?_) (Ev.now _))) (fun h=>by have:=(h.1.2.2.1 hu).2.2.1;omega)
      simp only [spec_ArenaOk.j2,Bool.false_eq_true,if_false,if_true];rw[rangeS];simp only [Option.bind_some];rw[if_pos (decide_eq_true h2),if_pos h3]
     ·by_cases h4:xs[i].f4=0
      ·refine⟨b,st (Ev.step (fun k=>?_) hb),?_⟩
       ·simp only [spec_ArenaOk.j2,Bool.false_eq_true,if_false,if_true]
        rw[rangeS];simp only [Option.bind_some];rw[if_pos (decide_eq_true h2),if_neg h3,if_pos h4,w64 i (by omega)]
       ·exact⟨fun h=>⟨⟨⟨h1.1,h1.2,fun _=>⟨by omega,by omega,by omega,h4⟩,fun e=>absurd (hu.symm.trans e) (by simp)⟩,hne⟩,h⟩,fun h=>h.2⟩
      ·refine bad (st (Ev.step (f:=fun _=>some false) (fun k=>?_) (Ev.now _))) (fun h=>h4 (h.1.2.2.1 hu).2.2.2)
       simp only [spec_ArenaOk.j2,Bool.false_eq_true,if_false,if_true];rw[rangeS];simp only [Option.bind_some];rw[if_pos (decide_eq_true h2),if_neg h3,if_neg h4]
    ·refine bad (st (Ev.step (f:=fun _=>some false) (fun k=>?_) (Ev.now _))) (fun h=>h2 (by have:=h.1.2.2.1 hu;omega))
     simp only [spec_ArenaOk.j2,Bool.false_eq_true,if_false,if_true];rw[rangeS];simp only [Option.bind_some];rw[if_neg (show ¬ decide (1≤(xs[i].f2.size:Int)∧(xs[i].f2.size:Int)≤12)=true from fun e=>h2 (of_decide_eq_true e))]
   ·rw[hu] at st
    by_cases h2:xs[i].f2.toList=([]:List UInt8)
    ·by_cases h3:xs[i].f3.toList=([]:List UInt8)
     ·refine⟨b,st (Ev.step (fun k=>?_) hb),?_⟩
      ·simp only [spec_ArenaOk.j2,Bool.false_eq_true,if_false]
       rw[if_pos h2,if_pos h3,w64 i (by omega)]
      ·exact⟨fun h=>⟨⟨⟨h1.1,h1.2,fun e=>absurd (hu.symm.trans e) (by simp),fun _=>⟨(empty_iff _).1 h2,(empty_iff _).1 h3⟩⟩,hne⟩,h⟩,fun h=>h.2⟩
     ·refine bad (st (Ev.step (f:=fun _=>some false) (fun k=>?_) (Ev.now _))) (fun h=>h3 ((empty_iff _).2 (h.1.2.2.2 hu).2))
      simp only [spec_ArenaOk.j2,Bool.false_eq_true,if_false];rw[if_pos h2,if_neg h3]
    ·refine bad (st (Ev.step (f:=fun _=>some false) (fun k=>?_) (Ev.now _))) (fun h=>h2 ((empty_iff _).2 (h.1.2.2.2 hu).1))
     simp only [spec_ArenaOk.j2,Bool.false_eq_true,if_false];rw[if_neg h2]
 ·refine bad (Ev.step (f:=fun k=>spec_ArenaOk.j2 k (xs.length:Int) free (i:Int) true xs fr xs[i].f0 xs[i].f1 xs[i].f2 xs[i].f3 xs[i].f4) (fun k=>?_) (Ev.step (f:=fun _=>some false) (fun k=>?_) (Ev.now _))) (fun h=>h1 ⟨h.1.1,h.1.2.1⟩)
  ·simp only [spec_ArenaOk.l1]
   rw[if_pos (by omega),if_pos (by omega),if_pos (by omega),rd_sl xs i hi,rangeS];simp only [Option.bind_some];rw[if_neg (show ¬ decide (0≤xs[i].f0∧xs[i].f0≤41666665)=true from fun e=>h1 (of_decide_eq_true e))]
  ·simp only [spec_ArenaOk.j2,if_true]
theorem slotsS_loop (xs:List S94) (fr:Int) (free:List Bool) (hf:free.length=xs.length) (hl:xs.length≤1048576) (d:Nat):∀ i,xs.length=i+d →
  ∃ b,Ev (fun k=>spec_ArenaOk.l1 k (xs.length:Int) free (i:Int) xs fr) b∧(b=true ↔ ∀ j x,i≤j→xs[j]? = some x→slR x∧x.f1 = !(free.getD j false)):=by
 induction d with
 |zero =>
  intro i hd;refine⟨true,Ev.step (f:=fun _=>some true) (fun k=>?_) (Ev.now _),?_⟩
  ·simp only [spec_ArenaOk.l1];rw[if_neg (by omega)]
  ·simp only [true_iff]
   intro j x hj hx;have:=(List.getElem?_eq_some_iff.1 hx).1;omega
 |succ d ih =>
  intro i hd;have hi:i < xs.length:=by omega
  obtain⟨b,hb,hq⟩:=ih (i+1) (by omega);obtain⟨c,hc,hcq⟩:=slotS_step xs fr free hf hl i hi b hb;refine⟨c,hc,hcq.trans ?_⟩;rw[hq];constructor
  ·rintro ⟨h1,h2⟩ j x hj hx
   by_cases e:i=j
   ·subst e
    rw[List.getElem?_eq_getElem hi] at hx;obtain rfl:=Option.some.inj hx;exact h1
   ·exact h2 j x (by omega) hx
  ·exact fun h=>⟨h i _ (Nat.le_refl _) (List.getElem?_eq_getElem hi),fun j x hj hx=>h j x (by omega) hx⟩
def marks (free:List Bool) (l:List Nat):List Bool:=l.foldl (fun f i=>f.set i true) free
theorem marks_at:∀ (l:List Nat) (free:List Bool) (j:Nat),j < free.length→((marks free l).getD j false=true ↔ free.getD j false=true ∨ j ∈ l)
 |[],free,j,h=>by simp[marks]
 |i :: l,free,j,h=>by
  show(marks (free.set i true) l).getD j false=true ↔ _;rw[marks_at l _ j (by rw[List.length_set];exact h)]
  by_cases e:i=j
  ·subst e
   simp[List.getD_eq_getElem?_getD,List.getElem?_set_self h]
  ·rw[List.getD_eq_getElem?_getD,List.getElem?_set_ne e,← List.getD_eq_getElem?_getD]
   simp[Ne.symm e]
theorem chainS (xs:List S94) (fr:Int) (hl:xs.length≤1048576) (d:Nat):∀ (free:List Bool) (p:Int),free.length=xs.length→free.count false=d →
  ∃ b,Ev (fun k=>spec_ArenaOk.l0 k (xs.length:Int) free p xs fr) b∧(b=true ↔ ∃ l,AM.Path S94.f1 S94.f4 xs p l∧(∀ i ∈ l,free.getD i false=false)∧l.Nodup∧∀ j x,xs[j]? = some x→slR x∧x.f1 = !((marks free l).getD j false)):=by
 induction d with
 |zero =>
  intro free p hf hc;have hall:∀ j,j < free.length→free.getD j false=true:=fun j hj=>by
   rw[List.getD_eq_getElem?_getD,List.getElem?_eq_getElem hj]
   cases h:free[j] with
   |true=>rfl
   |false=>exact absurd (List.count_eq_zero.1 hc) (fun hn=>hn (by rw[← h];exact List.getElem_mem hj))
  by_cases c:p = -1
  ·subst c
   obtain⟨b,hb,hq⟩:=slotsS_loop xs fr free hf hl xs.length 0 (by omega);refine⟨b,Ev.step (fun k=>?_) hb,hq.trans ?_⟩
   ·simp only [spec_ArenaOk.l0,if_true];rfl
   ·exact⟨fun h=>⟨[],rfl,by simp,List.nodup_nil,fun j x hx=>h j x (Nat.zero_le _) hx⟩,fun ⟨l,hp,_,_,h⟩ j x _ hx=>by
     cases l with
     |nil=>exact h j x hx
     |cons i l=>have:=hp.1;omega⟩
  ·refine⟨false,Ev.step (f:=fun _=>some false) (fun k=>?_) (Ev.now _),?_⟩
   ·simp only [spec_ArenaOk.l0]
    rw[if_neg c,rangeS];simp only [Option.bind_some];have ew:wrap64 ((xs.length:Int) - 1)=(xs.length:Int) - 1:=by unfold wrap64;omega
    rw[ew]
    by_cases c2:0≤p∧p≤(xs.length:Int) - 1
    ·obtain⟨q,rfl⟩:=Int.eq_ofNat_of_zero_le c2.1
     rw[if_pos (decide_eq_true c2),if_pos c2.1,if_pos (by omega),rdb_at,if_pos (hall q (by omega))]
    ·rw[if_neg (show ¬ decide (0≤p∧p≤(xs.length:Int) - 1)=true from fun e=>c2 (of_decide_eq_true e))]
   ·simp only [Bool.false_eq_true,false_iff]
    rintro ⟨l,hp,hfr,_⟩
    cases l with
    |nil=>exact c hp
    |cons i l =>
     obtain⟨_,x,hx,_⟩:=hp;have:=(List.getElem?_eq_some_iff.1 hx).1;have:=hfr i (by simp);rw[hall i (by omega)] at this;cases this
 |succ d ih =>
  intro free p hf hc
  by_cases c:p = -1
  ·subst c
   obtain⟨b,hb,hq⟩:=slotsS_loop xs fr free hf hl xs.length 0 (by omega);refine⟨b,Ev.step (fun k=>?_) hb,hq.trans ?_⟩
   ·simp only [spec_ArenaOk.l0,if_true];rfl
   ·exact⟨fun h=>⟨[],rfl,by simp,List.nodup_nil,fun j x hx=>h j x (Nat.zero_le _) hx⟩,fun ⟨l,hp,_,_,h⟩ j x _ hx=>by
     cases l with
     |nil=>exact h j x hx
     |cons i l=>have:=hp.1;omega⟩
  ·have ew:wrap64 ((xs.length:Int) - 1)=(xs.length:Int) - 1:=by unfold wrap64;omega
   have bad:(∀ l,AM.Path S94.f1 S94.f4 xs p l→(∀ i ∈ l,free.getD i false=false)→False)→Ev (fun k=>spec_ArenaOk.l0 k (xs.length:Int) free p xs fr) false→∃ b,Ev (fun k=>spec_ArenaOk.l0 k (xs.length:Int) free p xs fr) b∧(b=true ↔ ∃ l,AM.Path S94.f1 S94.f4 xs p l∧(∀ i ∈ l,free.getD i false=false)∧l.Nodup∧∀ j x,xs[j]? = some x→slR x∧x.f1 = !((marks free l).getD j false)):=fun hn h=>⟨false,h,by
    simp only [Bool.false_eq_true,false_iff];rintro ⟨l,hp,hfr,_⟩;exact hn l hp hfr⟩
   by_cases c2:0≤p∧p≤(xs.length:Int) - 1
   ·obtain⟨q,rfl⟩:=Int.eq_ofNat_of_zero_le c2.1
    have hq:q < xs.length:=by omega
    have hxq:xs[q]? = some xs[q]:=List.getElem?_eq_getElem hq
    cases hm:free.getD q false with
    |true =>
     refine bad (fun l hp hfr=>?_) (Ev.step (f:=fun _=>some false) (fun k=>?_) (Ev.now _))
     ·cases l with
      |nil=>exact c hp
      |cons i l =>
       have h1:=hp.1;have:q=i:=by omega
       subst this;have:=hfr q (by simp);rw[hm] at this;cases this
     ·simp only [spec_ArenaOk.l0]
      rw[if_neg c,rangeS];simp only [Option.bind_some];rw[ew,if_pos (decide_eq_true c2),if_pos c2.1,if_pos (by omega),rdb_at,if_pos hm]
    |false =>
     cases hu:xs[q].f1 with
     |true =>
      refine bad (fun l hp _=>?_) (Ev.step (f:=fun _=>some false) (fun k=>?_) (Ev.now _))
      ·cases l with
       |nil=>exact c hp
       |cons i l =>
        obtain⟨h1,x,hx,hux,_⟩:=hp;have:q=i:=by omega
        subst this;rw[hxq] at hx;obtain rfl:=Option.some.inj hx;rw[hu] at hux;cases hux
      ·simp only [spec_ArenaOk.l0]
       rw[if_neg c,rangeS];simp only [Option.bind_some];rw[ew,if_pos (decide_eq_true c2),if_pos c2.1,if_pos (by omega),rdb_at,if_neg (by rw[hm];simp),if_pos (by omega),rd_sl xs q hq,if_pos hu]
     |false =>
      have hcnt:(free.set q true).count false=d:=by
       have h1:=List.count_set (l:=free) (i:=q) (a:=true) (b:=false) (by omega);have h2:free[q]=false:=by
        rw[List.getD_eq_getElem?_getD,List.getElem?_eq_getElem (by omega)] at hm;exact hm
       rw[h1,h2,hc];simp
      obtain⟨b,hb,hqq⟩:=ih (free.set q true) xs[q].f4 (by rw[List.length_set];exact hf) hcnt;refine⟨b,Ev.step (fun k=>?_) hb,hqq.trans ?_⟩
      ·simp only [spec_ArenaOk.l0]
       rw[if_neg c,rangeS];simp only [Option.bind_some];rw[ew,if_pos (decide_eq_true c2),if_pos c2.1,if_pos (by omega),rdb_at,if_neg (by rw[hm];simp),if_pos (by omega),rd_sl xs q hq,if_neg (by rw[hu];simp)];rfl
      ·have hset:∀ i,(free.set q true).getD i false=false ↔ free.getD i false=false∧i ≠ q:=fun i=>by
        by_cases e:q=i
        ·subst e
         simp[List.getD_eq_getElem?_getD,List.getElem?_set_self (show q < free.length by omega)]
        ·rw[List.getD_eq_getElem?_getD,List.getElem?_set_ne e,← List.getD_eq_getElem?_getD]
         exact⟨fun h=>⟨h,fun e'=>e e'.symm⟩,fun h=>h.1⟩
       constructor
       ·rintro ⟨l,hp,hfr,hnd,hall⟩
        refine⟨q :: l,⟨rfl,_,hxq,hu,hp⟩,?_,List.nodup_cons.2 ⟨fun hi=>((hset q).1 (hfr q hi)).2 rfl,hnd⟩,hall⟩;intro i hi
        rcases List.mem_cons.1 hi with rfl|hi
        ·exact hm
        ·exact((hset i).1 (hfr i hi)).1
       ·rintro ⟨l,hp,hfr,hnd,hall⟩
        cases l with
        |nil=>exact absurd hp c
        |cons i l =>
         obtain⟨h1,x,hx,hux,hp'⟩:=hp;have:q=i:=by omega
         subst this;rw[hxq] at hx;obtain rfl:=Option.some.inj hx;obtain⟨hn1,hn2⟩:=List.nodup_cons.1 hnd;exact⟨l,hp',fun i hi=>(hset i).2 ⟨hfr i (List.mem_cons_of_mem _ hi),fun e=>hn1 (e ▸ hi)⟩,hn2,hall⟩
   ·refine bad (fun l hp _=>?_) (Ev.step (f:=fun _=>some false) (fun k=>?_) (Ev.now _))
    ·cases l with
     |nil=>exact c hp
     |cons i l =>
      obtain⟨h1,x,hx,_⟩:=hp;have:=(List.getElem?_eq_some_iff.1 hx).1;omega
    ·simp only [spec_ArenaOk.l0]
     rw[if_neg c,rangeS];simp only [Option.bind_some];rw[ew,if_neg (show ¬ decide (0≤p∧p≤(xs.length:Int) - 1)=true from fun e=>c2 (of_decide_eq_true e))]
theorem arenaS_ev (xs:List S94) (fr:Int) (hl:xs.length≤1048576):∃ b,Ev (fun k=>spec_ArenaOk.f k xs fr) b∧(b=true ↔ arR xs fr):=by
 unfold spec_ArenaOk.f;rw[rangeS];simp only [Option.bind_some]
 by_cases h:1≤(xs.length:Int)∧(xs.length:Int)≤24
 ·simp only [if_pos (decide_eq_true h),if_pos (show 0≤(xs.length:Int) by omega),Int.toNat_natCast,if_pos (show xs.length≤281474976710656 by omega)]
  obtain⟨b,hb,hq⟩:=chainS xs fr hl _ (List.replicate xs.length false) fr (by simp) rfl;refine⟨b,hb,hq.trans ?_⟩;have hrep:∀ i,(List.replicate xs.length false).getD i false=false:=fun i=>by
   rw[List.getD_eq_getElem?_getD]
   by_cases hi:i < xs.length
   ·rw[List.getElem?_replicate,if_pos hi];rfl
   ·rw[List.getElem?_eq_none (by simp;omega)];rfl
  have hmk:∀ (l:List Nat) j,j < xs.length→((marks (List.replicate xs.length false) l).getD j false=true ↔ j ∈ l):=fun l j hj=>by
   rw[marks_at l _ j (by simpa using hj),hrep];simp
  constructor
  ·rintro ⟨l,hp,_,_,hall⟩
   refine⟨by omega,fun x hx=>?_,l,hp,fun i x hx hu=>?_⟩
   ·obtain⟨j,hj,rfl⟩:=List.getElem_of_mem hx
    exact(hall j _ (List.getElem?_eq_getElem hj)).1
   ·have h1:=(hall i x hx).2
    refine(hmk l i (List.getElem?_eq_some_iff.1 hx).1).1 ?_;rw[show x.f1=false from hu] at h1;cases hg:(marks (List.replicate xs.length false) l).getD i false with
    |true=>rfl
    |false=>rw[hg] at h1;cases h1
  ·rintro ⟨_,hsl,l,hp,hall⟩
   refine⟨l,hp,fun i _=>hrep i,hp.nodup S94.f1 S94.f4,fun j x hx=>⟨hsl x (List.mem_of_getElem? hx),?_⟩⟩;have hj:=(List.getElem?_eq_some_iff.1 hx).1
   cases hu:x.f1 with
   |false=>rw[(hmk l j hj).2 (hall j x hx hu)];rfl
   |true =>
    cases hg:(marks (List.replicate xs.length false) l).getD j false with
    |false=>rfl
    |true =>
     obtain⟨z,hz,hzu⟩:=hp.mem S94.f1 S94.f4 j ((hmk l j hj).1 hg);rw[hx] at hz;obtain rfl:=Option.some.inj hz;rw[hu] at hzu;cases hzu
 ·simp only [if_neg (show ¬ decide (1≤(xs.length:Int)∧(xs.length:Int)≤24)=true from fun e=>h (of_decide_eq_true e))]
  exact⟨false,Ev.now _,by simp only [Bool.false_eq_true,false_iff];intro hr;have:=hr.len;omega⟩
theorem okS_true {xs:List S94} {fr:Int} (hr:arR xs fr):Ev (fun k=>spec_ArenaOk.f k xs fr) true:=by
 have hl:=hr.len;obtain⟨b,hb,hq⟩:=arenaS_ev xs fr (by omega);obtain rfl:=hq.2 hr;exact hb
theorem atS_ev (xs:List S94) (fr h:Int) (hr:arR xs fr) (hh:h≤9223372036854775807):Ev (fun k=>spec_l03At.f k xs fr h) (plV (placeOf xs h)):=by
 have hl:=hr.len;obtain⟨b,hb,hq⟩:=arenaS_ev xs fr (by omega);obtain rfl:=hq.2 hr;unfold spec_l03At.f;refine Ev.bind hb ?_;simp only [if_true];unfold placeOf;have neg:∀ (P:Prop) [Decidable P],¬ P→Ev (fun k=>spec_l03At.j0 k h true xs fr) (plV (if P then some (h % 24).toNat else none)):=fun P _ hp=>by
  rw[if_neg hp];refine Ev.step (f:=fun _=>some (-1)) (fun k=>?_) (Ev.now _);simp only [spec_l03At.j0,if_true]
 by_cases c0:h < 0
 ·simp only [if_pos c0]
  exact neg _ (by omega)
 simp only [if_neg c0];rw[tmod24 h (by omega)]
 by_cases c1:h % 24 ≥ (xs.length:Int)
 ·rw[decide_eq_true c1]
  exact neg _ (by omega)
 rw[decide_eq_false c1];have hd:wrap64 (Int.tdiv h 24)=h / 24:=by rw[Int.tdiv_eq_ediv_of_nonneg (by omega)];unfold wrap64;omega
 by_cases c2:(rd_T94 xs (h % 24)).f1=true
 ·by_cases c3:24 * (rd_T94 xs (h % 24)).f0+h % 24=h
  ·rw[if_pos ⟨by omega,by omega,c2,c3⟩]
   refine Ev.step (f:=fun _=>some (h % 24)) (fun k=>?_) ?_
   ·simp only [spec_l03At.j0,Bool.false_eq_true,if_false]
    rw[tmod24 h (by omega),if_pos (by omega),if_pos (by omega),if_pos c2,hd,if_pos (by omega)]
   ·rw[show plV (some (h % 24).toNat)=h % 24 by show(((h % 24).toNat:Nat):Int)=h % 24;omega];exact Ev.now _
  ·rw[if_neg (fun hh=>c3 hh.2.2.2)]
   refine Ev.step (f:=fun _=>some (-1)) (fun k=>?_) (Ev.now _);simp only [spec_l03At.j0,Bool.false_eq_true,if_false];rw[tmod24 h (by omega),if_pos (by omega),if_pos (by omega),if_pos c2,hd,if_neg (by omega)]
 ·rw[if_neg (fun hh=>c2 hh.2.2.1)]
  refine Ev.step (f:=fun _=>some (-1)) (fun k=>?_) (Ev.now _);simp only [spec_l03At.j0,Bool.false_eq_true,if_false];rw[tmod24 h (by omega),if_pos (by omega),if_pos (by omega),if_neg c2]
theorem usedS_loop {xs:List S94} {fr:Int} (hr:arR xs fr) (hl:xs.length≤1048576) (d:Nat):∀ (i n:Nat),xs.length=i+d→n≤i →
  Ev (fun k=>spec_UsedOf.l0 k (n:Int) (i:Int) xs fr) ((n+(xs.drop i).countP S94.f1:Nat):Int):=by
 have ok:=okS_true hr
 induction d with
 |zero =>
  intro i n hd hn;rw[List.drop_eq_nil_of_le (by omega)];refine Ev.step (f:=fun k=>spec_UsedOf.j1 k (n:Int) (i:Int) false xs fr) (fun k=>?_) (Ev.step (f:=fun _=>some ((n:Nat):Int)) (fun k=>?_) (Ev.now _))
  ·simp only [spec_UsedOf.l0];rw[if_neg (by omega)]
  ·simp only [spec_UsedOf.j1,Bool.false_eq_true,if_false]
 |succ d ih =>
  intro i n hd hn;have hi:i < xs.length:=by omega
  rw[List.drop_eq_getElem_cons hi,List.countP_cons];refine Ev.step (f:=fun k=>(spec_ArenaOk.f k xs fr).bind fun t772=>(spec_UsedOf.j1 k (n:Int) (i:Int) t772 xs fr)) (fun k=>by simp only [spec_UsedOf.l0];rw[if_pos (by omega)]) (Ev.bind (f:=fun k (t:Bool)=>spec_UsedOf.j1 k (n:Int) (i:Int) t xs fr) ok ?_)
  cases hu:xs[i].f1 with
  |true =>
   have:=ih (i+1) (n+1) (by omega) (by omega);rw[if_pos rfl,show n+(List.countP S94.f1 (List.drop (i+1) xs)+1)=n+1+List.countP S94.f1 (List.drop (i+1) xs) by omega];refine Ev.step (fun k=>?_) this;simp only [spec_UsedOf.j1,if_true];rw[if_pos (by omega),if_pos (by omega),rd_sl xs i hi,if_pos hu,w64 i (by omega),w64 n (by omega)]
  |false =>
   rw[if_neg (by simp),Nat.add_zero];refine Ev.step (fun k=>?_) (ih (i+1) n (by omega) (by omega));simp only [spec_UsedOf.j1,if_true];rw[if_pos (by omega),if_pos (by omega),rd_sl xs i hi,if_neg (by rw[hu];simp),w64 i (by omega)]
theorem usedS_ev {xs:List S94} {fr:Int} (hr:arR xs fr):Ev (fun k=>spec_UsedOf.f k xs fr) ((xs.countP S94.f1:Nat):Int):=by
 have hl:=hr.len;have:=usedS_loop hr (by omega) xs.length 0 0 (by omega) (by omega);rw[List.drop_zero,Nat.zero_add] at this;exact this
theorem lookS_ev {xs:List S94} {fr h:Int} (hr:arR xs fr) (hh:h≤9223372036854775807):Ev (fun k=>spec_Look.f k xs fr h) (match placeOf xs h with|some i=>((rd_T94 xs (i:Int)).f2,(rd_T94 xs (i:Int)).f3,true)|none=>((⟨#[]⟩:ByteArray),(⟨#[]⟩:ByteArray),false)):=by
 have hv:=atS_ev xs fr h hr hh;unfold spec_Look.f
 cases hp:placeOf xs h with
 |none =>
  rw[hp] at hv;replace hv:Ev (fun k=>spec_l03At.f k xs fr h) (-1):=hv;exact Ev.bind (f:=fun _ (t785:Int)=>(if t785 < 0 then (some ((⟨#[]⟩:ByteArray),(⟨#[]⟩:ByteArray),false)) else (if 0≤t785 then (if t785 < (xs.length:Int) then (some ((rd_T94 xs t785).f2,(rd_T94 xs t785).f3,true)) else (none)) else (none)))) hv (Ev.congr (fun k=>if_pos (by omega)) (Ev.now _))
 |some i =>
  rw[hp] at hv;replace hv:Ev (fun k=>spec_l03At.f k xs fr h) ((i:Nat):Int):=hv;obtain⟨x,hx,_⟩:=(placeOf_some hr).1 hp;have hi:=(List.getElem?_eq_some_iff.1 hx).1;exact Ev.bind (f:=fun _ (t785:Int)=>(if t785 < 0 then (some ((⟨#[]⟩:ByteArray),(⟨#[]⟩:ByteArray),false)) else (if 0≤t785 then (if t785 < (xs.length:Int) then (some ((rd_T94 xs t785).f2,(rd_T94 xs t785).f3,true)) else (none)) else (none)))) hv (Ev.congr (fun k=>by rw[if_neg (by omega),if_pos (by omega),if_pos (by omega)]) (Ev.now _))
theorem mosts_is (s:Nat) (h0:1≤s) (h:s≤1048576):spec_l08Mosts.f (s:Int)=some ((winN s:Int),(triN s:Int),(safN s:Int)):=by
 unfold spec_l08Mosts.f;have e1:wrap64 (Int.tdiv (s:Int) 4)=((s / 4:Nat):Int):=by rw[Int.tdiv_eq_ediv_of_nonneg (by omega)];unfold wrap64;omega
 rw[e1]
 by_cases c:s / 4 < 1
 ·rw[if_pos (by omega)]
  have e2:wrap64 ((s:Int) - 1)=((s - 1:Nat):Int):=by unfold wrap64;omega
  have e3:wrap64 (Int.tdiv ((s - 1:Nat):Int) 2)=(((s - 1) / 2:Nat):Int):=by rw[Int.tdiv_eq_ediv_of_nonneg (by omega)];unfold wrap64;omega
  rw[e2,e3];have hw:winN s=1:=if_pos c;have hsf:safN s=(s - 1) / 2:=by unfold safN;rw[hw]
  have ht:triN s=s - 1 - (s - 1) / 2:=by unfold triN;rw[hw,hsf]
  rw[hw,hsf,ht]
  congr 3
  unfold wrap64;omega
 ·rw[if_neg (by omega)]
  have hw:winN s=s / 4:=if_neg c;have e2:wrap64 ((s:Int) - ((s / 4:Nat):Int))=((s - s / 4:Nat):Int):=by unfold wrap64;omega
  have e3:wrap64 (Int.tdiv ((s - s / 4:Nat):Int) 2)=(((s - s / 4) / 2:Nat):Int):=by rw[Int.tdiv_eq_ediv_of_nonneg (by omega)];unfold wrap64;omega
  rw[e2,e3];have hsf:safN s=(s - s / 4) / 2:=by unfold safN;rw[hw]
  have ht:triN s=s - s / 4 - (s - s / 4) / 2:=by unfold triN;rw[hw,hsf]
  rw[hw,hsf,ht]
  congr 3
  unfold wrap64;omega
theorem mosts_ex (s:Nat) (h:s≤1048576):∃ a b c,spec_l08Mosts.f (s:Int)=some (a,b,c)∧(1≤s→a=(winN s:Int)∧b=(triN s:Int)∧c=(safN s:Int)):=by
 by_cases h0:1≤s
 ·exact⟨_,_,_,mosts_is s h0 h,fun _=>⟨rfl,rfl,rfl⟩⟩
 ·have:s=0:=by omega
  subst this;exact⟨1,-1,0,by decide +kernel,fun e=>absurd e h0⟩
theorem cells_all:∀ m:Fin 23,spec_l08Cells.f 20 ((m.1+2:Nat):Int)=some ((cellsN (m.1+2):Nat):Int):=by decide +kernel
theorem cellsS_is (s:Nat) (h1:2≤s) (h2:s≤24):spec_l08Cells.f 20 (s:Int)=some ((cellsN s:Nat):Int):=by
 have:=cells_all ⟨s - 2,by omega⟩
 simpa only [show s - 2+2=s by omega] using this
end Go.Proofs.YtediiolcoilepaaGreat.Nb
