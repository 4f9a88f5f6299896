/- Walks of callees. -/
import Derived.Test.YtediiolcoilepaaGreatNbA
import Derived.Test.YtediiolcoilepaaGreatGNear4
import Derived.Test.YtediiolcoilepaaGreatGNear5
import Derived.Test.YtediiolcoilepaaGreatGNear6
import Derived.Test.YtediiolcoilepaaGreatGNear8
import Derived.BigRegion
namespace Go.Proofs.YtediiolcoilepaaGreat.Nb
set_option maxHeartbeats 8000000
set_option maxRecDepth 100000
open Go.RowKit Go.Proofs.YtediiolcoilepaaGreat.GNear Go.Proofs.YtediiolcoilepaaGreatW.PrintWords Go.Proofs.YtediiolcoilepaaGreatW.PrintLast Go.Proofs.YtediiolcoilepaaGreatW.PrintMore
set_option linter.unusedVariables false
set_option linter.unusedSimpArgs false
theorem w64 (i:Nat) (h:(i:Int) < 9223372036854775807):wrap64 ((i:Int)+1)=((i+1:Nat):Int):=by unfold wrap64;omega
theorem set_take {α:Type} (x:List α) (i:Nat) (v:α) (h:i < x.length):(x.set i v).take (i+1)=x.take i ++ [v]:=by
 rw[List.take_add_one,List.take_set_of_le (Nat.le_refl i),List.getElem?_set_self h];rfl
theorem take_next {α:Type} (x:List α) (i:Nat) (h:i < x.length):x.take (i+1)=x.take i ++ [x[i]]:=by
 rw[List.take_add_one,List.getElem?_eq_getElem h];rfl
theorem rd_at (x:List Int) (i:Nat) (h:i < x.length):rd x (i:Int)=x[i]:=by
 unfold rd;rw[List.getD_eq_getElem?_getD,Int.toNat_natCast,List.getElem?_eq_getElem h];rfl
theorem str_eq {s t:ByteArray}:s.toList=t.toList ↔ s=t :=
 ⟨fun h=>Go.WideShapes.bytes_inj (by rw[← ByteArray.toList_eq,← ByteArray.toList_eq];exact h),fun h=>by rw[h]⟩
noncomputable abbrev decMem (s:ByteArray) (l:List ByteArray):Decidable (s ∈ l):=Classical.propDecidable _
attribute [local instance] decMem
theorem rdS_at (x:List ByteArray) (i:Nat) (h:i < x.length):rdOf ByteArray.empty x (i:Int)=x[i]:=by
 unfold rdOf;rw[List.getD_eq_getElem?_getD,Int.toNat_natCast,List.getElem?_eq_getElem h];rfl
theorem empty_iff (s:ByteArray):s.toList=([]:List UInt8) ↔ s.size=0:=by
 constructor
 ·intro h
  have:=str_eq.1 (h.trans (show([]:List UInt8)=(⟨#[]⟩:ByteArray).toList from by rw[ByteArray.toList_eq]));rw[this];rfl
 ·intro h
  have:s=(⟨#[]⟩:ByteArray):=by
   apply ByteArray.ext;exact Array.eq_empty_of_size_eq_zero h
  rw[this,ByteArray.toList_eq]
theorem rd_sl (x:List S94) (i:Nat) (h:i < x.length):rd_T94 x (i:Int)=x[i]:=by
 unfold rd_T94;rw[List.getD_eq_getElem?_getD,Int.toNat_natCast,List.getElem?_eq_getElem h];rfl
theorem rd_ce (x:List S151) (i:Nat) (h:i < x.length):rd_T151 x (i:Int)=x[i]:=by
 unfold rd_T151;rw[List.getD_eq_getElem?_getD,Int.toNat_natCast,List.getElem?_eq_getElem h];rfl
theorem rangeI (a b c:Int):impl_inRange.f a b c=some (decide (b≤a∧a≤c)):=by
 unfold impl_inRange.f
 by_cases h:a ≥ b
 ·rw[if_pos h];congr 1;rw[Bool.eq_iff_iff];simp;omega
 ·rw[if_neg h];congr 1;rw[Bool.eq_iff_iff];simp;omega
theorem keyI (s:ByteArray):impl_isKey.f s=some (decide (1≤(s.size:Int)∧(s.size:Int)≤12)):=by unfold impl_isKey.f;rw[rangeI];rfl
theorem rangeS (a b c:Int):spec_l01In.f a b c=some (decide (b≤a∧a≤c)):=by
 unfold spec_l01In.f
 by_cases h:a ≥ b
 ·rw[if_pos h];congr 1;rw[Bool.eq_iff_iff];simp;omega
 ·rw[if_neg h];congr 1;rw[Bool.eq_iff_iff];simp;omega
namespace AM
variable {α:Type} (G:α→Int) (U:α→Bool) (K V:α→ByteArray) (N:α→Int)
def Path (xs:List α):Int→List Nat→Prop
 |p,[]=>p = -1
 |p,i :: l=>p=(i:Int)∧∃ x,xs[i]? = some x∧U x=false∧Path xs (N x) l
theorem Path.det {xs:List α}:∀ {l l':List Nat} {p:Int},Path U N xs p l→Path U N xs p l'→l=l'
 |[],[],_,_,_=>rfl
 |[],i :: l,p,h,h'=>by have h1:=h'.1;have h2:p = -1:=h;omega
 |i :: l,[],p,h,h'=>by have h1:=h.1;have h2:p = -1:=h';omega
 |i :: l,j :: l',p,h,h'=>by
  obtain⟨h1,x,hx,_,hp⟩:=h;obtain⟨h1',x',hx',_,hp'⟩:=h';have e:i=j:=by omega
  subst e;rw[hx] at hx';obtain rfl:=Option.some.inj hx';rw[hp.det hp']
theorem Path.suffix {xs:List α}:∀ {l:List Nat} {p:Int} {i:Nat},Path U N xs p l→i ∈ l→∃ t,Path U N xs (i:Int) (i :: t)∧(i :: t).length≤l.length
 |j :: l,p,i,h,hi=>by
  rcases List.mem_cons.1 hi with e|hi
  ·subst e
   have h1:=h.1;exact⟨l,by rw[← h1];exact h,Nat.le_refl _⟩
  ·obtain⟨_,x,_,_,hp⟩:=h
   obtain⟨t,ht,hle⟩:=hp.suffix hi;exact⟨t,ht,by simp only [List.length_cons] at hle ⊢;omega⟩
theorem Path.nodup {xs:List α}:∀ {l:List Nat} {p:Int},Path U N xs p l→l.Nodup
 |[],_,_=>List.nodup_nil
 |i :: l,p,h=>by
  have h0:=h;obtain⟨h1,x,hx,hu,hp⟩:=h;refine List.nodup_cons.2 ⟨fun hi=>?_,hp.nodup⟩;obtain⟨t,ht,hle⟩:=hp.suffix U N hi;rw[h1] at h0;have:=h0.det U N ht;rw[← this] at hle;simp only [List.length_cons] at hle;omega
theorem Path.mem {xs:List α}:∀ {l:List Nat} {p:Int},Path U N xs p l→∀ i ∈ l,∃ x,xs[i]? = some x∧U x=false
 |j :: l,p,h,i,hi=>by
  obtain⟨_,x,hx,hu,hp⟩:=h;rcases List.mem_cons.1 hi with e|hi
  ·subst e;exact⟨x,hx,hu⟩
  ·exact hp.mem i hi
def slotR (x:α):Prop:=0≤G x∧G x≤41666665∧(U x=true→1≤(K x).size∧(K x).size≤12∧(V x).size≤20∧N x=0)∧(U x=false→(K x).size=0∧(V x).size=0)
structure Right (xs:List α) (free:Int):Prop where
 len:1≤xs.length∧xs.length≤24
 slots:∀ x ∈ xs,slotR G U K V N x
 path:∃ l,Path U N xs free l∧∀ i x,xs[i]? = some x→U x=false→i ∈ l
def chainF (xs:List α):Nat→Int→Option Nat
 |0,p=>if p = -1 then some 0 else none
 |d+1,p=>if p = -1 then some 0 else if 0≤p then (match xs[p.toNat]? with
  |none=>none
  |some x=>if U x then none else (chainF xs d (N x)).map (·+1)) else none
theorem chainF_iff {xs:List α}:∀ {d n:Nat} {p:Int},chainF U N xs d p=some n ↔ ∃ l,Path U N xs p l∧l.length=n∧n≤d
 |0,n,p=>by
  simp only [chainF];constructor
  ·intro h
   by_cases c:p = -1
   ·rw[if_pos c] at h
    obtain rfl:=Option.some.inj h;exact⟨[],c,rfl,Nat.le_refl _⟩
   ·rw[if_neg c] at h;cases h
  ·rintro ⟨l,hp,rfl,hl⟩
   obtain rfl:=List.eq_nil_of_length_eq_zero (Nat.le_zero.1 hl);rw[if_pos (show p = -1 from hp)];rfl
 |d+1,n,p=>by
  simp only [chainF]
  by_cases c:p = -1
  ·rw[if_pos c]
   constructor
   ·intro h
    obtain rfl:=Option.some.inj h;exact⟨[],c,rfl,Nat.zero_le _⟩
   ·rintro ⟨l,hp,rfl,hl⟩
    cases l with
    |nil=>rfl
    |cons i l=>have:=hp.1;omega
  ·rw[if_neg c]
   by_cases c0:0≤p
   ·rw[if_pos c0]
    cases hx:xs[p.toNat]? with
    |none =>
     simp only;constructor
     ·intro h;cases h
     ·rintro ⟨l,hp,rfl,hl⟩
      cases l with
      |nil=>exact absurd hp c
      |cons i l =>
       obtain⟨e,x,h1,_⟩:=hp;rw[e,Int.toNat_natCast,h1] at hx;cases hx
    |some x =>
     simp only
     cases hu:U x with
     |true =>
      simp only [if_true];constructor
      ·intro h;cases h
      ·rintro ⟨l,hp,rfl,hl⟩
       cases l with
       |nil=>exact absurd hp c
       |cons i l =>
        obtain⟨e,x',h1,h2,_⟩:=hp;rw[e,Int.toNat_natCast,h1] at hx;rw[Option.some.inj hx,hu] at h2;cases h2
     |false =>
      simp only [Bool.false_eq_true,if_false];constructor
      ·intro h
       obtain⟨m,hm,rfl⟩:=Option.map_eq_some_iff.1 h;obtain⟨l,hp,hl,hle⟩:=chainF_iff.1 hm;exact⟨p.toNat :: l,⟨by omega,x,hx,hu,hp⟩,by simp[hl],by omega⟩
      ·rintro ⟨l,hp,rfl,hl⟩
       cases l with
       |nil=>exact absurd hp c
       |cons i l =>
        obtain⟨e,x',h1,h2,h3⟩:=hp;rw[e,Int.toNat_natCast,h1] at hx;obtain rfl:=Option.some.inj hx;exact Option.map_eq_some_iff.2 ⟨l.length,chainF_iff.2 ⟨l,h3,rfl,by simp only [List.length_cons] at hl;omega⟩,rfl⟩
   ·rw[if_neg c0]
    constructor
    ·intro h;cases h
    ·rintro ⟨l,hp,rfl,hl⟩
     cases l with
     |nil=>exact absurd hp c
     |cons i l=>have:=hp.1;omega
theorem nodup_le {l m:List Nat} (hl:l.Nodup) (hs:∀ i ∈ l,i ∈ m):l.length≤m.length:=by
 induction l generalizing m with
 |nil=>simp
 |cons a l ih =>
  obtain⟨ha,hl⟩:=List.nodup_cons.1 hl;have h:=ih (m:=m.erase a) hl (fun j hj=>(List.mem_erase_of_ne (fun e=>ha (by rw[← e];exact hj))).2 (hs j (List.mem_cons_of_mem _ hj)));have h1:=List.length_erase_of_mem (hs a (by simp));have h2:0 < m.length:=List.length_pos_of_mem (hs a (by simp));simp only [List.length_cons];omega
theorem all_of_length {l m:List Nat} (hl:l.Nodup) (hs:∀ i ∈ l,i ∈ m) (hlen:m.length≤l.length):∀ i ∈ m,i ∈ l:=by
 intro i hi
 by_cases h:i ∈ l
 ·exact h
 ·have h1:=nodup_le (l:=i :: l) (m:=m) (List.nodup_cons.2 ⟨h,hl⟩) (fun j hj=>(List.mem_cons.1 hj).elim (fun e=>e ▸ hi) (hs j))
  simp only [List.length_cons] at h1;omega
def freeAt (xs:List α):List Nat:=(List.range xs.length).filter fun i=>(xs[i]?.map fun x=>!U x).getD false
theorem freeAt_mem {xs:List α} {i:Nat}:i ∈ freeAt U xs ↔ ∃ x,xs[i]? = some x∧U x=false:=by
 unfold freeAt;rw[List.mem_filter,List.mem_range];constructor
 ·rintro ⟨h,hu⟩
  rw[List.getElem?_eq_getElem h] at hu;exact⟨xs[i],List.getElem?_eq_getElem h,by simpa using hu⟩
 ·rintro ⟨x,hx,hu⟩
  refine⟨(List.getElem?_eq_some_iff.1 hx).1,?_⟩;rw[hx];simp[hu]
theorem freeAt_nodup {xs:List α}:(freeAt U xs).Nodup:=(List.nodup_range (n:=xs.length)).sublist List.filter_sublist
theorem freeAt_length (xs:List α):(freeAt U xs).length+xs.countP U=xs.length:=by
 unfold freeAt;have h:((List.range xs.length).filter fun i=>(xs[i]?.map fun x=>!U x).getD false).length=xs.countP (fun x=>!U x):=by
  rw[← List.countP_eq_length_filter];have e:xs.countP (fun x=>!U x)=((List.range xs.length).map fun i=>xs[i]?).countP (fun o=>(o.map fun x=>!U x).getD false):=by
   have:((List.range xs.length).map fun i=>xs[i]?)=xs.map some:=by
    apply List.ext_getElem
    ·simp
    ·intro i h1 h2
     simp at h1;simp[h1]
   rw[this,List.countP_map];rfl
  rw[e,List.countP_map];rfl
 rw[h];have:=List.length_eq_countP_add_countP U (l:=xs);have e:xs.countP (fun x=>!U x)=xs.countP (fun x=>decide ¬ U x=true):=by congr 1;funext x;cases U x <;> rfl
 rw[e];omega
theorem Path.length_le {xs:List α} {l:List Nat} {p:Int} (h:Path U N xs p l):l.length≤xs.length - xs.countP U:=by
 have h1:l.length≤(freeAt U xs).length:=nodup_le (h.nodup U N) fun i hi=>(freeAt_mem U).2 (h.mem U N i hi);have:=freeAt_length U xs;omega
theorem Path.all_iff {xs:List α} {l:List Nat} {p:Int} (h:Path U N xs p l):(l.length+xs.countP U=xs.length) ↔ ∀ i x,xs[i]? = some x→U x=false→i ∈ l:=by
 have hf:=freeAt_length U xs;constructor
 ·intro e i x hx hu
  exact all_of_length (m:=freeAt U xs) (h.nodup U N) (fun j hj=>(freeAt_mem U).2 (h.mem U N j hj)) (by omega) i ((freeAt_mem U).2 ⟨x,hx,hu⟩)
 ·intro hall
  have h1:=h.length_le U N;have h2:(freeAt U xs).length≤l.length:=nodup_le (freeAt_nodup U) fun i hi=>by obtain⟨x,hx,hu⟩:=(freeAt_mem U).1 hi;exact hall i x hx hu
  have:=List.countP_le_length (p:=U) (l:=xs);omega
end AM
abbrev slR:S94→Prop:=AM.slotR S94.f0 S94.f1 S94.f2 S94.f3 S94.f4
abbrev arR:List S94→Int→Prop:=AM.Right S94.f0 S94.f1 S94.f2 S94.f3 S94.f4
theorem slotI (x:S94):∃ b,impl_slotOk.f x.f0 x.f1 x.f2 x.f3 x.f4=some b∧(b=true ↔ slR x):=by
 unfold impl_slotOk.f slR AM.slotR;rw[rangeI];simp only [Option.bind_some]
 by_cases h1:0≤x.f0∧x.f0≤41666665
 ·rw[if_pos (decide_eq_true h1),keyI]
  simp only [Option.bind_some]
  cases hu:x.f1 with
  |true =>
   simp only [if_true]
   by_cases h2:1≤(x.f2.size:Int)∧(x.f2.size:Int)≤12
   ·rw[if_pos (decide_eq_true h2)]
    by_cases h3:(x.f3.size:Int)≤20
    ·rw[if_pos h3]
     exact⟨_,rfl,by simp;omega⟩
    ·rw[if_neg h3]
     exact⟨_,rfl,by simp;omega⟩
   ·rw[if_neg (show ¬ decide (1≤(x.f2.size:Int)∧(x.f2.size:Int)≤12)=true from fun e=>h2 (of_decide_eq_true e))]
    exact⟨_,rfl,by simp;omega⟩
  |false =>
   simp only [Bool.false_eq_true,if_false]
   by_cases h2:x.f2.toList=([]:List UInt8)
   ·rw[if_pos h2]
    refine⟨_,rfl,?_⟩;rw[beq_iff_eq,empty_iff];exact⟨fun h=>⟨h1.1,h1.2,fun e=>by simp at e,fun _=>⟨(empty_iff _).1 h2,h⟩⟩,fun h=>(h.2.2.2 trivial).2⟩
   ·rw[if_neg h2]
    exact⟨_,rfl,by simp,fun h=>absurd ((empty_iff _).2 (h.2.2.2 trivial).1) h2⟩
 ·rw[if_neg (show ¬ decide (0≤x.f0∧x.f0≤41666665)=true from fun e=>h1 (of_decide_eq_true e))]
  exact⟨_,rfl,by simp;omega⟩
def chainV (n:Nat):Option Nat→Int
 |none=>-1
 |some m=>((n+m:Nat):Int)
theorem chainI (xs:List S94) (fr:Int) (hl:xs.length≤1048576) (d:Nat):∀ (n:Nat) (p:Int),n+d=xs.length →
  Ev (fun k=>impl_Arena_chain.l0 k (n:Int) p xs fr) (chainV n (AM.chainF S94.f1 S94.f4 xs d p)):=by
 induction d with
 |zero =>
  intro n p hd;simp only [AM.chainF]
  by_cases c:p = -1
  ·rw[if_pos c]
   refine Ev.step (f:=fun _=>some ((n:Int))) (fun k=>?_) (Ev.now _);simp only [impl_Arena_chain.l0];rw[if_pos c]
  ·rw[if_neg c]
   refine Ev.step (f:=fun _=>some (-1)) (fun k=>?_) (Ev.now _);simp only [impl_Arena_chain.l0];rw[if_neg c,rangeI];simp only [Option.bind_some];have ew:wrap64 ((xs.length:Int) - 1)=(xs.length:Int) - 1:=by unfold wrap64;omega
   rw[ew]
   by_cases c2:0≤p∧p≤(xs.length:Int) - 1
   ·rw[if_pos (decide_eq_true c2),if_pos c2.1,if_pos (by omega)]
    split
    ·rfl
    ·rw[if_pos (by omega)]
   ·rw[if_neg (show ¬ decide (0≤p∧p≤(xs.length:Int) - 1)=true from fun e=>c2 (of_decide_eq_true e))]
 |succ d ih =>
  intro n p hd;simp only [AM.chainF]
  by_cases c:p = -1
  ·rw[if_pos c]
   refine Ev.step (f:=fun _=>some ((n:Int))) (fun k=>?_) (Ev.now _);simp only [impl_Arena_chain.l0];rw[if_pos c]
  ·rw[if_neg c]
   have ew:wrap64 ((xs.length:Int) - 1)=(xs.length:Int) - 1:=by unfold wrap64;omega
   by_cases c2:0≤p∧p≤(xs.length:Int) - 1
   ·obtain⟨q,rfl⟩:=Int.eq_ofNat_of_zero_le c2.1
    have hq:q < xs.length:=by omega
    rw[if_pos c2.1,Int.toNat_natCast,List.getElem?_eq_getElem hq];simp only
    cases hu:xs[q].f1 with
    |true =>
     simp only [if_true];refine Ev.step (f:=fun _=>some (-1)) (fun k=>?_) (Ev.now _);simp only [impl_Arena_chain.l0];rw[if_neg c,rangeI];simp only [Option.bind_some];rw[ew,if_pos (decide_eq_true c2),if_pos c2.1,if_pos (by omega),rd_sl xs q hq,hu];simp
    |false =>
     simp only [Bool.false_eq_true,if_false];have:=ih (n+1) xs[q].f4 (by omega);refine Ev.step (f:=fun k=>impl_Arena_chain.l0 k ((n+1:Nat):Int) xs[q].f4 xs fr) (fun k=>?_) (Ev.congr (fun k=>rfl) (by
      cases hc:AM.chainF S94.f1 S94.f4 xs d xs[q].f4 with
      |none=>rw[hc] at this;exact this
      |some m=>rw[hc] at this;simpa [chainV,Nat.add_assoc,Nat.add_comm,Nat.add_left_comm] using this))
     simp only [impl_Arena_chain.l0];rw[if_neg c,rangeI];simp only [Option.bind_some];rw[ew,if_pos (decide_eq_true c2),if_pos c2.1,if_pos (by omega),rd_sl xs q hq,hu];simp only [Bool.false_eq_true,if_false];rw[if_neg (by omega),w64 n (by omega)]
   ·have fin:Ev (fun k=>impl_Arena_chain.l0 k (n:Int) p xs fr) (-1):=by
     refine Ev.step (f:=fun _=>some (-1)) (fun k=>?_) (Ev.now _);simp only [impl_Arena_chain.l0];rw[if_neg c,rangeI];simp only [Option.bind_some];rw[ew,if_neg (show ¬ decide (0≤p∧p≤(xs.length:Int) - 1)=true from fun e=>c2 (of_decide_eq_true e))]
    by_cases c3:0≤p
    ·rw[if_pos c3,List.getElem?_eq_none (by omega)];exact fin
    ·rw[if_neg c3];exact fin
theorem usedI_loop (xs:List S94) (hl:xs.length≤1048576) (d:Nat):∀ (i n:Nat),xs.length=i+d→n≤i →
  Ev (fun k=>impl_Arena_used.l0 k (n:Int) xs (xs.length:Int) (i:Int)) ((n+(xs.drop i).countP S94.f1:Nat):Int):=by
 induction d with
 |zero =>
  intro i n hd hn;rw[List.drop_eq_nil_of_le (by omega)];refine Ev.step (f:=fun _=>some ((n:Nat):Int)) (fun k=>?_) (Ev.now _);simp only [impl_Arena_used.l0];rw[if_neg (by omega)]
 |succ d ih =>
  intro i n hd hn;have hi:i < xs.length:=by omega
  rw[List.drop_eq_getElem_cons hi,List.countP_cons]
  cases hu:xs[i].f1 with
  |true =>
   simp only [if_true];have:=ih (i+1) (n+1) (by omega) (by omega);rw[show n+(List.countP S94.f1 (List.drop (i+1) xs)+1)=n+1+List.countP S94.f1 (List.drop (i+1) xs) by omega];refine Ev.step (fun k=>?_) this;simp only [impl_Arena_used.l0];rw[if_pos (by omega),if_pos (by omega),if_pos (by omega),rd_sl xs i hi,hu,w64 i (by omega),w64 n (by omega)];simp
  |false =>
   simp only [Bool.false_eq_true,if_false,Nat.add_zero];refine Ev.step (fun k=>?_) (ih (i+1) n (by omega) (by omega));simp only [impl_Arena_used.l0];rw[if_pos (by omega),if_pos (by omega),if_pos (by omega),rd_sl xs i hi,hu,w64 i (by omega)];simp
theorem usedI_ev (xs:List S94) (fr:Int) (hl:xs.length≤1048576):Ev (fun k=>impl_Arena_used.f k xs fr) ((xs.countP S94.f1:Nat):Int):=by
 have:=usedI_loop xs hl xs.length 0 0 (by omega) (by omega);rw[List.drop_zero,Nat.zero_add] at this;exact this
theorem chain_right (xs:List S94) (fr:Int):chainV 0 (AM.chainF S94.f1 S94.f4 xs xs.length fr)=(xs.length:Int) - (xs.countP S94.f1:Int) ↔
  ∃ l,AM.Path S94.f1 S94.f4 xs fr l∧∀ i x,xs[i]? = some x→S94.f1 x=false→i ∈ l:=by
 have hc:=List.countP_le_length (p:=S94.f1) (l:=xs);constructor
 ·intro h
  cases hm:AM.chainF S94.f1 S94.f4 xs xs.length fr with
  |none=>rw[hm] at h;simp only [chainV] at h;omega
  |some m =>
   rw[hm] at h;simp only [chainV,Nat.zero_add] at h;obtain⟨l,hp,hl,_⟩:=(AM.chainF_iff S94.f1 S94.f4).1 hm;exact⟨l,hp,(hp.all_iff S94.f1 S94.f4).1 (by omega)⟩
 ·rintro ⟨l,hp,ha⟩
  have hl:=(hp.all_iff S94.f1 S94.f4).2 ha;have hm:=(AM.chainF_iff S94.f1 S94.f4 (d:=xs.length) (n:=l.length)).2 ⟨l,hp,rfl,by omega⟩;rw[hm];simp only [chainV,Nat.zero_add];omega
theorem arenaI_loop (xs:List S94) (fr:Int) (hl:xs.length≤1048576) (d:Nat):∀ (i:Nat),xs.length=i+d →
  ∃ b,Ev (fun k=>impl_ArenaOk.l0 k xs (xs.length:Int) (i:Int) xs fr) b∧(b=true ↔ (∀ x ∈ xs.drop i,slR x)∧(1≤xs.length∧xs.length≤24)∧∃ l,AM.Path S94.f1 S94.f4 xs fr l∧∀ i x,xs[i]? = some x→S94.f1 x=false→i ∈ l):=by
 induction d with
 |zero =>
  intro i hd;rw[List.drop_eq_nil_of_le (by omega)];have hch:=chainI xs fr hl xs.length 0 fr (by omega);have hus:=usedI_ev xs fr hl;have hc:=List.countP_le_length (p:=S94.f1) (l:=xs)
  by_cases h:1≤(xs.length:Int)∧(xs.length:Int)≤24
  ·refine⟨(chainV 0 (AM.chainF S94.f1 S94.f4 xs xs.length fr) == (xs.length:Int) - (xs.countP S94.f1:Int)),?_,?_⟩
   ·refine Ev.step (f:=fun k=>(impl_Arena_chain.f k xs fr).bind fun t255=>((impl_Arena_used.f k xs fr).bind fun t256=>(some (t255 == (wrap64 ((xs.length:Int) - t256)))))) (fun k=>?_) ?_
    ·simp only [impl_ArenaOk.l0]
     rw[if_neg (by omega),rangeI];simp only [Option.bind_some];rw[if_pos (decide_eq_true h)]
    ·refine Ev.bind (Ev.congr (fun k=>rfl) hch) (Ev.bind hus ?_)
     rw[show wrap64 ((xs.length:Int) - ((xs.countP S94.f1:Nat):Int))=(xs.length:Int) - (xs.countP S94.f1:Int) by unfold wrap64;omega];exact Ev.now _
   ·rw[beq_iff_eq,chain_right]
    simp only [List.not_mem_nil,false_imp_iff,implies_true,true_and];exact⟨fun h2=>⟨by omega,h2⟩,fun h2=>h2.2⟩
  ·refine⟨false,?_,?_⟩
   ·refine Ev.step (f:=fun _=>some false) (fun k=>?_) (Ev.now _)
    simp only [impl_ArenaOk.l0];rw[if_neg (by omega),rangeI];simp only [Option.bind_some];rw[if_neg (show ¬ decide (1≤(xs.length:Int)∧(xs.length:Int)≤24)=true from fun e=>h (of_decide_eq_true e))]
   ·simp only [Bool.false_eq_true,false_iff]
    rintro ⟨_,h2,_⟩;omega
 |succ d ih =>
  intro i hd;have hi:i < xs.length:=by omega
  obtain⟨b,hb,hq⟩:=ih (i+1) (by omega);obtain⟨s,hs,hsq⟩:=slotI xs[i];rw[List.drop_eq_getElem_cons hi]
  cases s with
  |true =>
   refine⟨b,Ev.step (fun k=>?_) hb,?_⟩
   ·simp only [impl_ArenaOk.l0]
    rw[if_pos (by omega),if_pos (by omega),if_pos (by omega),rd_sl xs i hi,hs,w64 i (by omega)];simp
   ·rw[hq]
    simp only [List.mem_cons,forall_eq_or_imp];exact⟨fun h=>⟨⟨hsq.1 rfl,h.1⟩,h.2⟩,fun h=>⟨h.1.2,h.2⟩⟩
  |false =>
   refine⟨false,Ev.step (f:=fun _=>some false) (fun k=>?_) (Ev.now _),?_⟩
   ·simp only [impl_ArenaOk.l0]
    rw[if_pos (by omega),if_pos (by omega),if_pos (by omega),rd_sl xs i hi,hs];simp
   ·simp only [Bool.false_eq_true,false_iff,List.mem_cons,forall_eq_or_imp]
    rintro ⟨⟨h,_⟩,_⟩;exact absurd (hsq.2 h) (by simp)
theorem arenaI_ev (xs:List S94) (fr:Int) (hl:xs.length≤1048576):∃ b,Ev (fun k=>impl_ArenaOk.f k xs fr) b∧(b=true ↔ arR xs fr):=by
 obtain⟨b,hb,hq⟩:=arenaI_loop xs fr hl xs.length 0 (by omega);refine⟨b,hb,hq.trans ?_⟩;rw[List.drop_zero];exact⟨fun h=>⟨h.2.1,h.1,h.2.2⟩,fun h=>⟨h.slots,h.len,h.path⟩⟩
def fi:List ByteArray→ByteArray→Nat→Int
 |[],_,_=>-1
 |a :: l,s,i=>if s=a then (i:Int) else fi l s (i+1)
theorem fi_neg (l:List ByteArray) (s:ByteArray):∀ i,s ∉ l→fi l s i = -1:=by
 induction l with
 |nil=>intro i _;rfl
 |cons a l ih =>
  intro i h;have h1:s ≠ a:=fun e=>h (by rw[e];exact List.mem_cons_self);unfold fi;rw[if_neg h1];exact ih _ (fun h'=>h (List.mem_cons_of_mem _ h'))
theorem fi_pos (l:List ByteArray) (s:ByteArray):∀ i,s ∈ l→∃ j,∃ h:j < l.length,l[j]=s∧s ∉ l.take j∧fi l s i=((i+j:Nat):Int):=by
 induction l with
 |nil=>intro i h;cases h
 |cons a l ih =>
  intro i h;unfold fi
  by_cases c:s=a
  ·rw[if_pos c]
   exact⟨0,by simp,by simp[c],by simp,rfl⟩
  ·rw[if_neg c]
   have h':s ∈ l:=by
    rcases List.mem_cons.1 h with h|h
    ·exact absurd h c
    ·exact h
   obtain⟨j,hj,e1,e2,e3⟩:=ih (i+1) h';refine⟨j+1,by simpa using hj,by simpa using e1,?_,by rw[e3];congr 1;omega⟩;rw[List.take_succ_cons];intro hm
   rcases List.mem_cons.1 hm with h|h
   ·exact c h
   ·exact e2 h
theorem drop_next {α:Type} (x:List α) (i:Nat) (h:i < x.length):x.drop i=x[i] :: x.drop (i+1):=List.drop_eq_getElem_cons h
theorem index_loop (l:List ByteArray) (s:ByteArray) (hl:l.length≤1048576) (d:Nat):∀ (i:Nat),l.length=i+d→Ev (fun k=>slices_Index_string_string.l0 k l s (l.length:Int) (i:Int)) (fi (l.drop i) s i):=by
 induction d with
 |zero =>
  intro i hd;rw[List.drop_eq_nil_of_le (by omega)];refine Ev.step (f:=fun _=>some (-1)) (fun k=>?_) (Ev.now _);simp only [slices_Index_string_string.l0];rw[if_neg (by omega)]
 |succ d ih =>
  intro i hd;have hi:i < l.length:=by omega
  rw[drop_next l i hi];unfold fi
  by_cases c:s=l[i]
  ·rw[if_pos c]
   refine Ev.step (f:=fun _=>some (i:Int)) (fun k=>?_) (Ev.now _);simp only [slices_Index_string_string.l0,rdS_at l i hi];rw[if_pos (by omega),if_pos (by omega),if_pos (by omega),if_pos (str_eq.2 c)]
  ·rw[if_neg c]
   refine Ev.step (fun k=>?_) (ih (i+1) (by omega));simp only [slices_Index_string_string.l0,rdS_at l i hi];rw[if_pos (by omega),if_pos (by omega),if_pos (by omega),if_neg (fun h=>c (str_eq.1 h)),w64 i (by omega)]
theorem index_ev (l:List ByteArray) (s:ByteArray) (hl:l.length≤1048576):Ev (fun k=>slices_Index_string_string.f k l s) (fi l s 0):=index_loop l s hl l.length 0 (by omega)
def isK (s:ByteArray):Prop:=1≤s.size∧s.size≤12
def okFrom (l:List ByteArray) (i:Nat):Prop:=∀ j,i≤j→∀ h:j < l.length,isK l[j]∧l[j] ∉ l.take j
def okQ (m:Int) (l:List ByteArray):Prop:=0≤m∧m≤24∧(l.length:Int)≤m∧okFrom l 0
theorem okFrom_step {l:List ByteArray} {i:Nat} (hi:i < l.length):okFrom l i ↔ (isK l[i]∧l[i] ∉ l.take i)∧okFrom l (i+1):=by
 constructor
 ·intro h
  exact⟨h i (Nat.le_refl _) hi,fun j hj hl=>h j (by omega) hl⟩
 ·rintro ⟨h1,h2⟩ j hj hl
  by_cases e:i=j
  ·subst e;exact h1
  ·exact h2 j (by omega) hl
theorem okFrom_end {l:List ByteArray} {i:Nat} (hi:l.length≤i):okFrom l i:=fun j hj hl=>absurd hl (by omega)
theorem fi_self (l:List ByteArray) (j:Nat) (h:j < l.length):fi l l[j] 0=(j:Int) ↔ l[j] ∉ l.take j:=by
 obtain⟨i,hi,e1,e2,e3⟩:=fi_pos l l[j] 0 (List.getElem_mem h);rw[e3];constructor
 ·intro e
  have:i=j:=by omega
  subst this;exact e2
 ·intro hn
  rcases Nat.lt_trichotomy i j with c|c|c
  ·exact absurd (List.mem_take_iff_getElem.2 ⟨i,by omega,e1⟩) hn
  ·subst c;simp
  ·exact absurd (List.mem_take_iff_getElem.2 ⟨j,by omega,rfl⟩) e2
theorem okI_loop (m:Int) (l:List ByteArray) (hl:l.length≤1048576) (d:Nat):∀ (i:Nat),l.length=i+d →
  ∃ b:Bool,Ev (fun k=>impl_QueueOk.l0 k l (l.length:Int) (i:Int) m l) b∧(b=true ↔ (0≤m∧m≤24∧(l.length:Int)≤m∧okFrom l i)):=by
 induction d with
 |zero =>
  intro i hd;have ho:okFrom l i:=okFrom_end (by omega)
  by_cases c:0≤m∧m≤24
  ·refine⟨decide ((l.length:Int)≤m),Ev.step (f:=fun _=>some (decide ((l.length:Int)≤m))) (fun k=>?_) (Ev.now _),by simp[c,ho]⟩
   simp only [impl_QueueOk.l0,rangeI,decide_eq_true c,Option.bind_some];rw[if_neg (by omega)];simp only [if_true]
  ·refine⟨false,Ev.step (f:=fun _=>some false) (fun k=>?_) (Ev.now _),?_⟩
   ·simp only [impl_QueueOk.l0,rangeI,decide_eq_false c,Option.bind_some]
    rw[if_neg (by omega)];simp
   ·simp only [Bool.false_eq_true,false_iff]
    rintro ⟨h1,h2,_⟩;exact c ⟨h1,h2⟩
 |succ d ih =>
  intro i hd;have hi:i < l.length:=by omega
  obtain⟨b,hb,hq⟩:=ih (i+1) (by omega);have hx:=index_ev l l[i] hl
  by_cases c:isK l[i]
  ·have ck:decide (1≤((l[i].size:Nat):Int)∧((l[i].size:Nat):Int)≤12)=true:=decide_eq_true (by unfold isK at c;omega)
   by_cases c2:l[i] ∉ l.take i
   ·refine⟨b,Ev.step (f:=fun k=>(slices_Index_string_string.f k l l[i]).bind fun t132=>(if t132=(i:Int) then (impl_QueueOk.l0 k l (l.length:Int) (wrap64 ((i:Int)+1)) m l) else (some false))) (fun k=>?_) (Ev.bind hx ?_),?_⟩
    ·simp only [impl_QueueOk.l0,rdS_at l i hi,keyI,ck,Option.bind_some]
     rw[if_pos (by omega),if_pos (by omega),if_pos (by omega)];simp only [if_true]
    ·simp only [if_pos ((fi_self l i hi).2 c2),w64 i (by omega)]
     exact hb
    ·rw[hq,okFrom_step hi]
     simp only [c,c2,not_false_eq_true,and_self,true_and]
   ·refine⟨false,Ev.step (f:=fun k=>(slices_Index_string_string.f k l l[i]).bind fun t132=>(if t132=(i:Int) then (impl_QueueOk.l0 k l (l.length:Int) (wrap64 ((i:Int)+1)) m l) else (some false))) (fun k=>?_) (Ev.bind hx ?_),?_⟩
    ·simp only [impl_QueueOk.l0,rdS_at l i hi,keyI,ck,Option.bind_some]
     rw[if_pos (by omega),if_pos (by omega),if_pos (by omega)];simp only [if_true]
    ·simp only [if_neg (fun e=>c2 ((fi_self l i hi).1 e))]
     exact Ev.now _
    ·simp only [Bool.false_eq_true,false_iff]
     rintro ⟨_,_,_,h⟩;exact c2 ((okFrom_step hi).1 h).1.2
  ·have ck:decide (1≤((l[i].size:Nat):Int)∧((l[i].size:Nat):Int)≤12)=false:=decide_eq_false (by unfold isK at c;omega)
   refine⟨false,Ev.step (f:=fun _=>some false) (fun k=>?_) (Ev.now _),?_⟩
   ·simp only [impl_QueueOk.l0,rdS_at l i hi,keyI,ck,Option.bind_some]
    rw[if_pos (by omega),if_pos (by omega),if_pos (by omega)];simp
   ·simp only [Bool.false_eq_true,false_iff]
    rintro ⟨_,_,_,h⟩;exact c ((okFrom_step hi).1 h).1.1
theorem okI_ev (m:Int) (l:List ByteArray) (hl:l.length≤1048576):∃ b:Bool,Ev (fun k=>impl_QueueOk.f k m l) b∧(b=true ↔ okQ m l):=okI_loop m l hl l.length 0 (by omega)
theorem okFrom_iff {l:List ByteArray}:okFrom l 0 ↔ (∀ s ∈ l,isK s)∧l.Nodup:=by
 constructor
 ·intro h
  refine⟨fun s hs=>?_,?_⟩
  ·obtain⟨j,hj,rfl⟩:=List.getElem_of_mem hs
   exact(h j (Nat.zero_le _) hj).1
  ·unfold List.Nodup
   rw[List.pairwise_iff_getElem];intro i j hi hj hij e;exact(h j (Nat.zero_le _) hj).2 (List.mem_take_iff_getElem.2 ⟨i,by omega,e⟩)
 ·rintro ⟨h1,h2⟩ j _ hj
  refine⟨h1 _ (List.getElem_mem hj),fun hm=>?_⟩;obtain⟨i,hi,e⟩:=List.mem_take_iff_getElem.1 hm;unfold List.Nodup at h2;rw[List.pairwise_iff_getElem] at h2;exact h2 i j (by omega) hj (by omega) e
theorem u32_wrap (n:Int):IntKind.u32.wrap n=n % 4294967296:=by simp[IntKind.wrap,IntKind.bits,IntKind.signed]
theorem xor_u32 (a b:Nat) (ha:a < 4294967296) (hb:b < 4294967296):Go.bits .xor .u32 (a:Int) (b:Int)=((a ^^^ b:Nat):Int):=by
 show IntKind.u32.wrap ((BitVec.ofInt 32 (a:Int) ^^^ BitVec.ofInt 32 (b:Int)).toNat:Nat)=_;have h:=Nat.xor_lt_two_pow (n:=32) ha hb;rw[BitVec.toNat_xor,BitVec.ofInt_natCast,BitVec.ofInt_natCast,BitVec.toNat_ofNat,BitVec.toNat_ofNat,Nat.mod_eq_of_lt ha,Nat.mod_eq_of_lt hb,u32_wrap];omega
def tailOf (s:ByteArray) (i:Nat):List UInt8:=s.data.toList.drop i
def hstep (h:Nat) (b:UInt8):Nat:=((h ^^^ b.toNat) * 16777619) % 4294967296
theorem hstep_lt (h:Nat) (b:UInt8):hstep h b < 4294967296:=Nat.mod_lt _ (by omega)
def hlast (h:Nat):Nat:=h ^^^ (h / 65536)
def hashN (s:ByteArray) (seed:Nat):Nat:=hlast ((tailOf s 0).foldl hstep (2166136261+seed))
theorem hlast_lt (h:Nat) (hh:h < 4294967296):hlast h < 4294967296:=Nat.xor_lt_two_pow (n:=32) hh (by omega)
theorem tailOf_next (s:ByteArray) (i:Nat) (h:i < s.size):∃ b:UInt8,tailOf s i=b :: tailOf s (i+1)∧bt s (i:Int)=(b.toNat:Int):=by
 have h':i < s.data.toList.length:=by simpa using h
 refine⟨s[i],?_,?_⟩
 ·unfold tailOf
  rw[List.drop_eq_getElem_cons h'];rfl
 ·unfold bt
  rw[dif_pos (by simpa using h)];simp
theorem hashI_loop (s:ByteArray) (hs:s.size≤4611686018427387904) (d:Nat):∀ (i h:Nat),h < 4294967296→s.size=i+d→Ev (fun k=>impl_HashOf.l0 k s (h:Int) (i:Int)) ((hlast ((tailOf s i).foldl hstep h):Nat):Int):=by
 induction d with
 |zero =>
  intro i h hh hd;have e:tailOf s i = []:=by unfold tailOf;exact List.drop_eq_nil_of_le (by simp;omega)
  have hl:=hlast_lt h hh;rw[e];refine Ev.step (f:=fun _=>some ((hlast h:Nat):Int)) (fun k=>?_) (Ev.now _);simp only [impl_HashOf.l0];rw[if_neg (by omega),show(h:Int) / 65536=((h / 65536:Nat):Int) by omega,xor_u32 h (h / 65536) hh (by omega)];show some (wrap64 ((hlast h:Nat):Int))=_
  congr 1
  unfold wrap64;omega
 |succ d ih =>
  intro i h hh hd;obtain⟨b,e,eb⟩:=tailOf_next s i (by omega);have hb:b.toNat < 256:=b.toNat_lt;have hxl:=Nat.xor_lt_two_pow (n:=32) hh (show b.toNat < 2 ^ 32 by omega);have h2:=ih (i+1) (hstep h b) (hstep_lt h b) (by omega);rw[e,List.foldl_cons];have ei:(((h ^^^ b.toNat:Nat):Int) * 16777619) % 4294967296=((hstep h b:Nat):Int):=by
   unfold hstep;omega
  refine Ev.step (fun k=>?_) h2;simp only [impl_HashOf.l0];rw[if_pos (by omega),if_pos (by omega),eb,show((b.toNat:Nat):Int) % 4294967296=(b.toNat:Int) by omega,xor_u32 h b.toNat hh (by omega),ei,w64 i (by omega)]
theorem hashI_ev (s:ByteArray) (hs:s.size≤4611686018427387904) (seed:Nat) (h:seed≤1000000000):Ev (fun k=>impl_HashOf.f k s (seed:Int)) ((hashN s seed:Nat):Int):=by
 refine Ev.congr (fun k=>?_) (hashI_loop s hs s.size 0 (2166136261+seed) (by omega) (by omega));unfold impl_HashOf.f;have:mx 0 (mn (seed:Int) 1000000000)=(seed:Int):=by unfold mx mn;split <;> split <;> omega
 rw[this];rfl
namespace TM
variable {α:Type} (K:α→ByteArray) (H:α→Int)
def isNone (x:α):Prop:=(K x).size=0∧H x = -1
instance (x:α):Decidable (isNone K H x):=inferInstanceAs (Decidable (_∧_))
def seekF (cs:List α) (key:ByteArray):Nat→Nat→Option Nat
 |0,_=>none
 |d+1,p=>match cs[p]? with
  |none=>none
  |some x=>if K x=key then some p else if isNone K H x then none else seekF cs key d ((p+1) % cs.length)
def seek (cs:List α) (key:ByteArray) (s:Nat):Option Nat:=seekF K H cs key cs.length (s % cs.length)
theorem seekF_some {cs:List α} {key:ByteArray}:∀ {d p i:Nat},seekF K H cs key d p=some i→∃ x,cs[i]? = some x∧K x=key
 |0,p,i,h=>by simp[seekF] at h
 |d+1,p,i,h=>by
  simp only [seekF] at h;cases hx:cs[p]? with
  |none=>rw[hx] at h;cases h
  |some x =>
   rw[hx] at h;by_cases c:K x=key
   ·simp only [if_pos c,Option.some.injEq] at h
    subst h;exact⟨x,hx,c⟩
   ·simp only [if_neg c] at h
    by_cases n:isNone K H x
    ·simp only [if_pos n] at h;cases h
    ·simp only [if_neg n] at h
     exact seekF_some h
def Found (st:ByteArray→Nat) (cs:List α):Prop:=∀ i x,cs[i]? = some x→(K x).size ≠ 0→seek K H cs (K x) (st (K x))=some i
theorem Found.once {st:ByteArray→Nat} {cs:List α} (h:Found K H st cs) {i j:Nat} {x y:α} (hi:cs[i]? = some x) (hj:cs[j]? = some y) (e:K x=K y) (hs:(K x).size ≠ 0):i=j:=by
 have h1:=h i x hi hs;have h2:=h j y hj (by rw[← e];exact hs);rw[e] at h1;exact Option.some.inj (h1.symm.trans h2)
theorem Found.seek {st:ByteArray→Nat} {cs:List α} (h:Found K H st cs) {key:ByteArray} (hk:key.size ≠ 0):(TM.seek K H cs key (st key)=none ↔ ∀ x ∈ cs,K x ≠ key):=by
 constructor
 ·intro hn x hx e
  obtain⟨i,hi,rfl⟩:=List.getElem_of_mem hx;have:=h i _ (List.getElem?_eq_getElem hi) (by rw[e];exact hk);rw[e,hn] at this;cases this
 ·intro hall
  cases hs:TM.seek K H cs key (st key) with
  |none=>rfl
  |some i =>
   obtain⟨x,hx,e⟩:=seekF_some K H hs;exact absurd e (hall x (List.mem_of_getElem? hx))
end TM
namespace TM
section
variable {α:Type} (K:α→ByteArray) (H:α→Int)
def cellR (st:ByteArray→Nat) (cs:List α) (i:Nat) (x:α):Prop :=
 ((K x).size=0→H x = -1 ∨ H x = -2)∧((K x).size ≠ 0→(K x).size≤12∧0≤H x∧TM.seek K H cs (K x) (st (K x))=some i)
def cellsR (st:ByteArray→Nat) (cs:List α):Prop:=∀ i x,cs[i]? = some x→cellR K H st cs i x
theorem cellsR.found {st:ByteArray→Nat} {cs:List α} (h:cellsR K H st cs):Found K H st cs:=fun i x hx hs=>((h i x hx).2 hs).2.2
def keysOf (cs:List α):List ByteArray:=(cs.filter fun x=>decide ((K x).size ≠ 0)).map K
theorem mem_keysOf {cs:List α} {key:ByteArray}:key ∈ keysOf K cs ↔ ∃ x ∈ cs,K x=key∧key.size ≠ 0:=by
 unfold keysOf;rw[List.mem_map];constructor
 ·rintro ⟨x,hx,rfl⟩
  rw[List.mem_filter] at hx;exact⟨x,hx.1,rfl,of_decide_eq_true hx.2⟩
 ·rintro ⟨x,hx,rfl,hs⟩
  exact⟨x,List.mem_filter.2 ⟨hx,decide_eq_true hs⟩,rfl⟩
theorem Found.nodup {st:ByteArray→Nat} {cs:List α} (h:Found K H st cs):(keysOf K cs).Nodup:=by
 unfold keysOf List.Nodup;rw[List.pairwise_map,List.pairwise_filter];rw[List.pairwise_iff_getElem];intro i j hi hj hij h1 h2 e;have:=h.once K H (List.getElem?_eq_getElem hi) (List.getElem?_eq_getElem hj) e (of_decide_eq_true h1);omega
def nones (cs:List α):Nat:=cs.countP fun x=>decide (isNone K H x)
end
end TM
theorem by_inj {s t:ByteArray} (h:s.data.toList=t.data.toList):s=t:=by
 apply ByteArray.ext;exact Array.toList_inj.1 h
def leS (s t:ByteArray):Prop:=s.data.toList≤t.data.toList
theorem leS_antisymm {s t:ByteArray} (h1:leS s t) (h2:leS t s):s=t:=by_inj (List.le_antisymm h1 h2)
theorem sortS_len (l:List ByteArray):(sortS l).length=l.length:=by simp[sortS]
theorem sortS_perm (l:List ByteArray):(sortS l).Perm l:=by
 unfold sortS;have h:=(List.mergeSort_perm (l.map fun s:ByteArray=>s.data.toList) (fun x y=>decide (x≤y))).map (fun b=>(⟨b.toArray⟩:ByteArray));rw[List.map_map] at h;have e:l.map ((fun b:List UInt8=>(⟨b.toArray⟩:ByteArray)) ∘ fun s:ByteArray=>s.data.toList)=l:=by
  conv=>rhs;rw[← List.map_id l]
  exact List.map_congr_left (fun s _=>rfl)
 rwa [e] at h
theorem sortS_sorted (l:List ByteArray):(sortS l).Pairwise leS:=by
 unfold sortS;rw[List.pairwise_map];have h:=List.pairwise_mergeSort (le:=fun x y:List UInt8=>decide (x≤y)) (fun a b c h1 h2=>decide_eq_true (List.le_trans (of_decide_eq_true h1) (of_decide_eq_true h2))) (fun a b=>by
  rcases List.le_total a b with h|h
  ·simp[h]
  ·simp[h]) (l.map fun s:ByteArray=>s.data.toList)
 exact h.imp (fun h=>of_decide_eq_true h)
theorem sorted_eq {l m:List ByteArray} (hp:l.Perm m) (hl:l.Pairwise leS) (hm:m.Pairwise leS):l=m:=hp.eq_of_pairwise (fun _ _ _ _=>leS_antisymm) hl hm
theorem sortS_congr {l m:List ByteArray} (hp:l.Perm m):sortS l=sortS m:=sorted_eq ((sortS_perm l).trans (hp.trans (sortS_perm m).symm)) (sortS_sorted l) (sortS_sorted m)
theorem sortS_nil:sortS [] = []:=List.eq_nil_of_length_eq_zero (by rw[sortS_len];rfl)
theorem adj_nodup {l:List ByteArray} (hs:l.Pairwise leS):(∀ j (h:j+1 < l.length),l[j+1] ≠ l[j]) ↔ l.Nodup:=by
 constructor
 ·intro ha
  unfold List.Nodup;rw[List.pairwise_iff_getElem] at hs ⊢;intro i j hi hj hij e;obtain⟨q,rfl⟩:∃ q,j=q+1:=⟨j - 1,by omega⟩;have h1:leS l[i] l[q]:=by
   rcases Nat.lt_or_ge i q with h|h
   ·exact hs i q hi (by omega) h
   ·have:i=q:=by omega
    subst this;exact List.le_refl _
  have h2:leS l[q] l[q+1]:=hs q (q+1) (by omega) hj (by omega);rw[e] at h1;exact ha q hj (leS_antisymm h1 h2)
 ·intro hn j h
  unfold List.Nodup at hn;rw[List.pairwise_iff_getElem] at hn;exact fun e=>hn j (j+1) (by omega) h (by omega) e.symm
def stOf (s:ByteArray):Nat:=hashN s 0
def seekV:Option Nat→Int
 |none=>-1
 |some i=>(i:Int)
theorem next_place (p n:Nat) (h:p < n) (hn:n≤1048576):Int.tmod (wrap64 ((p:Int)+1)) (n:Int)=(((p+1) % n:Nat):Int):=by
 rw[w64 p (by omega),Int.tmod_eq_emod_of_nonneg (by omega)];rfl
theorem seekI_loop (cs:List S151) (key:ByteArray) (hl:cs.length≤1048576) (hk:key.size ≠ 0) (d:Nat):∀ (i p:Nat),i+d=cs.length→p < cs.length →
  Ev (fun k=>impl_seek.l0 k cs key (p:Int) (cs.length:Int) (i:Int)) (seekV (TM.seekF S151.f0 S151.f1 cs key d p)):=by
 induction d with
 |zero =>
  intro i p hd hp;refine Ev.step (f:=fun _=>some (-1)) (fun k=>?_) (Ev.now _);simp only [impl_seek.l0];rw[if_neg (by omega)]
 |succ d ih =>
  intro i p hd hp;have hkb:(key.toList != ([]:List UInt8))=true:=bne_iff_ne.2 (fun e=>hk ((empty_iff _).1 e));simp only [TM.seekF,List.getElem?_eq_getElem hp];have hnext:=ih (i+1) ((p+1) % cs.length) (by omega) (Nat.mod_lt _ (by omega))
  by_cases c:cs[p].f0=key
  ·rw[if_pos c]
   refine Ev.step (f:=fun k=>impl_seek.j1 k cs key (p:Int) (cs.length:Int) (i:Int) true cs[p].f0 cs[p].f1) (fun k=>?_) (Ev.step (f:=fun _=>some ((p:Int))) (fun k=>?_) (Ev.now _))
   ·simp only [impl_seek.l0]
    rw[if_pos (by omega),if_pos (by omega),if_pos (by omega),rd_ce cs p hp,if_pos (by rw[c]),hkb]
   ·simp only [impl_seek.j1,if_true]
  ·rw[if_neg c]
   have c':¬ cs[p].f0.toList=key.toList:=fun e=>c (str_eq.1 e);refine Ev.step (f:=fun k=>impl_seek.j1 k cs key (p:Int) (cs.length:Int) (i:Int) false cs[p].f0 cs[p].f1) (fun k=>?_) ?_
   ·simp only [impl_seek.l0]
    rw[if_pos (by omega),if_pos (by omega),if_pos (by omega),rd_ce cs p hp,if_neg c']
   ·by_cases n:TM.isNone S151.f0 S151.f1 cs[p]
    ·rw[if_pos n]
     refine Ev.step (f:=fun _=>some (-1)) (fun k=>?_) (Ev.now _);simp only [impl_seek.j1,Bool.false_eq_true,if_false];rw[if_pos ((empty_iff _).2 n.1),if_pos n.2]
    ·rw[if_neg n]
     refine Ev.step (fun k=>?_) hnext;simp only [impl_seek.j1,Bool.false_eq_true,if_false]
     by_cases e0:cs[p].f0.toList=([]:List UInt8)
     ·rw[if_pos e0,if_neg (fun e1=>n ⟨(empty_iff _).1 e0,e1⟩),if_neg (by omega),next_place p cs.length hp hl,w64 i (by omega)]
     ·rw[if_neg e0,if_neg (by omega),next_place p cs.length hp hl,w64 i (by omega)]
theorem seekI_ev (cs:List S151) (key:ByteArray) (hl:cs.length≤1048576) (hk:key.size ≠ 0) (hs:key.size≤4611686018427387904):Ev (fun k=>impl_seek.f k cs key) (seekV (TM.seek S151.f0 S151.f1 cs key (stOf key))):=by
 unfold impl_seek.f
 by_cases h0:cs.length=0
 ·rw[List.eq_nil_of_length_eq_zero h0]
  exact Ev.now _
 ·simp only [if_neg (show ¬ (cs.length:Int)=0 by omega)]
  refine Ev.bind (hashI_ev key hs 0 (by omega)) ?_;have:=seekI_loop cs key hl hk cs.length 0 (stOf key % cs.length) (by omega) (Nat.mod_lt _ (by omega));have e:Int.tmod ((hashN key 0:Nat):Int) (cs.length:Int)=((stOf key % cs.length:Nat):Int):=by rw[Int.tmod_eq_emod_of_nonneg (by omega)];rfl
  simp only [e];exact this
theorem seekI_none_loop (cs:List S151) (key:ByteArray) (hl:cs.length≤1048576) (hk:key.size=0) (d:Nat):∀ (i p:Nat),i+d=cs.length→p < cs.length →
  Ev (fun k=>impl_seek.l0 k cs key (p:Int) (cs.length:Int) (i:Int)) (-1):=by
 induction d with
 |zero =>
  intro i p hd hp;refine Ev.step (f:=fun _=>some (-1)) (fun k=>?_) (Ev.now _);simp only [impl_seek.l0];rw[if_neg (by omega)]
 |succ d ih =>
  intro i p hd hp;have hkb:(key.toList != ([]:List UInt8))=false:=by rw[(empty_iff _).2 hk];rfl
  have hnext:=ih (i+1) ((p+1) % cs.length) (by omega) (Nat.mod_lt _ (by omega));refine Ev.step (f:=fun k=>impl_seek.j1 k cs key (p:Int) (cs.length:Int) (i:Int) false cs[p].f0 cs[p].f1) (fun k=>?_) ?_
  ·simp only [impl_seek.l0]
   rw[if_pos (by omega),if_pos (by omega),if_pos (by omega),rd_ce cs p hp,hkb]
   split <;> rfl
  ·by_cases n:TM.isNone S151.f0 S151.f1 cs[p]
   ·refine Ev.step (f:=fun _=>some (-1)) (fun k=>?_) (Ev.now _)
    simp only [impl_seek.j1,Bool.false_eq_true,if_false];rw[if_pos ((empty_iff _).2 n.1),if_pos n.2]
   ·refine Ev.step (fun k=>?_) hnext
    simp only [impl_seek.j1,Bool.false_eq_true,if_false]
    by_cases e0:cs[p].f0.toList=([]:List UInt8)
    ·rw[if_pos e0,if_neg (fun e1=>n ⟨(empty_iff _).1 e0,e1⟩),if_neg (by omega),next_place p cs.length hp hl,w64 i (by omega)]
    ·rw[if_neg e0,if_neg (by omega),next_place p cs.length hp hl,w64 i (by omega)]
abbrev ceR:List S151→Prop:=TM.cellsR S151.f0 S151.f1 stOf
theorem cellsI_loop (cs:List S151) (hl:cs.length≤1048576) (hs:∀ x ∈ cs,x.f0.size≤4611686018427387904) (d:Nat):∀ (i:Nat),cs.length=i+d →
  ∃ b,Ev (fun k=>impl_cellsOk.l0 k cs cs (cs.length:Int) (i:Int)) b∧(b=true ↔ ∀ j,i≤j→∀ x,cs[j]? = some x→TM.cellR S151.f0 S151.f1 stOf cs j x):=by
 induction d with
 |zero =>
  intro i hd;refine⟨true,Ev.step (f:=fun _=>some true) (fun k=>?_) (Ev.now _),?_⟩
  ·simp only [impl_cellsOk.l0];rw[if_neg (by omega)]
  ·simp only [true_iff]
   intro j hj x hx;have:=(List.getElem?_eq_some_iff.1 hx).1;omega
 |succ d ih =>
  intro i hd;have hi:i < cs.length:=by omega
  obtain⟨b,hb,hq⟩:=ih (i+1) (by omega);have hx:cs[i]? = some cs[i]:=List.getElem?_eq_getElem hi;have key:(∀ j,i≤j→∀ x,cs[j]? = some x→TM.cellR S151.f0 S151.f1 stOf cs j x) ↔ TM.cellR S151.f0 S151.f1 stOf cs i cs[i]∧b=true:=by
   rw[hq];constructor
   ·intro h
    exact⟨h i (Nat.le_refl _) _ hx,fun j hj x hx=>h j (by omega) x hx⟩
   ·rintro ⟨h1,h2⟩ j hj x hxj
    by_cases e:i=j
    ·subst e
     rw[hx] at hxj;obtain rfl:=Option.some.inj hxj;exact h1
    ·exact h2 j (by omega) x hxj
  have good:TM.cellR S151.f0 S151.f1 stOf cs i cs[i]→Ev (fun k=>impl_cellsOk.l0 k cs cs (cs.length:Int) (i:Int)) b∧(b=true ↔ ∀ j,i≤j→∀ x,cs[j]? = some x→TM.cellR S151.f0 S151.f1 stOf cs j x)→∃ b,Ev (fun k=>impl_cellsOk.l0 k cs cs (cs.length:Int) (i:Int)) b∧(b=true ↔ ∀ j,i≤j→∀ x,cs[j]? = some x→TM.cellR S151.f0 S151.f1 stOf cs j x):=fun _ h=>⟨b,h⟩;have bad:¬ TM.cellR S151.f0 S151.f1 stOf cs i cs[i]→Ev (fun k=>impl_cellsOk.l0 k cs cs (cs.length:Int) (i:Int)) false→∃ b,Ev (fun k=>impl_cellsOk.l0 k cs cs (cs.length:Int) (i:Int)) b∧(b=true ↔ ∀ j,i≤j→∀ x,cs[j]? = some x→TM.cellR S151.f0 S151.f1 stOf cs j x):=fun hn h=>⟨false,h,by rw[key];simp[hn]⟩
  by_cases e0:cs[i].f0.toList=([]:List UInt8)
  ·have e1:=(empty_iff _).1 e0
   by_cases h1:cs[i].f1 = -1
   ·refine good ⟨fun _=>.inl h1,fun h=>absurd e1 h⟩ ⟨Ev.step (fun k=>?_) hb,by rw[key];exact⟨fun h=>⟨⟨fun _=>.inl h1,fun h=>absurd e1 h⟩,h⟩,fun h=>h.2⟩⟩
    simp only [impl_cellsOk.l0];rw[if_pos (by omega),if_pos (by omega),if_pos (by omega),rd_ce cs i hi,if_pos e0,if_pos h1,w64 i (by omega)]
   ·by_cases h2:cs[i].f1 = -2
    ·refine good ⟨fun _=>.inr h2,fun h=>absurd e1 h⟩ ⟨Ev.step (fun k=>?_) hb,by rw[key];exact⟨fun h=>⟨⟨fun _=>.inr h2,fun h=>absurd e1 h⟩,h⟩,fun h=>h.2⟩⟩
     simp only [impl_cellsOk.l0];rw[if_pos (by omega),if_pos (by omega),if_pos (by omega),rd_ce cs i hi,if_pos e0,if_neg h1,if_pos h2,w64 i (by omega)]
    ·refine bad (fun h=>?_) (Ev.step (f:=fun _=>some false) (fun k=>?_) (Ev.now _))
     ·rcases h.1 e1 with h|h
      ·exact h1 h
      ·exact h2 h
     ·simp only [impl_cellsOk.l0]
      rw[if_pos (by omega),if_pos (by omega),if_pos (by omega),rd_ce cs i hi,if_pos e0,if_neg h1,if_neg h2]
  ·have e1:cs[i].f0.size ≠ 0:=fun e=>e0 ((empty_iff _).2 e)
   by_cases h1:1≤(cs[i].f0.size:Int)∧(cs[i].f0.size:Int)≤12
   ·by_cases h2:cs[i].f1 < 0
    ·refine bad (fun h=>by have:=(h.2 e1).2.1;omega) (Ev.step (f:=fun _=>some false) (fun k=>?_) (Ev.now _))
     simp only [impl_cellsOk.l0];rw[if_pos (by omega),if_pos (by omega),if_pos (by omega),rd_ce cs i hi,if_neg e0,keyI];simp only [Option.bind_some];rw[if_pos (decide_eq_true h1),if_pos h2]
    ·have hsk:=seekI_ev cs cs[i].f0 hl e1 (hs _ (List.getElem_mem hi))
     have hst:Ev (fun k=>(impl_seek.f k cs cs[i].f0).bind fun t276=>if t276=(i:Int) then impl_cellsOk.l0 k cs cs (cs.length:Int) (((i+1:Nat):Int)) else some false) (if seekV (TM.seek S151.f0 S151.f1 cs cs[i].f0 (stOf cs[i].f0))=(i:Int) then b else false):=by
      refine Ev.bind hsk ?_
      split
      ·exact hb
      ·exact Ev.now _
     have hw:Ev (fun k=>impl_cellsOk.l0 k cs cs (cs.length:Int) (i:Int)) (if seekV (TM.seek S151.f0 S151.f1 cs cs[i].f0 (stOf cs[i].f0))=(i:Int) then b else false):=by
      refine Ev.step (fun k=>?_) hst;simp only [impl_cellsOk.l0];rw[if_pos (by omega),if_pos (by omega),if_pos (by omega),rd_ce cs i hi,if_neg e0,keyI];simp only [Option.bind_some];rw[if_pos (decide_eq_true h1),if_neg h2,w64 i (by omega)]
     by_cases hv:TM.seek S151.f0 S151.f1 cs cs[i].f0 (stOf cs[i].f0)=some i
     ·rw[hv,if_pos (show seekV (some i)=(i:Int) from rfl)] at hw
      have hc:TM.cellR S151.f0 S151.f1 stOf cs i cs[i]:=⟨fun h=>absurd h e1,fun _=>⟨by omega,by omega,hv⟩⟩;exact good hc ⟨hw,by rw[key];exact⟨fun h=>⟨hc,h⟩,fun h=>h.2⟩⟩
     ·refine bad (fun h=>hv (h.2 e1).2.2) ?_
      rw[if_neg] at hw
      ·exact hw
      ·intro hh
       apply hv
       revert hh
       cases TM.seek S151.f0 S151.f1 cs cs[i].f0 (stOf cs[i].f0) with
       |none=>intro hh;simp only [seekV] at hh;omega
       |some j=>intro hh;simp only [seekV] at hh;congr 1;omega
   ·refine bad (fun h=>by have:=(h.2 e1).1;omega) (Ev.step (f:=fun _=>some false) (fun k=>?_) (Ev.now _))
    simp only [impl_cellsOk.l0];rw[if_pos (by omega),if_pos (by omega),if_pos (by omega),rd_ce cs i hi,if_neg e0,keyI];simp only [Option.bind_some];rw[if_neg (show ¬ decide (1≤(cs[i].f0.size:Int)∧(cs[i].f0.size:Int)≤12)=true from fun e=>h1 (of_decide_eq_true e))]
theorem cellsI_ev (cs:List S151) (hl:cs.length≤1048576) (hs:∀ x ∈ cs,x.f0.size≤4611686018427387904):∃ b,Ev (fun k=>impl_cellsOk.f k cs) b∧(b=true ↔ ceR cs):=by
 obtain⟨b,hb,hq⟩:=cellsI_loop cs hl hs cs.length 0 (by omega);exact⟨b,hb,hq.trans ⟨fun h i x hx=>h i (Nat.zero_le _) x hx,fun h j _ x hx=>h j x hx⟩⟩
theorem nonesI_loop (cs:List S151) (hl:cs.length≤1048576) (d:Nat):∀ (i n:Nat),cs.length=i+d→n≤i →
  Ev (fun k=>impl_nones.l0 k (n:Int) cs (cs.length:Int) (i:Int)) ((n+TM.nones S151.f0 S151.f1 (cs.drop i):Nat):Int):=by
 induction d with
 |zero =>
  intro i n hd hn;rw[List.drop_eq_nil_of_le (by omega)];refine Ev.step (f:=fun _=>some ((n:Nat):Int)) (fun k=>?_) (Ev.now _);simp only [impl_nones.l0];rw[if_neg (by omega)]
 |succ d ih =>
  intro i n hd hn;have hi:i < cs.length:=by omega
  have hc:TM.nones S151.f0 S151.f1 (cs.drop i)=(if TM.isNone S151.f0 S151.f1 cs[i] then 1 else 0)+TM.nones S151.f0 S151.f1 (cs.drop (i+1)):=by
   unfold TM.nones;rw[List.drop_eq_getElem_cons hi,List.countP_cons];simp only [decide_eq_true_eq];omega
  rw[hc]
  by_cases e0:cs[i].f0.toList=([]:List UInt8)
  ·by_cases h1:cs[i].f1 = -1
   ·rw[if_pos (show TM.isNone S151.f0 S151.f1 cs[i] from⟨(empty_iff _).1 e0,h1⟩)]
    have:=ih (i+1) (n+1) (by omega) (by omega);rw[Nat.add_assoc] at this;refine Ev.step (fun k=>?_) this;simp only [impl_nones.l0];rw[if_pos (by omega),if_pos (by omega),if_pos (by omega),rd_ce cs i hi,if_pos e0,if_pos h1,w64 i (by omega),w64 n (by omega)]
   ·rw[if_neg (show ¬ TM.isNone S151.f0 S151.f1 cs[i] from fun h=>h1 h.2),Nat.zero_add]
    refine Ev.step (fun k=>?_) (ih (i+1) n (by omega) (by omega));simp only [impl_nones.l0];rw[if_pos (by omega),if_pos (by omega),if_pos (by omega),rd_ce cs i hi,if_pos e0,if_neg h1,w64 i (by omega)]
  ·rw[if_neg (show ¬ TM.isNone S151.f0 S151.f1 cs[i] from fun h=>e0 ((empty_iff _).2 h.1)),Nat.zero_add]
   refine Ev.step (fun k=>?_) (ih (i+1) n (by omega) (by omega));simp only [impl_nones.l0];rw[if_pos (by omega),if_pos (by omega),if_pos (by omega),rd_ce cs i hi,if_neg e0,w64 i (by omega)]
theorem nonesI_ev (cs:List S151) (hl:cs.length≤1048576):Ev (fun k=>impl_nones.f k cs) ((TM.nones S151.f0 S151.f1 cs:Nat):Int):=by
 have:=nonesI_loop cs hl cs.length 0 0 (by omega) (by omega);rw[List.drop_zero,Nat.zero_add] at this;exact this
abbrev keysC:List S151→List ByteArray:=TM.keysOf S151.f0
theorem keysI_loop (cs:List S151) (hl:cs.length≤2097152) (d:Nat):∀ (i:Nat) (acc:List ByteArray),cs.length=i+d→acc.length≤i →
  Ev (fun k=>impl_Table_keys.l0 k acc cs (cs.length:Int) (i:Int)) (sortS (acc ++ keysC (cs.drop i))):=by
 induction d with
 |zero =>
  intro i acc hd ha;rw[List.drop_eq_nil_of_le (by omega)];refine Ev.step (f:=fun _=>some (sortS acc)) (fun k=>?_) (by simpa [TM.keysOf] using Ev.now _);simp only [impl_Table_keys.l0];rw[if_neg (by omega)];unfold slices_Sort_string_string.f;rw[if_pos (by omega)];rfl
 |succ d ih =>
  intro i acc hd ha;have hi:i < cs.length:=by omega
  by_cases e0:cs[i].f0.toList=([]:List UInt8)
  ·have:keysC (cs.drop i)=keysC (cs.drop (i+1)):=by
    unfold keysC TM.keysOf;rw[List.drop_eq_getElem_cons hi,List.filter_cons,if_neg];simp only [decide_eq_true_eq];exact fun h=>h ((empty_iff _).1 e0)
   rw[this];refine Ev.step (fun k=>?_) (ih (i+1) acc (by omega) (by omega));simp only [impl_Table_keys.l0];rw[if_pos (by omega),if_pos (by omega),if_pos (by omega),rd_ce cs i hi,if_pos e0,w64 i (by omega)]
  ·have:keysC (cs.drop i)=cs[i].f0 :: keysC (cs.drop (i+1)):=by
    unfold keysC TM.keysOf;rw[List.drop_eq_getElem_cons hi,List.filter_cons,if_pos,List.map_cons];simp only [decide_eq_true_eq];exact fun h=>e0 ((empty_iff _).2 h)
   rw[this];have h:=ih (i+1) (acc ++ [cs[i].f0]) (by omega) (by simp;omega);rw[List.append_assoc,List.singleton_append] at h;refine Ev.step (fun k=>?_) h;simp only [impl_Table_keys.l0];rw[if_pos (by omega),if_pos (by omega),if_pos (by omega),rd_ce cs i hi,if_neg e0,if_pos (by omega),w64 i (by omega)]
theorem keysI_ev (cs old:List S151) (m:Int) (h1:cs.length≤1048576) (h2:old.length≤1048576):Ev (fun k=>impl_Table_keys.f k cs old m) (sortS (keysC (cs ++ old))):=by
 unfold impl_Table_keys.f impl_Cell_133.f;simp only [List.map_cons,List.map_nil,List.sum_cons,List.sum_nil,Nat.add_zero,if_pos (show cs.length+old.length≤4194304 by omega),Option.bind_some,List.flatten_cons,List.flatten_nil,List.append_nil];have:=keysI_loop (cs ++ old) (by simp;omega) (cs ++ old).length 0 [] (by omega) (by simp);rw[List.drop_zero,List.nil_append] at this;exact this
theorem sizeI (a:Int):impl_isSize.f a=some (decide (a=4 ∨ a=8 ∨ a=16 ∨ a=32 ∨ a=64)):=by
 unfold impl_isSize.f
 by_cases h1:a=4
 ·rw[if_pos h1];simp[h1]
 rw[if_neg h1]
 by_cases h2:a=8
 ·rw[if_pos h2];simp[h2]
 rw[if_neg h2]
 by_cases h3:a=16
 ·rw[if_pos h3];simp[h3]
 rw[if_neg h3]
 by_cases h4:a=32
 ·rw[if_pos h4];simp[h4]
 rw[if_neg h4]
 by_cases h5:a=64
 ·rw[if_pos h5];simp[h5]
 rw[if_neg h5];simp[h1,h2,h3,h4,h5]
structure taR (cs old:List S151) (m:Int):Prop where
 size:cs.length=4 ∨ cs.length=8 ∨ cs.length=16 ∨ cs.length=32 ∨ cs.length=64
 half:old.length=0 ∨ 2 * old.length=cs.length
 moved:0≤m∧m≤old.length
 gone:∀ x ∈ old.take m.toNat,x.f0.size=0∧x.f1 = -2
 once:(keysC (cs ++ old)).Nodup
 cells:ceR cs
 olds:ceR old
 none:0 < TM.nones S151.f0 S151.f1 cs
theorem table_l1 (cs old:List S151) (m:Int) (h1:cs.length≤1048576) (h2:old.length≤1048576) (hs:∀ x ∈ cs,x.f0.size≤4611686018427387904) (hs2:∀ x ∈ old,x.f0.size≤4611686018427387904) (L:List ByteArray) (hL:L.length≤2097152) (d:Nat):∀ (i:Nat),L.length=i+d →
  ∃ b,Ev (fun k=>impl_TableOk.l1 k L ((i+1:Nat):Int) cs old m) b∧(b=true ↔ (∀ j,i≤j→∀ (h:j+1 < L.length),L[j+1] ≠ L[j])∧ceR cs∧ceR old∧0 < TM.nones S151.f0 S151.f1 cs):=by
 obtain⟨bc,hc,hcq⟩:=cellsI_ev cs h1 hs;obtain⟨bo,ho,hoq⟩:=cellsI_ev old h2 hs2;have hn:=nonesI_ev cs h1;have fin:∀ i:Nat,L.length≤i+1→∃ b,Ev (fun k=>impl_TableOk.l1 k L ((i+1:Nat):Int) cs old m) b∧(b=true ↔ ceR cs∧ceR old∧0 < TM.nones S151.f0 S151.f1 cs):=by
  intro i hi;refine⟨bc && bo && decide (0 < TM.nones S151.f0 S151.f1 cs),Ev.step (f:=fun k=>(impl_cellsOk.f k cs).bind fun t294=>(if t294=true then ((impl_cellsOk.f k old).bind fun t295=>(if t295=true then ((impl_nones.f k cs).bind fun t296=>(some (decide (t296 > 0)))) else (some false))) else (some false))) (fun k=>?_) ?_,?_⟩
  ·simp only [impl_TableOk.l1]
   rw[if_neg (by omega)]
  ·refine Ev.bind hc ?_
   cases bc with
   |false=>simp only [Bool.false_eq_true,if_false,Bool.false_and];exact Ev.now _
   |true =>
    simp only [if_true,Bool.true_and];refine Ev.bind ho ?_
    cases bo with
    |false=>simp only [Bool.false_eq_true,if_false,Bool.false_and];exact Ev.now _
    |true =>
     simp only [if_true,Bool.true_and];refine Ev.bind hn ?_;have:decide (((TM.nones S151.f0 S151.f1 cs:Nat):Int) > 0)=decide (0 < TM.nones S151.f0 S151.f1 cs):=by
      rw[Bool.eq_iff_iff,decide_eq_true_iff,decide_eq_true_iff];omega
     rw[this];exact Ev.now _
  ·rw[Bool.and_eq_true,Bool.and_eq_true,hcq,hoq,decide_eq_true_iff,and_assoc]
 induction d with
 |zero =>
  intro i hd;obtain⟨b,hb,hq⟩:=fin i (by omega);exact⟨b,hb,hq.trans ⟨fun h=>⟨fun j hj hlt=>by omega,h⟩,fun h=>h.2⟩⟩
 |succ d ih =>
  intro i hd
  rcases Nat.lt_or_ge (i+1) L.length with hlt|hge
  ·obtain⟨b,hb,hq⟩:=ih (i+1) (by omega)
   have r1:rdOf ByteArray.empty L ((i+1:Nat):Int)=L[i+1]:=by
    unfold rdOf;rw[List.getD_eq_getElem?_getD,Int.toNat_natCast,List.getElem?_eq_getElem hlt];rfl
   have w1:wrap64 (((i+1:Nat):Int) - 1)=(i:Int):=by unfold wrap64;omega
   have r2:rdOf ByteArray.empty L (i:Int)=L[i]:=by
    unfold rdOf;rw[List.getD_eq_getElem?_getD,Int.toNat_natCast,List.getElem?_eq_getElem (by omega)];rfl
   by_cases e:L[i+1]=L[i]
   ·refine⟨false,Ev.step (f:=fun _=>some false) (fun k=>?_) (Ev.now _),?_⟩
    ·simp only [impl_TableOk.l1]
     rw[if_pos (by omega),if_pos (by omega),w1,if_pos (by omega),if_pos (by omega),r1,r2,if_pos (by rw[e])]
    ·simp only [Bool.false_eq_true,false_iff]
     exact fun h=>h.1 i (Nat.le_refl _) hlt e
   ·refine⟨b,Ev.step (fun k=>?_) hb,?_⟩
    ·simp only [impl_TableOk.l1]
     rw[if_pos (by omega),if_pos (by omega),w1,if_pos (by omega),if_pos (by omega),r1,r2,if_neg (fun h=>e (str_eq.1 h)),w64 (i+1) (by omega)]
    ·rw[hq]
     refine and_congr_left' ⟨fun h j hj hl=>?_,fun h j hj hl=>h j (by omega) hl⟩
     by_cases ej:j=i
     ·subst ej;exact e
     ·exact h j (by omega) hl
  ·obtain⟨b,hb,hq⟩:=fin i (by omega)
   exact⟨b,hb,hq.trans ⟨fun h=>⟨fun j hj hlt=>by omega,h⟩,fun h=>h.2⟩⟩
theorem table_l0 (cs old:List S151) (m:Int) (h1:cs.length≤1048576) (h2:old.length≤1048576) (hs:∀ x ∈ cs,x.f0.size≤4611686018427387904) (hs2:∀ x ∈ old,x.f0.size≤4611686018427387904) (T:List S151) (hT:T.length≤1048576) (d:Nat):∀ (i:Nat),T.length=i+d →
  ∃ b,Ev (fun k=>impl_TableOk.l0 k T (T.length:Int) (i:Int) cs old m) b∧(b=true ↔ (∀ x ∈ T.drop i,x.f0.size=0∧x.f1 = -2)∧(keysC (cs ++ old)).Nodup∧ceR cs∧ceR old∧0 < TM.nones S151.f0 S151.f1 cs):=by
 induction d with
 |zero =>
  intro i hd;rw[List.drop_eq_nil_of_le (by omega)];have hlen:(sortS (keysC (cs ++ old))).length≤2097152:=by
   rw[sortS_len];unfold keysC TM.keysOf;rw[List.length_map];have:=List.length_filter_le (fun x:S151=>decide (x.f0.size ≠ 0)) (cs ++ old);rw[List.length_append] at this;omega
  obtain⟨b,hb,hq⟩:∃ b,Ev (fun k=>impl_TableOk.l1 k (sortS (keysC (cs ++ old))) 1 cs old m) b∧(b=true ↔ (∀ j,0≤j→∀ (h:j+1 < (sortS (keysC (cs ++ old))).length),(sortS (keysC (cs ++ old)))[j+1] ≠ (sortS (keysC (cs ++ old)))[j])∧ceR cs∧ceR old∧0 < TM.nones S151.f0 S151.f1 cs) :=
   table_l1 cs old m h1 h2 hs hs2 _ hlen (sortS (keysC (cs ++ old))).length 0 (by omega)
  refine⟨b,Ev.step (f:=fun k=>(impl_Table_keys.f k cs old m).bind fun t289=>(impl_TableOk.l1 k t289 1 cs old m)) (fun k=>?_) (Ev.bind (keysI_ev cs old m h1 h2) hb),?_⟩
  ·simp only [impl_TableOk.l0]
   rw[if_neg (by omega)]
  ·rw[hq]
   simp only [List.not_mem_nil,false_imp_iff,implies_true,true_and];refine and_congr_left' ?_;rw[← (sortS_perm _).nodup_iff,← adj_nodup (sortS_sorted _)];exact⟨fun h j hl=>h j (Nat.zero_le _) hl,fun h j _ hl=>h j hl⟩
 |succ d ih =>
  intro i hd;have hi:i < T.length:=by omega
  obtain⟨b,hb,hq⟩:=ih (i+1) (by omega);rw[List.drop_eq_getElem_cons hi]
  by_cases e:T[i].f0.size=0∧T[i].f1 = -2
  ·have e0:=(empty_iff _).2 e.1
   refine⟨b,Ev.step (fun k=>?_) hb,?_⟩
   ·simp only [impl_TableOk.l0]
    rw[if_pos (by omega),if_pos (by omega),if_pos (by omega),rd_ce T i hi,if_neg (by rw[e0,e.2];decide),w64 i (by omega)]
   ·rw[hq]
    simp only [List.mem_cons,forall_eq_or_imp];exact⟨fun h=>⟨⟨e,h.1⟩,h.2⟩,fun h=>⟨h.1.2,h.2⟩⟩
  ·refine⟨false,Ev.step (f:=fun _=>some false) (fun k=>?_) (Ev.now _),?_⟩
   ·simp only [impl_TableOk.l0]
    rw[if_pos (by omega),if_pos (by omega),if_pos (by omega),rd_ce T i hi,if_pos];rw[Bool.or_eq_true,Bool.not_eq_true',Bool.not_eq_true',beq_eq_false_iff_ne,beq_eq_false_iff_ne]
    by_cases e0:T[i].f0.toList = []
    ·exact .inr (fun e1=>e ⟨(empty_iff _).1 e0,e1⟩)
    ·exact .inl e0
   ·simp only [Bool.false_eq_true,false_iff,List.mem_cons,forall_eq_or_imp]
    exact fun h=>e h.1.1
theorem tableI_ev (cs old:List S151) (m:Int) (h1:cs.length≤1048576) (h2:old.length≤1048576) (hs:∀ x ∈ cs,x.f0.size≤4611686018427387904) (hs2:∀ x ∈ old,x.f0.size≤4611686018427387904) :
  ∃ b,Ev (fun k=>impl_TableOk.f k cs old m) b∧(b=true ↔ taR cs old m):=by
 have bad:∀ (P:Prop),¬ taR cs old m→Ev (fun k=>impl_TableOk.j0 k true cs old m) false∧(false=true ↔ taR cs old m):=fun _ hn=>by
  refine⟨Ev.step (f:=fun _=>some false) (fun k=>?_) (Ev.now _),by simp[hn]⟩;simp only [impl_TableOk.j0,if_true]
 have mid:(cs.length=4 ∨ cs.length=8 ∨ cs.length=16 ∨ cs.length=32 ∨ cs.length=64)→(old.length=0 ∨ 2 * old.length=cs.length) →
   ∃ b,Ev (fun k=>(impl_inRange.f m 0 (old.length:Int)).bind fun t281=>(impl_TableOk.j0 k (!t281) cs old m)) b∧(b=true ↔ taR cs old m):=by
  intro hsz hod;rw[rangeI];simp only [Option.bind_some]
  by_cases hm:0≤m∧m≤(old.length:Int)
  ·obtain⟨q,rfl⟩:=Int.eq_ofNat_of_zero_le hm.1
   have hq:q≤old.length:=by omega
   obtain⟨b,hb,hbq⟩:=table_l0 cs old (q:Int) h1 h2 hs hs2 (old.take q) (by rw[List.length_take];omega) (old.take q).length 0 (by omega);refine⟨b,Ev.step (fun k=>?_) hb,?_⟩
   ·rw[decide_eq_true hm]
    simp only [impl_TableOk.j0,Bool.not_true,Bool.false_eq_true,if_false];rw[if_pos hm.1,if_pos hm.2];simp only [Option.bind_some,Int.toNat_natCast];rfl
   ·rw[hbq,List.drop_zero]
    exact⟨fun h=>⟨hsz,hod,by omega,by simpa using h.1,h.2.1,h.2.2.1,h.2.2.2.1,h.2.2.2.2⟩,fun h=>⟨by simpa using h.gone,h.once,h.cells,h.olds,h.none⟩⟩
  ·rw[decide_eq_false hm]
   exact⟨false,bad True (fun h=>hm ⟨h.moved.1,by have:=h.moved.2;omega⟩)⟩
 unfold impl_TableOk.f;rw[sizeI];simp only [Option.bind_some]
 by_cases hsz:cs.length=4 ∨ cs.length=8 ∨ cs.length=16 ∨ cs.length=32 ∨ cs.length=64
 ·simp only [if_pos (decide_eq_true (show(cs.length:Int)=4 ∨ (cs.length:Int)=8 ∨ (cs.length:Int)=16 ∨ (cs.length:Int)=32 ∨ (cs.length:Int)=64 by omega))]
  by_cases h0:old.length=0
  ·simp only [if_pos (show(old.length:Int)=0 by omega)]
   exact mid hsz (.inl h0)
  ·simp only [if_neg (show ¬ (old.length:Int)=0 by omega)]
   have w2:wrap64 (2 * (old.length:Int))=2 * (old.length:Int):=by unfold wrap64;omega
   rw[w2]
   by_cases h3:2 * old.length=cs.length
   ·simp only [if_pos (show 2 * (old.length:Int)=(cs.length:Int) by omega)]
    exact mid hsz (.inr h3)
   ·simp only [if_neg (show ¬ 2 * (old.length:Int)=(cs.length:Int) by omega)]
    exact⟨false,bad True (fun h=>by rcases h.half with h|h <;> omega)⟩
 ·simp only [if_neg (show ¬ decide ((cs.length:Int)=4 ∨ (cs.length:Int)=8 ∨ (cs.length:Int)=16 ∨ (cs.length:Int)=32 ∨ (cs.length:Int)=64)=true from fun e=>hsz (by have:=of_decide_eq_true e;omega))]
  exact⟨false,bad True (fun h=>hsz h.size)⟩
def skOk (l:List Int) (n:Int):Bool:=decide (l.length=48) && l.all (fun x=>decide (0≤x∧x≤15)) && decide (0≤n∧n≤99)
def inD (x:Int):Bool:=decide (0≤x∧x≤15)
theorem skOk_iff {l:List Int} {n:Int}:skOk l n=true ↔ l.length=48∧(∀ x ∈ l,0≤x∧x≤15)∧0≤n∧n≤99:=by
 unfold skOk;simp only [Bool.and_eq_true,decide_eq_true_eq,List.all_eq_true];constructor
 ·rintro ⟨⟨h1,h2⟩,h3⟩;exact⟨h1,h2,h3⟩
 ·rintro ⟨h1,h2,h3⟩;exact⟨⟨h1,h2⟩,h3⟩
theorem all_step {l:List Int} {i:Nat} (hi:i < l.length) (p:Int→Bool):(l.drop i).all p=(p l[i] && (l.drop (i+1)).all p):=by
 rw[List.drop_eq_getElem_cons hi,List.all_cons]
theorem rangeSI (x a b:Int):impl_inRange.f x a b=some (decide (a≤x∧x≤b)):=by
 unfold impl_inRange.f
 by_cases c:x ≥ a
 ·rw[if_pos c];congr 1;simp;omega
 ·rw[if_neg c];congr 1;simp;omega
theorem skI_loop (l:List Int) (n:Int) (hl:l.length≤1048576) (d:Nat):∀ (i:Nat),l.length=i+d→Ev (fun k=>impl_SketchOk.l0 k l (l.length:Int) (i:Int) l n) (decide (l.length=48) && (l.drop i).all inD && decide (0≤n∧n≤99)):=by
 induction d with
 |zero =>
  intro i hd;refine Ev.step (f:=fun _=>some _) (fun k=>?_) (Ev.now _);simp only [impl_SketchOk.l0,rangeSI,Option.bind_some];rw[if_neg (by omega),List.drop_of_length_le (by omega)]
  by_cases c:l.length=48
  ·rw[if_pos (by omega),decide_eq_true c];simp
  ·rw[if_neg (by omega),decide_eq_false c];simp
 |succ d ih =>
  intro i hd;have hi:i < l.length:=by omega
  rw[all_step hi]
  by_cases c:inD l[i]=true
  ·refine Ev.step (f:=fun k=>impl_SketchOk.l0 k l (l.length:Int) ((i+1:Nat):Int) l n) (fun k=>?_) (by rw[c,Bool.true_and];exact ih (i+1) (by omega))
   simp only [impl_SketchOk.l0,rangeSI,Option.bind_some];rw[if_pos (by omega),if_pos (by omega),if_pos (by omega),rd_at l i hi,show decide (0≤l[i]∧l[i]≤15)=true from c,if_pos rfl,w64 i (by omega)]
  ·have c':inD l[i]=false:=by simpa using c
   refine Ev.step (f:=fun _=>some false) (fun k=>?_) (by rw[c'];simp;exact Ev.now _);simp only [impl_SketchOk.l0,rangeSI,Option.bind_some];rw[if_pos (by omega),if_pos (by omega),if_pos (by omega),rd_at l i hi,show decide (0≤l[i]∧l[i]≤15)=false from c',if_neg (by simp)]
theorem skI_ev (l:List Int) (n:Int) (hl:l.length≤1048576):Ev (fun k=>impl_SketchOk.f k l n) (skOk l n):=skI_loop l n hl l.length 0 (by omega)
theorem doorI (D:Int):impl_DoorOk.f D=some (decide (0≤D∧D < 4294967296)):=by
 unfold impl_DoorOk.f impl_inRange.f
 by_cases c:D ≥ 0
 ·rw[if_pos c];simp only [Option.bind_some];congr 1;rw[Bool.eq_iff_iff];simp;omega
 ·rw[if_neg c];simp only [Option.bind_some];congr 1;rw[Bool.eq_iff_iff];simp;omega
end Go.Proofs.YtediiolcoilepaaGreat.Nb
