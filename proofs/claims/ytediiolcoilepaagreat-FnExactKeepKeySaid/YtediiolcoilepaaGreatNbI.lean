/- Walks of callees. -/
import Derived.Test.YtediiolcoilepaaGreatGNear7
import Derived.Test.YtediiolcoilepaaGreatGNear9
namespace Go.Proofs.YtediiolcoilepaaGreat.Nb
set_option maxHeartbeats 8000000
set_option maxRecDepth 100000
open Go.RowKit YtediiolcoilepaaGreat.GNear YtediiolcoilepaaGreatW.PrintWords YtediiolcoilepaaGreatW.PrintLast YtediiolcoilepaaGreatW.PrintMore
theorem w64 (i:Nat) (h:(i:Int) < 9223372036854775807):wrap64 ((i:Int)+1)=((i+1:Nat):Int):=by unfold wrap64;omega
theorem A7l {α:Type} (x:List α) (i:Nat) (v:α) (h:i < x.length):(x.set i v).take (i+1)=x.take i ++ [v]:=by
 rw[List.take_add_one,List.take_set_of_le (Nat.le_refl i),List.getElem?_set_self h];rfl
theorem A94 {α:Type} (x:List α) (i:Nat) (h:i < x.length):x.take (i+1)=x.take i ++ [x[i]]:=by
 rw[List.take_add_one,C0c h];rfl
theorem B2t (x:List Int) (i:Nat) (h:i < x.length):rd x (i:Int)=x[i]:=by
 unfold rd;rw[C0j,C0k,C0c h];rfl
theorem A3q {s t:ByteArray}:s.toList=t.toList ↔ s=t :=
 ⟨fun h=>Go.WideShapes.bytes_inj (by rw[← ByteArray.toList_eq,← ByteArray.toList_eq];exact h),fun h=>by rw[h]⟩
noncomputable abbrev B9n (s:ByteArray) (l:List ByteArray):Decidable (s ∈ l):=Classical.propDecidable _
attribute [local instance] B9n
theorem A2g (x:List ByteArray) (i:Nat) (h:i < x.length):rdOf ByteArray.empty x (i:Int)=x[i]:=by
 unfold rdOf;rw[C0j,C0k,C0c h];rfl
theorem A0u (s:ByteArray):s.toList=([]:List UInt8) ↔ s.size=0:=by
 constructor
 ·intro h
  have:=A3q.1 (h.trans (show([]:List UInt8)=(⟨#[]⟩:ByteArray).toList from by rw[ByteArray.toList_eq]));rw[this];rfl
 ·intro h
  have:s=(⟨#[]⟩:ByteArray):=by
   apply ByteArray.ext;exact Array.eq_empty_of_size_eq_zero h
  rw[this,ByteArray.toList_eq]
theorem A41 (x:List S94) (i:Nat) (h:i < x.length):A0p x (i:Int)=x[i]:=by
 unfold A0p;rw[C0j,C0k,C0c h];rfl
theorem A2w (x:List S151) (i:Nat) (h:i < x.length):A0c x (i:Int)=x[i]:=by
 unfold A0c;rw[C0j,C0k,C0c h];rfl
theorem A48 (a b c:Int):A0n.f a b c=some (decide (b≤a∧a≤c)):=by
 unfold A0n.f
 by_cases h:a ≥ b
 ·rw[if_pos h];congr 1;rw[Bool.eq_iff_iff];simp;omega
 ·rw[if_neg h];congr 1;rw[Bool.eq_iff_iff];simp;omega
theorem keyI (s:ByteArray):A1j.f s=some (decide (1≤(s.size:Int)∧(s.size:Int)≤12)):=by unfold A1j.f;rw[A48];rfl
theorem A3j (a b c:Int):A0l.f a b c=some (decide (b≤a∧a≤c)):=by
 unfold A0l.f
 by_cases h:a ≥ b
 ·rw[if_pos h];congr 1;rw[Bool.eq_iff_iff];simp;omega
 ·rw[if_neg h];congr 1;rw[Bool.eq_iff_iff];simp;omega
namespace AM
variable {α:Type} (G:α→Int) (U:α→Bool) (K V:α→ByteArray) (N:α→Int)
def Path (xs:List α):Int→List Nat→Prop
 |p,[]=>p = -1
 |p,i :: l=>p=(i:Int)∧∃ x,xs[i]? = some x∧U x=false∧Path xs (N x) l
theorem Path.det {xs:List α}:∀ {l l':List Nat} {p:Int},Path U N xs p l→Path U N xs p l'→l=l'
 |[],[],_,_,_=>rfl
 |[],i :: l,p,h,h'=>by have h1:=h'.1;have h2:p = -1:=h;omega
 |i :: l,[],p,h,h'=>by have h1:=h.1;have h2:p = -1:=h';omega
 |i :: l,j :: l',p,h,h'=>by
  obtain⟨h1,x,hx,_,hp⟩:=h;obtain⟨h1',x',hx',_,hp'⟩:=h';have e:i=j:=by omega
  subst e;rw[hx] at hx';obtain rfl:=C0d hx';rw[hp.det hp']
theorem Path.suffix {xs:List α}:∀ {l:List Nat} {p:Int} {i:Nat},Path U N xs p l→i ∈ l→∃ t,Path U N xs (i:Int) (i :: t)∧(i :: t).length≤l.length
 |j :: l,p,i,h,hi=>by
  rcases List.mem_cons.1 hi with e|hi
  ·subst e
   have h1:=h.1;exact⟨l,by rw[← h1];exact h,Nat.le_refl _⟩
  ·obtain⟨_,x,_,_,hp⟩:=h
   obtain⟨t,ht,hle⟩:=hp.suffix hi;exact⟨t,ht,by simp only [List.length_cons] at hle ⊢;omega⟩
theorem Path.nodup {xs:List α}:∀ {l:List Nat} {p:Int},Path U N xs p l→l.Nodup
 |[],_,_=>List.nodup_nil
 |i :: l,p,h=>by
  have h0:=h;obtain⟨h1,x,hx,hu,hp⟩:=h;refine List.nodup_cons.2 ⟨fun hi=>?_,hp.nodup⟩;obtain⟨t,ht,hle⟩:=hp.suffix U N hi;rw[h1] at h0;have:=h0.det U N ht;rw[← this] at hle;simp only [List.length_cons] at hle;omega
theorem Path.mem {xs:List α}:∀ {l:List Nat} {p:Int},Path U N xs p l→∀ i ∈ l,∃ x,xs[i]? = some x∧U x=false
 |j :: l,p,h,i,hi=>by
  obtain⟨_,x,hx,hu,hp⟩:=h;rcases List.mem_cons.1 hi with e|hi
  ·subst e;exact⟨x,hx,hu⟩
  ·exact hp.mem i hi
theorem Path.set {xs:List α} {k:Nat} {y:α}:∀ {l:List Nat} {p:Int},Path U N xs p l→k ∉ l→Path U N (xs.set k y) p l
 |[],p,h,_=>h
 |i :: l,p,h,hk=>by
  obtain⟨h1,x,hx,hu,hp⟩:=h;simp only [List.mem_cons,not_or] at hk;exact⟨h1,x,by rw[List.getElem?_set_ne hk.1];exact hx,hu,hp.set hk.2⟩
def slotR (x:α):Prop:=0≤G x∧G x≤41666665∧(U x=true→1≤(K x).size∧(K x).size≤12∧(V x).size≤20∧N x=0)∧(U x=false→(K x).size=0∧(V x).size=0)
structure Right (xs:List α) (free:Int):Prop where
 len:1≤xs.length∧xs.length≤24
 slots:∀ x ∈ xs,slotR G U K V N x
 path:∃ l,Path U N xs free l∧∀ i x,xs[i]? = some x→U x=false→i ∈ l
theorem B4f {xs:List α} {k:Nat} {y z:α} (h:z ∈ xs.set k y):z ∈ xs ∨ z=y:=List.mem_or_eq_of_mem_set h
theorem Right.first {xs:List α} {free:Int} (h:Right G U K V N xs free) (hf:free ≠ -1):∃ (k:Nat) (x:α),free=(k:Int)∧xs[k]? = some x∧U x=false:=by
 obtain⟨l,hp,_⟩:=h.path;cases l with
 |nil=>exact absurd hp hf
 |cons i l =>
  obtain⟨h1,x,hx,hu,_⟩:=hp;exact⟨i,x,h1,hx,hu⟩
theorem Right.full {xs:List α} {free:Int} (h:Right G U K V N xs free):free = -1 ↔ ∀ x ∈ xs,U x=true:=by
 obtain⟨l,hp,ha⟩:=h.path;constructor
 ·intro e x hx
  cases l with
  |nil =>
   obtain⟨i,hi,rfl⟩:=List.getElem_of_mem hx;cases hu:U xs[i] with
   |true=>rfl
   |false=>exact absurd (ha i _ (C0c hi) hu) Zs
  |cons i l=>have:=hp.1;omega
 ·intro hall
  cases l with
  |nil=>exact hp
  |cons i l =>
   obtain⟨_,x,hx,hu,_⟩:=hp;rw[hall x (C0h hx)] at hu;cases hu
theorem Right.lay {xs:List α} {k:Nat} {x y:α} (h:Right G U K V N xs (k:Int)) (hx:xs[k]? = some x) (hu:U y=true) (hy:slotR G U K V N y):Right G U K V N (xs.set k y) (N x):=by
 obtain⟨l,hp,ha⟩:=h.path;have hkl:k < xs.length:=(C0e.1 hx).1
 cases l with
 |nil=>have h2:(k:Int) = -1:=hp;omega
 |cons i l =>
  have hnd:=hp.nodup;obtain⟨h1,x',hx',hu',hp'⟩:=hp;have e:k=i:=by omega
  subst e;rw[hx] at hx';obtain rfl:=C0d hx';refine⟨by rw[C0i];exact h.len,fun z hz=>?_,l,hp'.set U N (List.nodup_cons.1 hnd).1,fun i z hz hzu=>?_⟩
  ·rcases B4f hz with hz|rfl
   ·exact h.slots z hz
   ·exact hy
  ·by_cases e:k=i
   ·subst e
    rw[List.getElem?_set_self hkl] at hz;obtain rfl:=C0d hz;rw[hu] at hzu;cases hzu
   ·rw[List.getElem?_set_ne e] at hz
    rcases List.mem_cons.1 (ha i z hz hzu) with e'|h'
    ·exact absurd e'.symm e
    ·exact h'
theorem Right.lift {xs:List α} {free:Int} {k:Nat} {x y:α} (h:Right G U K V N xs free) (hx:xs[k]? = some x) (hux:U x=true) (hu:U y=false) (hn:N y=free) (hy:slotR G U K V N y):Right G U K V N (xs.set k y) (k:Int):=by
 obtain⟨l,hp,ha⟩:=h.path;have hkl:k < xs.length:=(C0e.1 hx).1;have hk:k ∉ l:=fun hk=>by
  obtain⟨z,hz,hzu⟩:=hp.mem U N k hk;rw[hx] at hz;obtain rfl:=C0d hz;rw[hux] at hzu;cases hzu
 refine⟨by rw[C0i];exact h.len,fun z hz=>?_,k :: l,⟨rfl,y,List.getElem?_set_self hkl,hu,by rw[hn];exact hp.set U N hk⟩,fun i z hz hzu=>?_⟩
 ·rcases B4f hz with hz|rfl
  ·exact h.slots z hz
  ·exact hy
 ·by_cases e:k=i
  ·subst e;simp
  ·rw[List.getElem?_set_ne e] at hz
   exact List.mem_cons_of_mem _ (ha i z hz hzu)
def chainF (xs:List α):Nat→Int→Option Nat
 |0,p=>if p = -1 then some 0 else none
 |d+1,p=>if p = -1 then some 0 else if 0≤p then (match xs[p.toNat]? with
  |none=>none
  |some x=>if U x then none else (chainF xs d (N x)).map (·+1)) else none
theorem chainF_iff {xs:List α}:∀ {d n:Nat} {p:Int},chainF U N xs d p=some n ↔ ∃ l,Path U N xs p l∧l.length=n∧n≤d
 |0,n,p=>by
  simp only [chainF];constructor
  ·intro h
   by_cases c:p = -1
   ·rw[if_pos c] at h
    obtain rfl:=C0d h;exact⟨[],c,rfl,Nat.le_refl _⟩
   ·rw[if_neg c] at h;cases h
  ·rintro ⟨l,hp,rfl,hl⟩
   obtain rfl:=List.eq_nil_of_length_eq_zero (Nat.le_zero.1 hl);rw[if_pos (show p = -1 from hp)];rfl
 |d+1,n,p=>by
  simp only [chainF]
  by_cases c:p = -1
  ·rw[if_pos c]
   constructor
   ·intro h
    obtain rfl:=C0d h;exact⟨[],c,rfl,Nat.zero_le _⟩
   ·rintro ⟨l,hp,rfl,hl⟩
    cases l with
    |nil=>rfl
    |cons i l=>have:=hp.1;omega
  ·rw[if_neg c]
   by_cases c0:0≤p
   ·rw[if_pos c0]
    cases hx:xs[p.toNat]? with
    |none =>
     simp only;constructor
     ·intro h;cases h
     ·rintro ⟨l,hp,rfl,hl⟩
      cases l with
      |nil=>exact absurd hp c
      |cons i l =>
       obtain⟨e,x,h1,_⟩:=hp;rw[e,C0k,h1] at hx;cases hx
    |some x =>
     simp only
     cases hu:U x with
     |true =>
      simp only [if_true];constructor
      ·intro h;cases h
      ·rintro ⟨l,hp,rfl,hl⟩
       cases l with
       |nil=>exact absurd hp c
       |cons i l =>
        obtain⟨e,x',h1,h2,_⟩:=hp;rw[e,C0k,h1] at hx;rw[C0d hx,hu] at h2;cases h2
     |false =>
      simp only [Bool.false_eq_true,if_false];constructor
      ·intro h
       obtain⟨m,hm,rfl⟩:=Option.map_eq_some_iff.1 h;obtain⟨l,hp,hl,hle⟩:=chainF_iff.1 hm;exact⟨p.toNat :: l,⟨by omega,x,hx,hu,hp⟩,by simp[hl],by omega⟩
      ·rintro ⟨l,hp,rfl,hl⟩
       cases l with
       |nil=>exact absurd hp c
       |cons i l =>
        obtain⟨e,x',h1,h2,h3⟩:=hp;rw[e,C0k,h1] at hx;obtain rfl:=C0d hx;exact Option.map_eq_some_iff.2 ⟨l.length,chainF_iff.2 ⟨l,h3,rfl,by simp only [List.length_cons] at hl;omega⟩,rfl⟩
   ·rw[if_neg c0]
    constructor
    ·intro h;cases h
    ·rintro ⟨l,hp,rfl,hl⟩
     cases l with
     |nil=>exact absurd hp c
     |cons i l=>have:=hp.1;omega
theorem A9d {l m:List Nat} (hl:l.Nodup) (hs:∀ i ∈ l,i ∈ m):l.length≤m.length:=by
 induction l generalizing m with
 |nil=>simp
 |cons a l ih =>
  obtain⟨ha,hl⟩:=List.nodup_cons.1 hl;have h:=ih (m:=m.erase a) hl (fun j hj=>(List.mem_erase_of_ne (fun e=>ha (by rw[← e];exact hj))).2 (hs j (List.mem_cons_of_mem _ hj)));have h1:=List.length_erase_of_mem (hs a Zs);have h2:0 < m.length:=List.length_pos_of_mem (hs a Zs);simp only [List.length_cons];omega
theorem A9e {l m:List Nat} (hl:l.Nodup) (hs:∀ i ∈ l,i ∈ m) (hlen:m.length≤l.length):∀ i ∈ m,i ∈ l:=by
 intro i hi
 by_cases h:i ∈ l
 ·exact h
 ·have h1:=A9d (l:=i :: l) (m:=m) (List.nodup_cons.2 ⟨h,hl⟩) (fun j hj=>(List.mem_cons.1 hj).elim (fun e=>e ▸ hi) (hs j))
  simp only [List.length_cons] at h1;omega
def A7e (xs:List α):List Nat:=(List.range xs.length).filter fun i=>(xs[i]?.map fun x=>!U x).getD false
theorem A56 {xs:List α} {i:Nat}:i ∈ A7e U xs ↔ ∃ x,xs[i]? = some x∧U x=false:=by
 unfold A7e;rw[List.mem_filter,List.mem_range];constructor
 ·rintro ⟨h,hu⟩
  rw[C0c h] at hu;exact⟨xs[i],C0c h,by simpa using hu⟩
 ·rintro ⟨x,hx,hu⟩
  refine⟨(C0e.1 hx).1,?_⟩;rw[hx];simp[hu]
theorem A95 {xs:List α}:(A7e U xs).Nodup:=(List.nodup_range (n:=xs.length)).sublist List.filter_sublist
theorem A6r (xs:List α):(A7e U xs).length+xs.countP U=xs.length:=by
 unfold A7e;have h:((List.range xs.length).filter fun i=>(xs[i]?.map fun x=>!U x).getD false).length=xs.countP (fun x=>!U x):=by
  rw[← List.countP_eq_length_filter];have e:xs.countP (fun x=>!U x)=((List.range xs.length).map fun i=>xs[i]?).countP (fun o=>(o.map fun x=>!U x).getD false):=by
   have:((List.range xs.length).map fun i=>xs[i]?)=xs.map some:=by
    apply List.ext_getElem
    ·simp
    ·intro i h1 h2
     simp at h1;simp[h1]
   rw[this,List.countP_map];rfl
  rw[e,List.countP_map];rfl
 rw[h];have:=List.length_eq_countP_add_countP U (l:=xs);have e:xs.countP (fun x=>!U x)=xs.countP (fun x=>decide ¬ U x=true):=by congr 1;funext x;cases U x <;> rfl
 rw[e];omega
theorem Path.length_le {xs:List α} {l:List Nat} {p:Int} (h:Path U N xs p l):l.length≤xs.length - xs.countP U:=by
 have h1:l.length≤(A7e U xs).length:=A9d (h.nodup U N) fun i hi=>(A56 U).2 (h.mem U N i hi);have:=A6r U xs;omega
theorem Path.all_iff {xs:List α} {l:List Nat} {p:Int} (h:Path U N xs p l):(l.length+xs.countP U=xs.length) ↔ ∀ i x,xs[i]? = some x→U x=false→i ∈ l:=by
 have hf:=A6r U xs;constructor
 ·intro e i x hx hu
  exact A9e (m:=A7e U xs) (h.nodup U N) (fun j hj=>(A56 U).2 (h.mem U N j hj)) Zo i ((A56 U).2 ⟨x,hx,hu⟩)
 ·intro hall
  have h1:=h.length_le U N;have h2:(A7e U xs).length≤l.length:=A9d (A95 U) fun i hi=>by obtain⟨x,hx,hu⟩:=(A56 U).1 hi;exact hall i x hx hu
  have:=List.countP_le_length (p:=U) (l:=xs);omega
end AM
abbrev slR:S94→Prop:=AM.slotR S94.f0 S94.f1 S94.f2 S94.f3 S94.f4
abbrev arR:List S94→Int→Prop:=AM.Right S94.f0 S94.f1 S94.f2 S94.f3 S94.f4
theorem slotI (x:S94):∃ b,A3o.f x.f0 x.f1 x.f2 x.f3 x.f4=some b∧(b=true ↔ slR x):=by
 unfold A3o.f slR AM.slotR;rw[A48];simp only [Option.bind_some]
 by_cases h1:0≤x.f0∧x.f0≤41666665
 ·rw[if_pos (B99 h1),keyI]
  simp only [Option.bind_some]
  cases hu:x.f1 with
  |true =>
   simp only [if_true]
   by_cases h2:1≤(x.f2.size:Int)∧(x.f2.size:Int)≤12
   ·rw[if_pos (B99 h2)]
    by_cases h3:(x.f3.size:Int)≤20
    ·rw[if_pos h3]
     exact⟨_,rfl,by simp;omega⟩
    ·rw[if_neg h3]
     exact⟨_,rfl,by simp;omega⟩
   ·rw[if_neg (show ¬ decide (1≤(x.f2.size:Int)∧(x.f2.size:Int)≤12)=true from fun e=>h2 (C0b e))]
    exact⟨_,rfl,by simp;omega⟩
  |false =>
   simp only [Bool.false_eq_true,if_false]
   by_cases h2:x.f2.toList=([]:List UInt8)
   ·rw[if_pos h2]
    refine⟨_,rfl,?_⟩;rw[beq_iff_eq,A0u];exact⟨fun h=>⟨h1.1,h1.2,fun e=>by simp at e,fun _=>⟨(A0u _).1 h2,h⟩⟩,fun h=>(h.2.2.2 trivial).2⟩
   ·rw[if_neg h2]
    exact⟨_,rfl,by simp,fun h=>absurd ((A0u _).2 (h.2.2.2 trivial).1) h2⟩
 ·rw[if_neg (show ¬ decide (0≤x.f0∧x.f0≤41666665)=true from fun e=>h1 (C0b e))]
  exact⟨_,rfl,by simp;omega⟩
def A71 (n:Nat):Option Nat→Int
 |none=>-1
 |some m=>((n+m:Nat):Int)
theorem B9o (xs:List S94) (fr:Int) (hl:xs.length≤1048576) (d:Nat):∀ (n:Nat) (p:Int),n+d=xs.length →
  Ev (fun k=>A00.l0 k (n:Int) p xs fr) (A71 n (AM.chainF S94.f1 S94.f4 xs d p)):=by
 induction d with
 |zero =>
  intro n p hd;simp only [AM.chainF]
  by_cases c:p = -1
  ·rw[if_pos c]
   refine Ev.step (f:=fun _=>some ((n:Int))) (fun k=>?_) (Ev.now _);simp only [A00.l0];rw[if_pos c]
  ·rw[if_neg c]
   refine Ev.step (f:=fun _=>some (-1)) (fun k=>?_) (Ev.now _);simp only [A00.l0];rw[if_neg c,A48];simp only [Option.bind_some];have ew:wrap64 ((xs.length:Int) - 1)=(xs.length:Int) - 1:=by unfold wrap64;omega
   rw[ew]
   by_cases c2:0≤p∧p≤(xs.length:Int) - 1
   ·rw[if_pos (B99 c2),if_pos c2.1,if_pos Zo]
    split
    ·rfl
    ·rw[if_pos Zo]
   ·rw[if_neg (show ¬ decide (0≤p∧p≤(xs.length:Int) - 1)=true from fun e=>c2 (C0b e))]
 |succ d ih =>
  intro n p hd;simp only [AM.chainF]
  by_cases c:p = -1
  ·rw[if_pos c]
   refine Ev.step (f:=fun _=>some ((n:Int))) (fun k=>?_) (Ev.now _);simp only [A00.l0];rw[if_pos c]
  ·rw[if_neg c]
   have ew:wrap64 ((xs.length:Int) - 1)=(xs.length:Int) - 1:=by unfold wrap64;omega
   by_cases c2:0≤p∧p≤(xs.length:Int) - 1
   ·obtain⟨q,rfl⟩:=Int.eq_ofNat_of_zero_le c2.1
    have hq:q < xs.length:=by omega
    rw[if_pos c2.1,C0k,C0c hq];simp only
    cases hu:xs[q].f1 with
    |true =>
     simp only [if_true];refine Ev.step (f:=fun _=>some (-1)) (fun k=>?_) (Ev.now _);simp only [A00.l0];rw[if_neg c,A48];simp only [Option.bind_some];rw[ew,if_pos (B99 c2),if_pos c2.1,if_pos Zo,A41 xs q hq,hu];simp
    |false =>
     simp only [Bool.false_eq_true,if_false];have:=ih (n+1) xs[q].f4 Zo;refine Ev.step (f:=fun k=>A00.l0 k ((n+1:Nat):Int) xs[q].f4 xs fr) (fun k=>?_) (Ev.congr (fun k=>rfl) (by
      cases hc:AM.chainF S94.f1 S94.f4 xs d xs[q].f4 with
      |none=>rw[hc] at this;exact this
      |some m=>rw[hc] at this;simpa [A71,Nat.add_assoc,Nat.add_comm,Nat.add_left_comm] using this))
     simp only [A00.l0];rw[if_neg c,A48];simp only [Option.bind_some];rw[ew,if_pos (B99 c2),if_pos c2.1,if_pos Zo,A41 xs q hq,hu];simp only [Bool.false_eq_true,if_false];rw[if_neg Zo,w64 n Zo]
   ·have fin:Ev (fun k=>A00.l0 k (n:Int) p xs fr) (-1):=by
     refine Ev.step (f:=fun _=>some (-1)) (fun k=>?_) (Ev.now _);simp only [A00.l0];rw[if_neg c,A48];simp only [Option.bind_some];rw[ew,if_neg (show ¬ decide (0≤p∧p≤(xs.length:Int) - 1)=true from fun e=>c2 (C0b e))]
    by_cases c3:0≤p
    ·rw[if_pos c3,List.getElem?_eq_none Zo];exact fin
    ·rw[if_neg c3];exact fin
theorem B2u (xs:List S94) (hl:xs.length≤1048576) (d:Nat):∀ (i n:Nat),xs.length=i+d→n≤i →
  Ev (fun k=>A04.l0 k (n:Int) xs (xs.length:Int) (i:Int)) ((n+(xs.drop i).countP S94.f1:Nat):Int):=by
 induction d with
 |zero =>
  intro i n hd hn;rw[List.drop_eq_nil_of_le Zo];refine Ev.step (f:=fun _=>some ((n:Nat):Int)) (fun k=>?_) (Ev.now _);simp only [A04.l0];rw[if_neg Zo]
 |succ d ih =>
  intro i n hd hn;have hi:i < xs.length:=by omega
  rw[List.drop_eq_getElem_cons hi,List.countP_cons]
  cases hu:xs[i].f1 with
  |true =>
   simp only [if_true];have:=ih (i+1) (n+1) Zo Zo;rw[show n+(List.countP S94.f1 (List.drop (i+1) xs)+1)=n+1+List.countP S94.f1 (List.drop (i+1) xs) by omega];refine Ev.step (fun k=>?_) this;simp only [A04.l0];rw[if_pos Zo,if_pos Zo,if_pos Zo,A41 xs i hi,hu,w64 i Zo,w64 n Zo];simp
  |false =>
   simp only [Bool.false_eq_true,if_false,Nat.add_zero];refine Ev.step (fun k=>?_) (ih (i+1) n Zo Zo);simp only [A04.l0];rw[if_pos Zo,if_pos Zo,if_pos Zo,A41 xs i hi,hu,w64 i Zo];simp
theorem B6n (xs:List S94) (fr:Int) (hl:xs.length≤1048576):Ev (fun k=>A04.f k xs fr) ((xs.countP S94.f1:Nat):Int):=by
 have:=B2u xs hl xs.length 0 0 Zo Zo;rw[List.drop_zero,Nat.zero_add] at this;exact this
theorem B07 (xs:List S94) (fr:Int):A71 0 (AM.chainF S94.f1 S94.f4 xs xs.length fr)=(xs.length:Int) - (xs.countP S94.f1:Int) ↔
  ∃ l,AM.Path S94.f1 S94.f4 xs fr l∧∀ i x,xs[i]? = some x→S94.f1 x=false→i ∈ l:=by
 have hc:=List.countP_le_length (p:=S94.f1) (l:=xs);constructor
 ·intro h
  cases hm:AM.chainF S94.f1 S94.f4 xs xs.length fr with
  |none=>rw[hm] at h;simp only [A71] at h;omega
  |some m =>
   rw[hm] at h;simp only [A71,Nat.zero_add] at h;obtain⟨l,hp,hl,_⟩:=(AM.chainF_iff S94.f1 S94.f4).1 hm;exact⟨l,hp,(hp.all_iff S94.f1 S94.f4).1 Zo⟩
 ·rintro ⟨l,hp,ha⟩
  have hl:=(hp.all_iff S94.f1 S94.f4).2 ha;have hm:=(AM.chainF_iff S94.f1 S94.f4 (d:=xs.length) (n:=l.length)).2 ⟨l,hp,rfl,by omega⟩;rw[hm];simp only [A71,Nat.zero_add];omega
theorem B08 (xs:List S94) (fr:Int) (hl:xs.length≤1048576) (d:Nat):∀ (i:Nat),xs.length=i+d →
  ∃ b,Ev (fun k=>A1p.l0 k xs (xs.length:Int) (i:Int) xs fr) b∧(b=true ↔ (∀ x ∈ xs.drop i,slR x)∧(1≤xs.length∧xs.length≤24)∧∃ l,AM.Path S94.f1 S94.f4 xs fr l∧∀ i x,xs[i]? = some x→S94.f1 x=false→i ∈ l):=by
 induction d with
 |zero =>
  intro i hd;rw[List.drop_eq_nil_of_le Zo];have hch:=B9o xs fr hl xs.length 0 fr Zo;have hus:=B6n xs fr hl;have hc:=List.countP_le_length (p:=S94.f1) (l:=xs)
  by_cases h:1≤(xs.length:Int)∧(xs.length:Int)≤24
  ·refine⟨(A71 0 (AM.chainF S94.f1 S94.f4 xs xs.length fr) == (xs.length:Int) - (xs.countP S94.f1:Int)),?_,?_⟩
   ·refine Ev.step (f:=fun k=>(A00.f k xs fr).bind fun t255=>((A04.f k xs fr).bind fun t256=>(some (t255 == (wrap64 ((xs.length:Int) - t256)))))) (fun k=>?_) ?_
    ·simp only [A1p.l0]
     rw[if_neg Zo,A48];simp only [Option.bind_some];rw[if_pos (B99 h)]
    ·refine Ev.bind (Ev.congr (fun k=>rfl) hch) (Ev.bind hus ?_)
     rw[show wrap64 ((xs.length:Int) - ((xs.countP S94.f1:Nat):Int))=(xs.length:Int) - (xs.countP S94.f1:Int) by unfold wrap64;omega];exact Ev.now _
   ·rw[beq_iff_eq,B07]
    simp only [List.not_mem_nil,false_imp_iff,implies_true,true_and];exact⟨fun h2=>⟨by omega,h2⟩,fun h2=>h2.2⟩
  ·refine⟨false,?_,?_⟩
   ·refine Ev.step (f:=fun _=>some false) (fun k=>?_) (Ev.now _)
    simp only [A1p.l0];rw[if_neg Zo,A48];simp only [Option.bind_some];rw[if_neg (show ¬ decide (1≤(xs.length:Int)∧(xs.length:Int)≤24)=true from fun e=>h (C0b e))]
   ·simp only [Bool.false_eq_true,false_iff]
    rintro ⟨_,h2,_⟩;omega
 |succ d ih =>
  intro i hd;have hi:i < xs.length:=by omega
  obtain⟨b,hb,hq⟩:=ih (i+1) Zo;obtain⟨s,hs,hsq⟩:=slotI xs[i];rw[List.drop_eq_getElem_cons hi]
  cases s with
  |true =>
   refine⟨b,Ev.step (fun k=>?_) hb,?_⟩
   ·simp only [A1p.l0]
    rw[if_pos Zo,if_pos Zo,if_pos Zo,A41 xs i hi,hs,w64 i Zo];simp
   ·rw[hq]
    simp only [List.mem_cons,forall_eq_or_imp];exact⟨fun h=>⟨⟨hsq.1 rfl,h.1⟩,h.2⟩,fun h=>⟨h.1.2,h.2⟩⟩
  |false =>
   refine⟨false,Ev.step (f:=fun _=>some false) (fun k=>?_) (Ev.now _),?_⟩
   ·simp only [A1p.l0]
    rw[if_pos Zo,if_pos Zo,if_pos Zo,A41 xs i hi,hs];simp
   ·simp only [Bool.false_eq_true,false_iff,List.mem_cons,forall_eq_or_imp]
    rintro ⟨⟨h,_⟩,_⟩;exact absurd (hsq.2 h) Zs
theorem B4g (xs:List S94) (fr:Int) (hl:xs.length≤1048576):∃ b,Ev (fun k=>A1p.f k xs fr) b∧(b=true ↔ arR xs fr):=by
 obtain⟨b,hb,hq⟩:=B08 xs fr hl xs.length 0 Zo;refine⟨b,hb,hq.trans ?_⟩;rw[List.drop_zero];exact⟨fun h=>⟨h.2.1,h.1,h.2.2⟩,fun h=>⟨h.slots,h.len,h.path⟩⟩
def fi:List ByteArray→ByteArray→Nat→Int
 |[],_,_=>-1
 |a :: l,s,i=>if s=a then (i:Int) else fi l s (i+1)
theorem B9p (l:List ByteArray) (s:ByteArray):∀ i,s ∉ l→fi l s i = -1:=by
 induction l with
 |nil=>intro i _;rfl
 |cons a l ih =>
  intro i h;have h1:s ≠ a:=fun e=>h (by rw[e];exact List.mem_cons_self);unfold fi;rw[if_neg h1];exact ih _ (fun h'=>h (List.mem_cons_of_mem _ h'))
theorem B7k (l:List ByteArray) (s:ByteArray):∀ i,s ∈ l→∃ j,∃ h:j < l.length,l[j]=s∧s ∉ l.take j∧fi l s i=((i+j:Nat):Int):=by
 induction l with
 |nil=>intro i h;cases h
 |cons a l ih =>
  intro i h;unfold fi
  by_cases c:s=a
  ·rw[if_pos c]
   exact⟨0,by simp,by simp[c],by simp,rfl⟩
  ·rw[if_neg c]
   have h':s ∈ l:=by
    rcases List.mem_cons.1 h with h|h
    ·exact absurd h c
    ·exact h
   obtain⟨j,hj,e1,e2,e3⟩:=ih (i+1) h';refine⟨j+1,by simpa using hj,by simpa using e1,?_,by rw[e3];congr 1;omega⟩;rw[List.take_succ_cons];intro hm
   rcases List.mem_cons.1 hm with h|h
   ·exact c h
   ·exact e2 h
theorem A72 {α:Type} (x:List α) (i:Nat) (h:i < x.length):x.drop i=x[i] :: x.drop (i+1):=List.drop_eq_getElem_cons h
theorem B2v (l:List ByteArray) (s:ByteArray) (hl:l.length≤1048576) (d:Nat):∀ (i:Nat),l.length=i+d→Ev (fun k=>A0h.l0 k l s (l.length:Int) (i:Int)) (fi (l.drop i) s i):=by
 induction d with
 |zero =>
  intro i hd;rw[List.drop_eq_nil_of_le Zo];refine Ev.step (f:=fun _=>some (-1)) (fun k=>?_) (Ev.now _);simp only [A0h.l0];rw[if_neg Zo]
 |succ d ih =>
  intro i hd;have hi:i < l.length:=by omega
  rw[A72 l i hi];unfold fi
  by_cases c:s=l[i]
  ·rw[if_pos c]
   refine Ev.step (f:=fun _=>some (i:Int)) (fun k=>?_) (Ev.now _);simp only [A0h.l0,A2g l i hi];rw[if_pos Zo,if_pos Zo,if_pos Zo,if_pos (A3q.2 c)]
  ·rw[if_neg c]
   refine Ev.step (fun k=>?_) (ih (i+1) Zo);simp only [A0h.l0,A2g l i hi];rw[if_pos Zo,if_pos Zo,if_pos Zo,if_neg (fun h=>c (A3q.1 h)),w64 i Zo]
theorem B1v (l:List ByteArray) (s:ByteArray) (hl:l.length≤1048576):Ev (fun k=>A0h.f k l s) (fi l s 0):=B2v l s hl l.length 0 Zo
def isK (s:ByteArray):Prop:=1≤s.size∧s.size≤12
def A7f (l:List ByteArray) (i:Nat):Prop:=∀ j,i≤j→∀ h:j < l.length,isK l[j]∧l[j] ∉ l.take j
def okQ (m:Int) (l:List ByteArray):Prop:=0≤m∧m≤24∧(l.length:Int)≤m∧A7f l 0
theorem A4m {l:List ByteArray} {i:Nat} (hi:i < l.length):A7f l i ↔ (isK l[i]∧l[i] ∉ l.take i)∧A7f l (i+1):=by
 constructor
 ·intro h
  exact⟨h i (Nat.le_refl _) hi,fun j hj hl=>h j Zo hl⟩
 ·rintro ⟨h1,h2⟩ j hj hl
  by_cases e:i=j
  ·subst e;exact h1
  ·exact h2 j Zo hl
theorem A8u {l:List ByteArray} {i:Nat} (hi:l.length≤i):A7f l i:=fun j hj hl=>absurd hl Zo
theorem B4h (l:List ByteArray) (j:Nat) (h:j < l.length):fi l l[j] 0=(j:Int) ↔ l[j] ∉ l.take j:=by
 obtain⟨i,hi,e1,e2,e3⟩:=B7k l l[j] 0 (List.getElem_mem h);rw[e3];constructor
 ·intro e
  have:i=j:=by omega
  subst this;exact e2
 ·intro hn
  rcases Nat.lt_trichotomy i j with c|c|c
  ·exact absurd (List.mem_take_iff_getElem.2 ⟨i,by omega,e1⟩) hn
  ·subst c;simp
  ·exact absurd (List.mem_take_iff_getElem.2 ⟨j,by omega,rfl⟩) e2
theorem B6o (m:Int) (l:List ByteArray) (hl:l.length≤1048576) (d:Nat):∀ (i:Nat),l.length=i+d →
  ∃ b:Bool,Ev (fun k=>A08.l0 k l (l.length:Int) (i:Int) m l) b∧(b=true ↔ (0≤m∧m≤24∧(l.length:Int)≤m∧A7f l i)):=by
 induction d with
 |zero =>
  intro i hd;have ho:A7f l i:=A8u Zo
  by_cases c:0≤m∧m≤24
  ·refine⟨decide ((l.length:Int)≤m),Ev.step (f:=fun _=>some (decide ((l.length:Int)≤m))) (fun k=>?_) (Ev.now _),by simp[c,ho]⟩
   simp only [A08.l0,A48,decide_eq_true c,Option.bind_some];rw[if_neg Zo];simp only [if_true]
  ·refine⟨false,Ev.step (f:=fun _=>some false) (fun k=>?_) (Ev.now _),?_⟩
   ·simp only [A08.l0,A48,decide_eq_false c,Option.bind_some]
    rw[if_neg Zo];simp
   ·simp only [Bool.false_eq_true,false_iff]
    rintro ⟨h1,h2,_⟩;exact c ⟨h1,h2⟩
 |succ d ih =>
  intro i hd;have hi:i < l.length:=by omega
  obtain⟨b,hb,hq⟩:=ih (i+1) Zo;have hx:=B1v l l[i] hl
  by_cases c:isK l[i]
  ·have ck:decide (1≤((l[i].size:Nat):Int)∧((l[i].size:Nat):Int)≤12)=true:=B99 (by unfold isK at c;omega)
   by_cases c2:l[i] ∉ l.take i
   ·refine⟨b,Ev.step (f:=fun k=>(A0h.f k l l[i]).bind fun t132=>(if t132=(i:Int) then (A08.l0 k l (l.length:Int) (wrap64 ((i:Int)+1)) m l) else (some false))) (fun k=>?_) (Ev.bind hx ?_),?_⟩
    ·simp only [A08.l0,A2g l i hi,keyI,ck,Option.bind_some]
     rw[if_pos Zo,if_pos Zo,if_pos Zo];simp only [if_true]
    ·simp only [if_pos ((B4h l i hi).2 c2),w64 i Zo]
     exact hb
    ·rw[hq,A4m hi]
     simp only [c,c2,not_false_eq_true,and_self,true_and]
   ·refine⟨false,Ev.step (f:=fun k=>(A0h.f k l l[i]).bind fun t132=>(if t132=(i:Int) then (A08.l0 k l (l.length:Int) (wrap64 ((i:Int)+1)) m l) else (some false))) (fun k=>?_) (Ev.bind hx ?_),?_⟩
    ·simp only [A08.l0,A2g l i hi,keyI,ck,Option.bind_some]
     rw[if_pos Zo,if_pos Zo,if_pos Zo];simp only [if_true]
    ·simp only [if_neg (fun e=>c2 ((B4h l i hi).1 e))]
     exact Ev.now _
    ·simp only [Bool.false_eq_true,false_iff]
     rintro ⟨_,_,_,h⟩;exact c2 ((A4m hi).1 h).1.2
  ·have ck:decide (1≤((l[i].size:Nat):Int)∧((l[i].size:Nat):Int)≤12)=false:=C0a (by unfold isK at c;omega)
   refine⟨false,Ev.step (f:=fun _=>some false) (fun k=>?_) (Ev.now _),?_⟩
   ·simp only [A08.l0,A2g l i hi,keyI,ck,Option.bind_some]
    rw[if_pos Zo,if_pos Zo,if_pos Zo];simp
   ·simp only [Bool.false_eq_true,false_iff]
    rintro ⟨_,_,_,h⟩;exact c ((A4m hi).1 h).1.1
theorem B4i (m:Int) (l:List ByteArray) (hl:l.length≤1048576):∃ b:Bool,Ev (fun k=>A08.f k m l) b∧(b=true ↔ okQ m l):=B6o m l hl l.length 0 Zo
theorem A31 {l:List ByteArray}:A7f l 0 ↔ (∀ s ∈ l,isK s)∧l.Nodup:=by
 constructor
 ·intro h
  refine⟨fun s hs=>?_,?_⟩
  ·obtain⟨j,hj,rfl⟩:=List.getElem_of_mem hs
   exact(h j (Nat.zero_le _) hj).1
  ·unfold List.Nodup
   rw[List.pairwise_iff_getElem];intro i j hi hj hij e;exact(h j (Nat.zero_le _) hj).2 (List.mem_take_iff_getElem.2 ⟨i,by omega,e⟩)
 ·rintro ⟨h1,h2⟩ j _ hj
  refine⟨h1 _ (List.getElem_mem hj),fun hm=>?_⟩;obtain⟨i,hi,e⟩:=List.mem_take_iff_getElem.1 hm;unfold List.Nodup at h2;rw[List.pairwise_iff_getElem] at h2;exact h2 i j Zo hj Zo e
theorem B6p (n:Int):IntKind.u32.wrap n=n % 4294967296:=by simp[IntKind.wrap,IntKind.bits,IntKind.signed]
theorem A9f (a b:Nat) (ha:a < 4294967296) (hb:b < 4294967296):Go.bits .xor .u32 (a:Int) (b:Int)=((a ^^^ b:Nat):Int):=by
 show IntKind.u32.wrap ((BitVec.ofInt 32 (a:Int) ^^^ BitVec.ofInt 32 (b:Int)).toNat:Nat)=_;have h:=Nat.xor_lt_two_pow (n:=32) ha hb;rw[BitVec.toNat_xor,BitVec.ofInt_natCast,BitVec.ofInt_natCast,BitVec.toNat_ofNat,BitVec.toNat_ofNat,Nat.mod_eq_of_lt ha,Nat.mod_eq_of_lt hb,B6p];omega
def A5s (s:ByteArray) (i:Nat):List UInt8:=s.data.toList.drop i
def A69 (h:Nat) (b:UInt8):Nat:=((h ^^^ b.toNat) * 16777619) % 4294967296
theorem B1w (h:Nat) (b:UInt8):A69 h b < 4294967296:=Nat.mod_lt _ Zo
def A5t (h:Nat):Nat:=h ^^^ (h / 65536)
def A6h (s:ByteArray) (seed:Nat):Nat:=A5t ((A5s s 0).foldl A69 (2166136261+seed))
theorem B1x (h:Nat) (hh:h < 4294967296):A5t h < 4294967296:=Nat.xor_lt_two_pow (n:=32) hh Zo
theorem A73 (s:ByteArray) (i:Nat) (h:i < s.size):∃ b:UInt8,A5s s i=b :: A5s s (i+1)∧bt s (i:Int)=(b.toNat:Int):=by
 have h':i < s.data.toList.length:=by simpa using h
 refine⟨s[i],?_,?_⟩
 ·unfold A5s
  rw[List.drop_eq_getElem_cons h'];rfl
 ·unfold bt
  rw[dif_pos (by simpa using h)];simp
theorem B2w (s:ByteArray) (hs:s.size≤4611686018427387904) (d:Nat):∀ (i h:Nat),h < 4294967296→s.size=i+d→Ev (fun k=>A0w.l0 k s (h:Int) (i:Int)) ((A5t ((A5s s i).foldl A69 h):Nat):Int):=by
 induction d with
 |zero =>
  intro i h hh hd;have e:A5s s i = []:=by unfold A5s;exact List.drop_eq_nil_of_le (by simp;omega)
  have hl:=B1x h hh;rw[e];refine Ev.step (f:=fun _=>some ((A5t h:Nat):Int)) (fun k=>?_) (Ev.now _);simp only [A0w.l0];rw[if_neg Zo,show(h:Int) / 65536=((h / 65536:Nat):Int) by omega,A9f h (h / 65536) hh Zo];show some (wrap64 ((A5t h:Nat):Int))=_
  congr 1
  unfold wrap64;omega
 |succ d ih =>
  intro i h hh hd;obtain⟨b,e,eb⟩:=A73 s i Zo;have hb:b.toNat < 256:=b.toNat_lt;have hxl:=Nat.xor_lt_two_pow (n:=32) hh (show b.toNat < 2 ^ 32 by omega);have h2:=ih (i+1) (A69 h b) (B1w h b) Zo;rw[e,List.foldl_cons];have ei:(((h ^^^ b.toNat:Nat):Int) * 16777619) % 4294967296=((A69 h b:Nat):Int):=by
   unfold A69;omega
  refine Ev.step (fun k=>?_) h2;simp only [A0w.l0];rw[if_pos Zo,if_pos Zo,eb,show((b.toNat:Nat):Int) % 4294967296=(b.toNat:Int) by omega,A9f h b.toNat hh Zo,ei,w64 i Zo]
theorem A7m (s:ByteArray) (hs:s.size≤4611686018427387904) (seed:Nat) (h:seed≤1000000000):Ev (fun k=>A0w.f k s (seed:Int)) ((A6h s seed:Nat):Int):=by
 refine Ev.congr (fun k=>?_) (B2w s hs s.size 0 (2166136261+seed) Zo Zo);unfold A0w.f;have:mx 0 (mn (seed:Int) 1000000000)=(seed:Int):=by unfold mx mn;split <;> split <;> omega
 rw[this];rfl
namespace TM
variable {α:Type} (K:α→ByteArray) (H:α→Int)
def isNone (x:α):Prop:=(K x).size=0∧H x = -1
instance (x:α):Decidable (isNone K H x):=inferInstanceAs (Decidable (_∧_))
def seekF (cs:List α) (key:ByteArray):Nat→Nat→Option Nat
 |0,_=>none
 |d+1,p=>match cs[p]? with
  |none=>none
  |some x=>if K x=key then some p else if isNone K H x then none else seekF cs key d ((p+1) % cs.length)
def seek (cs:List α) (key:ByteArray) (s:Nat):Option Nat:=seekF K H cs key cs.length (s % cs.length)
theorem seekF_some {cs:List α} {key:ByteArray}:∀ {d p i:Nat},seekF K H cs key d p=some i→∃ x,cs[i]? = some x∧K x=key
 |0,p,i,h=>by simp[seekF] at h
 |d+1,p,i,h=>by
  simp only [seekF] at h;cases hx:cs[p]? with
  |none=>rw[hx] at h;cases h
  |some x =>
   rw[hx] at h;by_cases c:K x=key
   ·simp only [if_pos c,Option.some.injEq] at h
    subst h;exact⟨x,hx,c⟩
   ·simp only [if_neg c] at h
    by_cases n:isNone K H x
    ·simp only [if_pos n] at h;cases h
    ·simp only [if_neg n] at h
     exact seekF_some h
theorem A96 {cs:List α} {key:ByteArray} (hn:0 < cs.length):∀ {d p i:Nat},p < cs.length →
  (seekF K H cs key d p=some i ↔ ∃ m,m < d∧i=(p+m) % cs.length∧(∃ x,cs[i]? = some x∧K x=key) ∧
   ∀ q,q < m→∃ x,cs[(p+q) % cs.length]? = some x∧K x ≠ key∧¬ isNone K H x)
 |0,p,i,hp=>by simp[seekF]
 |d+1,p,i,hp=>by
  have hx:cs[p]? = some cs[p]:=C0c hp;simp only [seekF,hx]
  by_cases c:K cs[p]=key
  ·simp only [if_pos c,Option.some.injEq]
   constructor
   ·intro e
    subst e;exact⟨0,by omega,by rw[Nat.add_zero,Nat.mod_eq_of_lt hp],⟨_,hx,c⟩,fun q hq=>absurd hq Zo⟩
   ·rintro ⟨m,hm,e,_,hq⟩
    rcases Nat.eq_zero_or_pos m with h0|h0
    ·subst h0
     rw[e,Nat.add_zero,Nat.mod_eq_of_lt hp]
    ·obtain⟨x,h1,h2,_⟩:=hq 0 h0
     rw[Nat.add_zero,Nat.mod_eq_of_lt hp,hx] at h1;exact absurd (by rw[← C0d h1];exact c) h2
  ·simp only [if_neg c]
   by_cases n:isNone K H cs[p]
   ·simp only [if_pos n]
    constructor
    ·intro h;cases h
    ·rintro ⟨m,hm,e,⟨x,h1,h2⟩,hq⟩
     rcases Nat.eq_zero_or_pos m with h0|h0
     ·subst h0
      rw[e,Nat.add_zero,Nat.mod_eq_of_lt hp,hx] at h1;exact absurd (by rw[C0d h1];exact h2) c
     ·obtain⟨x,h1,_,h2⟩:=hq 0 h0
      rw[Nat.add_zero,Nat.mod_eq_of_lt hp,hx] at h1;exact absurd (by rw[← C0d h1];exact n) h2
   ·simp only [if_neg n]
    have hp':(p+1) % cs.length < cs.length:=Nat.mod_lt _ hn;rw[A96 hn hp'];have sh:∀ m,((p+1) % cs.length+m) % cs.length=(p+(m+1)) % cs.length:=fun m=>by
     rw[Nat.mod_add_mod];congr 1;omega
    constructor
    ·rintro ⟨m,hm,e,hh,hq⟩
     refine⟨m+1,by omega,by rw[e,sh],hh,fun q hq'=>?_⟩
     cases q with
     |zero=>exact⟨_,by rw[Nat.add_zero,Nat.mod_eq_of_lt hp];exact hx,c,n⟩
     |succ q =>
      rw[← sh];exact hq q Zo
    ·rintro ⟨m,hm,e,hh,hq⟩
     cases m with
     |zero =>
      obtain⟨x,h1,h2⟩:=hh;rw[e,Nat.add_zero,Nat.mod_eq_of_lt hp,hx] at h1;exact absurd (by rw[C0d h1];exact h2) c
     |succ m =>
      refine⟨m,by omega,by rw[e,sh],hh,fun q hq'=>?_⟩;rw[sh];exact hq (q+1) Zo
theorem A6s {cs:List α} {key:ByteArray} (hn:0 < cs.length) (s i:Nat) :
  seek K H cs key s=some i ↔ ∃ m,m < cs.length∧i=(s+m) % cs.length∧(∃ x,cs[i]? = some x∧K x=key) ∧
   ∀ q,q < m→∃ x,cs[(s+q) % cs.length]? = some x∧K x ≠ key∧¬ isNone K H x:=by
 unfold seek;rw[A96 K H hn (Nat.mod_lt _ hn)];simp only [Nat.mod_add_mod]
def Found (st:ByteArray→Nat) (cs:List α):Prop:=∀ i x,cs[i]? = some x→(K x).size ≠ 0→seek K H cs (K x) (st (K x))=some i
theorem Found.once {st:ByteArray→Nat} {cs:List α} (h:Found K H st cs) {i j:Nat} {x y:α} (hi:cs[i]? = some x) (hj:cs[j]? = some y) (e:K x=K y) (hs:(K x).size ≠ 0):i=j:=by
 have h1:=h i x hi hs;have h2:=h j y hj (by rw[← e];exact hs);rw[e] at h1;exact C0d (h1.symm.trans h2)
theorem Found.seek {st:ByteArray→Nat} {cs:List α} (h:Found K H st cs) {key:ByteArray} (hk:key.size ≠ 0):(TM.seek K H cs key (st key)=none ↔ ∀ x ∈ cs,K x ≠ key):=by
 constructor
 ·intro hn x hx e
  obtain⟨i,hi,rfl⟩:=List.getElem_of_mem hx;have:=h i _ (C0c hi) (by rw[e];exact hk);rw[e,hn] at this;cases this
 ·intro hall
  cases hs:TM.seek K H cs key (st key) with
  |none=>rfl
  |some i =>
   obtain⟨x,hx,e⟩:=seekF_some K H hs;exact absurd e (hall x (C0h hx))
theorem Found.set {st:ByteArray→Nat} {cs:List α} (h:Found K H st cs) {a:Nat} {x y:α} (ha:cs[a]? = some x)
  (hx:¬ isNone K H y) (hy:(K y).size ≠ 0→TM.seek K H (cs.set a y) (K y) (st (K y))=some a)
  (hno:∀ z ∈ cs,(K y).size ≠ 0→K z=K y→K x=K y):Found K H st (cs.set a y):=by
 have hal:a < cs.length:=(C0e.1 ha).1;have hn:0 < cs.length:=by omega
 intro i z hz hs
 by_cases e:i=a
 ·subst e
  rw[List.getElem?_set_self hal] at hz;obtain rfl:=C0d hz;exact hy hs
 ·have hz':cs[i]? = some z:=by rw[List.getElem?_set_ne Zo] at hz;exact hz
  have hf:=h i z hz' hs;rw[A6s K H hn] at hf;rw[A6s K H (by rw[C0i];exact hn),C0i];obtain⟨m,hm,hi,⟨z',h1,h2⟩,hq⟩:=hf;refine⟨m,hm,hi,⟨z,hz,rfl⟩,fun q hq'=>?_⟩;obtain⟨w,g1,g2,g3⟩:=hq q hq';by_cases e2:(st (K z)+q) % cs.length=a
  ·refine⟨y,by rw[e2,List.getElem?_set_self hal],?_,hx⟩
   intro ey;have hx':=hno z (C0h hz') (by rw[ey];exact hs) ey.symm;rw[e2,ha] at g1;obtain rfl:=C0d g1;exact g2 (by rw[hx',ey])
  ·exact⟨w,by rw[List.getElem?_set_ne Zo];exact g1,g2,g3⟩
def freeF (cs:List α):Nat→Nat→Option Nat
 |0,_=>none
 |d+1,p=>match cs[p]? with
  |none=>none
  |some x=>if (K x).size=0 then some p else freeF cs d ((p+1) % cs.length)
def free (cs:List α) (s:Nat):Option Nat:=freeF K cs cs.length (s % cs.length)
theorem freeF_some {cs:List α} (hn:0 < cs.length):∀ {d p i:Nat},p < cs.length→freeF K cs d p=some i →
  ∃ m,m < d∧i=(p+m) % cs.length∧(∃ x,cs[i]? = some x∧(K x).size=0)∧∀ q,q < m→∃ x,cs[(p+q) % cs.length]? = some x∧(K x).size ≠ 0
 |0,p,i,hp,h=>by simp[freeF] at h
 |d+1,p,i,hp,h=>by
  have hx:cs[p]? = some cs[p]:=C0c hp;simp only [freeF,hx] at h;by_cases c:(K cs[p]).size=0
  ·simp only [if_pos c,Option.some.injEq] at h
   subst h;exact⟨0,by omega,by rw[Nat.add_zero,Nat.mod_eq_of_lt hp],⟨_,hx,c⟩,fun q hq=>absurd hq Zo⟩
  ·simp only [if_neg c] at h
   obtain⟨m,hm,e,hh,hq⟩:=freeF_some hn (Nat.mod_lt _ hn) h;have sh:∀ m,((p+1) % cs.length+m) % cs.length=(p+(m+1)) % cs.length:=fun m=>by
    rw[Nat.mod_add_mod];congr 1;omega
   refine⟨m+1,by omega,by rw[e,sh],hh,fun q hq'=>?_⟩
   cases q with
   |zero=>exact⟨_,by rw[Nat.add_zero,Nat.mod_eq_of_lt hp];exact hx,c⟩
   |succ q =>
    rw[← sh];exact hq q Zo
theorem A8v {cs:List α} (hn:0 < cs.length):∀ {d p:Nat},p < cs.length→freeF K cs d p=none→∀ q,q < d→∃ x,cs[(p+q) % cs.length]? = some x∧(K x).size ≠ 0
 |0,p,hp,h=>fun q hq=>absurd hq Zo
 |d+1,p,hp,h=>fun q hq=>by
  have hx:cs[p]? = some cs[p]:=C0c hp;simp only [freeF,hx] at h;by_cases c:(K cs[p]).size=0
  ·simp only [if_pos c] at h;cases h
  ·simp only [if_neg c] at h
   cases q with
   |zero=>exact⟨_,by rw[Nat.add_zero,Nat.mod_eq_of_lt hp];exact hx,c⟩
   |succ q =>
    have:=A8v hn (Nat.mod_lt _ hn) h q Zo;rw[Nat.mod_add_mod] at this;rw[show p+(q+1)=p+1+q by omega];exact this
theorem free_ex {cs:List α} {i:Nat} {x:α} (hi:cs[i]? = some x) (hx:(K x).size=0) (s:Nat):∃ a,free K cs s=some a:=by
 have hil:i < cs.length:=(C0e.1 hi).1;have hn:0 < cs.length:=by omega
 cases h:free K cs s with
 |some a=>exact⟨a,rfl⟩
 |none =>
  have hs:=Nat.mod_lt s hn;have hall:=A8v K hn hs h;obtain⟨y,h1,h2⟩:=hall ((i+cs.length - s % cs.length) % cs.length) (Nat.mod_lt _ hn);have e:(s % cs.length+(i+cs.length - s % cs.length) % cs.length) % cs.length=i:=by
   rw[Nat.add_mod_mod,show s % cs.length+(i+cs.length - s % cs.length)=i+cs.length by omega,Nat.add_mod_right,Nat.mod_eq_of_lt hil]
  rw[e,hi] at h1;obtain rfl:=C0d h1;exact absurd hx h2
theorem Found.put {st:ByteArray→Nat} {cs:List α} (h:Found K H st cs) {a:Nat} {y:α} (hk:(K y).size ≠ 0) (hno:∀ x ∈ cs,K x ≠ K y) (ha:free K cs (st (K y))=some a) :
  Found K H st (cs.set a y):=by
 have hn:0 < cs.length:=by
  rcases Nat.eq_zero_or_pos cs.length with e|e
  ·simp[free,e,freeF] at ha
  ·exact e
 obtain⟨m,hm,e,⟨x,h1,h2⟩,hq⟩:=freeF_some K hn (Nat.mod_lt _ hn) ha;have hal:a < cs.length:=(C0e.1 h1).1;refine h.set K H h1 (fun c=>hk c.1) (fun _=>?_) (fun z hz _ ez=>absurd ez (hno z hz));rw[A6s K H (by rw[C0i];exact hn),C0i];refine⟨m,hm,by rw[e,Nat.mod_add_mod],⟨y,List.getElem?_set_self hal,rfl⟩,fun q hq'=>?_⟩;obtain⟨z,g1,g2⟩:=hq q hq';rw[Nat.mod_add_mod] at g1;have hne:(st (K y)+q) % cs.length ≠ a:=by
  intro ee;rw[ee,h1] at g1;obtain rfl:=C0d g1;exact g2 h2
 exact⟨z,by rw[List.getElem?_set_ne Zo];exact g1,hno z (C0h g1),fun c=>g2 c.1⟩
theorem Found.take {st:ByteArray→Nat} {cs:List α} (h:Found K H st cs) {a:Nat} {x y:α} (ha:cs[a]? = some x) (hk:(K y).size=0) (hy:H y ≠ -1):Found K H st (cs.set a y) :=
 h.set K H ha (fun c=>hy c.2) (fun c=>absurd hk c) (fun _ _ c=>absurd hk c)
theorem Found.again {st:ByteArray→Nat} {cs:List α} (h:Found K H st cs) {a:Nat} {x y:α} (ha:cs[a]? = some x) (hk:(K x).size ≠ 0) (e:K y=K x):Found K H st (cs.set a y):=by
 have hal:a < cs.length:=(C0e.1 ha).1;have hn:0 < cs.length:=by omega
 refine h.set K H ha (fun c=>hk (by rw[← e];exact c.1)) (fun _=>?_) (fun _ _ _ _=>e.symm);have hf:=h a x ha hk;rw[A6s K H hn] at hf;rw[e,A6s K H (by rw[C0i];exact hn),C0i];obtain⟨m,hm,hi,_,hq⟩:=hf;refine⟨m,hm,hi,⟨y,List.getElem?_set_self hal,e⟩,fun q hq'=>?_⟩;obtain⟨z,g1,g2,g3⟩:=hq q hq';have hne:(st (K x)+q) % cs.length ≠ a:=by
  intro ee;rw[ee,ha] at g1;obtain rfl:=C0d g1;exact g2 rfl
 exact⟨z,by rw[List.getElem?_set_ne Zo];exact g1,g2,g3⟩
end TM
namespace TM
section
variable {α:Type} (K:α→ByteArray) (H:α→Int)
def cellR (st:ByteArray→Nat) (cs:List α) (i:Nat) (x:α):Prop :=
 ((K x).size=0→H x = -1 ∨ H x = -2)∧((K x).size ≠ 0→(K x).size≤12∧0≤H x∧TM.seek K H cs (K x) (st (K x))=some i)
def cellsR (st:ByteArray→Nat) (cs:List α):Prop:=∀ i x,cs[i]? = some x→cellR K H st cs i x
theorem cellsR.found {st:ByteArray→Nat} {cs:List α} (h:cellsR K H st cs):Found K H st cs:=fun i x hx hs=>((h i x hx).2 hs).2.2
def keysOf (cs:List α):List ByteArray:=(cs.filter fun x=>decide ((K x).size ≠ 0)).map K
theorem mem_keysOf {cs:List α} {key:ByteArray}:key ∈ keysOf K cs ↔ ∃ x ∈ cs,K x=key∧key.size ≠ 0:=by
 unfold keysOf;rw[List.mem_map];constructor
 ·rintro ⟨x,hx,rfl⟩
  rw[List.mem_filter] at hx;exact⟨x,hx.1,rfl,C0b hx.2⟩
 ·rintro ⟨x,hx,rfl,hs⟩
  exact⟨x,List.mem_filter.2 ⟨hx,B99 hs⟩,rfl⟩
theorem Found.nodup {st:ByteArray→Nat} {cs:List α} (h:Found K H st cs):(keysOf K cs).Nodup:=by
 unfold keysOf List.Nodup;rw[List.pairwise_map,List.pairwise_filter];rw[List.pairwise_iff_getElem];intro i j hi hj hij h1 h2 e;have:=h.once K H (C0c hi) (C0c hj) e (C0b h1);omega
def nones (cs:List α):Nat:=cs.countP fun x=>decide (isNone K H x)
end
end TM
theorem B9q {s t:ByteArray} (h:s.data.toList=t.data.toList):s=t:=by
 apply ByteArray.ext;exact Array.toList_inj.1 h
def leS (s t:ByteArray):Prop:=s.data.toList≤t.data.toList
theorem A7g {s t:ByteArray} (h1:leS s t) (h2:leS t s):s=t:=B9q (List.le_antisymm h1 h2)
theorem A2n (l:List ByteArray):(A1m l).length=l.length:=by simp[A1m]
theorem A1w (l:List ByteArray):(A1m l).Perm l:=by
 unfold A1m;have h:=(List.mergeSort_perm (l.map fun s:ByteArray=>s.data.toList) (fun x y=>decide (x≤y))).map (fun b=>(⟨b.toArray⟩:ByteArray));rw[List.map_map] at h;have e:l.map ((fun b:List UInt8=>(⟨b.toArray⟩:ByteArray)) ∘ fun s:ByteArray=>s.data.toList)=l:=by
  conv=>rhs;rw[← List.map_id l]
  exact List.map_congr_left (fun s _=>rfl)
 rwa [e] at h
theorem A26 (l:List ByteArray):(A1m l).Pairwise leS:=by
 unfold A1m;rw[List.pairwise_map];have h:=List.pairwise_mergeSort (le:=fun x y:List UInt8=>decide (x≤y)) (fun a b c h1 h2=>B99 (List.le_trans (C0b h1) (C0b h2))) (fun a b=>by
  rcases List.le_total a b with h|h
  ·simp[h]
  ·simp[h]) (l.map fun s:ByteArray=>s.data.toList)
 exact h.imp (fun h=>C0b h)
theorem A97 {l m:List ByteArray} (hp:l.Perm m) (hl:l.Pairwise leS) (hm:m.Pairwise leS):l=m:=hp.eq_of_pairwise (fun _ _ _ _=>A7g) hl hm
theorem A4n {l m:List ByteArray} (hp:l.Perm m):A1m l=A1m m:=A97 ((A1w l).trans (hp.trans (A1w m).symm)) (A26 l) (A26 m)
theorem A98:A1m [] = []:=List.eq_nil_of_length_eq_zero (by rw[A2n];rfl)
theorem B4j {l:List ByteArray} (hs:l.Pairwise leS):(∀ j (h:j+1 < l.length),l[j+1] ≠ l[j]) ↔ l.Nodup:=by
 constructor
 ·intro ha
  unfold List.Nodup;rw[List.pairwise_iff_getElem] at hs ⊢;intro i j hi hj hij e;obtain⟨q,rfl⟩:∃ q,j=q+1:=⟨j - 1,by omega⟩;have h1:leS l[i] l[q]:=by
   rcases Nat.lt_or_ge i q with h|h
   ·exact hs i q hi Zo h
   ·have:i=q:=by omega
    subst this;exact List.le_refl _
  have h2:leS l[q] l[q+1]:=hs q (q+1) Zo hj Zo;rw[e] at h1;exact ha q hj (A7g h1 h2)
 ·intro hn j h
  unfold List.Nodup at hn;rw[List.pairwise_iff_getElem] at hn;exact fun e=>hn j (j+1) Zo h Zo e.symm
def stOf (s:ByteArray):Nat:=A6h s 0
def A5u:Option Nat→Int
 |none=>-1
 |some i=>(i:Int)
theorem A4g (p n:Nat) (h:p < n) (hn:n≤1048576):Int.tmod (wrap64 ((p:Int)+1)) (n:Int)=(((p+1) % n:Nat):Int):=by
 rw[w64 p Zo,Int.tmod_eq_emod_of_nonneg Zo];rfl
theorem B2x (cs:List S151) (key:ByteArray) (hl:cs.length≤1048576) (hk:key.size ≠ 0) (d:Nat):∀ (i p:Nat),i+d=cs.length→p < cs.length →
  Ev (fun k=>A0q.l0 k cs key (p:Int) (cs.length:Int) (i:Int)) (A5u (TM.seekF S151.f0 S151.f1 cs key d p)):=by
 induction d with
 |zero =>
  intro i p hd hp;refine Ev.step (f:=fun _=>some (-1)) (fun k=>?_) (Ev.now _);simp only [A0q.l0];rw[if_neg Zo]
 |succ d ih =>
  intro i p hd hp;have hkb:(key.toList != ([]:List UInt8))=true:=bne_iff_ne.2 (fun e=>hk ((A0u _).1 e));simp only [TM.seekF,List.getElem?_eq_getElem hp];have hnext:=ih (i+1) ((p+1) % cs.length) Zo (Nat.mod_lt _ Zo)
  by_cases c:cs[p].f0=key
  ·rw[if_pos c]
   refine Ev.step (f:=fun k=>A0q.j1 k cs key (p:Int) (cs.length:Int) (i:Int) true cs[p].f0 cs[p].f1) (fun k=>?_) (Ev.step (f:=fun _=>some ((p:Int))) (fun k=>?_) (Ev.now _))
   ·simp only [A0q.l0]
    rw[if_pos Zo,if_pos Zo,if_pos Zo,A2w cs p hp,if_pos (by rw[c]),hkb]
   ·simp only [A0q.j1,if_true]
  ·rw[if_neg c]
   have c':¬ cs[p].f0.toList=key.toList:=fun e=>c (A3q.1 e);refine Ev.step (f:=fun k=>A0q.j1 k cs key (p:Int) (cs.length:Int) (i:Int) false cs[p].f0 cs[p].f1) (fun k=>?_) ?_
   ·simp only [A0q.l0]
    rw[if_pos Zo,if_pos Zo,if_pos Zo,A2w cs p hp,if_neg c']
   ·by_cases n:TM.isNone S151.f0 S151.f1 cs[p]
    ·rw[if_pos n]
     refine Ev.step (f:=fun _=>some (-1)) (fun k=>?_) (Ev.now _);simp only [A0q.j1,Bool.false_eq_true,if_false];rw[if_pos ((A0u _).2 n.1),if_pos n.2]
    ·rw[if_neg n]
     refine Ev.step (fun k=>?_) hnext;simp only [A0q.j1,Bool.false_eq_true,if_false]
     by_cases e0:cs[p].f0.toList=([]:List UInt8)
     ·rw[if_pos e0,if_neg (fun e1=>n ⟨(A0u _).1 e0,e1⟩),if_neg Zo,A4g p cs.length hp hl,w64 i Zo]
     ·rw[if_neg e0,if_neg Zo,A4g p cs.length hp hl,w64 i Zo]
theorem A5f (cs:List S151) (key:ByteArray) (hl:cs.length≤1048576) (hk:key.size ≠ 0) (hs:key.size≤4611686018427387904):Ev (fun k=>A0q.f k cs key) (A5u (TM.seek S151.f0 S151.f1 cs key (stOf key))):=by
 unfold A0q.f
 by_cases h0:cs.length=0
 ·rw[List.eq_nil_of_length_eq_zero h0]
  exact Ev.now _
 ·simp only [if_neg (show ¬ (cs.length:Int)=0 by omega)]
  refine Ev.bind (A7m key hs 0 Zo) ?_;have:=B2x cs key hl hk cs.length 0 (stOf key % cs.length) Zo (Nat.mod_lt _ Zo);have e:Int.tmod ((A6h key 0:Nat):Int) (cs.length:Int)=((stOf key % cs.length:Nat):Int):=by rw[Int.tmod_eq_emod_of_nonneg Zo];rfl
  simp only [e];exact this
theorem A74 (cs:List S151) (key:ByteArray) (hl:cs.length≤1048576) (hk:key.size=0) (d:Nat):∀ (i p:Nat),i+d=cs.length→p < cs.length →
  Ev (fun k=>A0q.l0 k cs key (p:Int) (cs.length:Int) (i:Int)) (-1):=by
 induction d with
 |zero =>
  intro i p hd hp;refine Ev.step (f:=fun _=>some (-1)) (fun k=>?_) (Ev.now _);simp only [A0q.l0];rw[if_neg Zo]
 |succ d ih =>
  intro i p hd hp;have hkb:(key.toList != ([]:List UInt8))=false:=by rw[(A0u _).2 hk];rfl
  have hnext:=ih (i+1) ((p+1) % cs.length) Zo (Nat.mod_lt _ Zo);refine Ev.step (f:=fun k=>A0q.j1 k cs key (p:Int) (cs.length:Int) (i:Int) false cs[p].f0 cs[p].f1) (fun k=>?_) ?_
  ·simp only [A0q.l0]
   rw[if_pos Zo,if_pos Zo,if_pos Zo,A2w cs p hp,hkb]
   split <;> rfl
  ·by_cases n:TM.isNone S151.f0 S151.f1 cs[p]
   ·refine Ev.step (f:=fun _=>some (-1)) (fun k=>?_) (Ev.now _)
    simp only [A0q.j1,Bool.false_eq_true,if_false];rw[if_pos ((A0u _).2 n.1),if_pos n.2]
   ·refine Ev.step (fun k=>?_) hnext
    simp only [A0q.j1,Bool.false_eq_true,if_false]
    by_cases e0:cs[p].f0.toList=([]:List UInt8)
    ·rw[if_pos e0,if_neg (fun e1=>n ⟨(A0u _).1 e0,e1⟩),if_neg Zo,A4g p cs.length hp hl,w64 i Zo]
    ·rw[if_neg e0,if_neg Zo,A4g p cs.length hp hl,w64 i Zo]
abbrev ceR:List S151→Prop:=TM.cellsR S151.f0 S151.f1 stOf
theorem B09 (cs:List S151) (hl:cs.length≤1048576) (hs:∀ x ∈ cs,x.f0.size≤4611686018427387904) (d:Nat):∀ (i:Nat),cs.length=i+d →
  ∃ b,Ev (fun k=>A0y.l0 k cs cs (cs.length:Int) (i:Int)) b∧(b=true ↔ ∀ j,i≤j→∀ x,cs[j]? = some x→TM.cellR S151.f0 S151.f1 stOf cs j x):=by
 induction d with
 |zero =>
  intro i hd;refine⟨true,Ev.step (f:=fun _=>some true) (fun k=>?_) (Ev.now _),?_⟩
  ·simp only [A0y.l0];rw[if_neg Zo]
  ·simp only [true_iff]
   intro j hj x hx;have:=(C0e.1 hx).1;omega
 |succ d ih =>
  intro i hd;have hi:i < cs.length:=by omega
  obtain⟨b,hb,hq⟩:=ih (i+1) Zo;have hx:cs[i]? = some cs[i]:=C0c hi;have key:(∀ j,i≤j→∀ x,cs[j]? = some x→TM.cellR S151.f0 S151.f1 stOf cs j x) ↔ TM.cellR S151.f0 S151.f1 stOf cs i cs[i]∧b=true:=by
   rw[hq];constructor
   ·intro h
    exact⟨h i (Nat.le_refl _) _ hx,fun j hj x hx=>h j Zo x hx⟩
   ·rintro ⟨h1,h2⟩ j hj x hxj
    by_cases e:i=j
    ·subst e
     rw[hx] at hxj;obtain rfl:=C0d hxj;exact h1
    ·exact h2 j Zo x hxj
  have good:TM.cellR S151.f0 S151.f1 stOf cs i cs[i]→Ev (fun k=>A0y.l0 k cs cs (cs.length:Int) (i:Int)) b∧(b=true ↔ ∀ j,i≤j→∀ x,cs[j]? = some x→TM.cellR S151.f0 S151.f1 stOf cs j x)→∃ b,Ev (fun k=>A0y.l0 k cs cs (cs.length:Int) (i:Int)) b∧(b=true ↔ ∀ j,i≤j→∀ x,cs[j]? = some x→TM.cellR S151.f0 S151.f1 stOf cs j x):=fun _ h=>⟨b,h⟩;have bad:¬ TM.cellR S151.f0 S151.f1 stOf cs i cs[i]→Ev (fun k=>A0y.l0 k cs cs (cs.length:Int) (i:Int)) false→∃ b,Ev (fun k=>A0y.l0 k cs cs (cs.length:Int) (i:Int)) b∧(b=true ↔ ∀ j,i≤j→∀ x,cs[j]? = some x→TM.cellR S151.f0 S151.f1 stOf cs j x):=fun hn h=>⟨false,h,by rw[key];simp[hn]⟩
  by_cases e0:cs[i].f0.toList=([]:List UInt8)
  ·have e1:=(A0u _).1 e0
   by_cases h1:cs[i].f1 = -1
   ·refine good ⟨fun _=>.inl h1,fun h=>absurd e1 h⟩ ⟨Ev.step (fun k=>?_) hb,by rw[key];exact⟨fun h=>⟨⟨fun _=>.inl h1,fun h=>absurd e1 h⟩,h⟩,fun h=>h.2⟩⟩
    simp only [A0y.l0];rw[if_pos Zo,if_pos Zo,if_pos Zo,A2w cs i hi,if_pos e0,if_pos h1,w64 i Zo]
   ·by_cases h2:cs[i].f1 = -2
    ·refine good ⟨fun _=>.inr h2,fun h=>absurd e1 h⟩ ⟨Ev.step (fun k=>?_) hb,by rw[key];exact⟨fun h=>⟨⟨fun _=>.inr h2,fun h=>absurd e1 h⟩,h⟩,fun h=>h.2⟩⟩
     simp only [A0y.l0];rw[if_pos Zo,if_pos Zo,if_pos Zo,A2w cs i hi,if_pos e0,if_neg h1,if_pos h2,w64 i Zo]
    ·refine bad (fun h=>?_) (Ev.step (f:=fun _=>some false) (fun k=>?_) (Ev.now _))
     ·rcases h.1 e1 with h|h
      ·exact h1 h
      ·exact h2 h
     ·simp only [A0y.l0]
      rw[if_pos Zo,if_pos Zo,if_pos Zo,A2w cs i hi,if_pos e0,if_neg h1,if_neg h2]
  ·have e1:cs[i].f0.size ≠ 0:=fun e=>e0 ((A0u _).2 e)
   by_cases h1:1≤(cs[i].f0.size:Int)∧(cs[i].f0.size:Int)≤12
   ·by_cases h2:cs[i].f1 < 0
    ·refine bad (fun h=>by have:=(h.2 e1).2.1;omega) (Ev.step (f:=fun _=>some false) (fun k=>?_) (Ev.now _))
     simp only [A0y.l0];rw[if_pos Zo,if_pos Zo,if_pos Zo,A2w cs i hi,if_neg e0,keyI];simp only [Option.bind_some];rw[if_pos (B99 h1),if_pos h2]
    ·have hsk:=A5f cs cs[i].f0 hl e1 (hs _ (List.getElem_mem hi))
     have hst:Ev (fun k=>(A0q.f k cs cs[i].f0).bind fun t276=>if t276=(i:Int) then A0y.l0 k cs cs (cs.length:Int) (((i+1:Nat):Int)) else some false) (if A5u (TM.seek S151.f0 S151.f1 cs cs[i].f0 (stOf cs[i].f0))=(i:Int) then b else false):=by
      refine Ev.bind hsk ?_
      split
      ·exact hb
      ·exact Ev.now _
     have hw:Ev (fun k=>A0y.l0 k cs cs (cs.length:Int) (i:Int)) (if A5u (TM.seek S151.f0 S151.f1 cs cs[i].f0 (stOf cs[i].f0))=(i:Int) then b else false):=by
      refine Ev.step (fun k=>?_) hst;simp only [A0y.l0];rw[if_pos Zo,if_pos Zo,if_pos Zo,A2w cs i hi,if_neg e0,keyI];simp only [Option.bind_some];rw[if_pos (B99 h1),if_neg h2,w64 i Zo]
     by_cases hv:TM.seek S151.f0 S151.f1 cs cs[i].f0 (stOf cs[i].f0)=some i
     ·rw[hv,if_pos (show A5u (some i)=(i:Int) from rfl)] at hw
      have hc:TM.cellR S151.f0 S151.f1 stOf cs i cs[i]:=⟨fun h=>absurd h e1,fun _=>⟨by omega,by omega,hv⟩⟩;exact good hc ⟨hw,by rw[key];exact⟨fun h=>⟨hc,h⟩,fun h=>h.2⟩⟩
     ·refine bad (fun h=>hv (h.2 e1).2.2) ?_
      rw[if_neg] at hw
      ·exact hw
      ·intro hh
       apply hv
       revert hh
       cases TM.seek S151.f0 S151.f1 cs cs[i].f0 (stOf cs[i].f0) with
       |none=>intro hh;simp only [A5u] at hh;omega
       |some j=>intro hh;simp only [A5u] at hh;congr 1;omega
   ·refine bad (fun h=>by have:=(h.2 e1).1;omega) (Ev.step (f:=fun _=>some false) (fun k=>?_) (Ev.now _))
    simp only [A0y.l0];rw[if_pos Zo,if_pos Zo,if_pos Zo,A2w cs i hi,if_neg e0,keyI];simp only [Option.bind_some];rw[if_neg (show ¬ decide (1≤(cs[i].f0.size:Int)∧(cs[i].f0.size:Int)≤12)=true from fun e=>h1 (C0b e))]
theorem A99 (cs:List S151) (hl:cs.length≤1048576) (hs:∀ x ∈ cs,x.f0.size≤4611686018427387904):∃ b,Ev (fun k=>A0y.f k cs) b∧(b=true ↔ ceR cs):=by
 obtain⟨b,hb,hq⟩:=B09 cs hl hs cs.length 0 Zo;exact⟨b,hb,hq.trans ⟨fun h i x hx=>h i (Nat.zero_le _) x hx,fun h j _ x hx=>h j x hx⟩⟩
theorem B1a (cs:List S151) (hl:cs.length≤1048576) (d:Nat):∀ (i n:Nat),cs.length=i+d→n≤i →
  Ev (fun k=>A1n.l0 k (n:Int) cs (cs.length:Int) (i:Int)) ((n+TM.nones S151.f0 S151.f1 (cs.drop i):Nat):Int):=by
 induction d with
 |zero =>
  intro i n hd hn;rw[List.drop_eq_nil_of_le Zo];refine Ev.step (f:=fun _=>some ((n:Nat):Int)) (fun k=>?_) (Ev.now _);simp only [A1n.l0];rw[if_neg Zo]
 |succ d ih =>
  intro i n hd hn;have hi:i < cs.length:=by omega
  have hc:TM.nones S151.f0 S151.f1 (cs.drop i)=(if TM.isNone S151.f0 S151.f1 cs[i] then 1 else 0)+TM.nones S151.f0 S151.f1 (cs.drop (i+1)):=by
   unfold TM.nones;rw[List.drop_eq_getElem_cons hi,List.countP_cons];simp only [decide_eq_true_eq];omega
  rw[hc]
  by_cases e0:cs[i].f0.toList=([]:List UInt8)
  ·by_cases h1:cs[i].f1 = -1
   ·rw[if_pos (show TM.isNone S151.f0 S151.f1 cs[i] from⟨(A0u _).1 e0,h1⟩)]
    have:=ih (i+1) (n+1) Zo Zo;rw[Nat.add_assoc] at this;refine Ev.step (fun k=>?_) this;simp only [A1n.l0];rw[if_pos Zo,if_pos Zo,if_pos Zo,A2w cs i hi,if_pos e0,if_pos h1,w64 i Zo,w64 n Zo]
   ·rw[if_neg (show ¬ TM.isNone S151.f0 S151.f1 cs[i] from fun h=>h1 h.2),Nat.zero_add]
    refine Ev.step (fun k=>?_) (ih (i+1) n Zo Zo);simp only [A1n.l0];rw[if_pos Zo,if_pos Zo,if_pos Zo,A2w cs i hi,if_pos e0,if_neg h1,w64 i Zo]
  ·rw[if_neg (show ¬ TM.isNone S151.f0 S151.f1 cs[i] from fun h=>e0 ((A0u _).2 h.1)),Nat.zero_add]
   refine Ev.step (fun k=>?_) (ih (i+1) n Zo Zo);simp only [A1n.l0];rw[if_pos Zo,if_pos Zo,if_pos Zo,A2w cs i hi,if_neg e0,w64 i Zo]
theorem A75 (cs:List S151) (hl:cs.length≤1048576):Ev (fun k=>A1n.f k cs) ((TM.nones S151.f0 S151.f1 cs:Nat):Int):=by
 have:=B1a cs hl cs.length 0 0 Zo Zo;rw[List.drop_zero,Nat.zero_add] at this;exact this
abbrev A1g:List S151→List ByteArray:=TM.keysOf S151.f0
theorem B2y (cs:List S151) (hl:cs.length≤2097152) (d:Nat):∀ (i:Nat) (acc:List ByteArray),cs.length=i+d→acc.length≤i →
  Ev (fun k=>A0x.l0 k acc cs (cs.length:Int) (i:Int)) (A1m (acc ++ A1g (cs.drop i))):=by
 induction d with
 |zero =>
  intro i acc hd ha;rw[List.drop_eq_nil_of_le Zo];refine Ev.step (f:=fun _=>some (A1m acc)) (fun k=>?_) (by simpa [TM.keysOf] using Ev.now _);simp only [A0x.l0];rw[if_neg Zo];unfold A01.f;rw[if_pos Zo];rfl
 |succ d ih =>
  intro i acc hd ha;have hi:i < cs.length:=by omega
  by_cases e0:cs[i].f0.toList=([]:List UInt8)
  ·have:A1g (cs.drop i)=A1g (cs.drop (i+1)):=by
    unfold A1g TM.keysOf;rw[List.drop_eq_getElem_cons hi,List.filter_cons,if_neg];simp only [decide_eq_true_eq];exact fun h=>h ((A0u _).1 e0)
   rw[this];refine Ev.step (fun k=>?_) (ih (i+1) acc Zo Zo);simp only [A0x.l0];rw[if_pos Zo,if_pos Zo,if_pos Zo,A2w cs i hi,if_pos e0,w64 i Zo]
  ·have:A1g (cs.drop i)=cs[i].f0 :: A1g (cs.drop (i+1)):=by
    unfold A1g TM.keysOf;rw[List.drop_eq_getElem_cons hi,List.filter_cons,if_pos,List.map_cons];simp only [decide_eq_true_eq];exact fun h=>e0 ((A0u _).2 h)
   rw[this];have h:=ih (i+1) (acc ++ [cs[i].f0]) Zo (by simp;omega);rw[List.append_assoc,List.singleton_append] at h;refine Ev.step (fun k=>?_) h;simp only [A0x.l0];rw[if_pos Zo,if_pos Zo,if_pos Zo,A2w cs i hi,if_neg e0,if_pos Zo,w64 i Zo]
theorem A9g (cs old:List S151) (m:Int) (h1:cs.length≤1048576) (h2:old.length≤1048576):Ev (fun k=>A0x.f k cs old m) (A1m (A1g (cs ++ old))):=by
 unfold A0x.f A3g.f;simp only [List.map_cons,List.map_nil,List.sum_cons,List.sum_nil,Nat.add_zero,if_pos (show cs.length+old.length≤4194304 by omega),Option.bind_some,List.flatten_cons,List.flatten_nil,List.append_nil];have:=B2y (cs ++ old) (by simp;omega) (cs ++ old).length 0 [] Zo Zs;rw[List.drop_zero,List.nil_append] at this;exact this
theorem sizeI (a:Int):A29.f a=some (decide (a=4 ∨ a=8 ∨ a=16 ∨ a=32 ∨ a=64)):=by
 unfold A29.f
 by_cases h1:a=4
 ·rw[if_pos h1];simp[h1]
 rw[if_neg h1]
 by_cases h2:a=8
 ·rw[if_pos h2];simp[h2]
 rw[if_neg h2]
 by_cases h3:a=16
 ·rw[if_pos h3];simp[h3]
 rw[if_neg h3]
 by_cases h4:a=32
 ·rw[if_pos h4];simp[h4]
 rw[if_neg h4]
 by_cases h5:a=64
 ·rw[if_pos h5];simp[h5]
 rw[if_neg h5];simp[h1,h2,h3,h4,h5]
structure taR (cs old:List S151) (m:Int):Prop where
 size:cs.length=4 ∨ cs.length=8 ∨ cs.length=16 ∨ cs.length=32 ∨ cs.length=64
 half:old.length=0 ∨ 2 * old.length=cs.length
 moved:0≤m∧m≤old.length
 gone:∀ x ∈ old.take m.toNat,x.f0.size=0∧x.f1 = -2
 once:(A1g (cs ++ old)).Nodup
 cells:ceR cs
 olds:ceR old
 none:0 < TM.nones S151.f0 S151.f1 cs
theorem B6q (cs old:List S151) (m:Int) (h1:cs.length≤1048576) (h2:old.length≤1048576) (hs:∀ x ∈ cs,x.f0.size≤4611686018427387904) (hs2:∀ x ∈ old,x.f0.size≤4611686018427387904) (L:List ByteArray) (hL:L.length≤2097152) (d:Nat):∀ (i:Nat),L.length=i+d →
  ∃ b,Ev (fun k=>A0m.l1 k L ((i+1:Nat):Int) cs old m) b∧(b=true ↔ (∀ j,i≤j→∀ (h:j+1 < L.length),L[j+1] ≠ L[j])∧ceR cs∧ceR old∧0 < TM.nones S151.f0 S151.f1 cs):=by
 obtain⟨bc,hc,hcq⟩:=A99 cs h1 hs;obtain⟨bo,ho,hoq⟩:=A99 old h2 hs2;have hn:=A75 cs h1;have fin:∀ i:Nat,L.length≤i+1→∃ b,Ev (fun k=>A0m.l1 k L ((i+1:Nat):Int) cs old m) b∧(b=true ↔ ceR cs∧ceR old∧0 < TM.nones S151.f0 S151.f1 cs):=by
  intro i hi;refine⟨bc && bo && decide (0 < TM.nones S151.f0 S151.f1 cs),Ev.step (f:=fun k=>(A0y.f k cs).bind fun t294=>(if t294=true then ((A0y.f k old).bind fun t295=>(if t295=true then ((A1n.f k cs).bind fun t296=>(some (decide (t296 > 0)))) else (some false))) else (some false))) (fun k=>?_) ?_,?_⟩
  ·simp only [A0m.l1]
   rw[if_neg Zo]
  ·refine Ev.bind hc ?_
   cases bc with
   |false=>simp only [Bool.false_eq_true,if_false,Bool.false_and];exact Ev.now _
   |true =>
    simp only [if_true,Bool.true_and];refine Ev.bind ho ?_
    cases bo with
    |false=>simp only [Bool.false_eq_true,if_false,Bool.false_and];exact Ev.now _
    |true =>
     simp only [if_true,Bool.true_and];refine Ev.bind hn ?_;have:decide (((TM.nones S151.f0 S151.f1 cs:Nat):Int) > 0)=decide (0 < TM.nones S151.f0 S151.f1 cs):=by
      rw[Bool.eq_iff_iff,decide_eq_true_iff,decide_eq_true_iff];omega
     rw[this];exact Ev.now _
  ·rw[Bool.and_eq_true,Bool.and_eq_true,hcq,hoq,decide_eq_true_iff,and_assoc]
 induction d with
 |zero =>
  intro i hd;obtain⟨b,hb,hq⟩:=fin i Zo;exact⟨b,hb,hq.trans ⟨fun h=>⟨fun j hj hlt=>by omega,h⟩,fun h=>h.2⟩⟩
 |succ d ih =>
  intro i hd
  rcases Nat.lt_or_ge (i+1) L.length with hlt|hge
  ·obtain⟨b,hb,hq⟩:=ih (i+1) Zo
   have r1:rdOf ByteArray.empty L ((i+1:Nat):Int)=L[i+1]:=by
    unfold rdOf;rw[C0j,C0k,C0c hlt];rfl
   have w1:wrap64 (((i+1:Nat):Int) - 1)=(i:Int):=by unfold wrap64;omega
   have r2:rdOf ByteArray.empty L (i:Int)=L[i]:=by
    unfold rdOf;rw[C0j,C0k,C0c Zo];rfl
   by_cases e:L[i+1]=L[i]
   ·refine⟨false,Ev.step (f:=fun _=>some false) (fun k=>?_) (Ev.now _),?_⟩
    ·simp only [A0m.l1]
     rw[if_pos Zo,if_pos Zo,w1,if_pos Zo,if_pos Zo,r1,r2,if_pos (by rw[e])]
    ·simp only [Bool.false_eq_true,false_iff]
     exact fun h=>h.1 i (Nat.le_refl _) hlt e
   ·refine⟨b,Ev.step (fun k=>?_) hb,?_⟩
    ·simp only [A0m.l1]
     rw[if_pos Zo,if_pos Zo,w1,if_pos Zo,if_pos Zo,r1,r2,if_neg (fun h=>e (A3q.1 h)),w64 (i+1) Zo]
    ·rw[hq]
     refine and_congr_left' ⟨fun h j hj hl=>?_,fun h j hj hl=>h j Zo hl⟩
     by_cases ej:j=i
     ·subst ej;exact e
     ·exact h j Zo hl
  ·obtain⟨b,hb,hq⟩:=fin i Zo
   exact⟨b,hb,hq.trans ⟨fun h=>⟨fun j hj hlt=>by omega,h⟩,fun h=>h.2⟩⟩
theorem B6r (cs old:List S151) (m:Int) (h1:cs.length≤1048576) (h2:old.length≤1048576) (hs:∀ x ∈ cs,x.f0.size≤4611686018427387904) (hs2:∀ x ∈ old,x.f0.size≤4611686018427387904) (T:List S151) (hT:T.length≤1048576) (d:Nat):∀ (i:Nat),T.length=i+d →
  ∃ b,Ev (fun k=>A0m.l0 k T (T.length:Int) (i:Int) cs old m) b∧(b=true ↔ (∀ x ∈ T.drop i,x.f0.size=0∧x.f1 = -2)∧(A1g (cs ++ old)).Nodup∧ceR cs∧ceR old∧0 < TM.nones S151.f0 S151.f1 cs):=by
 induction d with
 |zero =>
  intro i hd;rw[List.drop_eq_nil_of_le Zo];have hlen:(A1m (A1g (cs ++ old))).length≤2097152:=by
   rw[A2n];unfold A1g TM.keysOf;rw[List.length_map];have:=List.length_filter_le (fun x:S151=>decide (x.f0.size ≠ 0)) (cs ++ old);rw[List.length_append] at this;omega
  obtain⟨b,hb,hq⟩:∃ b,Ev (fun k=>A0m.l1 k (A1m (A1g (cs ++ old))) 1 cs old m) b∧(b=true ↔ (∀ j,0≤j→∀ (h:j+1 < (A1m (A1g (cs ++ old))).length),(A1m (A1g (cs ++ old)))[j+1] ≠ (A1m (A1g (cs ++ old)))[j])∧ceR cs∧ceR old∧0 < TM.nones S151.f0 S151.f1 cs) :=
   B6q cs old m h1 h2 hs hs2 _ hlen (A1m (A1g (cs ++ old))).length 0 Zo
  refine⟨b,Ev.step (f:=fun k=>(A0x.f k cs old m).bind fun t289=>(A0m.l1 k t289 1 cs old m)) (fun k=>?_) (Ev.bind (A9g cs old m h1 h2) hb),?_⟩
  ·simp only [A0m.l0]
   rw[if_neg Zo]
  ·rw[hq]
   simp only [List.not_mem_nil,false_imp_iff,implies_true,true_and];refine and_congr_left' ?_;rw[← (A1w _).nodup_iff,← B4j (A26 _)];exact⟨fun h j hl=>h j (Nat.zero_le _) hl,fun h j _ hl=>h j hl⟩
 |succ d ih =>
  intro i hd;have hi:i < T.length:=by omega
  obtain⟨b,hb,hq⟩:=ih (i+1) Zo;rw[List.drop_eq_getElem_cons hi]
  by_cases e:T[i].f0.size=0∧T[i].f1 = -2
  ·have e0:=(A0u _).2 e.1
   refine⟨b,Ev.step (fun k=>?_) hb,?_⟩
   ·simp only [A0m.l0]
    rw[if_pos Zo,if_pos Zo,if_pos Zo,A2w T i hi,if_neg (by rw[e0,e.2];decide),w64 i Zo]
   ·rw[hq]
    simp only [List.mem_cons,forall_eq_or_imp];exact⟨fun h=>⟨⟨e,h.1⟩,h.2⟩,fun h=>⟨h.1.2,h.2⟩⟩
  ·refine⟨false,Ev.step (f:=fun _=>some false) (fun k=>?_) (Ev.now _),?_⟩
   ·simp only [A0m.l0]
    rw[if_pos Zo,if_pos Zo,if_pos Zo,A2w T i hi,if_pos];rw[Bool.or_eq_true,Bool.not_eq_true',Bool.not_eq_true',C0g,C0g]
    by_cases e0:T[i].f0.toList = []
    ·exact .inr (fun e1=>e ⟨(A0u _).1 e0,e1⟩)
    ·exact .inl e0
   ·simp only [Bool.false_eq_true,false_iff,List.mem_cons,forall_eq_or_imp]
    exact fun h=>e h.1.1
theorem B4k (cs old:List S151) (m:Int) (h1:cs.length≤1048576) (h2:old.length≤1048576) (hs:∀ x ∈ cs,x.f0.size≤4611686018427387904) (hs2:∀ x ∈ old,x.f0.size≤4611686018427387904) :
  ∃ b,Ev (fun k=>A0m.f k cs old m) b∧(b=true ↔ taR cs old m):=by
 have bad:∀ (P:Prop),¬ taR cs old m→Ev (fun k=>A0m.j0 k true cs old m) false∧(false=true ↔ taR cs old m):=fun _ hn=>by
  refine⟨Ev.step (f:=fun _=>some false) (fun k=>?_) (Ev.now _),by simp[hn]⟩;simp only [A0m.j0,if_true]
 have mid:(cs.length=4 ∨ cs.length=8 ∨ cs.length=16 ∨ cs.length=32 ∨ cs.length=64)→(old.length=0 ∨ 2 * old.length=cs.length) →
   ∃ b,Ev (fun k=>(A0n.f m 0 (old.length:Int)).bind fun t281=>(A0m.j0 k (!t281) cs old m)) b∧(b=true ↔ taR cs old m):=by
  intro hsz hod;rw[A48];simp only [Option.bind_some]
  by_cases hm:0≤m∧m≤(old.length:Int)
  ·obtain⟨q,rfl⟩:=Int.eq_ofNat_of_zero_le hm.1
   have hq:q≤old.length:=by omega
   obtain⟨b,hb,hbq⟩:=B6r cs old (q:Int) h1 h2 hs hs2 (old.take q) (by rw[List.length_take];omega) (old.take q).length 0 Zo;refine⟨b,Ev.step (fun k=>?_) hb,?_⟩
   ·rw[B99 hm]
    simp only [A0m.j0,Bool.not_true,Bool.false_eq_true,if_false];rw[if_pos hm.1,if_pos hm.2];simp only [Option.bind_some,Int.toNat_natCast];rfl
   ·rw[hbq,List.drop_zero]
    exact⟨fun h=>⟨hsz,hod,by omega,by simpa using h.1,h.2.1,h.2.2.1,h.2.2.2.1,h.2.2.2.2⟩,fun h=>⟨by simpa using h.gone,h.once,h.cells,h.olds,h.none⟩⟩
  ·rw[C0a hm]
   exact⟨false,bad True (fun h=>hm ⟨h.moved.1,by have:=h.moved.2;omega⟩)⟩
 unfold A0m.f;rw[sizeI];simp only [Option.bind_some]
 by_cases hsz:cs.length=4 ∨ cs.length=8 ∨ cs.length=16 ∨ cs.length=32 ∨ cs.length=64
 ·simp only [if_pos (decide_eq_true (show(cs.length:Int)=4 ∨ (cs.length:Int)=8 ∨ (cs.length:Int)=16 ∨ (cs.length:Int)=32 ∨ (cs.length:Int)=64 by omega))]
  by_cases h0:old.length=0
  ·simp only [if_pos (show(old.length:Int)=0 by omega)]
   exact mid hsz (.inl h0)
  ·simp only [if_neg (show ¬ (old.length:Int)=0 by omega)]
   have w2:wrap64 (2 * (old.length:Int))=2 * (old.length:Int):=by unfold wrap64;omega
   rw[w2]
   by_cases h3:2 * old.length=cs.length
   ·simp only [if_pos (show 2 * (old.length:Int)=(cs.length:Int) by omega)]
    exact mid hsz (.inr h3)
   ·simp only [if_neg (show ¬ 2 * (old.length:Int)=(cs.length:Int) by omega)]
    exact⟨false,bad True (fun h=>by rcases h.half with h|h <;> omega)⟩
 ·simp only [if_neg (show ¬ decide ((cs.length:Int)=4 ∨ (cs.length:Int)=8 ∨ (cs.length:Int)=16 ∨ (cs.length:Int)=32 ∨ (cs.length:Int)=64)=true from fun e=>hsz (by have:=of_decide_eq_true e;omega))]
  exact⟨false,bad True (fun h=>hsz h.size)⟩
def skOk (l:List Int) (n:Int):Bool:=decide (l.length=48) && l.all (fun x=>decide (0≤x∧x≤15)) && decide (0≤n∧n≤99)
def inD (x:Int):Bool:=decide (0≤x∧x≤15)
theorem A4a {l:List Int} {n:Int}:skOk l n=true ↔ l.length=48∧(∀ x ∈ l,0≤x∧x≤15)∧0≤n∧n≤99:=by
 unfold skOk;simp only [Bool.and_eq_true,decide_eq_true_eq,List.all_eq_true];constructor
 ·rintro ⟨⟨h1,h2⟩,h3⟩;exact⟨h1,h2,h3⟩
 ·rintro ⟨h1,h2,h3⟩;exact⟨⟨h1,h2⟩,h3⟩
theorem B1y {l:List Int} {i:Nat} (hi:i < l.length) (p:Int→Bool):(l.drop i).all p=(p l[i] && (l.drop (i+1)).all p):=by
 rw[List.drop_eq_getElem_cons hi,List.all_cons]
theorem B1b (x a b:Int):A0n.f x a b=some (decide (a≤x∧x≤b)):=by
 unfold A0n.f
 by_cases c:x ≥ a
 ·rw[if_pos c];congr 1;simp;omega
 ·rw[if_neg c];congr 1;simp;omega
theorem B6s (l:List Int) (n:Int) (hl:l.length≤1048576) (d:Nat):∀ (i:Nat),l.length=i+d→Ev (fun k=>A1b.l0 k l (l.length:Int) (i:Int) l n) (decide (l.length=48) && (l.drop i).all inD && decide (0≤n∧n≤99)):=by
 induction d with
 |zero =>
  intro i hd;refine Ev.step (f:=fun _=>some _) (fun k=>?_) (Ev.now _);simp only [A1b.l0,B1b,Option.bind_some];rw[if_neg Zo,List.drop_of_length_le Zo]
  by_cases c:l.length=48
  ·rw[if_pos Zo,B99 c];simp
  ·rw[if_neg Zo,C0a c];simp
 |succ d ih =>
  intro i hd;have hi:i < l.length:=by omega
  rw[B1y hi]
  by_cases c:inD l[i]=true
  ·refine Ev.step (f:=fun k=>A1b.l0 k l (l.length:Int) ((i+1:Nat):Int) l n) (fun k=>?_) (by rw[c,Bool.true_and];exact ih (i+1) Zo)
   simp only [A1b.l0,B1b,Option.bind_some];rw[if_pos Zo,if_pos Zo,if_pos Zo,B2t l i hi,show decide (0≤l[i]∧l[i]≤15)=true from c,if_pos rfl,w64 i Zo]
  ·have c':inD l[i]=false:=by simpa using c
   refine Ev.step (f:=fun _=>some false) (fun k=>?_) (by rw[c'];simp;exact Ev.now _);simp only [A1b.l0,B1b,Option.bind_some];rw[if_pos Zo,if_pos Zo,if_pos Zo,B2t l i hi,show decide (0≤l[i]∧l[i]≤15)=false from c',if_neg Zs]
theorem B7l (l:List Int) (n:Int) (hl:l.length≤1048576):Ev (fun k=>A1b.f k l n) (skOk l n):=B6s l n hl l.length 0 Zo
theorem doorI (D:Int):A1r.f D=some (decide (0≤D∧D < 4294967296)):=by
 unfold A1r.f A0n.f
 by_cases c:D ≥ 0
 ·rw[if_pos c];simp only [Option.bind_some];congr 1;rw[Bool.eq_iff_iff];simp;omega
 ·rw[if_neg c];simp only [Option.bind_some];congr 1;rw[Bool.eq_iff_iff];simp;omega
end Go.Proofs.YtediiolcoilepaaGreat.Nb
