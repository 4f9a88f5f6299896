/- Walks of callees. -/
import Derived.Test.YtediiolcoilepaaGreatVFnExactKeepKey0
import Derived.ProofKit
import Derived.OpenShut
import Derived.Deep.Slices
import Derived.Lib.SmallJoins
namespace Go.Proofs.YtediiolcoilepaaGreatW.Opens
open Go.ChangeShapes Go.WideShapes Go.RowKit YtediiolcoilepaaGreatW.PrintWords
def Op (P:Program) (W:World) {α:Type} (d:Kd α) (Q:α→Prop) (t:TypeId):Prop :=
 ∀ (H:Type) (enc:TypeId × Value→H) (fuel:Nat) (cs:List Value) (x:DataW H × List MemPlace),DataW.trod enc P W 0 (fun _=>true) true fuel t cs=some x→∃ y,d.K W y cs∧Q y
theorem op_int {P:Program} {W:World} {t:TypeId} {k:IntKind} (ht:P.underlying t=some (.int k)):Op P W (Kd.int k) (fun n=>(Lit.int k n).wf=true) t:=by
 intro H enc fuel cs x h
 obtain⟨n,rfl,_,hw⟩:=DataW.trod_int ht h;exact⟨n,rfl,hw⟩
theorem op_bool {P:Program} {W:World} {t:TypeId} (ht:P.underlying t=some .bool):Op P W Kd.bool (fun _=>True) t:=by
 intro H enc fuel cs x h
 obtain⟨b,rfl,_⟩:=DataW.trod_bool ht h;exact⟨b,rfl,trivial⟩
theorem B9k {P:Program} {W:World} {t:TypeId} (ht:P.underlying t=some .string):Op P W Kd.string (fun s=>s.size≤maxLen) t:=by
 intro H enc fuel cs x h
 obtain⟨s,rfl,_,hs⟩:=DataW.trod_string ht h;exact⟨s,rfl,hs⟩
theorem B6j {W:World} {base:Nat} {a:Addr} {n:Nat} {cs:List Value} (h:W.cells? base a n=some cs):∀ i u,cs[i]? = some u→W.cell? (a.add i)=some u:=by
 intro i u hu
 unfold World.cells? at h
 split at h
 ·have hl:=Go.mapM_some_length h
  have hi:i < n:=by
   have:=(List.getElem?_eq_some_iff.1 hu).1
   rw[hl] at this;simpa using this
  have:=Go.mapM_some_get h i i (by simp[hi])
  rw[this,hu]
 ·cases h
theorem op_slice {P:Program} {W:World} {α:Type} {d:Kd α} {Q:α→Prop} {t e:TypeId} (ht:P.underlying t=some (.slice e)) (hc:P.cellsOf e=d.sz) (he:Op P W d Q e) :
  Op P W (Kd.slice e d) (fun xs=>xs.length≤maxLen∧∀ x ∈ xs,Q x) t:=by
 intro H enc fuel cs x h
 rcases Go.Deep.open_slice ht h with ⟨rfl,_⟩|⟨a,len,cap,m,n,D,Pl,rfl,_,hl,hm,hmc,_,hel⟩
 ·exact⟨[],⟨none,0,rfl,Nat.le_refl _,rfl,by simp,fun h=>absurd h (by simp)⟩,by simp,fun _ h=>by cases h⟩
 ·have hmc':m=cap:=by simpa using hmc
  have hall:∀ i,i < len→∃ y:α,∃ c,W.cells? 0 (a.add (i * P.cellsOf e)) (P.cellsOf e)=some c∧d.K W y c∧Q y:=by
   intro i hi
   obtain⟨c,h1,h2⟩:=hel i (by omega)
   obtain⟨y,hK,hQ⟩:=he H enc n c _ h2;exact⟨y,c,h1,hK,hQ⟩
  rcases Nat.eq_zero_or_pos len with h0|h0
  ·subst h0
   exact⟨[],⟨some a,cap,rfl,by simp,rfl,by simp,fun h=>absurd h (by simp)⟩,by simp,fun _ h=>by cases h⟩
  ·obtain⟨y0,_⟩:=hall 0 h0
   haveI:Inhabited α:=⟨y0⟩
   obtain⟨f,hf⟩:=Go.Deep.choose_lt hall;refine⟨(List.range len).map f,⟨some a,cap,by simp,by simpa using hl,by simp,?_,fun _=>⟨a,rfl,?_⟩⟩,?_,?_⟩
   ·simp only [List.length_map,List.length_range];unfold maxLen at hm;omega
   ·intro j p hj
    have hjl:j < len:=by
     have:=(List.getElem?_eq_some_iff.1 hj).1
     simpa using this
    have hp:p=f j:=by
     simp[hjl] at hj
     exact hj.symm
    obtain⟨c,h1,hK,hQ⟩:=hf j hjl;subst hp;refine⟨c,d.K_len hK,hK,fun i u hu=>?_⟩
    have:=B6j h1 i u hu
    rw[Go.Deep.add_add,hc] at this;exact this
   ·simp only [List.length_map,List.length_range];omega
   ·intro x hx
    obtain⟨j,hj,rfl⟩:=List.mem_map.1 hx;obtain⟨_,_,_,hQ⟩:=hf j (by simpa using hj)
    exact hQ
def OpF (P:Program) (W:World) {α:Type} (d:Kd α) (Q:α→Prop) (fs:List Field) (o:Nat):Prop :=
 ∀ (H:Type) (enc:TypeId × Value→H) (n:Nat) (cs:List Value),o+d.sz≤cs.length →
  (∀ f ∈ fs,∃ x,DataW.trod enc P W 0 (fun _=>true) true n f.type ((cs.drop f.offset).take (P.cellsOf f.type))=some x)→∃ y,d.K W y ((cs.drop o).take d.sz)∧Q y
theorem opf_one {P:Program} {W:World} {α:Type} {d:Kd α} {Q:α→Prop} {f:Field} {o:Nat} (h:Op P W d Q f.type) (hc:P.cellsOf f.type=d.sz) (ho:f.offset=o):OpF P W d Q [f] o:=by
 intro H enc n cs hl hx
 obtain⟨x,hx⟩:=hx f (List.mem_singleton.2 rfl)
 rw[hc,ho] at hx;exact h H enc n _ x hx
theorem opf_cons {P:Program} {W:World} {α β:Type} {a:Kd α} {b:Kd β} {Qa:α→Prop} {Qb:β→Prop} {f:Field} {fs:List Field} {o:Nat} (h:Op P W a Qa f.type) (hc:P.cellsOf f.type=a.sz) (ho:f.offset=o) (hr:OpF P W b Qb fs (o+a.sz)) :
  OpF P W (Kd.pair a b) (fun x=>Qa x.1∧Qb x.2) (f :: fs) o:=by
 intro H enc n cs hl hx
 have hl':o+(a.sz+b.sz)≤cs.length:=hl
 obtain⟨x,hx0⟩:=hx f List.mem_cons_self;rw[hc,ho] at hx0;obtain⟨y,hK,hQ⟩:=h H enc n _ x hx0;obtain⟨z,hK2,hQ2⟩:=hr H enc n cs (by omega) (fun g hg=>hx g (List.mem_cons_of_mem _ hg))
 refine⟨(y,z),⟨_,_,?_,hK,hK2⟩,hQ,hQ2⟩
 show(cs.drop o).take (a.sz+b.sz)=_
 rw[List.take_add,List.drop_drop]
theorem B9l {P:Program} {W:World} {α:Type} {d:Kd α} {Q:α→Prop} {t:TypeId} {fs:Array Field} (ht:P.underlying t=some (.struct fs)) (hc:P.cellsOf t=d.sz) (h:OpF P W d Q fs.toList 0):Op P W d Q t:=by
 intro H enc fuel cs x hx
 obtain⟨xs,n,_,_,hlen,hxl,hall⟩:=DataW.trod_struct ht hx;obtain⟨y,hK,hQ⟩:=h H enc n cs (by omega) (fun f hf=>by
  obtain⟨i,hi,rfl⟩:=List.getElem_of_mem hf;have hi':i < fs.size:=by simpa using hi
  have:=hall i fs[i] (by simp[hi'])
  simp only [Array.getElem_toList]
  rw[this]
  exact⟨xs[i]'(by omega),List.getElem?_eq_getElem _⟩)
 rw[List.drop_zero,List.take_of_length_le (by omega)] at hK;exact⟨y,hK,hQ⟩
theorem op_iso {P:Program} {W:World} {α β:Type} {d:Kd α} {f:β→α} {Q:α→Prop} {t:TypeId} (g:α→β) (hg:∀ x,f (g x)=x) (h:Op P W d Q t):Op P W (Kd.iso d f) (fun y=>Q (f y)) t:=by
 intro H enc fuel cs x hx
 obtain⟨y,hK,hQ⟩:=h H enc fuel cs x hx;refine⟨g y,?_,?_⟩
 ·show d.K W (f (g y)) cs
  rw[hg];exact hK
 ·show Q (f (g y))
  rw[hg];exact hQ
theorem op_mono {P:Program} {W:World} {α:Type} {d:Kd α} {Q Q':α→Prop} {t:TypeId} (h:Op P W d Q t) (hq:∀ x,Q x→Q' x):Op P W d Q' t:=by
 intro H enc fuel cs x hx
 obtain⟨y,hK,hQ⟩:=h H enc fuel cs x hx;exact⟨y,hK,hq y hQ⟩
end Go.Proofs.YtediiolcoilepaaGreatW.Opens
