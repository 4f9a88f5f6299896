/- Walks of callees. -/
import Derived.Test.YtediiolcoilepaaGreatNbC
import Derived.Test.YtediiolcoilepaaGreatGNear13
namespace Go.Proofs.YtediiolcoilepaaGreat.Nb
set_option maxHeartbeats 8000000
set_option maxRecDepth 100000
open Go.RowKit YtediiolcoilepaaGreat.GNear YtediiolcoilepaaGreatW.PrintWords YtediiolcoilepaaGreatW.PrintLast YtediiolcoilepaaGreatW.PrintMore
theorem B8k (c d:Nat):(c ^^^ d) % 2=if c % 2=d % 2 then 0 else 1:=by
 have h:=@Nat.xor_mod_two_eq_one c d
 by_cases e:c % 2=d % 2
 ·rw[if_pos e];omega
 ·rw[if_neg e];omega
theorem B58 (a b:Nat) (ha:a < 4294967296) (hb:b < 4294967296) (d:Nat):∀ (i:Nat),i+d=32 →
  Ev (fun k=>A1f.l0 k ((a / 2 ^ i:Nat):Int) ((b / 2 ^ i:Nat):Int) (((a ^^^ b) % 2 ^ i:Nat):Int) ((2 ^ i:Nat):Int) (i:Int)) ((a ^^^ b:Nat):Int):=by
 have hx:=Nat.xor_lt_two_pow (n:=32) ha hb
 induction d with
 |zero =>
  intro i hd;obtain rfl:i=32:=by omega
  refine Ev.step (f:=fun _=>some ((a ^^^ b:Nat):Int)) (fun k=>?_) (Ev.now _);simp only [A1f.l0];rw[if_neg Zo,Nat.mod_eq_of_lt hx]
 |succ d ih =>
  intro i hd;have hp:2 ^ i≤2147483648:=by
   have:=Nat.pow_le_pow_right (n:=2) Zo (show i≤31 by omega)
   simpa using this
  have hp0:0 < 2 ^ i:=Nat.two_pow_pos i;have ea:wrap64 (Int.tdiv ((a / 2 ^ i:Nat):Int) 2)=((a / 2 ^ (i+1):Nat):Int):=by
   rw[Int.tdiv_eq_ediv_of_nonneg (Int.natCast_nonneg _),Nat.pow_succ,← Nat.div_div_eq_div_mul];have:a / 2 ^ i≤a:=Nat.div_le_self _ _;generalize a / 2 ^ i=q at *;unfold wrap64;omega
  have eb:wrap64 (Int.tdiv ((b / 2 ^ i:Nat):Int) 2)=((b / 2 ^ (i+1):Nat):Int):=by
   rw[Int.tdiv_eq_ediv_of_nonneg (Int.natCast_nonneg _),Nat.pow_succ,← Nat.div_div_eq_div_mul];have:b / 2 ^ i≤b:=Nat.div_le_self _ _;generalize b / 2 ^ i=q at *;unfold wrap64;omega
  have ep:wrap64 (2 * ((2 ^ i:Nat):Int))=((2 ^ (i+1):Nat):Int):=by
   rw[Nat.pow_succ];generalize 2 ^ i=q at *;unfold wrap64;omega
  have hs:(a ^^^ b) % 2 ^ (i+1)=(a ^^^ b) % 2 ^ i+2 ^ i * ((a / 2 ^ i ^^^ b / 2 ^ i) % 2):=by
   rw[Nat.mod_pow_succ,Nat.xor_div_two_pow]
  have hl:(a ^^^ b) % 2 ^ i < 2 ^ i:=Nat.mod_lt _ hp0;refine Ev.step (fun k=>?_) (ih (i+1) Zo);simp only [A1f.l0];rw[if_pos Zo,ea,eb,ep,w64 i Zo,Int.tmod_eq_emod_of_nonneg (Int.natCast_nonneg _),Int.tmod_eq_emod_of_nonneg (Int.natCast_nonneg _)];rw[B8k] at hs;by_cases c:a / 2 ^ i % 2=b / 2 ^ i % 2
  ·rw[if_pos Zo]
   rw[if_pos c,Nat.mul_zero] at hs;have hs2:(a ^^^ b) % 2 ^ (i+1)=(a ^^^ b) % 2 ^ i:=hs.trans (Nat.add_zero _);rw[hs2]
  ·rw[if_neg Zo]
   rw[if_neg c,Nat.mul_one] at hs;have ew:wrap64 ((((a ^^^ b) % 2 ^ i:Nat):Int)+((2 ^ i:Nat):Int))=(((a ^^^ b) % 2 ^ (i+1):Nat):Int):=by
    rw[hs];generalize (a ^^^ b) % 2 ^ i=q at *;generalize 2 ^ i=p at *;unfold wrap64;omega
   rw[ew]
theorem B7i (a b:Nat) (ha:a < 4294967296) (hb:b < 4294967296):Ev (fun k=>A1f.f k (a:Int) (b:Int)) ((a ^^^ b:Nat):Int):=by
 have h:=B58 a b ha hb 32 0 rfl;refine Ev.congr (fun k=>?_) h;unfold A1f.f;simp[Nat.mod_one]
theorem B36 (s:ByteArray) (hs:s.size≤4611686018427387904) (d:Nat):∀ (i h:Nat),h < 4294967296→s.size=i+d →
  Ev (fun k=>A0r.l0 k s (h:Int) (i:Int)) ((A5t ((A5s s i).foldl A69 h):Nat):Int)∧Ev (fun k=>A0w.l0 k s (h:Int) (i:Int)) ((A5t ((A5s s i).foldl A69 h):Nat):Int):=by
 induction d with
 |zero =>
  intro i h hh hd;have e:A5s s i = []:=by unfold A5s;exact List.drop_eq_nil_of_le (by simp;omega)
  have ed:wrap64 (Int.tdiv (h:Int) 65536)=((h / 65536:Nat):Int):=by
   rw[Int.tdiv_eq_ediv_of_nonneg Zo];unfold wrap64;omega
  have hl:=B1x h hh;have hx:=B7i h (h / 65536) hh Zo;rw[e];refine⟨Ev.step (f:=fun k=>(A1f.f k (h:Int) ((h / 65536:Nat):Int)).bind fun t104=>(some t104)) (fun k=>?_) (Ev.bind hx (Ev.now _)),Ev.step (f:=fun _=>some ((A5t h:Nat):Int)) (fun k=>?_) (Ev.now _)⟩
  ·simp only [A0r.l0]
   rw[if_neg Zo,ed]
  ·simp only [A0w.l0]
   rw[if_neg Zo,show(h:Int) / 65536=((h / 65536:Nat):Int) by omega,A9f h (h / 65536) hh Zo];show some (wrap64 ((A5t h:Nat):Int))=_
   congr 1
   unfold wrap64;omega
 |succ d ih =>
  intro i h hh hd;obtain⟨b,e,eb⟩:=A73 s i Zo;have hb:b.toNat < 256:=b.toNat_lt;have hx:=B7i h b.toNat hh Zo;have hxl:=Nat.xor_lt_two_pow (n:=32) hh (show b.toNat < 2 ^ 32 by omega);obtain⟨h1,h2⟩:=ih (i+1) (A69 h b) (B1w h b) Zo;rw[e,List.foldl_cons];have es:Int.tmod (wrap64 (((h ^^^ b.toNat:Nat):Int) * 16777619)) 4294967296=((A69 h b:Nat):Int):=by
   unfold A69;have:wrap64 (((h ^^^ b.toNat:Nat):Int) * 16777619)=((h ^^^ b.toNat:Nat):Int) * 16777619:=by unfold wrap64;omega
   rw[this,Int.tmod_eq_emod_of_nonneg Zo];omega
  have ei:(((h ^^^ b.toNat:Nat):Int) * 16777619) % 4294967296=((A69 h b:Nat):Int):=by
   unfold A69;omega
  refine⟨Ev.step (f:=fun k=>(A1f.f k (h:Int) (b.toNat:Int)).bind fun t103=>(A0r.l0 k s (Int.tmod (wrap64 (t103 * 16777619)) 4294967296) (wrap64 ((i:Int)+1)))) (fun k=>?_) (Ev.bind hx ?_),Ev.step (fun k=>?_) h2⟩
  ·simp only [A0r.l0]
   rw[if_pos Zo,if_pos Zo,eb,show wrap64 ((b.toNat:Nat):Int)=(b.toNat:Int) by unfold wrap64;omega]
  ·simp only [es,w64 i Zo]
   exact h1
  ·simp only [A0w.l0]
   rw[if_pos Zo,if_pos Zo,eb,show((b.toNat:Nat):Int) % 4294967296=(b.toNat:Int) by omega,A9f h b.toNat hh Zo,ei,w64 i Zo]
theorem A67 (s:ByteArray) (hs:s.size≤4611686018427387904) (seed:Nat) (h:seed≤1000000000) :
  Ev (fun k=>A0r.f k s (seed:Int)) ((A6h s seed:Nat):Int)∧Ev (fun k=>A0w.f k s (seed:Int)) ((A6h s seed:Nat):Int):=by
 obtain⟨h1,h2⟩:=B36 s hs s.size 0 (2166136261+seed) Zo Zo;constructor
 ·refine Ev.congr (f:=fun k=>A0r.j0 k s (seed:Int)) (fun k=>?_) (Ev.step (f:=fun k=>A0r.j1 k s (seed:Int)) (fun k=>?_) (Ev.step (fun k=>?_) h1))
  ·unfold A0r.f
   rw[if_neg Zo]
  ·simp only [A0r.j0]
   rw[if_neg Zo]
  ·simp only [A0r.j1]
   have:Int.tmod (wrap64 (2166136261+(seed:Int))) 4294967296=((2166136261+seed:Nat):Int):=by
    have:wrap64 (2166136261+(seed:Int))=2166136261+(seed:Int):=by unfold wrap64;omega
    rw[this,Int.tmod_eq_emod_of_nonneg Zo];omega
   rw[this];rfl
 ·refine Ev.congr (fun k=>?_) h2
  unfold A0w.f;have:mx 0 (mn (seed:Int) 1000000000)=(seed:Int):=by unfold mx mn;split <;> split <;> omega
  rw[this];rfl
def A9b (cs:List S151) (key:ByteArray):Nat→Nat→Option Nat
 |0,_=>none
 |d+1,p=>match cs[p]? with
  |none=>none
  |some x=>if x.f0=key∧0≤x.f1 then some p else if TM.isNone S151.f0 S151.f1 x then none else A9b cs key d ((p+1) % cs.length)
theorem B1q {cs:List S151} {key:ByteArray} (h:∀ x ∈ cs,x.f0=key→0≤x.f1):∀ d p,A9b cs key d p=TM.seekF S151.f0 S151.f1 cs key d p
 |0,_=>rfl
 |d+1,p=>by
  simp only [A9b,TM.seekF]
  cases hx:cs[p]? with
  |none=>rfl
  |some x =>
   have hm:=C0h hx
   by_cases c:x.f0=key
   ·simp only [if_pos c,if_pos (And.intro c (h x hm c))]
   ·simp only [if_neg c,if_neg (fun e:x.f0=key∧0≤x.f1=>c e.1),B1q h d]
theorem B2n (cs:List S151) (key:ByteArray) (hl:cs.length≤1048576) (at_:Nat) (ha:at_ < cs.length) (d:Nat):∀ (i:Nat),i+d=cs.length →
  Ev (fun k=>A0d.l0 k cs key (cs.length:Int) (at_:Int) (i:Int)) (A5u (A9b cs key d ((at_+i) % cs.length))):=by
 induction d with
 |zero =>
  intro i hd;refine Ev.step (f:=fun _=>some (-1)) (fun k=>?_) (Ev.now _);simp only [A0d.l0];rw[if_neg Zo]
 |succ d ih =>
  intro i hd;obtain⟨p,hpd⟩:∃ p,p=(at_+i) % cs.length:=⟨_,rfl⟩;have hp:p < cs.length:=hpd ▸ Nat.mod_lt _ Zo;have hw:Int.tmod (wrap64 ((at_:Int)+(i:Int))) (cs.length:Int)=(p:Int):=by
   rw[show wrap64 ((at_:Int)+(i:Int))=((at_+i:Nat):Int) by unfold wrap64;omega,Int.tmod_eq_emod_of_nonneg Zo,hpd];rfl
  have hnext:=ih (i+1) Zo;rw[show(at_+(i+1)) % cs.length=(p+1) % cs.length by rw[hpd,Nat.mod_add_mod,Nat.add_assoc]] at hnext;rw[← hpd];simp only [A9b,List.getElem?_eq_getElem hp];have rest:¬ (cs[p].f0=key∧0≤cs[p].f1)→Ev (fun k=>A0d.j1 k cs key (cs.length:Int) (at_:Int) (i:Int) false cs[p].f0 cs[p].f1) (A5u (if cs[p].f0=key∧0≤cs[p].f1 then some p else if TM.isNone S151.f0 S151.f1 cs[p] then none else A9b cs key d ((p+1) % cs.length))):=by
   intro c;rw[if_neg c]
   by_cases n:TM.isNone S151.f0 S151.f1 cs[p]
   ·rw[if_pos n]
    refine Ev.step (f:=fun _=>some (-1)) (fun k=>?_) (Ev.now _);simp only [A0d.j1,Bool.false_eq_true,if_false];rw[if_pos ((A0u _).2 n.1),if_pos n.2]
   ·rw[if_neg n]
    refine Ev.step (fun k=>?_) hnext;simp only [A0d.j1,Bool.false_eq_true,if_false]
    by_cases e0:cs[p].f0.toList=([]:List UInt8)
    ·rw[if_pos e0,if_neg (fun e1=>n ⟨(A0u _).1 e0,e1⟩),w64 i Zo]
    ·rw[if_neg e0,w64 i Zo]
  by_cases c:cs[p].f0=key
  ·by_cases c2:0≤cs[p].f1
   ·rw[if_pos ⟨c,c2⟩]
    refine Ev.step (f:=fun k=>A0d.j1 k cs key (cs.length:Int) (at_:Int) (i:Int) true cs[p].f0 cs[p].f1) (fun k=>?_) (Ev.step (f:=fun _=>some ((p:Int))) (fun k=>?_) (Ev.now _))
    ·simp only [A0d.l0,hw]
     rw[if_pos Zo,if_neg Zo,if_pos Zo,if_pos Zo,A2w cs p hp,if_pos (by rw[c]),B99 (show cs[p].f1 ≥ 0 from c2)]
    ·simp only [A0d.j1,if_true,hw]
     rw[if_neg Zo]
   ·refine Ev.step (fun k=>?_) (rest (fun h=>c2 h.2))
    simp only [A0d.l0,hw];rw[if_pos Zo,if_neg Zo,if_pos Zo,if_pos Zo,A2w cs p hp,if_pos (by rw[c]),C0a (show ¬ cs[p].f1 ≥ 0 from c2)]
  ·refine Ev.step (fun k=>?_) (rest (fun h=>c h.1))
   simp only [A0d.l0,hw];rw[if_pos Zo,if_neg Zo,if_pos Zo,if_pos Zo,A2w cs p hp,if_neg (fun e=>c (A3q.1 e))]
def A6b (cs:List S151) (key:ByteArray):Option Nat:=A9b cs key cs.length (stOf key % cs.length)
theorem A3n (cs:List S151) (key:ByteArray) (hl:cs.length≤1048576) (hs:key.size≤4611686018427387904):Ev (fun k=>A0d.f k cs key) (A5u (A6b cs key)):=by
 unfold A0d.f
 by_cases h0:cs.length=0
 ·rw[List.eq_nil_of_length_eq_zero h0]
  exact Ev.now _
 ·simp only [if_neg (show ¬ (cs.length:Int)=0 by omega)]
  refine Ev.bind (A67 key hs 0 Zo).1 ?_;have:=B2n cs key hl (stOf key % cs.length) (Nat.mod_lt _ Zo) cs.length 0 Zo;have e:Int.tmod ((A6h key 0:Nat):Int) (cs.length:Int)=((stOf key % cs.length:Nat):Int):=by rw[Int.tmod_eq_emod_of_nonneg Zo];rfl
  simp only [e];rw[Nat.add_zero,Nat.mod_mod] at this;exact this
theorem A4l {cs:List S151} {key:ByteArray} (h:∀ x ∈ cs,x.f0=key→0≤x.f1):A6b cs key=TM.seek S151.f0 S151.f1 cs key (stOf key):=B1q h _ _
def okCS (cs:List S151) (i:Nat) (x:S151):Prop:=(x.f0.size=0→x.f1 = -1 ∨ x.f1 = -2)∧(x.f0.size ≠ 0→x.f0.size≤12∧0≤x.f1∧A6b cs x.f0=some i)
theorem B59 (cs:List S151):(∀ i x,cs[i]? = some x→okCS cs i x) ↔ ceR cs:=by
 have go:∀ (hH:∀ x ∈ cs,x.f0.size ≠ 0→0≤x.f1) (x:S151),x ∈ cs→x.f0.size ≠ 0→A6b cs x.f0=TM.seek S151.f0 S151.f1 cs x.f0 (stOf x.f0):=fun hH x hx hs =>
  A4l (fun y hy e=>hH y hy (by rw[e];exact hs))
 constructor
 ·intro h i x hx
  have hH:∀ x ∈ cs,x.f0.size ≠ 0→0≤x.f1:=fun y hy hs=>by
   obtain⟨j,hj,rfl⟩:=List.getElem_of_mem hy;exact((h j _ (C0c hj)).2 hs).2.1
  have:=h i x hx;exact⟨this.1,fun hs=>⟨(this.2 hs).1,(this.2 hs).2.1,(go hH x (C0h hx) hs).symm.trans (this.2 hs).2.2⟩⟩
 ·intro h i x hx
  have hH:∀ x ∈ cs,x.f0.size ≠ 0→0≤x.f1:=fun y hy hs=>by
   obtain⟨j,hj,rfl⟩:=List.getElem_of_mem hy;exact((h j _ (C0c hj)).2 hs).2.1
  have:=h i x hx;exact⟨this.1,fun hs=>⟨(this.2 hs).1,(this.2 hs).2.1,(go hH x (C0h hx) hs).trans (this.2 hs).2.2⟩⟩
theorem B03 (cs:List S151) (hl:cs.length≤1048576) (hs:∀ x ∈ cs,x.f0.size≤4611686018427387904) (d:Nat):∀ (i:Nat) (fl:Bool),cs.length=i+d →
  ∃ b,Ev (fun k=>A0g.l0 k cs fl (i:Int)) b∧(b=true ↔ (∀ j,i≤j→∀ x,cs[j]? = some x→okCS cs j x)∧(fl=true ∨ 0 < TM.nones S151.f0 S151.f1 (cs.drop i))):=by
 induction d with
 |zero =>
  intro i fl hd;refine⟨fl,Ev.step (f:=fun _=>some fl) (fun k=>?_) (Ev.now _),?_⟩
  ·simp only [A0g.l0];rw[if_neg Zo]
  ·rw[List.drop_eq_nil_of_le Zo]
   constructor
   ·exact fun h=>⟨fun j hj x hx=>by have:=(C0e.1 hx).1;omega,.inl h⟩
   ·rintro ⟨_,h|h⟩
    ·exact h
    ·simp[TM.nones] at h
 |succ d ih =>
  intro i fl hd;have hi:i < cs.length:=by omega
  have hx:cs[i]? = some cs[i]:=C0c hi;have hc:TM.nones S151.f0 S151.f1 (cs.drop i)=(if TM.isNone S151.f0 S151.f1 cs[i] then 1 else 0)+TM.nones S151.f0 S151.f1 (cs.drop (i+1)):=by
   unfold TM.nones;rw[List.drop_eq_getElem_cons hi,List.countP_cons];simp only [decide_eq_true_eq];omega
  have bad:¬ okCS cs i cs[i]→(false=true ↔ (∀ j,i≤j→∀ x,cs[j]? = some x→okCS cs j x)∧(fl=true ∨ 0 < TM.nones S151.f0 S151.f1 (cs.drop i))):=fun hn=>⟨fun h=>Bool.noConfusion h,fun h=>absurd (h.1 i (Nat.le_refl _) _ hx) hn⟩;have good:∀ {b fl':Bool},okCS cs i cs[i]→(fl'=true ↔ fl=true ∨ TM.isNone S151.f0 S151.f1 cs[i])→(b=true ↔ (∀ j,i+1≤j→∀ x,cs[j]? = some x→okCS cs j x)∧(fl'=true ∨ 0 < TM.nones S151.f0 S151.f1 (cs.drop (i+1)))) →
    (b=true ↔ (∀ j,i≤j→∀ x,cs[j]? = some x→okCS cs j x)∧(fl=true ∨ 0 < TM.nones S151.f0 S151.f1 (cs.drop i))):=by
   intro b fl' hok hf hb;rw[hb,hc,hf];constructor
   ·rintro ⟨h1,h2⟩
    refine⟨fun j hj x hxj=>?_,?_⟩
    ·by_cases e:j=i
     ·subst e;rw[hx] at hxj;obtain rfl:=C0d hxj;exact hok
     ·exact h1 j Zo x hxj
    ·rcases h2 with (h2|h2)|h2
     ·exact .inl h2
     ·rw[if_pos h2];exact .inr Zo
     ·exact .inr Zo
   ·rintro ⟨h1,h2⟩
    refine⟨fun j hj x hxj=>h1 j Zo x hxj,?_⟩
    rcases h2 with h2|h2
    ·exact .inl (.inl h2)
    ·by_cases hn:TM.isNone S151.f0 S151.f1 cs[i]
     ·exact .inl (.inr hn)
     ·rw[if_neg hn] at h2;exact .inr Zo
  by_cases e0:cs[i].f0.toList=([]:List UInt8)
  ·have z0:cs[i].f0.size=0:=(A0u _).1 e0
   by_cases h1:cs[i].f1 = -1
   ·obtain⟨b,hb,hq⟩:=ih (i+1) true Zo
    refine⟨b,Ev.step (f:=fun k=>A0g.j1 k cs fl (i:Int) false cs[i].f0 cs[i].f1) (fun k=>?_) (Ev.step (fun k=>?_) hb),good ⟨fun _=>.inl h1,fun h=>absurd z0 h⟩ (by simp[TM.isNone,z0,h1]) hq⟩
    ·simp only [A0g.l0]
     rw[if_pos Zo,if_pos Zo,A2w cs i hi,if_pos e0,if_pos h1]
    ·simp only [A0g.j1,Bool.false_eq_true,if_false]
     rw[w64 i Zo,h1]
     cases fl <;> rfl
   ·by_cases h2:cs[i].f1 = -2
    ·obtain⟨b,hb,hq⟩:=ih (i+1) fl Zo
     refine⟨b,Ev.step (f:=fun k=>A0g.j1 k cs fl (i:Int) false cs[i].f0 cs[i].f1) (fun k=>?_) (Ev.step (fun k=>?_) hb),good ⟨fun _=>.inr h2,fun h=>absurd z0 h⟩ (by simp[TM.isNone,h1]) hq⟩
     ·simp only [A0g.l0]
      rw[if_pos Zo,if_pos Zo,A2w cs i hi,if_pos e0,if_neg h1,h2];rfl
     ·simp only [A0g.j1,Bool.false_eq_true,if_false]
      rw[w64 i Zo,h2]
      cases fl <;> rfl
    ·refine⟨false,Ev.step (f:=fun k=>A0g.j1 k cs fl (i:Int) true cs[i].f0 cs[i].f1) (fun k=>?_) (Ev.step (f:=fun _=>some false) (fun k=>?_) (Ev.now _)),bad (fun h=>(h.1 z0).elim h1 h2)⟩
     ·simp only [A0g.l0]
      rw[if_pos Zo,if_pos Zo,A2w cs i hi,if_pos e0,if_neg h1,bne_iff_ne.2 h2]
     ·simp only [A0g.j1,if_true]
  ·have z0:cs[i].f0.size ≠ 0:=fun h=>e0 ((A0u _).2 h)
   by_cases h1:(cs[i].f0.size:Int) > 12
   ·refine⟨false,Ev.step (f:=fun _=>some false) (fun k=>?_) (Ev.now _),bad (fun h=>by have:=(h.2 z0).1;omega)⟩
    simp only [A0g.l0];rw[if_pos Zo,if_pos Zo,A2w cs i hi,if_neg e0,if_pos h1]
   ·by_cases h2:cs[i].f1 < 0
    ·refine⟨false,Ev.step (f:=fun _=>some false) (fun k=>?_) (Ev.now _),bad (fun h=>by have:=(h.2 z0).2.1;omega)⟩
     simp only [A0g.l0];rw[if_pos Zo,if_pos Zo,A2w cs i hi,if_neg e0,if_neg h1,if_pos h2]
    ·have hsk:=A3n cs cs[i].f0 hl (hs _ (List.getElem_mem hi))
     by_cases h3:A6b cs cs[i].f0=some i
     ·obtain⟨b,hb,hq⟩:=ih (i+1) fl Zo
      refine⟨b,Ev.step (f:=fun k=>(A0d.f k cs cs[i].f0).bind fun t=>(if t=(i:Int) then (A0g.l0 k cs fl (wrap64 ((i:Int)+1))) else (some false))) (fun k=>?_) (Ev.bind hsk ?_),good ⟨fun h=>absurd h z0,fun _=>⟨by omega,by omega,h3⟩⟩ (by simp[TM.isNone,z0]) hq⟩
      ·simp only [A0g.l0]
       rw[if_pos Zo,if_pos Zo,A2w cs i hi,if_neg e0,if_neg h1,if_neg h2]
      ·rw[h3]
       refine Ev.congr (fun k=>?_) hb;rw[if_pos (show A5u (some i)=(i:Int) from rfl),w64 i Zo]
     ·refine⟨false,Ev.step (f:=fun k=>(A0d.f k cs cs[i].f0).bind fun t=>(if t=(i:Int) then (A0g.l0 k cs fl (wrap64 ((i:Int)+1))) else (some false))) (fun k=>?_) (Ev.bind hsk ?_),bad (fun h=>h3 (h.2 z0).2.2)⟩
      ·simp only [A0g.l0]
       rw[if_pos Zo,if_pos Zo,A2w cs i hi,if_neg e0,if_neg h1,if_neg h2]
      ·refine Ev.congr (f:=fun _=>some false) (fun k=>?_) (Ev.now _)
       rw[if_neg];intro e
       cases hv:A6b cs cs[i].f0 with
       |none=>rw[hv] at e;simp only [A5u] at e;omega
       |some m=>rw[hv] at e;simp only [A5u] at e;exact h3 (by rw[hv];congr 1;omega)
theorem A9z (cs:List S151) (need:Bool) (hl:cs.length≤1048576) (hs:∀ x ∈ cs,x.f0.size≤4611686018427387904) :
  ∃ b,Ev (fun k=>A0g.f k cs need) b∧(b=true ↔ ceR cs∧(need=true→0 < TM.nones S151.f0 S151.f1 cs)):=by
 obtain⟨b,hb,hq⟩:=B03 cs hl hs cs.length 0 (!need) Zo;refine⟨b,hb,hq.trans ?_⟩;rw[← B59,List.drop_zero];constructor
 ·rintro ⟨h1,h2⟩
  exact⟨fun i x hx=>h1 i (Nat.zero_le _) x hx,fun hn=>h2.resolve_left (by simp[hn])⟩
 ·rintro ⟨h1,h2⟩
  refine⟨fun j _ x hx=>h1 j x hx,?_⟩
  cases need with
  |true=>exact .inr (h2 rfl)
  |false=>exact .inl rfl
theorem A6o (a b c:Int):A0l.f a b c=some (decide (b≤a∧a≤c)):=by
 unfold A0l.f
 by_cases h:a ≥ b
 ·rw[if_pos h];congr 1;simp only [decide_eq_decide];omega
 ·rw[if_neg h];congr 1;symm;simp only [decide_eq_false_iff_not];omega
theorem A55 (a:Int):A3c.f a=some (decide (a=4 ∨ a=8 ∨ a=16 ∨ a=32 ∨ a=64)):=by
 unfold A3c.f
 by_cases h1:a=4
 ·rw[if_pos h1];simp[h1]
 rw[if_neg h1]
 by_cases h2:a=8
 ·rw[if_pos h2];simp[h2]
 rw[if_neg h2]
 by_cases h3:a=16
 ·rw[if_pos h3];simp[h3]
 rw[if_neg h3]
 by_cases h4:a=32
 ·rw[if_pos h4];simp[h4]
 rw[if_neg h4]
 by_cases h5:a=64
 ·simp[h5]
 simp[h1,h2,h3,h4,h5]
theorem B04 (cs old:List S151) (m:Int) (h1:cs.length≤1048576) (h2:old.length≤1048576) (hs2:∀ x ∈ old,x.f0.size≤4611686018427387904) (d:Nat):∀ (i:Nat),old.length=i+d →
  ∃ b,Ev (fun k=>A0e.l0 k (i:Int) cs old m) b∧(old = []→b=true):=by
 induction d with
 |zero =>
  intro i hd;refine⟨true,Ev.step (f:=fun _=>some true) (fun k=>?_) (Ev.now _),fun _=>rfl⟩;simp only [A0e.l0];rw[if_neg Zo]
 |succ d ih =>
  intro i hd;have hi:i < old.length:=by omega
  have ho:¬ old = []:=fun e=>by subst e;simp at hi
  obtain⟨b,hb,_⟩:=ih (i+1) Zo;have hsk:=A3n cs old[i].f0 h1 (hs2 _ (List.getElem_mem hi))
  by_cases c1:(i:Int) < m
  ·by_cases e0:old[i].f0.toList=([]:List UInt8)
   ·by_cases c2:old[i].f1 = -2
    ·refine⟨b,Ev.step (fun k=>?_) hb,fun h=>absurd h ho⟩
     simp only [A0e.l0];rw[if_pos Zo,if_pos Zo,if_pos c1,A2w old i hi,if_pos e0,if_pos c2,w64 i Zo]
    ·refine⟨false,Ev.step (f:=fun _=>some false) (fun k=>?_) (Ev.now _),fun h=>absurd h ho⟩
     simp only [A0e.l0];rw[if_pos Zo,if_pos Zo,if_pos c1,A2w old i hi,if_pos e0,if_neg c2]
   ·refine⟨false,Ev.step (f:=fun _=>some false) (fun k=>?_) (Ev.now _),fun h=>absurd h ho⟩
    simp only [A0e.l0];rw[if_pos Zo,if_pos Zo,if_pos c1,A2w old i hi,if_neg e0]
  ·by_cases e0:old[i].f0.toList=([]:List UInt8)
   ·refine⟨b,Ev.step (fun k=>?_) hb,fun h=>absurd h ho⟩
    simp only [A0e.l0];rw[if_pos Zo,if_pos Zo,if_neg c1,A2w old i hi,if_pos e0,w64 i Zo]
   ·by_cases c3:A5u (A6b cs old[i].f0) ≥ 0
    ·refine⟨false,Ev.step (f:=fun k=>(A0d.f k cs old[i].f0).bind fun t=>(if t ≥ 0 then (some false) else (A0e.l0 k (wrap64 ((i:Int)+1)) cs old m))) (fun k=>?_) (Ev.bind hsk (Ev.congr (f:=fun _=>some false) (fun k=>by rw[if_pos c3]) (Ev.now _))),fun h=>absurd h ho⟩
     simp only [A0e.l0];rw[if_pos Zo,if_pos Zo,if_neg c1,A2w old i hi,if_neg e0]
    ·refine⟨b,Ev.step (f:=fun k=>(A0d.f k cs old[i].f0).bind fun t=>(if t ≥ 0 then (some false) else (A0e.l0 k (wrap64 ((i:Int)+1)) cs old m))) (fun k=>?_) (Ev.bind hsk (Ev.congr (fun k=>by rw[if_neg c3,w64 i Zo]) hb)),fun h=>absurd h ho⟩
     simp only [A0e.l0];rw[if_pos Zo,if_pos Zo,if_neg c1,A2w old i hi,if_neg e0]
theorem A37 (cs old:List S151) (m:Int) (h1:cs.length≤1048576) (h2:old.length≤1048576) (hs:∀ x ∈ cs,x.f0.size≤4611686018427387904) (hs2:∀ x ∈ old,x.f0.size≤4611686018427387904) :
  ∃ b,Ev (fun k=>A0e.f k cs old m) b∧(old = []→(b=true ↔ taR cs old m)):=by
 have bad:∃ b,Ev (fun k=>A0e.j0 k true cs old m) b∧b=false:=⟨false,Ev.step (f:=fun _=>some false) (fun k=>by simp only [A0e.j0,if_true]) (Ev.now _),rfl⟩;have last:∃ b,Ev (fun k=>(A0l.f m 0 (old.length:Int)).bind fun t691=>(if t691=true then ((A0g.f k cs true).bind fun t692=>(if t692=true then ((A0g.f k old false).bind fun t693=>(A0e.j0 k (!t693) cs old m)) else (A0e.j0 k true cs old m))) else (A0e.j0 k true cs old m))) b ∧
   (old = []→(b=true ↔ (0≤m∧m≤(old.length:Int))∧ceR cs∧0 < TM.nones S151.f0 S151.f1 cs)):=by
  obtain⟨b1,hb1,hq1⟩:=A9z cs true h1 hs;obtain⟨b2,hb2,hq2⟩:=A9z old false h2 hs2;obtain⟨b3,hb3,hq3⟩:=B04 cs old m h1 h2 hs2 old.length 0 Zo;obtain⟨b0,hb0,rfl⟩:=bad;by_cases c0:0≤m∧m≤(old.length:Int)
  ·cases b1 with
   |false =>
    refine⟨false,Ev.congr (fun k=>?_) (Ev.bind (f:=fun k (t692:Bool)=>(if t692=true then ((A0g.f k old false).bind fun t693=>(A0e.j0 k (!t693) cs old m)) else (A0e.j0 k true cs old m))) hb1 (Ev.congr (fun k=>if_neg Zs) hb0)),fun _=>⟨fun h=>Bool.noConfusion h,fun h=>hq1.2 ⟨h.2.1,fun _=>h.2.2⟩⟩⟩;rw[A6o,B99 c0];rfl
   |true =>
    cases b2 with
    |false =>
     refine⟨false,Ev.congr (fun k=>?_) (Ev.bind (f:=fun k (t692:Bool)=>(if t692=true then ((A0g.f k old false).bind fun t693=>(A0e.j0 k (!t693) cs old m)) else (A0e.j0 k true cs old m))) hb1 (Ev.congr (fun k=>if_pos rfl) (Ev.bind (f:=fun k (t693:Bool)=>A0e.j0 k (!t693) cs old m) hb2 hb0))),fun e=>⟨fun h=>Bool.noConfusion h,fun h=>hq2.2 ⟨by subst e;intro i x hx;simp at hx,fun h=>Bool.noConfusion h⟩⟩⟩;rw[A6o,B99 c0];rfl
    |true =>
     refine⟨b3,Ev.congr (fun k=>?_) (Ev.bind (f:=fun k (t692:Bool)=>(if t692=true then ((A0g.f k old false).bind fun t693=>(A0e.j0 k (!t693) cs old m)) else (A0e.j0 k true cs old m))) hb1 (Ev.congr (fun k=>if_pos rfl) (Ev.bind (f:=fun k (t693:Bool)=>A0e.j0 k (!t693) cs old m) hb2 (Ev.step (fun k=>by simp only [A0e.j0,Bool.not_true,Bool.false_eq_true,if_false];rfl) hb3)))),fun e=>⟨fun _=>⟨c0,(hq1.1 rfl).1,(hq1.1 rfl).2 rfl⟩,fun _=>hq3 e⟩⟩;rw[A6o,B99 c0];rfl
  ·refine⟨false,Ev.congr (fun k=>?_) hb0,fun _=>⟨fun h=>Bool.noConfusion h,fun h=>absurd h.1 c0⟩⟩
   rw[A6o,C0a c0];rfl
 obtain⟨b,hb,hq⟩:=last;obtain⟨b0,hb0,rfl⟩:=bad;by_cases cz:(cs.length:Int)=4 ∨ (cs.length:Int)=8 ∨ (cs.length:Int)=16 ∨ (cs.length:Int)=32 ∨ (cs.length:Int)=64
 ·by_cases co:(old.length:Int)=0
  ·refine⟨b,Ev.congr (fun k=>?_) hb,fun e=>(hq e).trans ?_⟩
   ·unfold A0e.f;rw[A55,B99 cz,Option.bind_some,if_pos rfl,if_pos co]
   ·subst e
    constructor
    ·rintro ⟨hm,hc,hn⟩
     refine⟨by omega,.inl rfl,⟨hm.1,by simpa using hm.2⟩,fun x hx=>by simp at hx,?_,hc,fun i x hx=>by simp at hx,hn⟩;rw[List.append_nil];exact TM.Found.nodup S151.f0 S151.f1 (TM.cellsR.found S151.f0 S151.f1 hc)
    ·intro h
     exact⟨⟨h.moved.1,by simpa using h.moved.2⟩,h.cells,h.none⟩
  ·by_cases c2:wrap64 (2 * (old.length:Int))=(cs.length:Int)
   ·refine⟨b,Ev.congr (fun k=>?_) hb,fun e=>absurd (by rw[e];rfl) co⟩
    unfold A0e.f;rw[A55,B99 cz,Option.bind_some,if_pos rfl,if_neg co,if_pos c2]
   ·refine⟨false,Ev.congr (fun k=>?_) hb0,fun e=>absurd (by rw[e];rfl) co⟩
    unfold A0e.f;rw[A55,B99 cz,Option.bind_some,if_pos rfl,if_neg co,if_neg c2]
 ·refine⟨false,Ev.congr (fun k=>?_) hb0,fun _=>⟨fun h=>Bool.noConfusion h,fun h=>absurd (by have:=h.size;omega) cz⟩⟩
  unfold A0e.f;rw[A55,C0a cz,Option.bind_some,if_neg Zs]
def ltS (s t:ByteArray):Bool:=Op.bytesLess s.toList t.toList
theorem B37 {s t:ByteArray}:ltS s t=true ↔ s.data.toList < t.data.toList:=by
 unfold ltS;rw[bytesLess_eq,Lib.toList_data,Lib.toList_data,decide_eq_true_iff]
def insL (l:List ByteArray) (x:ByteArray):List ByteArray:=l.filter (fun y=>ltS y x) ++ x :: l.filter (fun y=>!ltS y x)
theorem B38 (l:List ByteArray) (x:ByteArray):(insL l x).Perm (x :: l):=by
 unfold insL;exact List.perm_middle.trans ((List.filter_append_perm _ l).cons x)
theorem B05 {l:List ByteArray} (h:l.Pairwise leS) (x:ByteArray):(insL l x).Pairwise leS:=by
 unfold insL;have ge:∀ y,(!ltS y x)=true→leS x y:=fun y hy=>by
  have:¬ y.data.toList < x.data.toList:=fun e=>by rw[B37.2 e] at hy;cases hy
  exact List.not_lt.1 this
 refine List.pairwise_append.2 ⟨h.filter _,List.pairwise_cons.2 ⟨fun y hy=>ge y (List.mem_filter.1 hy).2,h.filter _⟩,fun a ha b hb=>?_⟩;have h1:leS a x:=List.le_of_lt (B37.1 (List.mem_filter.1 ha).2)
 rcases List.mem_cons.1 hb with rfl|hb
 ·exact h1
 ·exact List.le_trans h1 (ge b (List.mem_filter.1 hb).2)
theorem B8l {l:List ByteArray} (h:l.Pairwise leS) (x:ByteArray):insL l x=A1m (x :: l):=A97 ((B38 l x).trans (A1w _).symm) (B05 h x) (A26 _)
theorem B8m (l:List ByteArray) (x:ByteArray) (hl:l.length≤4194304) (d:Nat):∀ (i:Nat) (acc:List ByteArray),l.length=i+d→acc.length≤l.length+1+i →
  Ev (fun k=>A0o.l1 k l x acc (i:Int)) (acc ++ (l.drop i).filter (fun y=>!ltS y x)):=by
 induction d with
 |zero =>
  intro i acc hd ha;rw[List.drop_eq_nil_of_le Zo];refine Ev.step (f:=fun _=>some acc) (fun k=>?_) (by simpa using Ev.now acc);simp only [A0o.l1];rw[if_neg Zo]
 |succ d ih =>
  intro i acc hd ha;have hi:i < l.length:=by omega
  rw[List.drop_eq_getElem_cons hi]
  by_cases c:ltS l[i] x=true
  ·rw[List.filter_cons_of_neg (by simp[c])]
   refine Ev.step (fun k=>?_) (ih (i+1) acc Zo Zo);simp only [A0o.l1];rw[if_pos Zo,if_pos Zo,A2g l i hi,if_pos (show Op.bytesLess l[i].toList x.toList=true from c),w64 i Zo]
  ·rw[List.filter_cons_of_pos (by simpa using c)]
   have:=ih (i+1) (acc ++ [l[i]]) Zo (by simp;omega);rw[List.append_assoc,List.singleton_append] at this;refine Ev.step (fun k=>?_) this;simp only [A0o.l1];rw[if_pos Zo,if_pos Zo,A2g l i hi,if_neg (show ¬ Op.bytesLess l[i].toList x.toList=true from c),if_pos Zo,w64 i Zo]
theorem B8n (l:List ByteArray) (x:ByteArray) (hl:l.length≤4194304) (d:Nat):∀ (i:Nat) (acc:List ByteArray),l.length=i+d→acc.length≤i →
  Ev (fun k=>A0o.l0 k l x acc (i:Int)) (acc ++ (l.drop i).filter (fun y=>ltS y x) ++ x :: l.filter (fun y=>!ltS y x)):=by
 induction d with
 |zero =>
  intro i acc hd ha;rw[List.drop_eq_nil_of_le Zo,List.filter_nil,List.append_nil];have:=B8m l x hl l.length 0 (acc ++ [x]) Zo (by simp;omega);rw[List.drop_zero,List.append_assoc,List.singleton_append] at this;refine Ev.step (fun k=>?_) this;simp only [A0o.l0];rw[if_neg Zo,if_pos Zo];rfl
 |succ d ih =>
  intro i acc hd ha;have hi:i < l.length:=by omega
  rw[List.drop_eq_getElem_cons hi]
  by_cases c:ltS l[i] x=true
  ·rw[List.filter_cons_of_pos (p:=fun y=>ltS y x) c]
   have:=ih (i+1) (acc ++ [l[i]]) Zo (by simp;omega);rw[List.append_assoc acc,List.singleton_append] at this;refine Ev.step (fun k=>?_) this;simp only [A0o.l0];rw[if_pos Zo,if_pos Zo,A2g l i hi,if_pos (show Op.bytesLess l[i].toList x.toList=true from c),if_pos Zo,w64 i Zo]
  ·rw[List.filter_cons_of_neg (by simpa using c)]
   refine Ev.step (fun k=>?_) (ih (i+1) acc Zo Zo);simp only [A0o.l0];rw[if_pos Zo,if_pos Zo,A2g l i hi,if_neg (show ¬ Op.bytesLess l[i].toList x.toList=true from c),w64 i Zo]
theorem A9c {l:List ByteArray} (hl:l.length≤4194304) (hs:l.Pairwise leS) (x:ByteArray):Ev (fun k=>A0o.f k l x) (A1m (x :: l)):=by
 rw[← B8l hs x];have:=B8n l x hl l.length 0 [] Zo Zs;rw[List.drop_zero,List.nil_append] at this;exact this
theorem A6p (x:ByteArray) (l:List ByteArray):A1m (x :: A1m l)=A1m (l ++ [x]):=A4n (((A1w l).cons x).trans (List.perm_append_comm (l₁:=[x]) (l₂:=l)))
theorem B2o {cs:List S151} {i:Nat} (hi:i < cs.length):A1g (cs.take (i+1))=A1g (cs.take i) ++ (if cs[i].f0.size ≠ 0 then [cs[i].f0] else []):=by
 unfold A1g TM.keysOf;rw[List.take_add_one,C0c hi,List.filter_append,List.map_append]
 congr 1
 show((([cs[i]]:List S151).filter fun x=>decide (x.f0.size ≠ 0)).map S151.f0)=_
 by_cases h:cs[i].f0.size ≠ 0
 ·rw[List.filter_cons_of_pos (by exact B99 h),List.filter_nil,if_pos h];rfl
 ·rw[List.filter_cons_of_neg (by rw[decide_eq_true_iff];exact h),List.filter_nil,if_neg h];rfl
theorem B6a (cs:List S151):(A1g cs).length≤cs.length:=by unfold A1g TM.keysOf;rw[List.length_map];exact List.length_filter_le _ _
theorem A7x {cs:List S151} {m:Int} (h1:cs.length≤1048576) (hs:∀ x ∈ cs,x.f0.size≤4611686018427387904) (ht:taR cs [] m):Ev (fun k=>A0e.f k cs [] m) true:=by
 obtain⟨b,hb,hq⟩:=A37 cs [] m h1 Zs hs Zs;obtain rfl:=(hq rfl).2 ht;exact hb
theorem B2p (cs:List S151) (m:Int) (hl:cs.length≤1048576) (d:Nat):∀ (i:Nat),cs.length=i+d →
  Ev (fun k=>A0z.l0 k (A1m (A1g (cs.take i))) (i:Int) cs [] m) (A1m (A1g cs)):=by
 induction d with
 |zero =>
  intro i hd;rw[List.take_of_length_le Zo];refine Ev.step (f:=fun k=>A0z.l1 k (A1m (A1g cs)) 0 cs [] m) (fun k=>?_) (Ev.step (f:=fun _=>some (A1m (A1g cs))) (fun k=>?_) (Ev.now _))
  ·simp only [A0z.l0];rw[if_neg Zo]
  ·simp only [A0z.l1];rw[if_neg Zs]
 |succ d ih =>
  intro i hd;have hi:i < cs.length:=by omega
  have hn:=ih (i+1) Zo;rw[B2o hi] at hn;by_cases e0:cs[i].f0.toList=([]:List UInt8)
  ·rw[if_neg (by simp[(A0u _).1 e0]),List.append_nil] at hn
   refine Ev.step (fun k=>?_) hn;simp only [A0z.l0];rw[if_pos Zo,if_pos Zo,A2w cs i hi,if_pos e0,w64 i Zo]
  ·rw[if_pos (fun e=>e0 ((A0u _).2 e)),← A6p] at hn
   have hb:(A1m (A1g (cs.take i))).length≤4194304:=by
    rw[A2n];have:=B6a (cs.take i);rw[List.length_take] at this;omega
   refine Ev.step (f:=fun k=>(A0o.f k (A1m (A1g (cs.take i))) cs[i].f0).bind fun t763=>(A0z.l0 k t763 (wrap64 ((i:Int)+1)) cs [] m)) (fun k=>?_) (Ev.bind (A9c hb (A26 _) cs[i].f0) ?_)
   ·simp only [A0z.l0]
    rw[if_pos Zo,if_pos Zo,A2w cs i hi,if_neg e0]
   ·rw[w64 i Zo]
    exact hn
theorem B1r {cs:List S151} {m:Int} (h1:cs.length≤1048576) (hs:∀ x ∈ cs,x.f0.size≤4611686018427387904) (ht:taR cs [] m):Ev (fun k=>A0z.f k cs [] m) (A1m (A1g cs)):=by
 have:=B2p cs m h1 cs.length 0 Zo;have e:A1m (A1g (cs.take 0)) = []:=by simp[A1g,TM.keysOf,A98]
 rw[e] at this;refine Ev.congr (fun k=>?_) (Ev.bind (f:=fun k (t:Bool)=>if t=true then A0z.l0 k ([]:List ByteArray) 0 cs [] m else some []) (A7x h1 hs ht) (Ev.congr (fun k=>if_pos rfl) this));unfold A0z.f;rfl
theorem B1s {cs:List S151} {m:Int} {key:ByteArray} (h1:cs.length≤1048576) (hs:∀ x ∈ cs,x.f0.size≤4611686018427387904) (ht:taR cs [] m) (hk:key.size ≠ 0) (hks:key.size≤4611686018427387904) :
  Ev (fun k=>A0t.f k cs [] m key) (match TM.seek S151.f0 S151.f1 cs key (stOf key) with|some i=>((A0c cs (i:Int)).f1,true)|none=>(0,false)):=by
 have hv:=A3n cs key h1 hks;rw[A4l (fun x hx e=>by
  obtain⟨j,hj,rfl⟩:=List.getElem_of_mem hx;exact((ht.cells j _ (C0c hj)).2 (by rw[e];exact hk)).2.1)] at hv
 have hkb:(key.toList == ([]:List UInt8))=false:=C0g.2 (fun e=>hk ((A0u _).1 e));refine Ev.congr (fun k=>?_) (Ev.bind (f:=fun k (t:Bool)=>if t=true then A0t.j0 k key (key.toList == ([]:List UInt8)) cs [] m else A0t.j0 k key true cs [] m) (A7x h1 hs ht) (Ev.congr (fun k=>if_pos rfl) ?_))
 ·unfold A0t.f;rfl
 rw[hkb];have h0:=A3n ([]:List S151) key Zs hks;replace h0:Ev (fun k=>A0d.f k ([]:List S151) key) (-1):=h0
 cases hsk:TM.seek S151.f0 S151.f1 cs key (stOf key) with
 |none =>
  rw[hsk] at hv;replace hv:Ev (fun k=>A0d.f k cs key) (-1):=hv;refine Ev.step (fun k=>?_) (Ev.bind (f:=fun k (t776:Int)=>(if t776 ≥ 0 then (if 0≤t776 then (if t776 < (cs.length:Int) then (some ((A0c cs t776).f1,true)) else (none)) else (none)) else ((A0d.f k ([]:List S151) key).bind fun t778=>(if t778 ≥ 0 then (if 0≤t778 then (if t778 < (([]:List S151).length:Int) then (some ((A0c ([]:List S151) t778).f1,true)) else (none)) else (none)) else (some (0,false)))))) hv (Ev.congr (fun k=>if_neg Zo) (Ev.bind (f:=fun _ (t778:Int)=>(if t778 ≥ 0 then (if 0≤t778 then (if t778 < (([]:List S151).length:Int) then (some ((A0c ([]:List S151) t778).f1,true)) else (none)) else (none)) else (some (0,false)))) h0 (Ev.congr (fun k=>if_neg Zo) (Ev.now _)))));simp only [A0t.j0,Bool.false_eq_true,if_false]
 |some i =>
  rw[hsk] at hv;replace hv:Ev (fun k=>A0d.f k cs key) ((i:Nat):Int):=hv;obtain⟨x,hx,_⟩:=TM.seekF_some S151.f0 S151.f1 hsk;have hi:=(C0e.1 hx).1;refine Ev.step (fun k=>?_) (Ev.bind (f:=fun k (t776:Int)=>(if t776 ≥ 0 then (if 0≤t776 then (if t776 < (cs.length:Int) then (some ((A0c cs t776).f1,true)) else (none)) else (none)) else ((A0d.f k ([]:List S151) key).bind fun t778=>(if t778 ≥ 0 then (if 0≤t778 then (if t778 < (([]:List S151).length:Int) then (some ((A0c ([]:List S151) t778).f1,true)) else (none)) else (none)) else (some (0,false)))))) hv (Ev.congr (fun k=>by rw[if_pos Zo,if_pos Zo,if_pos Zo]) (Ev.now _)));simp only [A0t.j0,Bool.false_eq_true,if_false]
theorem A91 (l:List Bool) (i:Nat):rdOf false l (i:Int)=l.getD i false:=by unfold rdOf;rw[C0k]
theorem B2q (xs:List S94) (fr:Int) (free:List Bool) (hf:free.length=xs.length) (hl:xs.length≤1048576) (i:Nat) (hi:i < xs.length) (b:Bool) (hb:Ev (fun k=>A0f.l1 k (xs.length:Int) free ((i+1:Nat):Int) xs fr) b) :
  ∃ c:Bool,Ev (fun k=>A0f.l1 k (xs.length:Int) free (i:Int) xs fr) c∧(c=true ↔ (slR xs[i]∧xs[i].f1 = !(free.getD i false))∧b=true):=by
 have bad:Ev (fun k=>A0f.l1 k (xs.length:Int) free (i:Int) xs fr) false→¬ (slR xs[i]∧xs[i].f1 = !(free.getD i false))→∃ c:Bool,Ev (fun k=>A0f.l1 k (xs.length:Int) free (i:Int) xs fr) c∧(c=true ↔ (slR xs[i]∧xs[i].f1 = !(free.getD i false))∧b=true):=fun h hn=>⟨false,h,fun e=>Bool.noConfusion e,fun e=>absurd e.1 hn⟩
 by_cases h1:0≤xs[i].f0∧xs[i].f0≤41666665
 ·have st:∀ {c:Bool},Ev (fun k=>A0f.j2 k (xs.length:Int) free (i:Int) (xs[i].f1 == free.getD i false) xs fr xs[i].f0 xs[i].f1 xs[i].f2 xs[i].f3 xs[i].f4) c→Ev (fun k=>A0f.l1 k (xs.length:Int) free (i:Int) xs fr) c:=fun h=>by
   refine Ev.step (fun k=>?_) h;simp only [A0f.l1];rw[if_pos Zo,if_pos Zo,if_pos Zo,A41 xs i hi,A3j];simp only [Option.bind_some];rw[if_pos (B99 h1),if_pos Zo,A91]
  cases hm:(xs[i].f1 == free.getD i false) with
  |true =>
   refine bad (st ?_) (fun h=>?_)
   ·rw[hm]
    refine Ev.step (f:=fun _=>some false) (fun k=>?_) (Ev.now _);simp only [A0f.j2,if_true]
   ·have:=beq_iff_eq.1 hm
    rw[this] at h;cases hq:free.getD i false <;> rw[hq] at h <;> simp at h
  |false =>
   have hne:xs[i].f1 = !(free.getD i false):=by
    have:=C0g.1 hm
    cases h2:xs[i].f1 <;> cases h3:free.getD i false <;> simp_all
   rw[hm] at st;rcases Bool.eq_false_or_eq_true xs[i].f1 with hu|hu
   ·rw[hu] at st
    by_cases h2:1≤(xs[i].f2.size:Int)∧(xs[i].f2.size:Int)≤12
    ·by_cases h3:(xs[i].f3.size:Int) > 20
     ·refine bad (st (Ev.step (f:=fun _=>some false) (fun k=>?_) (Ev.now _))) (fun h=>by have:=(h.1.2.2.1 hu).2.2.1;omega)
      simp only [A0f.j2,Bool.false_eq_true,if_false,if_true];rw[A3j];simp only [Option.bind_some];rw[if_pos (B99 h2),if_pos h3]
     ·by_cases h4:xs[i].f4=0
      ·refine⟨b,st (Ev.step (fun k=>?_) hb),?_⟩
       ·simp only [A0f.j2,Bool.false_eq_true,if_false,if_true]
        rw[A3j];simp only [Option.bind_some];rw[if_pos (B99 h2),if_neg h3,if_pos h4,w64 i Zo]
       ·exact⟨fun h=>⟨⟨⟨h1.1,h1.2,fun _=>⟨by omega,by omega,by omega,h4⟩,fun e=>absurd (hu.symm.trans e) Zs⟩,hne⟩,h⟩,fun h=>h.2⟩
      ·refine bad (st (Ev.step (f:=fun _=>some false) (fun k=>?_) (Ev.now _))) (fun h=>h4 (h.1.2.2.1 hu).2.2.2)
       simp only [A0f.j2,Bool.false_eq_true,if_false,if_true];rw[A3j];simp only [Option.bind_some];rw[if_pos (B99 h2),if_neg h3,if_neg h4]
    ·refine bad (st (Ev.step (f:=fun _=>some false) (fun k=>?_) (Ev.now _))) (fun h=>h2 (by have:=h.1.2.2.1 hu;omega))
     simp only [A0f.j2,Bool.false_eq_true,if_false,if_true];rw[A3j];simp only [Option.bind_some];rw[if_neg (show ¬ decide (1≤(xs[i].f2.size:Int)∧(xs[i].f2.size:Int)≤12)=true from fun e=>h2 (C0b e))]
   ·rw[hu] at st
    by_cases h2:xs[i].f2.toList=([]:List UInt8)
    ·by_cases h3:xs[i].f3.toList=([]:List UInt8)
     ·refine⟨b,st (Ev.step (fun k=>?_) hb),?_⟩
      ·simp only [A0f.j2,Bool.false_eq_true,if_false]
       rw[if_pos h2,if_pos h3,w64 i Zo]
      ·exact⟨fun h=>⟨⟨⟨h1.1,h1.2,fun e=>absurd (hu.symm.trans e) Zs,fun _=>⟨(A0u _).1 h2,(A0u _).1 h3⟩⟩,hne⟩,h⟩,fun h=>h.2⟩
     ·refine bad (st (Ev.step (f:=fun _=>some false) (fun k=>?_) (Ev.now _))) (fun h=>h3 ((A0u _).2 (h.1.2.2.2 hu).2))
      simp only [A0f.j2,Bool.false_eq_true,if_false];rw[if_pos h2,if_neg h3]
    ·refine bad (st (Ev.step (f:=fun _=>some false) (fun k=>?_) (Ev.now _))) (fun h=>h2 ((A0u _).2 (h.1.2.2.2 hu).1))
     simp only [A0f.j2,Bool.false_eq_true,if_false];rw[if_neg h2]
 ·refine bad (Ev.step (f:=fun k=>A0f.j2 k (xs.length:Int) free (i:Int) true xs fr xs[i].f0 xs[i].f1 xs[i].f2 xs[i].f3 xs[i].f4) (fun k=>?_) (Ev.step (f:=fun _=>some false) (fun k=>?_) (Ev.now _))) (fun h=>h1 ⟨h.1.1,h.1.2.1⟩)
  ·simp only [A0f.l1]
   rw[if_pos Zo,if_pos Zo,if_pos Zo,A41 xs i hi,A3j];simp only [Option.bind_some];rw[if_neg (show ¬ decide (0≤xs[i].f0∧xs[i].f0≤41666665)=true from fun e=>h1 (C0b e))]
  ·simp only [A0f.j2,if_true]
theorem A7y (xs:List S94) (fr:Int) (free:List Bool) (hf:free.length=xs.length) (hl:xs.length≤1048576) (d:Nat):∀ i,xs.length=i+d →
  ∃ b,Ev (fun k=>A0f.l1 k (xs.length:Int) free (i:Int) xs fr) b∧(b=true ↔ ∀ j x,i≤j→xs[j]? = some x→slR x∧x.f1 = !(free.getD j false)):=by
 induction d with
 |zero =>
  intro i hd;refine⟨true,Ev.step (f:=fun _=>some true) (fun k=>?_) (Ev.now _),?_⟩
  ·simp only [A0f.l1];rw[if_neg Zo]
  ·simp only [true_iff]
   intro j x hj hx;have:=(C0e.1 hx).1;omega
 |succ d ih =>
  intro i hd;have hi:i < xs.length:=by omega
  obtain⟨b,hb,hq⟩:=ih (i+1) Zo;obtain⟨c,hc,hcq⟩:=B2q xs fr free hf hl i hi b hb;refine⟨c,hc,hcq.trans ?_⟩;rw[hq];constructor
  ·rintro ⟨h1,h2⟩ j x hj hx
   by_cases e:i=j
   ·subst e
    rw[C0c hi] at hx;obtain rfl:=C0d hx;exact h1
   ·exact h2 j x Zo hx
  ·exact fun h=>⟨h i _ (Nat.le_refl _) (C0c hi),fun j x hj hx=>h j x Zo hx⟩
def A92 (free:List Bool) (l:List Nat):List Bool:=l.foldl (fun f i=>f.set i true) free
theorem B1t:∀ (l:List Nat) (free:List Bool) (j:Nat),j < free.length→((A92 free l).getD j false=true ↔ free.getD j false=true ∨ j ∈ l)
 |[],free,j,h=>by simp[A92]
 |i :: l,free,j,h=>by
  show(A92 (free.set i true) l).getD j false=true ↔ _;rw[B1t l _ j (by rw[C0i];exact h)]
  by_cases e:i=j
  ·subst e
   simp[List.getD_eq_getElem?_getD,List.getElem?_set_self h]
  ·rw[C0j,List.getElem?_set_ne e,← C0j]
   simp[Ne.symm e]
theorem B9j (xs:List S94) (fr:Int) (hl:xs.length≤1048576) (d:Nat):∀ (free:List Bool) (p:Int),free.length=xs.length→free.count false=d →
  ∃ b,Ev (fun k=>A0f.l0 k (xs.length:Int) free p xs fr) b∧(b=true ↔ ∃ l,AM.Path S94.f1 S94.f4 xs p l∧(∀ i ∈ l,free.getD i false=false)∧l.Nodup∧∀ j x,xs[j]? = some x→slR x∧x.f1 = !((A92 free l).getD j false)):=by
 induction d with
 |zero =>
  intro free p hf hc;have hall:∀ j,j < free.length→free.getD j false=true:=fun j hj=>by
   rw[C0j,C0c hj]
   cases h:free[j] with
   |true=>rfl
   |false=>exact absurd (List.count_eq_zero.1 hc) (fun hn=>hn (by rw[← h];exact List.getElem_mem hj))
  by_cases c:p = -1
  ·subst c
   obtain⟨b,hb,hq⟩:=A7y xs fr free hf hl xs.length 0 Zo;refine⟨b,Ev.step (fun k=>?_) hb,hq.trans ?_⟩
   ·simp only [A0f.l0,if_true];rfl
   ·exact⟨fun h=>⟨[],rfl,by simp,List.nodup_nil,fun j x hx=>h j x (Nat.zero_le _) hx⟩,fun ⟨l,hp,_,_,h⟩ j x _ hx=>by
     cases l with
     |nil=>exact h j x hx
     |cons i l=>have:=hp.1;omega⟩
  ·refine⟨false,Ev.step (f:=fun _=>some false) (fun k=>?_) (Ev.now _),?_⟩
   ·simp only [A0f.l0]
    rw[if_neg c,A3j];simp only [Option.bind_some];have ew:wrap64 ((xs.length:Int) - 1)=(xs.length:Int) - 1:=by unfold wrap64;omega
    rw[ew]
    by_cases c2:0≤p∧p≤(xs.length:Int) - 1
    ·obtain⟨q,rfl⟩:=Int.eq_ofNat_of_zero_le c2.1
     rw[if_pos (B99 c2),if_pos c2.1,if_pos Zo,A91,if_pos (hall q Zo)]
    ·rw[if_neg (show ¬ decide (0≤p∧p≤(xs.length:Int) - 1)=true from fun e=>c2 (C0b e))]
   ·simp only [Bool.false_eq_true,false_iff]
    rintro ⟨l,hp,hfr,_⟩
    cases l with
    |nil=>exact c hp
    |cons i l =>
     obtain⟨_,x,hx,_⟩:=hp;have:=(C0e.1 hx).1;have:=hfr i Zs;rw[hall i Zo] at this;cases this
 |succ d ih =>
  intro free p hf hc
  by_cases c:p = -1
  ·subst c
   obtain⟨b,hb,hq⟩:=A7y xs fr free hf hl xs.length 0 Zo;refine⟨b,Ev.step (fun k=>?_) hb,hq.trans ?_⟩
   ·simp only [A0f.l0,if_true];rfl
   ·exact⟨fun h=>⟨[],rfl,by simp,List.nodup_nil,fun j x hx=>h j x (Nat.zero_le _) hx⟩,fun ⟨l,hp,_,_,h⟩ j x _ hx=>by
     cases l with
     |nil=>exact h j x hx
     |cons i l=>have:=hp.1;omega⟩
  ·have ew:wrap64 ((xs.length:Int) - 1)=(xs.length:Int) - 1:=by unfold wrap64;omega
   have bad:(∀ l,AM.Path S94.f1 S94.f4 xs p l→(∀ i ∈ l,free.getD i false=false)→False)→Ev (fun k=>A0f.l0 k (xs.length:Int) free p xs fr) false→∃ b,Ev (fun k=>A0f.l0 k (xs.length:Int) free p xs fr) b∧(b=true ↔ ∃ l,AM.Path S94.f1 S94.f4 xs p l∧(∀ i ∈ l,free.getD i false=false)∧l.Nodup∧∀ j x,xs[j]? = some x→slR x∧x.f1 = !((A92 free l).getD j false)):=fun hn h=>⟨false,h,by
    simp only [Bool.false_eq_true,false_iff];rintro ⟨l,hp,hfr,_⟩;exact hn l hp hfr⟩
   by_cases c2:0≤p∧p≤(xs.length:Int) - 1
   ·obtain⟨q,rfl⟩:=Int.eq_ofNat_of_zero_le c2.1
    have hq:q < xs.length:=by omega
    have hxq:xs[q]? = some xs[q]:=C0c hq
    cases hm:free.getD q false with
    |true =>
     refine bad (fun l hp hfr=>?_) (Ev.step (f:=fun _=>some false) (fun k=>?_) (Ev.now _))
     ·cases l with
      |nil=>exact c hp
      |cons i l =>
       have h1:=hp.1;have:q=i:=by omega
       subst this;have:=hfr q Zs;rw[hm] at this;cases this
     ·simp only [A0f.l0]
      rw[if_neg c,A3j];simp only [Option.bind_some];rw[ew,if_pos (B99 c2),if_pos c2.1,if_pos Zo,A91,if_pos hm]
    |false =>
     cases hu:xs[q].f1 with
     |true =>
      refine bad (fun l hp _=>?_) (Ev.step (f:=fun _=>some false) (fun k=>?_) (Ev.now _))
      ·cases l with
       |nil=>exact c hp
       |cons i l =>
        obtain⟨h1,x,hx,hux,_⟩:=hp;have:q=i:=by omega
        subst this;rw[hxq] at hx;obtain rfl:=C0d hx;rw[hu] at hux;cases hux
      ·simp only [A0f.l0]
       rw[if_neg c,A3j];simp only [Option.bind_some];rw[ew,if_pos (B99 c2),if_pos c2.1,if_pos Zo,A91,if_neg (by rw[hm];simp),if_pos Zo,A41 xs q hq,if_pos hu]
     |false =>
      have hcnt:(free.set q true).count false=d:=by
       have h1:=List.count_set (l:=free) (i:=q) (a:=true) (b:=false) Zo;have h2:free[q]=false:=by
        rw[C0j,C0c Zo] at hm;exact hm
       rw[h1,h2,hc];simp
      obtain⟨b,hb,hqq⟩:=ih (free.set q true) xs[q].f4 (by rw[C0i];exact hf) hcnt;refine⟨b,Ev.step (fun k=>?_) hb,hqq.trans ?_⟩
      ·simp only [A0f.l0]
       rw[if_neg c,A3j];simp only [Option.bind_some];rw[ew,if_pos (B99 c2),if_pos c2.1,if_pos Zo,A91,if_neg (by rw[hm];simp),if_pos Zo,A41 xs q hq,if_neg (by rw[hu];simp)];rfl
      ·have hset:∀ i,(free.set q true).getD i false=false ↔ free.getD i false=false∧i ≠ q:=fun i=>by
        by_cases e:q=i
        ·subst e
         simp[List.getD_eq_getElem?_getD,List.getElem?_set_self (show q < free.length by omega)]
        ·rw[C0j,List.getElem?_set_ne e,← C0j]
         exact⟨fun h=>⟨h,fun e'=>e e'.symm⟩,fun h=>h.1⟩
       constructor
       ·rintro ⟨l,hp,hfr,hnd,hall⟩
        refine⟨q :: l,⟨rfl,_,hxq,hu,hp⟩,?_,List.nodup_cons.2 ⟨fun hi=>((hset q).1 (hfr q hi)).2 rfl,hnd⟩,hall⟩;intro i hi
        rcases List.mem_cons.1 hi with rfl|hi
        ·exact hm
        ·exact((hset i).1 (hfr i hi)).1
       ·rintro ⟨l,hp,hfr,hnd,hall⟩
        cases l with
        |nil=>exact absurd hp c
        |cons i l =>
         obtain⟨h1,x,hx,hux,hp'⟩:=hp;have:q=i:=by omega
         subst this;rw[hxq] at hx;obtain rfl:=C0d hx;obtain⟨hn1,hn2⟩:=List.nodup_cons.1 hnd;exact⟨l,hp',fun i hi=>(hset i).2 ⟨hfr i (List.mem_cons_of_mem _ hi),fun e=>hn1 (e ▸ hi)⟩,hn2,hall⟩
   ·refine bad (fun l hp _=>?_) (Ev.step (f:=fun _=>some false) (fun k=>?_) (Ev.now _))
    ·cases l with
     |nil=>exact c hp
     |cons i l =>
      obtain⟨h1,x,hx,_⟩:=hp;have:=(C0e.1 hx).1;omega
    ·simp only [A0f.l0]
     rw[if_neg c,A3j];simp only [Option.bind_some];rw[ew,if_neg (show ¬ decide (0≤p∧p≤(xs.length:Int) - 1)=true from fun e=>c2 (C0b e))]
theorem A6q (xs:List S94) (fr:Int) (hl:xs.length≤1048576):∃ b,Ev (fun k=>A0f.f k xs fr) b∧(b=true ↔ arR xs fr):=by
 unfold A0f.f;rw[A3j];simp only [Option.bind_some]
 by_cases h:1≤(xs.length:Int)∧(xs.length:Int)≤24
 ·simp only [if_pos (decide_eq_true h),if_pos (show 0≤(xs.length:Int) by omega),Int.toNat_natCast,if_pos (show xs.length≤281474976710656 by omega)]
  obtain⟨b,hb,hq⟩:=B9j xs fr hl _ (List.replicate xs.length false) fr Zs rfl;refine⟨b,hb,hq.trans ?_⟩;have hrep:∀ i,(List.replicate xs.length false).getD i false=false:=fun i=>by
   rw[C0j]
   by_cases hi:i < xs.length
   ·rw[List.getElem?_replicate,if_pos hi];rfl
   ·rw[List.getElem?_eq_none (by simp;omega)];rfl
  have hmk:∀ (l:List Nat) j,j < xs.length→((A92 (List.replicate xs.length false) l).getD j false=true ↔ j ∈ l):=fun l j hj=>by
   rw[B1t l _ j (by simpa using hj),hrep];simp
  constructor
  ·rintro ⟨l,hp,_,_,hall⟩
   refine⟨by omega,fun x hx=>?_,l,hp,fun i x hx hu=>?_⟩
   ·obtain⟨j,hj,rfl⟩:=List.getElem_of_mem hx
    exact(hall j _ (C0c hj)).1
   ·have h1:=(hall i x hx).2
    refine(hmk l i (C0e.1 hx).1).1 ?_;rw[show x.f1=false from hu] at h1;cases hg:(A92 (List.replicate xs.length false) l).getD i false with
    |true=>rfl
    |false=>rw[hg] at h1;cases h1
  ·rintro ⟨_,hsl,l,hp,hall⟩
   refine⟨l,hp,fun i _=>hrep i,hp.nodup S94.f1 S94.f4,fun j x hx=>⟨hsl x (C0h hx),?_⟩⟩;have hj:=(C0e.1 hx).1
   cases hu:x.f1 with
   |false=>rw[(hmk l j hj).2 (hall j x hx hu)];rfl
   |true =>
    cases hg:(A92 (List.replicate xs.length false) l).getD j false with
    |false=>rfl
    |true =>
     obtain⟨z,hz,hzu⟩:=hp.mem S94.f1 S94.f4 j ((hmk l j hj).1 hg);rw[hx] at hz;obtain rfl:=C0d hz;rw[hu] at hzu;cases hzu
 ·simp only [if_neg (show ¬ decide (1≤(xs.length:Int)∧(xs.length:Int)≤24)=true from fun e=>h (of_decide_eq_true e))]
  exact⟨false,Ev.now _,by simp only [Bool.false_eq_true,false_iff];intro hr;have:=hr.len;omega⟩
theorem B6b {xs:List S94} {fr:Int} (hr:arR xs fr):Ev (fun k=>A0f.f k xs fr) true:=by
 have hl:=hr.len;obtain⟨b,hb,hq⟩:=A6q xs fr Zo;obtain rfl:=hq.2 hr;exact hb
theorem B7j (xs:List S94) (fr h:Int) (hr:arR xs fr) (hh:h≤9223372036854775807):Ev (fun k=>A06.f k xs fr h) (plV (A4r xs h)):=by
 have hl:=hr.len;obtain⟨b,hb,hq⟩:=A6q xs fr Zo;obtain rfl:=hq.2 hr;unfold A06.f;refine Ev.bind hb ?_;simp only [if_true];unfold A4r;have neg:∀ (P:Prop) [Decidable P],¬ P→Ev (fun k=>A06.j0 k h true xs fr) (plV (if P then some (h % 24).toNat else none)):=fun P _ hp=>by
  rw[if_neg hp];refine Ev.step (f:=fun _=>some (-1)) (fun k=>?_) (Ev.now _);simp only [A06.j0,if_true]
 by_cases c0:h < 0
 ·simp only [if_pos c0]
  exact neg _ Zo
 simp only [if_neg c0];rw[B0s h Zo]
 by_cases c1:h % 24 ≥ (xs.length:Int)
 ·rw[B99 c1]
  exact neg _ Zo
 rw[C0a c1];have hd:wrap64 (Int.tdiv h 24)=h / 24:=by rw[Int.tdiv_eq_ediv_of_nonneg Zo];unfold wrap64;omega
 by_cases c2:(A0p xs (h % 24)).f1=true
 ·by_cases c3:24 * (A0p xs (h % 24)).f0+h % 24=h
  ·rw[if_pos ⟨by omega,by omega,c2,c3⟩]
   refine Ev.step (f:=fun _=>some (h % 24)) (fun k=>?_) ?_
   ·simp only [A06.j0,Bool.false_eq_true,if_false]
    rw[B0s h Zo,if_pos Zo,if_pos Zo,if_pos c2,hd,if_pos Zo]
   ·rw[show plV (some (h % 24).toNat)=h % 24 by show(((h % 24).toNat:Nat):Int)=h % 24;omega];exact Ev.now _
  ·rw[if_neg (fun hh=>c3 hh.2.2.2)]
   refine Ev.step (f:=fun _=>some (-1)) (fun k=>?_) (Ev.now _);simp only [A06.j0,Bool.false_eq_true,if_false];rw[B0s h Zo,if_pos Zo,if_pos Zo,if_pos c2,hd,if_neg Zo]
 ·rw[if_neg (fun hh=>c2 hh.2.2.1)]
  refine Ev.step (f:=fun _=>some (-1)) (fun k=>?_) (Ev.now _);simp only [A06.j0,Bool.false_eq_true,if_false];rw[B0s h Zo,if_pos Zo,if_pos Zo,if_neg c2]
theorem B2r {xs:List S94} {fr:Int} (hr:arR xs fr) (hl:xs.length≤1048576) (d:Nat):∀ (i n:Nat),xs.length=i+d→n≤i →
  Ev (fun k=>A05.l0 k (n:Int) (i:Int) xs fr) ((n+(xs.drop i).countP S94.f1:Nat):Int):=by
 have ok:=B6b hr
 induction d with
 |zero =>
  intro i n hd hn;rw[List.drop_eq_nil_of_le Zo];refine Ev.step (f:=fun k=>A05.j1 k (n:Int) (i:Int) false xs fr) (fun k=>?_) (Ev.step (f:=fun _=>some ((n:Nat):Int)) (fun k=>?_) (Ev.now _))
  ·simp only [A05.l0];rw[if_neg Zo]
  ·simp only [A05.j1,Bool.false_eq_true,if_false]
 |succ d ih =>
  intro i n hd hn;have hi:i < xs.length:=by omega
  rw[List.drop_eq_getElem_cons hi,List.countP_cons];refine Ev.step (f:=fun k=>(A0f.f k xs fr).bind fun t772=>(A05.j1 k (n:Int) (i:Int) t772 xs fr)) (fun k=>by simp only [A05.l0];rw[if_pos Zo]) (Ev.bind (f:=fun k (t:Bool)=>A05.j1 k (n:Int) (i:Int) t xs fr) ok ?_)
  cases hu:xs[i].f1 with
  |true =>
   have:=ih (i+1) (n+1) Zo Zo;rw[if_pos rfl,show n+(List.countP S94.f1 (List.drop (i+1) xs)+1)=n+1+List.countP S94.f1 (List.drop (i+1) xs) by omega];refine Ev.step (fun k=>?_) this;simp only [A05.j1,if_true];rw[if_pos Zo,if_pos Zo,A41 xs i hi,if_pos hu,w64 i Zo,w64 n Zo]
  |false =>
   rw[if_neg Zs,Nat.add_zero];refine Ev.step (fun k=>?_) (ih (i+1) n Zo Zo);simp only [A05.j1,if_true];rw[if_pos Zo,if_pos Zo,A41 xs i hi,if_neg (by rw[hu];simp),w64 i Zo]
theorem B6c {xs:List S94} {fr:Int} (hr:arR xs fr):Ev (fun k=>A05.f k xs fr) ((xs.countP S94.f1:Nat):Int):=by
 have hl:=hr.len;have:=B2r hr Zo xs.length 0 0 Zo Zo;rw[List.drop_zero,Nat.zero_add] at this;exact this
theorem B6d {xs:List S94} {fr h:Int} (hr:arR xs fr) (hh:h≤9223372036854775807):Ev (fun k=>A4h.f k xs fr h) (match A4r xs h with|some i=>((A0p xs (i:Int)).f2,(A0p xs (i:Int)).f3,true)|none=>((⟨#[]⟩:ByteArray),(⟨#[]⟩:ByteArray),false)):=by
 have hv:=B7j xs fr h hr hh;unfold A4h.f
 cases hp:A4r xs h with
 |none =>
  rw[hp] at hv;replace hv:Ev (fun k=>A06.f k xs fr h) (-1):=hv;exact Ev.bind (f:=fun _ (t785:Int)=>(if t785 < 0 then (some ((⟨#[]⟩:ByteArray),(⟨#[]⟩:ByteArray),false)) else (if 0≤t785 then (if t785 < (xs.length:Int) then (some ((A0p xs t785).f2,(A0p xs t785).f3,true)) else (none)) else (none)))) hv (Ev.congr (fun k=>if_pos Zo) (Ev.now _))
 |some i =>
  rw[hp] at hv;replace hv:Ev (fun k=>A06.f k xs fr h) ((i:Nat):Int):=hv;obtain⟨x,hx,_⟩:=(A2h hr).1 hp;have hi:=(C0e.1 hx).1;exact Ev.bind (f:=fun _ (t785:Int)=>(if t785 < 0 then (some ((⟨#[]⟩:ByteArray),(⟨#[]⟩:ByteArray),false)) else (if 0≤t785 then (if t785 < (xs.length:Int) then (some ((A0p xs t785).f2,(A0p xs t785).f3,true)) else (none)) else (none)))) hv (Ev.congr (fun k=>by rw[if_neg Zo,if_pos Zo,if_pos Zo]) (Ev.now _))
theorem B6e (s:Nat) (h0:1≤s) (h:s≤1048576):A28.f (s:Int)=some ((winN s:Int),(triN s:Int),(safN s:Int)):=by
 unfold A28.f;have e1:wrap64 (Int.tdiv (s:Int) 4)=((s / 4:Nat):Int):=by rw[Int.tdiv_eq_ediv_of_nonneg Zo];unfold wrap64;omega
 rw[e1]
 by_cases c:s / 4 < 1
 ·rw[if_pos Zo]
  have e2:wrap64 ((s:Int) - 1)=((s - 1:Nat):Int):=by unfold wrap64;omega
  have e3:wrap64 (Int.tdiv ((s - 1:Nat):Int) 2)=(((s - 1) / 2:Nat):Int):=by rw[Int.tdiv_eq_ediv_of_nonneg Zo];unfold wrap64;omega
  rw[e2,e3];have hw:winN s=1:=if_pos c;have hsf:safN s=(s - 1) / 2:=by unfold safN;rw[hw]
  have ht:triN s=s - 1 - (s - 1) / 2:=by unfold triN;rw[hw,hsf]
  rw[hw,hsf,ht]
  congr 3
  unfold wrap64;omega
 ·rw[if_neg Zo]
  have hw:winN s=s / 4:=if_neg c;have e2:wrap64 ((s:Int) - ((s / 4:Nat):Int))=((s - s / 4:Nat):Int):=by unfold wrap64;omega
  have e3:wrap64 (Int.tdiv ((s - s / 4:Nat):Int) 2)=(((s - s / 4) / 2:Nat):Int):=by rw[Int.tdiv_eq_ediv_of_nonneg Zo];unfold wrap64;omega
  rw[e2,e3];have hsf:safN s=(s - s / 4) / 2:=by unfold safN;rw[hw]
  have ht:triN s=s - s / 4 - (s - s / 4) / 2:=by unfold triN;rw[hw,hsf]
  rw[hw,hsf,ht]
  congr 3
  unfold wrap64;omega
theorem B6f (s:Nat) (h:s≤1048576):∃ a b c,A28.f (s:Int)=some (a,b,c)∧(1≤s→a=(winN s:Int)∧b=(triN s:Int)∧c=(safN s:Int)):=by
 by_cases h0:1≤s
 ·exact⟨_,_,_,B6e s h0 h,fun _=>⟨rfl,rfl,rfl⟩⟩
 ·have:s=0:=by omega
  subst this;exact⟨1,-1,0,by decide +kernel,fun e=>absurd e h0⟩
theorem B39:∀ m:Fin 23,A1x.f 20 ((m.1+2:Nat):Int)=some ((A4x (m.1+2):Nat):Int):=by decide +kernel
theorem B4a (s:Nat) (h1:2≤s) (h2:s≤24):A1x.f 20 (s:Int)=some ((A4x s:Nat):Int):=by
 have:=B39 ⟨s - 2,by omega⟩
 simpa only [show s - 2+2=s by omega] using this
theorem B4b (m:Int) (l:List ByteArray) (hl:l.length≤1048576) (i:Nat) (hi:i < l.length) (b:Bool) (hb:Ev (fun k=>A0i.l0 k ((i+1:Nat):Int) m l) b) (d:Nat):∀ (c:Nat),i=c+d→l[i] ∉ l.take c →
  ∃ r:Bool,Ev (fun k=>A0i.l1 k (i:Int) (c:Int) m l) r∧(r=true ↔ (l[i] ∉ l.take i∧b=true)):=by
 induction d with
 |zero =>
  intro c hd hn;obtain rfl:i=c:=by omega
  refine⟨b,Ev.step (fun k=>?_) hb,by simp[hn]⟩;simp only [A0i.l1];rw[if_neg Zo,w64 i Zo]
 |succ d ih =>
  intro c hd hn;have hc:c < l.length:=by omega
  by_cases e:l[c]=l[i]
  ·refine⟨false,Ev.step (f:=fun _=>some false) (fun k=>?_) (Ev.now _),?_⟩
   ·simp only [A0i.l1,A2g l i hi,A2g l c hc]
    rw[if_pos Zo,if_pos Zo,if_pos Zo,if_pos Zo,if_pos Zo,if_pos (A3q.2 e)]
   ·simp only [Bool.false_eq_true,false_iff]
    rintro ⟨h,_⟩;exact h (List.mem_take_iff_getElem.2 ⟨c,by omega,e⟩)
  ·obtain⟨r,hr,hq⟩:=ih (c+1) Zo (by
    rw[A94 l c hc];intro h
    rcases List.mem_append.1 h with h|h
    ·exact hn h
    ·exact e (List.mem_singleton.1 h).symm)
   refine⟨r,Ev.step (fun k=>?_) hr,hq⟩;simp only [A0i.l1,A2g l i hi,A2g l c hc];rw[if_pos Zo,if_pos Zo,if_pos Zo,if_pos Zo,if_pos Zo,if_neg (fun h=>e (A3q.1 h)),w64 c Zo]
theorem B6g (m:Int) (l:List ByteArray) (hl:l.length≤1048576) (d:Nat):∀ (i:Nat),l.length=i+d →
  ∃ b:Bool,Ev (fun k=>A0i.l0 k (i:Int) m l) b∧(b=true ↔ A7f l i):=by
 induction d with
 |zero =>
  intro i hd;refine⟨true,Ev.step (f:=fun _=>some true) (fun k=>?_) (Ev.now _),by simp[A8u (show l.length≤i by omega)]⟩;simp only [A0i.l0];rw[if_neg Zo]
 |succ d ih =>
  intro i hd;have hi:i < l.length:=by omega
  obtain⟨b,hb,hq⟩:=ih (i+1) Zo
  by_cases c:isK l[i]
  ·have ck:decide (1≤((l[i].size:Nat):Int)∧((l[i].size:Nat):Int)≤12)=true:=B99 (by unfold isK at c;omega)
   obtain⟨r,hr,hrq⟩:=B4b m l hl i hi b hb i 0 Zo Zs;refine⟨r,Ev.step (fun k=>?_) hr,?_⟩
   ·simp only [A0i.l0,A2g l i hi,A3j,ck,Option.bind_some]
    rw[if_pos Zo,if_pos Zo];simp only [if_true];rfl
   ·rw[hrq,hq,A4m hi]
    simp only [c,true_and]
  ·have ck:decide (1≤((l[i].size:Nat):Int)∧((l[i].size:Nat):Int)≤12)=false:=C0a (by unfold isK at c;omega)
   refine⟨false,Ev.step (f:=fun _=>some false) (fun k=>?_) (Ev.now _),?_⟩
   ·simp only [A0i.l0,A2g l i hi,A3j,ck,Option.bind_some]
    rw[if_pos Zo,if_pos Zo];simp
   ·simp only [Bool.false_eq_true,false_iff]
    intro h;exact c ((A4m hi).1 h).1.1
theorem A7z (m:Int) (l:List ByteArray) (hl:l.length≤1048576):∃ b:Bool,Ev (fun k=>A0i.f k m l) b∧(b=true ↔ okQ m l):=by
 unfold okQ;have no:(¬ (0≤m∧m≤24∧(l.length:Int)≤m))→Ev (fun k=>A0i.j0 k true m l) false:=by
  intro _;refine Ev.step (f:=fun _=>some false) (fun k=>?_) (Ev.now _);simp only [A0i.j0,if_true]
 by_cases c:0≤m∧m≤24
 ·by_cases c2:(l.length:Int)≤m
  ·obtain⟨b,hb,hq⟩:=B6g m l hl l.length 0 Zo
   refine⟨b,Ev.congr (f:=fun k=>A0i.j0 k false m l) (fun k=>?_) (Ev.step (fun k=>?_) hb),by rw[hq];simp[c,c2]⟩
   ·unfold A0i.f
    simp only [A3j,decide_eq_true c,Option.bind_some,if_true,decide_eq_false (show ¬ (l.length:Int) > m by omega)]
   ·simp only [A0i.j0,if_neg (show ¬ (false=true) by decide)]
    rfl
  ·refine⟨false,Ev.congr (fun k=>?_) (no Zo),by simp;omega⟩
   unfold A0i.f;simp only [A3j,decide_eq_true c,Option.bind_some,if_true,decide_eq_true (show(l.length:Int) > m by omega)]
 ·refine⟨false,Ev.congr (fun k=>?_) (no Zo),by simp;omega⟩
  unfold A0i.f;simp only [A3j,decide_eq_false c,Option.bind_some,if_neg (show ¬ (false=true) by decide)]
theorem B06 (x a b:Int):A0l.f x a b=some (decide (a≤x∧x≤b)):=by
 unfold A0l.f
 by_cases c:x ≥ a
 ·rw[if_pos c];congr 1;simp;omega
 ·rw[if_neg c];congr 1;simp;omega
theorem B6h (l:List Int) (n:Int) (hl:l.length≤1048576) (d:Nat):∀ (i:Nat),l.length=i+d→Ev (fun k=>A0v.l0 k (i:Int) l n) ((l.drop i).all inD):=by
 induction d with
 |zero =>
  intro i hd;refine Ev.step (f:=fun _=>some _) (fun k=>?_) (Ev.now _);simp only [A0v.l0];rw[if_neg Zo,List.drop_of_length_le Zo];rfl
 |succ d ih =>
  intro i hd;have hi:i < l.length:=by omega
  rw[B1y hi]
  by_cases c:inD l[i]=true
  ·refine Ev.step (f:=fun k=>A0v.l0 k ((i+1:Nat):Int) l n) (fun k=>?_) (by rw[c,Bool.true_and];exact ih (i+1) Zo)
   simp only [A0v.l0,B06,Option.bind_some];rw[if_pos Zo,if_pos Zo,B2t l i hi,show decide (0≤l[i]∧l[i]≤15)=true from c,if_pos rfl,w64 i Zo]
  ·have c':inD l[i]=false:=by simpa using c
   refine Ev.step (f:=fun _=>some false) (fun k=>?_) (by rw[c'];simp;exact Ev.now _);simp only [A0v.l0,B06,Option.bind_some];rw[if_pos Zo,if_pos Zo,B2t l i hi,show decide (0≤l[i]∧l[i]≤15)=false from c',if_neg Zs]
theorem B4c (l:List Int) (n:Int) (hl:l.length≤1048576):Ev (fun k=>A0v.f k l n) (skOk l n):=by
 unfold A0v.f skOk
 by_cases c:l.length=48
 ·simp only [if_pos (show(l.length:Int)=48 by omega),B06,Option.bind_some,decide_eq_true c,Bool.true_and]
  by_cases c2:0≤n∧n≤99
  ·simp only [decide_eq_true c2,Bool.and_true]
   refine Ev.step (f:=fun k=>A0v.l0 k ((0:Nat):Int) l n) (fun k=>?_) (B6h l n hl l.length 0 Zo);simp only [A0v.j0];rw[if_neg Zs];rfl
  ·simp only [decide_eq_false c2,Bool.and_false]
   refine Ev.step (f:=fun k=>some false) (fun k=>?_) (Ev.now _);simp only [A0v.j0];rw[if_pos Zs]
 ·simp only [if_neg (show ¬ (l.length:Int)=48 by omega),decide_eq_false c,Bool.false_and]
  refine Ev.step (f:=fun k=>some false) (fun k=>?_) (Ev.now _);simp only [A0v.j0];simp
theorem B8o (D:Int):A2k.f D=some (decide (0≤D∧D < 4294967296)):=by
 unfold A2k.f;rw[A6o,Option.bind_some]
 congr 1
 simp only [decide_eq_decide];omega
end Go.Proofs.YtediiolcoilepaaGreat.Nb
