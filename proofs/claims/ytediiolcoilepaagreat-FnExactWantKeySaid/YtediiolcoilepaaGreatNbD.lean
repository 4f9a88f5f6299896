/- Walks of callees. -/
import Derived.Test.YtediiolcoilepaaGreatNbC
import Derived.Test.YtediiolcoilepaaGreatGNear9
import Derived.Test.YtediiolcoilepaaGreatGNear10
import Derived.Test.YtediiolcoilepaaGreatGNear11
import Derived.Test.YtediiolcoilepaaGreatGNear12
import Derived.BigRegion
namespace Go.Proofs.YtediiolcoilepaaGreat.Nb
set_option maxHeartbeats 8000000
set_option maxRecDepth 100000
open Go.RowKit Go.Proofs.YtediiolcoilepaaGreat.GNear Go.Proofs.YtediiolcoilepaaGreatW.PrintWords Go.Proofs.YtediiolcoilepaaGreatW.PrintLast Go.Proofs.YtediiolcoilepaaGreatW.PrintMore
set_option linter.unusedVariables false
set_option linter.unusedSimpArgs false
theorem xor_odd (c d:Nat):(c ^^^ d) % 2=if c % 2=d % 2 then 0 else 1:=by
 have h:=@Nat.xor_mod_two_eq_one c d
 by_cases e:c % 2=d % 2
 ·rw[if_pos e];omega
 ·rw[if_neg e];omega
theorem xor_loop (a b:Nat) (ha:a < 4294967296) (hb:b < 4294967296) (d:Nat):∀ (i:Nat),i+d=32 →
  Ev (fun k=>spec_l04Xor.l0 k ((a / 2 ^ i:Nat):Int) ((b / 2 ^ i:Nat):Int) (((a ^^^ b) % 2 ^ i:Nat):Int) ((2 ^ i:Nat):Int) (i:Int)) ((a ^^^ b:Nat):Int):=by
 have hx:=Nat.xor_lt_two_pow (n:=32) ha hb
 induction d with
 |zero =>
  intro i hd;obtain rfl:i=32:=by omega
  refine Ev.step (f:=fun _=>some ((a ^^^ b:Nat):Int)) (fun k=>?_) (Ev.now _);simp only [spec_l04Xor.l0];rw[if_neg (by omega),Nat.mod_eq_of_lt hx]
 |succ d ih =>
  intro i hd;have hp:2 ^ i≤2147483648:=by
   have:=Nat.pow_le_pow_right (n:=2) (by omega) (show i≤31 by omega)
   simpa using this
  have hp0:0 < 2 ^ i:=Nat.two_pow_pos i;have ea:wrap64 (Int.tdiv ((a / 2 ^ i:Nat):Int) 2)=((a / 2 ^ (i+1):Nat):Int):=by
   rw[Int.tdiv_eq_ediv_of_nonneg (Int.natCast_nonneg _),Nat.pow_succ,← Nat.div_div_eq_div_mul];have:a / 2 ^ i≤a:=Nat.div_le_self _ _;generalize a / 2 ^ i=q at *;unfold wrap64;omega
  have eb:wrap64 (Int.tdiv ((b / 2 ^ i:Nat):Int) 2)=((b / 2 ^ (i+1):Nat):Int):=by
   rw[Int.tdiv_eq_ediv_of_nonneg (Int.natCast_nonneg _),Nat.pow_succ,← Nat.div_div_eq_div_mul];have:b / 2 ^ i≤b:=Nat.div_le_self _ _;generalize b / 2 ^ i=q at *;unfold wrap64;omega
  have ep:wrap64 (2 * ((2 ^ i:Nat):Int))=((2 ^ (i+1):Nat):Int):=by
   rw[Nat.pow_succ];generalize 2 ^ i=q at *;unfold wrap64;omega
  have hs:(a ^^^ b) % 2 ^ (i+1)=(a ^^^ b) % 2 ^ i+2 ^ i * ((a / 2 ^ i ^^^ b / 2 ^ i) % 2):=by
   rw[Nat.mod_pow_succ,Nat.xor_div_two_pow]
  have hl:(a ^^^ b) % 2 ^ i < 2 ^ i:=Nat.mod_lt _ hp0;refine Ev.step (fun k=>?_) (ih (i+1) (by omega));simp only [spec_l04Xor.l0];rw[if_pos (by omega),ea,eb,ep,w64 i (by omega),Int.tmod_eq_emod_of_nonneg (Int.natCast_nonneg _),Int.tmod_eq_emod_of_nonneg (Int.natCast_nonneg _)];rw[xor_odd] at hs;by_cases c:a / 2 ^ i % 2=b / 2 ^ i % 2
  ·rw[if_pos (by omega)]
   rw[if_pos c,Nat.mul_zero] at hs;have hs2:(a ^^^ b) % 2 ^ (i+1)=(a ^^^ b) % 2 ^ i:=hs.trans (Nat.add_zero _);rw[hs2]
  ·rw[if_neg (by omega)]
   rw[if_neg c,Nat.mul_one] at hs;have ew:wrap64 ((((a ^^^ b) % 2 ^ i:Nat):Int)+((2 ^ i:Nat):Int))=(((a ^^^ b) % 2 ^ (i+1):Nat):Int):=by
    rw[hs];generalize (a ^^^ b) % 2 ^ i=q at *;generalize 2 ^ i=p at *;unfold wrap64;omega
   rw[ew]
theorem xor_ev (a b:Nat) (ha:a < 4294967296) (hb:b < 4294967296):Ev (fun k=>spec_l04Xor.f k (a:Int) (b:Int)) ((a ^^^ b:Nat):Int):=by
 have h:=xor_loop a b ha hb 32 0 rfl;refine Ev.congr (fun k=>?_) h;unfold spec_l04Xor.f;simp[Nat.mod_one]
theorem hash_loop (s:ByteArray) (hs:s.size≤4611686018427387904) (d:Nat):∀ (i h:Nat),h < 4294967296→s.size=i+d →
  Ev (fun k=>spec_HashOf.l0 k s (h:Int) (i:Int)) ((hlast ((tailOf s i).foldl hstep h):Nat):Int)∧Ev (fun k=>impl_HashOf.l0 k s (h:Int) (i:Int)) ((hlast ((tailOf s i).foldl hstep h):Nat):Int):=by
 induction d with
 |zero =>
  intro i h hh hd;have e:tailOf s i = []:=by unfold tailOf;exact List.drop_eq_nil_of_le (by simp;omega)
  have ed:wrap64 (Int.tdiv (h:Int) 65536)=((h / 65536:Nat):Int):=by
   rw[Int.tdiv_eq_ediv_of_nonneg (by omega)];unfold wrap64;omega
  have hl:=hlast_lt h hh;have hx:=xor_ev h (h / 65536) hh (by omega);rw[e];refine⟨Ev.step (f:=fun k=>(spec_l04Xor.f k (h:Int) ((h / 65536:Nat):Int)).bind fun t104=>(some t104)) (fun k=>?_) (Ev.bind hx (Ev.now _)),Ev.step (f:=fun _=>some ((hlast h:Nat):Int)) (fun k=>?_) (Ev.now _)⟩
  ·simp only [spec_HashOf.l0]
   rw[if_neg (by omega),ed]
  ·simp only [impl_HashOf.l0]
   rw[if_neg (by omega),show(h:Int) / 65536=((h / 65536:Nat):Int) by omega,xor_u32 h (h / 65536) hh (by omega)];show some (wrap64 ((hlast h:Nat):Int))=_
   congr 1
   unfold wrap64;omega
 |succ d ih =>
  intro i h hh hd;obtain⟨b,e,eb⟩:=tailOf_next s i (by omega);have hb:b.toNat < 256:=b.toNat_lt;have hx:=xor_ev h b.toNat hh (by omega);have hxl:=Nat.xor_lt_two_pow (n:=32) hh (show b.toNat < 2 ^ 32 by omega);obtain⟨h1,h2⟩:=ih (i+1) (hstep h b) (hstep_lt h b) (by omega);rw[e,List.foldl_cons];have es:Int.tmod (wrap64 (((h ^^^ b.toNat:Nat):Int) * 16777619)) 4294967296=((hstep h b:Nat):Int):=by
   unfold hstep;have:wrap64 (((h ^^^ b.toNat:Nat):Int) * 16777619)=((h ^^^ b.toNat:Nat):Int) * 16777619:=by unfold wrap64;omega
   rw[this,Int.tmod_eq_emod_of_nonneg (by omega)];omega
  have ei:(((h ^^^ b.toNat:Nat):Int) * 16777619) % 4294967296=((hstep h b:Nat):Int):=by
   unfold hstep;omega
  refine⟨Ev.step (f:=fun k=>(spec_l04Xor.f k (h:Int) (b.toNat:Int)).bind fun t103=>(spec_HashOf.l0 k s (Int.tmod (wrap64 (t103 * 16777619)) 4294967296) (wrap64 ((i:Int)+1)))) (fun k=>?_) (Ev.bind hx ?_),Ev.step (fun k=>?_) h2⟩
  ·simp only [spec_HashOf.l0]
   rw[if_pos (by omega),if_pos (by omega),eb,show wrap64 ((b.toNat:Nat):Int)=(b.toNat:Int) by unfold wrap64;omega]
  ·simp only [es,w64 i (by omega)]
   exact h1
  ·simp only [impl_HashOf.l0]
   rw[if_pos (by omega),if_pos (by omega),eb,show((b.toNat:Nat):Int) % 4294967296=(b.toNat:Int) by omega,xor_u32 h b.toNat hh (by omega),ei,w64 i (by omega)]
theorem hash_ev (s:ByteArray) (hs:s.size≤4611686018427387904) (seed:Nat) (h:seed≤1000000000) :
  Ev (fun k=>spec_HashOf.f k s (seed:Int)) ((hashN s seed:Nat):Int)∧Ev (fun k=>impl_HashOf.f k s (seed:Int)) ((hashN s seed:Nat):Int):=by
 obtain⟨h1,h2⟩:=hash_loop s hs s.size 0 (2166136261+seed) (by omega) (by omega);constructor
 ·refine Ev.congr (f:=fun k=>spec_HashOf.j0 k s (seed:Int)) (fun k=>?_) (Ev.step (f:=fun k=>spec_HashOf.j1 k s (seed:Int)) (fun k=>?_) (Ev.step (fun k=>?_) h1))
  ·unfold spec_HashOf.f
   rw[if_neg (by omega)]
  ·simp only [spec_HashOf.j0]
   rw[if_neg (by omega)]
  ·simp only [spec_HashOf.j1]
   have:Int.tmod (wrap64 (2166136261+(seed:Int))) 4294967296=((2166136261+seed:Nat):Int):=by
    have:wrap64 (2166136261+(seed:Int))=2166136261+(seed:Int):=by unfold wrap64;omega
    rw[this,Int.tmod_eq_emod_of_nonneg (by omega)];omega
   rw[this];rfl
 ·refine Ev.congr (fun k=>?_) h2
  unfold impl_HashOf.f;have:mx 0 (mn (seed:Int) 1000000000)=(seed:Int):=by unfold mx mn;split <;> split <;> omega
  rw[this];rfl
def seekM (cs:List S151) (key:ByteArray):Nat→Nat→Option Nat
 |0,_=>none
 |d+1,p=>match cs[p]? with
  |none=>none
  |some x=>if x.f0=key∧0≤x.f1 then some p else if TM.isNone S151.f0 S151.f1 x then none else seekM cs key d ((p+1) % cs.length)
theorem seekM_eq {cs:List S151} {key:ByteArray} (h:∀ x ∈ cs,x.f0=key→0≤x.f1):∀ d p,seekM cs key d p=TM.seekF S151.f0 S151.f1 cs key d p
 |0,_=>rfl
 |d+1,p=>by
  simp only [seekM,TM.seekF]
  cases hx:cs[p]? with
  |none=>rfl
  |some x =>
   have hm:=List.mem_of_getElem? hx
   by_cases c:x.f0=key
   ·simp only [if_pos c,if_pos (And.intro c (h x hm c))]
   ·simp only [if_neg c,if_neg (fun e:x.f0=key∧0≤x.f1=>c e.1),seekM_eq h d]
theorem seekS_loop (cs:List S151) (key:ByteArray) (hl:cs.length≤1048576) (at_:Nat) (ha:at_ < cs.length) (d:Nat):∀ (i:Nat),i+d=cs.length →
  Ev (fun k=>spec_l04Seek.l0 k cs key (cs.length:Int) (at_:Int) (i:Int)) (seekV (seekM cs key d ((at_+i) % cs.length))):=by
 induction d with
 |zero =>
  intro i hd;refine Ev.step (f:=fun _=>some (-1)) (fun k=>?_) (Ev.now _);simp only [spec_l04Seek.l0];rw[if_neg (by omega)]
 |succ d ih =>
  intro i hd;obtain⟨p,hpd⟩:∃ p,p=(at_+i) % cs.length:=⟨_,rfl⟩;have hp:p < cs.length:=hpd ▸ Nat.mod_lt _ (by omega);have hw:Int.tmod (wrap64 ((at_:Int)+(i:Int))) (cs.length:Int)=(p:Int):=by
   rw[show wrap64 ((at_:Int)+(i:Int))=((at_+i:Nat):Int) by unfold wrap64;omega,Int.tmod_eq_emod_of_nonneg (by omega),hpd];rfl
  have hnext:=ih (i+1) (by omega);rw[show(at_+(i+1)) % cs.length=(p+1) % cs.length by rw[hpd,Nat.mod_add_mod,Nat.add_assoc]] at hnext;rw[← hpd];simp only [seekM,List.getElem?_eq_getElem hp];have rest:¬ (cs[p].f0=key∧0≤cs[p].f1)→Ev (fun k=>spec_l04Seek.j1 k cs key (cs.length:Int) (at_:Int) (i:Int) false cs[p].f0 cs[p].f1) (seekV (if cs[p].f0=key∧0≤cs[p].f1 then some p else if TM.isNone S151.f0 S151.f1 cs[p] then none else seekM cs key d ((p+1) % cs.length))):=by
   intro c;rw[if_neg c]
   by_cases n:TM.isNone S151.f0 S151.f1 cs[p]
   ·rw[if_pos n]
    refine Ev.step (f:=fun _=>some (-1)) (fun k=>?_) (Ev.now _);simp only [spec_l04Seek.j1,Bool.false_eq_true,if_false];rw[if_pos ((empty_iff _).2 n.1),if_pos n.2]
   ·rw[if_neg n]
    refine Ev.step (fun k=>?_) hnext;simp only [spec_l04Seek.j1,Bool.false_eq_true,if_false]
    by_cases e0:cs[p].f0.toList=([]:List UInt8)
    ·rw[if_pos e0,if_neg (fun e1=>n ⟨(empty_iff _).1 e0,e1⟩),w64 i (by omega)]
    ·rw[if_neg e0,w64 i (by omega)]
  by_cases c:cs[p].f0=key
  ·by_cases c2:0≤cs[p].f1
   ·rw[if_pos ⟨c,c2⟩]
    refine Ev.step (f:=fun k=>spec_l04Seek.j1 k cs key (cs.length:Int) (at_:Int) (i:Int) true cs[p].f0 cs[p].f1) (fun k=>?_) (Ev.step (f:=fun _=>some ((p:Int))) (fun k=>?_) (Ev.now _))
    ·simp only [spec_l04Seek.l0,hw]
     rw[if_pos (by omega),if_neg (by omega),if_pos (by omega),if_pos (by omega),rd_ce cs p hp,if_pos (by rw[c]),decide_eq_true (show cs[p].f1 ≥ 0 from c2)]
    ·simp only [spec_l04Seek.j1,if_true,hw]
     rw[if_neg (by omega)]
   ·refine Ev.step (fun k=>?_) (rest (fun h=>c2 h.2))
    simp only [spec_l04Seek.l0,hw];rw[if_pos (by omega),if_neg (by omega),if_pos (by omega),if_pos (by omega),rd_ce cs p hp,if_pos (by rw[c]),decide_eq_false (show ¬ cs[p].f1 ≥ 0 from c2)]
  ·refine Ev.step (fun k=>?_) (rest (fun h=>c h.1))
   simp only [spec_l04Seek.l0,hw];rw[if_pos (by omega),if_neg (by omega),if_pos (by omega),if_pos (by omega),rd_ce cs p hp,if_neg (fun e=>c (str_eq.1 e))]
def seekSV (cs:List S151) (key:ByteArray):Option Nat:=seekM cs key cs.length (stOf key % cs.length)
theorem seekS_ev (cs:List S151) (key:ByteArray) (hl:cs.length≤1048576) (hs:key.size≤4611686018427387904):Ev (fun k=>spec_l04Seek.f k cs key) (seekV (seekSV cs key)):=by
 unfold spec_l04Seek.f
 by_cases h0:cs.length=0
 ·rw[List.eq_nil_of_length_eq_zero h0]
  exact Ev.now _
 ·simp only [if_neg (show ¬ (cs.length:Int)=0 by omega)]
  refine Ev.bind (hash_ev key hs 0 (by omega)).1 ?_;have:=seekS_loop cs key hl (stOf key % cs.length) (Nat.mod_lt _ (by omega)) cs.length 0 (by omega);have e:Int.tmod ((hashN key 0:Nat):Int) (cs.length:Int)=((stOf key % cs.length:Nat):Int):=by rw[Int.tmod_eq_emod_of_nonneg (by omega)];rfl
  simp only [e];rw[Nat.add_zero,Nat.mod_mod] at this;exact this
theorem seekSV_eq {cs:List S151} {key:ByteArray} (h:∀ x ∈ cs,x.f0=key→0≤x.f1):seekSV cs key=TM.seek S151.f0 S151.f1 cs key (stOf key):=seekM_eq h _ _
def okCS (cs:List S151) (i:Nat) (x:S151):Prop:=(x.f0.size=0→x.f1 = -1 ∨ x.f1 = -2)∧(x.f0.size ≠ 0→x.f0.size≤12∧0≤x.f1∧seekSV cs x.f0=some i)
theorem okCS_iff (cs:List S151):(∀ i x,cs[i]? = some x→okCS cs i x) ↔ ceR cs:=by
 have go:∀ (hH:∀ x ∈ cs,x.f0.size ≠ 0→0≤x.f1) (x:S151),x ∈ cs→x.f0.size ≠ 0→seekSV cs x.f0=TM.seek S151.f0 S151.f1 cs x.f0 (stOf x.f0):=fun hH x hx hs =>
  seekSV_eq (fun y hy e=>hH y hy (by rw[e];exact hs))
 constructor
 ·intro h i x hx
  have hH:∀ x ∈ cs,x.f0.size ≠ 0→0≤x.f1:=fun y hy hs=>by
   obtain⟨j,hj,rfl⟩:=List.getElem_of_mem hy;exact((h j _ (List.getElem?_eq_getElem hj)).2 hs).2.1
  have:=h i x hx;exact⟨this.1,fun hs=>⟨(this.2 hs).1,(this.2 hs).2.1,(go hH x (List.mem_of_getElem? hx) hs).symm.trans (this.2 hs).2.2⟩⟩
 ·intro h i x hx
  have hH:∀ x ∈ cs,x.f0.size ≠ 0→0≤x.f1:=fun y hy hs=>by
   obtain⟨j,hj,rfl⟩:=List.getElem_of_mem hy;exact((h j _ (List.getElem?_eq_getElem hj)).2 hs).2.1
  have:=h i x hx;exact⟨this.1,fun hs=>⟨(this.2 hs).1,(this.2 hs).2.1,(go hH x (List.mem_of_getElem? hx) hs).trans (this.2 hs).2.2⟩⟩
theorem rightS_loop (cs:List S151) (hl:cs.length≤1048576) (hs:∀ x ∈ cs,x.f0.size≤4611686018427387904) (d:Nat):∀ (i:Nat) (fl:Bool),cs.length=i+d →
  ∃ b,Ev (fun k=>spec_l04Right.l0 k cs fl (i:Int)) b∧(b=true ↔ (∀ j,i≤j→∀ x,cs[j]? = some x→okCS cs j x)∧(fl=true ∨ 0 < TM.nones S151.f0 S151.f1 (cs.drop i))):=by
 induction d with
 |zero =>
  intro i fl hd;refine⟨fl,Ev.step (f:=fun _=>some fl) (fun k=>?_) (Ev.now _),?_⟩
  ·simp only [spec_l04Right.l0];rw[if_neg (by omega)]
  ·rw[List.drop_eq_nil_of_le (by omega)]
   constructor
   ·exact fun h=>⟨fun j hj x hx=>by have:=(List.getElem?_eq_some_iff.1 hx).1;omega,.inl h⟩
   ·rintro ⟨_,h|h⟩
    ·exact h
    ·simp[TM.nones] at h
 |succ d ih =>
  intro i fl hd;have hi:i < cs.length:=by omega
  have hx:cs[i]? = some cs[i]:=List.getElem?_eq_getElem hi;have hc:TM.nones S151.f0 S151.f1 (cs.drop i)=(if TM.isNone S151.f0 S151.f1 cs[i] then 1 else 0)+TM.nones S151.f0 S151.f1 (cs.drop (i+1)):=by
   unfold TM.nones;rw[List.drop_eq_getElem_cons hi,List.countP_cons];simp only [decide_eq_true_eq];omega
  have bad:¬ okCS cs i cs[i]→(false=true ↔ (∀ j,i≤j→∀ x,cs[j]? = some x→okCS cs j x)∧(fl=true ∨ 0 < TM.nones S151.f0 S151.f1 (cs.drop i))):=fun hn=>⟨fun h=>Bool.noConfusion h,fun h=>absurd (h.1 i (Nat.le_refl _) _ hx) hn⟩;have good:∀ {b fl':Bool},okCS cs i cs[i]→(fl'=true ↔ fl=true ∨ TM.isNone S151.f0 S151.f1 cs[i])→(b=true ↔ (∀ j,i+1≤j→∀ x,cs[j]? = some x→okCS cs j x)∧(fl'=true ∨ 0 < TM.nones S151.f0 S151.f1 (cs.drop (i+1)))) →
    (b=true ↔ (∀ j,i≤j→∀ x,cs[j]? = some x→okCS cs j x)∧(fl=true ∨ 0 < TM.nones S151.f0 S151.f1 (cs.drop i))):=by
   intro b fl' hok hf hb;rw[hb,hc,hf];constructor
   ·rintro ⟨h1,h2⟩
    refine⟨fun j hj x hxj=>?_,?_⟩
    ·by_cases e:j=i
     ·subst e;rw[hx] at hxj;obtain rfl:=Option.some.inj hxj;exact hok
     ·exact h1 j (by omega) x hxj
    ·rcases h2 with (h2|h2)|h2
     ·exact .inl h2
     ·rw[if_pos h2];exact .inr (by omega)
     ·exact .inr (by omega)
   ·rintro ⟨h1,h2⟩
    refine⟨fun j hj x hxj=>h1 j (by omega) x hxj,?_⟩
    rcases h2 with h2|h2
    ·exact .inl (.inl h2)
    ·by_cases hn:TM.isNone S151.f0 S151.f1 cs[i]
     ·exact .inl (.inr hn)
     ·rw[if_neg hn] at h2;exact .inr (by omega)
  by_cases e0:cs[i].f0.toList=([]:List UInt8)
  ·have z0:cs[i].f0.size=0:=(empty_iff _).1 e0
   by_cases h1:cs[i].f1 = -1
   ·obtain⟨b,hb,hq⟩:=ih (i+1) true (by omega)
    refine⟨b,Ev.step (f:=fun k=>spec_l04Right.j1 k cs fl (i:Int) false cs[i].f0 cs[i].f1) (fun k=>?_) (Ev.step (fun k=>?_) hb),good ⟨fun _=>.inl h1,fun h=>absurd z0 h⟩ (by simp[TM.isNone,z0,h1]) hq⟩
    ·simp only [spec_l04Right.l0]
     rw[if_pos (by omega),if_pos (by omega),rd_ce cs i hi,if_pos e0,if_pos h1]
    ·simp only [spec_l04Right.j1,Bool.false_eq_true,if_false]
     rw[w64 i (by omega),h1]
     cases fl <;> rfl
   ·by_cases h2:cs[i].f1 = -2
    ·obtain⟨b,hb,hq⟩:=ih (i+1) fl (by omega)
     refine⟨b,Ev.step (f:=fun k=>spec_l04Right.j1 k cs fl (i:Int) false cs[i].f0 cs[i].f1) (fun k=>?_) (Ev.step (fun k=>?_) hb),good ⟨fun _=>.inr h2,fun h=>absurd z0 h⟩ (by simp[TM.isNone,h1]) hq⟩
     ·simp only [spec_l04Right.l0]
      rw[if_pos (by omega),if_pos (by omega),rd_ce cs i hi,if_pos e0,if_neg h1,h2];rfl
     ·simp only [spec_l04Right.j1,Bool.false_eq_true,if_false]
      rw[w64 i (by omega),h2]
      cases fl <;> rfl
    ·refine⟨false,Ev.step (f:=fun k=>spec_l04Right.j1 k cs fl (i:Int) true cs[i].f0 cs[i].f1) (fun k=>?_) (Ev.step (f:=fun _=>some false) (fun k=>?_) (Ev.now _)),bad (fun h=>(h.1 z0).elim h1 h2)⟩
     ·simp only [spec_l04Right.l0]
      rw[if_pos (by omega),if_pos (by omega),rd_ce cs i hi,if_pos e0,if_neg h1,bne_iff_ne.2 h2]
     ·simp only [spec_l04Right.j1,if_true]
  ·have z0:cs[i].f0.size ≠ 0:=fun h=>e0 ((empty_iff _).2 h)
   by_cases h1:(cs[i].f0.size:Int) > 12
   ·refine⟨false,Ev.step (f:=fun _=>some false) (fun k=>?_) (Ev.now _),bad (fun h=>by have:=(h.2 z0).1;omega)⟩
    simp only [spec_l04Right.l0];rw[if_pos (by omega),if_pos (by omega),rd_ce cs i hi,if_neg e0,if_pos h1]
   ·by_cases h2:cs[i].f1 < 0
    ·refine⟨false,Ev.step (f:=fun _=>some false) (fun k=>?_) (Ev.now _),bad (fun h=>by have:=(h.2 z0).2.1;omega)⟩
     simp only [spec_l04Right.l0];rw[if_pos (by omega),if_pos (by omega),rd_ce cs i hi,if_neg e0,if_neg h1,if_pos h2]
    ·have hsk:=seekS_ev cs cs[i].f0 hl (hs _ (List.getElem_mem hi))
     by_cases h3:seekSV cs cs[i].f0=some i
     ·obtain⟨b,hb,hq⟩:=ih (i+1) fl (by omega)
      refine⟨b,Ev.step (f:=fun k=>(spec_l04Seek.f k cs cs[i].f0).bind fun t=>(if t=(i:Int) then (spec_l04Right.l0 k cs fl (wrap64 ((i:Int)+1))) else (some false))) (fun k=>?_) (Ev.bind hsk ?_),good ⟨fun h=>absurd h z0,fun _=>⟨by omega,by omega,h3⟩⟩ (by simp[TM.isNone,z0]) hq⟩
      ·simp only [spec_l04Right.l0]
       rw[if_pos (by omega),if_pos (by omega),rd_ce cs i hi,if_neg e0,if_neg h1,if_neg h2]
      ·rw[h3]
       refine Ev.congr (fun k=>?_) hb;rw[if_pos (show seekV (some i)=(i:Int) from rfl),w64 i (by omega)]
     ·refine⟨false,Ev.step (f:=fun k=>(spec_l04Seek.f k cs cs[i].f0).bind fun t=>(if t=(i:Int) then (spec_l04Right.l0 k cs fl (wrap64 ((i:Int)+1))) else (some false))) (fun k=>?_) (Ev.bind hsk ?_),bad (fun h=>h3 (h.2 z0).2.2)⟩
      ·simp only [spec_l04Right.l0]
       rw[if_pos (by omega),if_pos (by omega),rd_ce cs i hi,if_neg e0,if_neg h1,if_neg h2]
      ·refine Ev.congr (f:=fun _=>some false) (fun k=>?_) (Ev.now _)
       rw[if_neg];intro e
       cases hv:seekSV cs cs[i].f0 with
       |none=>rw[hv] at e;simp only [seekV] at e;omega
       |some m=>rw[hv] at e;simp only [seekV] at e;exact h3 (by rw[hv];congr 1;omega)
theorem rightS_ev (cs:List S151) (need:Bool) (hl:cs.length≤1048576) (hs:∀ x ∈ cs,x.f0.size≤4611686018427387904) :
  ∃ b,Ev (fun k=>spec_l04Right.f k cs need) b∧(b=true ↔ ceR cs∧(need=true→0 < TM.nones S151.f0 S151.f1 cs)):=by
 obtain⟨b,hb,hq⟩:=rightS_loop cs hl hs cs.length 0 (!need) (by omega);refine⟨b,hb,hq.trans ?_⟩;rw[← okCS_iff,List.drop_zero];constructor
 ·rintro ⟨h1,h2⟩
  exact⟨fun i x hx=>h1 i (Nat.zero_le _) x hx,fun hn=>h2.resolve_left (by simp[hn])⟩
 ·rintro ⟨h1,h2⟩
  refine⟨fun j _ x hx=>h1 j x hx,?_⟩
  cases need with
  |true=>exact .inr (h2 rfl)
  |false=>exact .inl rfl
theorem l01In_is (a b c:Int):spec_l01In.f a b c=some (decide (b≤a∧a≤c)):=by
 unfold spec_l01In.f
 by_cases h:a ≥ b
 ·rw[if_pos h];congr 1;simp only [decide_eq_decide];omega
 ·rw[if_neg h];congr 1;symm;simp only [decide_eq_false_iff_not];omega
theorem l04Size_is (a:Int):spec_l04Size.f a=some (decide (a=4 ∨ a=8 ∨ a=16 ∨ a=32 ∨ a=64)):=by
 unfold spec_l04Size.f
 by_cases h1:a=4
 ·rw[if_pos h1];simp[h1]
 rw[if_neg h1]
 by_cases h2:a=8
 ·rw[if_pos h2];simp[h2]
 rw[if_neg h2]
 by_cases h3:a=16
 ·rw[if_pos h3];simp[h3]
 rw[if_neg h3]
 by_cases h4:a=32
 ·rw[if_pos h4];simp[h4]
 rw[if_neg h4]
 by_cases h5:a=64
 ·simp[h5]
 simp[h1,h2,h3,h4,h5]
theorem tableS_loop (cs old:List S151) (m:Int) (h1:cs.length≤1048576) (h2:old.length≤1048576) (hs2:∀ x ∈ old,x.f0.size≤4611686018427387904) (d:Nat):∀ (i:Nat),old.length=i+d →
  ∃ b,Ev (fun k=>spec_TableOk.l0 k (i:Int) cs old m) b∧(old = []→b=true):=by
 induction d with
 |zero =>
  intro i hd;refine⟨true,Ev.step (f:=fun _=>some true) (fun k=>?_) (Ev.now _),fun _=>rfl⟩;simp only [spec_TableOk.l0];rw[if_neg (by omega)]
 |succ d ih =>
  intro i hd;have hi:i < old.length:=by omega
  have ho:¬ old = []:=fun e=>by subst e;simp at hi
  obtain⟨b,hb,_⟩:=ih (i+1) (by omega);have hsk:=seekS_ev cs old[i].f0 h1 (hs2 _ (List.getElem_mem hi))
  by_cases c1:(i:Int) < m
  ·by_cases e0:old[i].f0.toList=([]:List UInt8)
   ·by_cases c2:old[i].f1 = -2
    ·refine⟨b,Ev.step (fun k=>?_) hb,fun h=>absurd h ho⟩
     simp only [spec_TableOk.l0];rw[if_pos (by omega),if_pos (by omega),if_pos c1,rd_ce old i hi,if_pos e0,if_pos c2,w64 i (by omega)]
    ·refine⟨false,Ev.step (f:=fun _=>some false) (fun k=>?_) (Ev.now _),fun h=>absurd h ho⟩
     simp only [spec_TableOk.l0];rw[if_pos (by omega),if_pos (by omega),if_pos c1,rd_ce old i hi,if_pos e0,if_neg c2]
   ·refine⟨false,Ev.step (f:=fun _=>some false) (fun k=>?_) (Ev.now _),fun h=>absurd h ho⟩
    simp only [spec_TableOk.l0];rw[if_pos (by omega),if_pos (by omega),if_pos c1,rd_ce old i hi,if_neg e0]
  ·by_cases e0:old[i].f0.toList=([]:List UInt8)
   ·refine⟨b,Ev.step (fun k=>?_) hb,fun h=>absurd h ho⟩
    simp only [spec_TableOk.l0];rw[if_pos (by omega),if_pos (by omega),if_neg c1,rd_ce old i hi,if_pos e0,w64 i (by omega)]
   ·by_cases c3:seekV (seekSV cs old[i].f0) ≥ 0
    ·refine⟨false,Ev.step (f:=fun k=>(spec_l04Seek.f k cs old[i].f0).bind fun t=>(if t ≥ 0 then (some false) else (spec_TableOk.l0 k (wrap64 ((i:Int)+1)) cs old m))) (fun k=>?_) (Ev.bind hsk (Ev.congr (f:=fun _=>some false) (fun k=>by rw[if_pos c3]) (Ev.now _))),fun h=>absurd h ho⟩
     simp only [spec_TableOk.l0];rw[if_pos (by omega),if_pos (by omega),if_neg c1,rd_ce old i hi,if_neg e0]
    ·refine⟨b,Ev.step (f:=fun k=>(spec_l04Seek.f k cs old[i].f0).bind fun t=>(if t ≥ 0 then (some false) else (spec_TableOk.l0 k (wrap64 ((i:Int)+1)) cs old m))) (fun k=>?_) (Ev.bind hsk (Ev.congr (fun k=>by rw[if_neg c3,w64 i (by omega)]) hb)),fun h=>absurd h ho⟩
     simp only [spec_TableOk.l0];rw[if_pos (by omega),if_pos (by omega),if_neg c1,rd_ce old i hi,if_neg e0]
theorem tableS_ev (cs old:List S151) (m:Int) (h1:cs.length≤1048576) (h2:old.length≤1048576) (hs:∀ x ∈ cs,x.f0.size≤4611686018427387904) (hs2:∀ x ∈ old,x.f0.size≤4611686018427387904) :
  ∃ b,Ev (fun k=>spec_TableOk.f k cs old m) b∧(old = []→(b=true ↔ taR cs old m)):=by
 have bad:∃ b,Ev (fun k=>spec_TableOk.j0 k true cs old m) b∧b=false:=⟨false,Ev.step (f:=fun _=>some false) (fun k=>by simp only [spec_TableOk.j0,if_true]) (Ev.now _),rfl⟩;have last:∃ b,Ev (fun k=>(spec_l01In.f m 0 (old.length:Int)).bind fun t691=>(if t691=true then ((spec_l04Right.f k cs true).bind fun t692=>(if t692=true then ((spec_l04Right.f k old false).bind fun t693=>(spec_TableOk.j0 k (!t693) cs old m)) else (spec_TableOk.j0 k true cs old m))) else (spec_TableOk.j0 k true cs old m))) b ∧
   (old = []→(b=true ↔ (0≤m∧m≤(old.length:Int))∧ceR cs∧0 < TM.nones S151.f0 S151.f1 cs)):=by
  obtain⟨b1,hb1,hq1⟩:=rightS_ev cs true h1 hs;obtain⟨b2,hb2,hq2⟩:=rightS_ev old false h2 hs2;obtain⟨b3,hb3,hq3⟩:=tableS_loop cs old m h1 h2 hs2 old.length 0 (by omega);obtain⟨b0,hb0,rfl⟩:=bad;by_cases c0:0≤m∧m≤(old.length:Int)
  ·cases b1 with
   |false =>
    refine⟨false,Ev.congr (fun k=>?_) (Ev.bind (f:=fun k (t692:Bool)=>(if t692=true then ((spec_l04Right.f k old false).bind fun t693=>(spec_TableOk.j0 k (!t693) cs old m)) else (spec_TableOk.j0 k true cs old m))) hb1 (Ev.congr (fun k=>if_neg (by simp)) hb0)),fun _=>⟨fun h=>Bool.noConfusion h,fun h=>hq1.2 ⟨h.2.1,fun _=>h.2.2⟩⟩⟩;rw[l01In_is,decide_eq_true c0];rfl
   |true =>
    cases b2 with
    |false =>
     refine⟨false,Ev.congr (fun k=>?_) (Ev.bind (f:=fun k (t692:Bool)=>(if t692=true then ((spec_l04Right.f k old false).bind fun t693=>(spec_TableOk.j0 k (!t693) cs old m)) else (spec_TableOk.j0 k true cs old m))) hb1 (Ev.congr (fun k=>if_pos rfl) (Ev.bind (f:=fun k (t693:Bool)=>spec_TableOk.j0 k (!t693) cs old m) hb2 hb0))),fun e=>⟨fun h=>Bool.noConfusion h,fun h=>hq2.2 ⟨by subst e;intro i x hx;simp at hx,fun h=>Bool.noConfusion h⟩⟩⟩;rw[l01In_is,decide_eq_true c0];rfl
    |true =>
     refine⟨b3,Ev.congr (fun k=>?_) (Ev.bind (f:=fun k (t692:Bool)=>(if t692=true then ((spec_l04Right.f k old false).bind fun t693=>(spec_TableOk.j0 k (!t693) cs old m)) else (spec_TableOk.j0 k true cs old m))) hb1 (Ev.congr (fun k=>if_pos rfl) (Ev.bind (f:=fun k (t693:Bool)=>spec_TableOk.j0 k (!t693) cs old m) hb2 (Ev.step (fun k=>by simp only [spec_TableOk.j0,Bool.not_true,Bool.false_eq_true,if_false];rfl) hb3)))),fun e=>⟨fun _=>⟨c0,(hq1.1 rfl).1,(hq1.1 rfl).2 rfl⟩,fun _=>hq3 e⟩⟩;rw[l01In_is,decide_eq_true c0];rfl
  ·refine⟨false,Ev.congr (fun k=>?_) hb0,fun _=>⟨fun h=>Bool.noConfusion h,fun h=>absurd h.1 c0⟩⟩
   rw[l01In_is,decide_eq_false c0];rfl
 obtain⟨b,hb,hq⟩:=last;obtain⟨b0,hb0,rfl⟩:=bad;by_cases cz:(cs.length:Int)=4 ∨ (cs.length:Int)=8 ∨ (cs.length:Int)=16 ∨ (cs.length:Int)=32 ∨ (cs.length:Int)=64
 ·by_cases co:(old.length:Int)=0
  ·refine⟨b,Ev.congr (fun k=>?_) hb,fun e=>(hq e).trans ?_⟩
   ·unfold spec_TableOk.f;rw[l04Size_is,decide_eq_true cz,Option.bind_some,if_pos rfl,if_pos co]
   ·subst e
    constructor
    ·rintro ⟨hm,hc,hn⟩
     refine⟨by omega,.inl rfl,⟨hm.1,by simpa using hm.2⟩,fun x hx=>by simp at hx,?_,hc,fun i x hx=>by simp at hx,hn⟩;rw[List.append_nil];exact TM.Found.nodup S151.f0 S151.f1 (TM.cellsR.found S151.f0 S151.f1 hc)
    ·intro h
     exact⟨⟨h.moved.1,by simpa using h.moved.2⟩,h.cells,h.none⟩
  ·by_cases c2:wrap64 (2 * (old.length:Int))=(cs.length:Int)
   ·refine⟨b,Ev.congr (fun k=>?_) hb,fun e=>absurd (by rw[e];rfl) co⟩
    unfold spec_TableOk.f;rw[l04Size_is,decide_eq_true cz,Option.bind_some,if_pos rfl,if_neg co,if_pos c2]
   ·refine⟨false,Ev.congr (fun k=>?_) hb0,fun e=>absurd (by rw[e];rfl) co⟩
    unfold spec_TableOk.f;rw[l04Size_is,decide_eq_true cz,Option.bind_some,if_pos rfl,if_neg co,if_neg c2]
 ·refine⟨false,Ev.congr (fun k=>?_) hb0,fun _=>⟨fun h=>Bool.noConfusion h,fun h=>absurd (by have:=h.size;omega) cz⟩⟩
  unfold spec_TableOk.f;rw[l04Size_is,decide_eq_false cz,Option.bind_some,if_neg (by simp)]
end Go.Proofs.YtediiolcoilepaaGreat.Nb
