/- Walks of callees. -/
import Derived.Test.YtediiolcoilepaaGreatNbK
namespace Go.Proofs.YtediiolcoilepaaGreat.Nb
set_option maxHeartbeats 8000000
set_option maxRecDepth 100000
open Go.RowKit YtediiolcoilepaaGreat.GNear YtediiolcoilepaaGreatW.PrintWords YtediiolcoilepaaGreatW.PrintLast YtediiolcoilepaaGreatW.PrintMore
def A07.l0:Nat→Int→ByteArray→Option (ByteArray)
 |0,_,_=>none
 |k+1,x0,x3=>if x0 > 0 then ((some (([(wrap64 (48+(Int.tmod x0 10))) % 256]:List Int):List Int)).bind fun y737=>(if (strOfNums y737).size+x3.size≤9223372036854775807 then (A07.l0 k (wrap64 (Int.tdiv x0 10)) ((strOfNums y737) ++ x3)) else (none))) else (if 1+x3.size≤9223372036854775807 then (some ((⟨#[109]⟩:ByteArray) ++ x3)) else (none))
def A07.f (k:Nat) (a0:Int):Option (ByteArray):=if a0≤0 then (some (⟨#[109,48]⟩:ByteArray)) else (A07.l0 k a0 (⟨#[]⟩:ByteArray))
theorem A07.calls (k:Nat) (a0:Int) (r:ByteArray) (w:World) (h:A07.f k a0=some r) :
  Calls Tryz.prog 213 #[.int .i64 a0] w fun e w'=>e=.returned (.string r)∧Below w.heap.size w w':=by
 have HB:=B98 (Below.refl w.heap.size w);have H:(if a0≤0 then (some (⟨#[109,48]⟩:ByteArray)) else (A07.l0 k a0 (⟨#[]⟩:ByteArray)))=some r:=h;clear h;by_cases c2:a0≤0
 ·rw[if_pos c2] at H
  have c2b0:decide (a0≤0)=true:=B99 c2;clear c2;obtain rfl:=C0d H;go_enter Tryz.func213,Tryz.ntmps213
  go_wp2
  go_ret;exact⟨by first|rfl|(simp[] <;> rfl)|(simp[*] <;> rfl),by repeat(first|(with_reducible first|exact HB.o|apply A2m|apply A2q|apply A2r)|exact HB.o)⟩
 ·rw[if_neg c2] at H
  have c2b0:decide (a0≤0)=false:=C0a c2;clear c2;have H':=B98 H;clear H;go_enter Tryz.func213,Tryz.ntmps213
  go_wp2
  go_loopg [0,3] k (fun kq v0 v3 w'=>∃ (x0_1:Int) (x3_1:ByteArray),v0=.int .i64 x0_1∧v3=.string x3_1∧A0a (A07.l0 kq x0_1 x3_1=some r)∧A0a (kq≤k)∧A0a (Below w.heap.size w w'))
  case atStart=>exact⟨(a0),((⟨#[]⟩:ByteArray)),(by first|rfl|simp[*]),(by first|rfl|simp[*]),H',⟨Nat.le_refl _⟩,⟨by repeat(first|(with_reducible first|exact HB.o|apply A2m|apply A2q|apply A2r)|exact HB.o)⟩⟩
  case round =>
   clear H';obtain⟨x0_1,x3_1,rfl,rfl,HA,HK1,HB⟩:=hrel;cases gk with
   |zero=>exact absurd HA.o (by simp[A07.l0])
   |succ k1 =>
    have H:=HA.o;clear HA;simp only [A07.l0] at H;by_cases c3:x0_1 > 0
    ·rw[if_pos c3] at H
     have c3b0:decide (0 < x0_1)=true:=B99 c3;clear c3;obtain⟨y737,hy737⟩:∃ y_:List Int,y_=(([(wrap64 (48+(Int.tmod x0_1 10))) % 256]:List Int)):=⟨_,rfl⟩;replace H:(if (strOfNums y737).size+x3_1.size≤9223372036854775807 then (A07.l0 k1 (wrap64 (Int.tdiv x0_1 10)) ((strOfNums y737) ++ x3_1)) else (none))=some r:=by first|(rw[hy737];with_reducible exact H)|(have H2_:=(Option.bind_some _ _).symm.trans H;rw[hy737];with_reducible exact H2_)|(have H2_:=(Option.bind_some _ _).symm.trans H;with_reducible exact H2_)|with_reducible exact H|(rw[hy737];exact H)|exact H
     have Ny737:=B98 hy737;clear hy737;by_cases c4:(strOfNums y737).size+x3_1.size≤9223372036854775807
     ·rw[if_pos c4] at H
      have c4b0:=eq_true c4;have c4b1:decide ((strOfNums y737).size+x3_1.size≤9223372036854775807)=true:=B99 c4
      try have c4b2:(9223372036854775807 < (strOfNums y737).size+x3_1.size)=False:=eq_false (Nat.not_lt.2 c4)
      have H':=B98 H;clear H;go_wp2_with (first|((with_reducible refine A0b (N:=12) rfl ?_);refine Kd.R_lit (Kd.int .u8) _ 5 ?hg (N:=12) ?hd (xs:=([(wrap64 (48+(Int.tmod x0_1 10))) % 256]:List Int)) (inner:=[.int .u8 ((wrap64 (48+(Int.tmod x0_1 10))) % 256)]) (ok:=fun _=>True) (okp:=fun _=>True) ?hr ?hp (fun _ hk=>hk) trivial (Below.refl _ _) (Nat.le_refl _) Zs ?_;(case hd=>rfl);(case hg=>rfl);(case hr=>first|(go_simp;done)|(go_simp;rfl));(case hp=>exact(Reps.one (show Kd.M (Kd.int .u8) _ _ _ ((wrap64 (48+(Int.tmod x0_1 10))) % 256) [.int .u8 ((wrap64 (48+(Int.tmod x0_1 10))) % 256)] from rfl) (Reps.none _ _)));intro v738 w5 ho6 hb hg_ hnew_;clear hg_ hnew_;(first|rw[← Ny737.o] at ho6|(simp only [Int.reduceToNat] at ho6;rw[← Ny737.o] at ho6));have n0_:=B98 (Kd.R_lower ho6 (A02 (by repeat(first|(with_reducible first|exact HB.o|apply A2m|apply A2q|apply A2r)|exact HB.o))));have n1_:=B98 (A33 (by repeat(first|(with_reducible first|exact HB.o|apply A2m|apply A2q|apply A2r)|exact HB.o)) hb);clear HB;have HO739:=n0_;have HB:=n1_;clear n0_ n1_;clear hb ho6;have hcv7:=B3a (P:=Tryz.prog) Tryz.underlying55 Tryz.underlying5 Tryz.underlying9 (Kd.own_of_R HO739.o)))
      go_roundg k1
      case measure=>have:=HK1.o;omega
      case rel=>exact⟨(wrap64 (Int.tdiv x0_1 10)),((strOfNums y737) ++ x3_1),(by first|rfl|simp[*]),(by first|rfl|simp[*]),H',⟨by have:=HK1.o;omega⟩,⟨by repeat(first|(with_reducible first|exact HB.o|apply A2m|apply A2q|apply A2r)|exact HB.o)⟩⟩
     ·rw[if_neg c4] at H
      exact absurd H Zs
    ·rw[if_neg c3] at H
     have c3b0:decide (0 < x0_1)=false:=C0a c3;clear c3;by_cases c8:1+x3_1.size≤9223372036854775807
     ·rw[if_pos c8] at H
      have c8b0:=eq_true c8;have c8b1:decide (1+x3_1.size≤9223372036854775807)=true:=B99 c8
      try have c8b2:(9223372036854775807 < 1+x3_1.size)=False:=eq_false (Nat.not_lt.2 c8)
      obtain rfl:=C0d H;go_wp2
      go_ret;exact⟨by first|rfl|(simp[] <;> rfl)|(simp[*] <;> rfl),by repeat(first|(with_reducible first|exact HB.o|apply A2m|apply A2q|apply A2r)|exact HB.o)⟩
     ·rw[if_neg c8] at H
      exact absurd H Zs
theorem B33 (l:List Int):(strOfNums l).size=l.length:=by
 unfold strOfNums;show(l.map fun n=>UInt8.ofNat n.toNat).toArray.size=l.length;simp
theorem B2g (N:Nat):∀ (n:Nat) (x:ByteArray),n≤N→n+x.size≤1099511627776→∃ s,Ev (fun k=>A07.l0 k (n:Int) x) s:=by
 induction N with
 |zero =>
  intro n x hn hx;refine⟨(⟨#[109]⟩:ByteArray) ++ x,Ev.step (f:=fun _=>some ((⟨#[109]⟩:ByteArray) ++ x)) (fun k=>?_) (Ev.now _)⟩;simp only [A07.l0];rw[if_neg Zo,if_pos Zo]
 |succ N ih =>
  intro n x hn hx
  by_cases h0:n=0
  ·refine⟨(⟨#[109]⟩:ByteArray) ++ x,Ev.step (f:=fun _=>some ((⟨#[109]⟩:ByteArray) ++ x)) (fun k=>?_) (Ev.now _)⟩
   simp only [A07.l0];rw[if_neg Zo,if_pos Zo]
  ·have ed:wrap64 (Int.tdiv (n:Int) 10)=((n / 10:Nat):Int):=by
    rw[Int.tdiv_eq_ediv_of_nonneg (Int.natCast_nonneg _)];unfold wrap64;omega
   have hsz:=B33 [(wrap64 (48+(Int.tmod (n:Int) 10))) % 256];have hap:(strOfNums [(wrap64 (48+(Int.tmod (n:Int) 10))) % 256] ++ x).size=1+x.size:=by rw[ByteArray.size_append,hsz];rfl
   obtain⟨s,hs⟩:=ih (n / 10) (strOfNums [(wrap64 (48+(Int.tmod (n:Int) 10))) % 256] ++ x) Zo (by rw[hap];omega);refine⟨s,Ev.step (fun k=>?_) hs⟩;simp only [A07.l0,Option.bind_some];rw[if_pos Zo,if_pos (by rw[hsz];simp;omega),ed]
theorem A8p (n:Int) (h0:0≤n) (h1:n≤1073741824):∃ s,Ev (fun k=>A07.f k n) s:=by
 by_cases c:n≤0
 ·refine⟨(⟨#[109,48]⟩:ByteArray),Ev.congr (f:=fun _=>some (⟨#[109,48]⟩:ByteArray)) (fun k=>?_) (Ev.now _)⟩
  unfold A07.f;rw[if_pos c]
 ·obtain⟨m,rfl⟩:=Int.eq_ofNat_of_zero_le h0
  obtain⟨s,hs⟩:=B2g m m (⟨#[]⟩:ByteArray) (Nat.le_refl _) (by show m+0≤_;omega);refine⟨s,Ev.congr (fun k=>?_) hs⟩;unfold A07.f;rw[if_neg c]
open Classical in
noncomputable def A4z (n:Int):ByteArray:=if h:∃ s,Ev (fun k=>A07.f k n) s then Classical.choose h else ByteArray.empty
theorem B57 (n:Int) (h0:0≤n) (h1:n≤1073741824):Ev (fun k=>A07.f k n) (A4z n):=by
 unfold A4z;rw[dif_pos (A8p n h0 h1)];exact Classical.choose_spec (A8p n h0 h1)
noncomputable def A59 (m:Int):S94:=⟨m,(Int.tmod (m+1) 3 == 0),A4z (m+2),A4z (m+3),m+4⟩
noncomputable def A4u (m:Int):S151:=⟨A4z m,m+1⟩
noncomputable def A4v (m:Int):ByteArray:=A4z m
def A6a (m:Int):Int:=m
def marked {α:Type} (f:Int→α) (k:Int) (n:Nat) (m:Int):List α:=(List.range n).map fun (i:Nat)=>f (m+k * (i:Int))
theorem A64 {α:Type} {f:Int→α} {k:Int} {n:Nat} {m:Int}:(marked f k n m).length=n:=by simp[marked]
theorem A4k {α:Type} {f:Int→α} {k:Int} {n:Nat} {m:Int}:∀ (j:Nat) (x:α),(marked f k n m)[j]? = some x→x=f (m+k * (j:Int)):=fun j x h=>by
 obtain⟨h1,h2⟩:=C0e.1 h;rw[← h2];simp[marked]
theorem A6n {α:Type} {mf:Int→α} {k m:Int} {n:Nat} {y:List α} (h1:y.length=n) (h2:∀ j,j < n→y[j]? = some (mf (m+k * (j:Int)))):y=marked mf k n m:=by
 apply List.ext_getElem?;intro j
 by_cases hj:j < n
 ·rw[h2 j hj];simp[marked,hj]
 ·rw[List.getElem?_eq_none Zo,List.getElem?_eq_none (by rw[A64];omega)]
theorem A36 (m:Int) (h0:0≤m) (h1:m≤1073741824) (w:World):Calls Tryz.prog 213 #[.int .i64 m] w fun e w'=>e=.returned (.string (A4z m))∧Below w.heap.size w w':=by
 obtain⟨K,hK⟩:=B57 m h0 h1;exact A07.calls K m _ w (hK K (Nat.le_refl _))
section
variable {w0 w:World} {ps:List Part} {α:Type} {d:Kd α} {enc:α→List Value} {e g n c:Nat} {xs:List α} {i:Nat} {x x':α} {v:Value}
theorem St.fld (F:Flat d enc) (h:St w0 w (Part.row d e (.slice (some ⟨g,0,none⟩) n c) (xs.set i x) :: ps)) (hi:i < xs.length) (j:Nat) (hj:j < d.sz) (he:enc x'=(enc x).set j v):St w0 (w.setCell ⟨g,i * d.sz+j,none⟩ v) (Part.row d e (.slice (some ⟨g,0,none⟩) n c) (xs.set i x') :: ps):=by
 have h1:=h.put_flat F (i:=i) (List.getElem?_set_self hi) hj he
 rwa [List.set_set] at h1
theorem St.fcell (F:Flat d enc) (h:St w0 w (Part.row d e (.slice (some ⟨g,0,none⟩) n c) (xs.set i x) :: ps)) (hi:i < xs.length) (j:Nat) (hv:(enc x)[j]? = some v):w.cell? ⟨g,i * d.sz+j,none⟩=some v∧w.frozen? ⟨g,i * d.sz+j,none⟩=false:=h.flat_cell F (List.getElem?_set_self hi) hv
end
theorem B2h {w0 w:World} {ps:List Part} {v:Value} (l:List S94) (hl:l.length≤1048576) (m:Int) (h0:0≤m) (h1:m≤1000000000) (h:St w0 w (Part.row k94 94 v l :: ps)) :
  Calls Tryz.prog 154 #[v,.int .i64 m] w fun e w'=>e=.returned (.int .i64 (m+5 * (l.length:Int)))∧St w0 w' (Part.row k94 94 v (marked A59 5 l.length m) :: ps):=by
 have hu:=Tryz.underlying94;have HL:=B98 hl;have H0:=B98 h0;have H1:=B98 h1;obtain⟨A,c,rfl⟩:=Kd.R_slice (h.at_R 0 rfl);have HS:=B98 h;clear hl h0 h1 h;go_enter Tryz.func154,Tryz.ntmps154;go_wp2_with fail;go_loopw [1,5] (fun v1 v5 w'=>∃ (i:Nat) (y:List S94),v1=.int .i64 (m+5 * (i:Int))∧v5=.int .i64 i∧A0a (i≤l.length)∧A0a (y.length=l.length∧∀ j,j < i→y[j]? = some (A59 (m+5 * (j:Int))))∧A0a (St w0 w' (Part.row k94 94 (.slice A l.length c) y :: ps))) (fun _ v5 _=>l.length - (intOf v5).toNat)
 case atStart=>exact⟨0,l,by simp,rfl,⟨Nat.zero_le _⟩,⟨rfl,fun j hj=>absurd hj Zo⟩,HS⟩
 case round =>
  clear HS;obtain⟨i,y,rfl,rfl,HI,HY,HS⟩:=hrel;by_cases c1:i < l.length
  ·have c1b:decide ((i:Int) < (l.length:Int))=true:=B99 Zo
   have p5:(0:Int)≤(i:Int):=by omega
   have q5:(i:Int) < (l.length:Int):=by omega
   obtain⟨M,hM⟩:∃ M,M=m+5 * (i:Int):=⟨_,rfl⟩;rw[← hM];have HE:=B98 hM;have HM:=B98 (show 0≤M∧M≤1010000000 by have:=H0.o;have:=H1.o;have:=HL.o;omega);have hy:i < y.length:=by have:=HY.o.1;omega
   have HI2:=B98 hy;obtain⟨u,hu⟩:∃ u,u=y[i]:=⟨_,rfl⟩;have S:=HS.o;rw[show y=y.set i u by rw[hu];exact(List.set_getElem_self hy).symm] at S;obtain⟨go,co,eo,-,-,-,-⟩:=Kd.R_form (S.at_R 0 rfl) (by rw[C0i];omega);obtain⟨rfl,-,rfl⟩:=Value.slice.inj eo;have p6:i < 1048576:=by have:=HL.o;omega
   clear c1 hM hu hy eo HS;replace p5:=eq_true p5;replace q5:=eq_true q5;have e1:wrap64 (M+1)=M+1:=by have:=HM.o;unfold wrap64;omega
   have e2:wrap64 (M+2)=M+2:=by have:=HM.o;unfold wrap64;omega
   have d2:M+1+1=M+2:=by omega
   have e3:wrap64 (M+3)=M+3:=by have:=HM.o;unfold wrap64;omega
   have d3:M+2+1=M+3:=by omega
   have e4:wrap64 (M+4)=M+4:=by have:=HM.o;unfold wrap64;omega
   have d4:M+3+1=M+4:=by omega
   have e5:wrap64 (M+5)=M+5:=by have:=HM.o;unfold wrap64;omega
   have d5:M+4+1=M+5:=by omega
   have hz0:wr.cell? ⟨go,i * 5,none⟩=some (.int .i64 u.f0):=(S.fcell F94 HI2.o 0 rfl).1;have hf0:wr.frozen? ⟨go,i * 5,none⟩=false:=(S.fcell F94 HI2.o 0 (v:=.int .i64 u.f0) rfl).2;have hz1:wr.cell? ⟨go,i * 5+1,none⟩=some (.bool u.f1):=(S.fcell F94 HI2.o 1 rfl).1;have hf1:wr.frozen? ⟨go,i * 5+1,none⟩=false:=(S.fcell F94 HI2.o 1 (v:=.bool u.f1) rfl).2;have hz2:wr.cell? ⟨go,i * 5+2,none⟩=some (.string u.f2):=(S.fcell F94 HI2.o 2 rfl).1;have hf2:wr.frozen? ⟨go,i * 5+2,none⟩=false:=(S.fcell F94 HI2.o 2 (v:=.string u.f2) rfl).2;have hz3:wr.cell? ⟨go,i * 5+3,none⟩=some (.string u.f3):=(S.fcell F94 HI2.o 3 rfl).1;have hf3:wr.frozen? ⟨go,i * 5+3,none⟩=false:=(S.fcell F94 HI2.o 3 (v:=.string u.f3) rfl).2;have hz4:wr.cell? ⟨go,i * 5+4,none⟩=some (.int .i64 u.f4):=(S.fcell F94 HI2.o 4 rfl).1;have hf4:wr.frozen? ⟨go,i * 5+4,none⟩=false:=(S.fcell F94 HI2.o 4 (v:=.int .i64 u.f4) rfl).2;have HS:=B98 S;clear S;go_wp2_with fail;have S:=HS.o;have S:=S.fld F94 (x':=(⟨M,u.f1,u.f2,u.f3,u.f4⟩:S94)) HI2.o 0 Zd (v:=.int .i64 (M)) rfl;have S:=S.fld F94 (x':=(⟨M,(Int.tmod (M+1) 3 == 0),u.f2,u.f3,u.f4⟩:S94)) HI2.o 1 Zd (v:=.bool (Int.tmod (M+1) 3 == 0)) rfl;clear HS;refine(A36 (M+2) (by have:=HM.o;omega) (by have:=HM.o;omega) _).mono ?_;rintro e w1 ⟨rfl,hb⟩;have S:=S.step hb;clear hb hz0 hf0 hz1 hf1 hz2 hf2 hz3 hf3 hz4 hf4;have hz0:w1.cell? ⟨go,i * 5,none⟩=some (.int .i64 M):=(S.fcell F94 HI2.o 0 rfl).1;have hf0:w1.frozen? ⟨go,i * 5,none⟩=false:=(S.fcell F94 HI2.o 0 (v:=.int .i64 M) rfl).2;have hz1:w1.cell? ⟨go,i * 5+1,none⟩=some (.bool ((Int.tmod (M+1) 3 == 0))):=(S.fcell F94 HI2.o 1 rfl).1;have hf1:w1.frozen? ⟨go,i * 5+1,none⟩=false:=(S.fcell F94 HI2.o 1 (v:=.bool ((Int.tmod (M+1) 3 == 0))) rfl).2;have hz2:w1.cell? ⟨go,i * 5+2,none⟩=some (.string u.f2):=(S.fcell F94 HI2.o 2 rfl).1;have hf2:w1.frozen? ⟨go,i * 5+2,none⟩=false:=(S.fcell F94 HI2.o 2 (v:=.string u.f2) rfl).2;have hz3:w1.cell? ⟨go,i * 5+3,none⟩=some (.string u.f3):=(S.fcell F94 HI2.o 3 rfl).1;have hf3:w1.frozen? ⟨go,i * 5+3,none⟩=false:=(S.fcell F94 HI2.o 3 (v:=.string u.f3) rfl).2;have hz4:w1.cell? ⟨go,i * 5+4,none⟩=some (.int .i64 u.f4):=(S.fcell F94 HI2.o 4 rfl).1;have hf4:w1.frozen? ⟨go,i * 5+4,none⟩=false:=(S.fcell F94 HI2.o 4 (v:=.int .i64 u.f4) rfl).2;have HS:=B98 S;clear S;go_wp2_with fail;have S:=HS.o;have S:=S.fld F94 (x':=(⟨M,(Int.tmod (M+1) 3 == 0),A4z (M+2),u.f3,u.f4⟩:S94)) HI2.o 2 Zd (v:=.string (A4z (M+2))) rfl;clear HS;refine(A36 (M+3) (by have:=HM.o;omega) (by have:=HM.o;omega) _).mono ?_;rintro e w2 ⟨rfl,hb⟩;have S:=S.step hb;clear hb hz0 hf0 hz1 hf1 hz2 hf2 hz3 hf3 hz4 hf4;have hz0:w2.cell? ⟨go,i * 5,none⟩=some (.int .i64 M):=(S.fcell F94 HI2.o 0 rfl).1;have hf0:w2.frozen? ⟨go,i * 5,none⟩=false:=(S.fcell F94 HI2.o 0 (v:=.int .i64 M) rfl).2;have hz1:w2.cell? ⟨go,i * 5+1,none⟩=some (.bool ((Int.tmod (M+1) 3 == 0))):=(S.fcell F94 HI2.o 1 rfl).1;have hf1:w2.frozen? ⟨go,i * 5+1,none⟩=false:=(S.fcell F94 HI2.o 1 (v:=.bool ((Int.tmod (M+1) 3 == 0))) rfl).2;have hz2:w2.cell? ⟨go,i * 5+2,none⟩=some (.string (A4z (M+2))):=(S.fcell F94 HI2.o 2 rfl).1;have hf2:w2.frozen? ⟨go,i * 5+2,none⟩=false:=(S.fcell F94 HI2.o 2 (v:=.string (A4z (M+2))) rfl).2;have hz3:w2.cell? ⟨go,i * 5+3,none⟩=some (.string u.f3):=(S.fcell F94 HI2.o 3 rfl).1;have hf3:w2.frozen? ⟨go,i * 5+3,none⟩=false:=(S.fcell F94 HI2.o 3 (v:=.string u.f3) rfl).2;have hz4:w2.cell? ⟨go,i * 5+4,none⟩=some (.int .i64 u.f4):=(S.fcell F94 HI2.o 4 rfl).1;have hf4:w2.frozen? ⟨go,i * 5+4,none⟩=false:=(S.fcell F94 HI2.o 4 (v:=.int .i64 u.f4) rfl).2;have HS:=B98 S;clear S;go_wp2_with fail;have S:=HS.o;have S:=S.fld F94 (x':=(⟨M,(Int.tmod (M+1) 3 == 0),A4z (M+2),A4z (M+3),u.f4⟩:S94)) HI2.o 3 Zd (v:=.string (A4z (M+3))) rfl;have S:=S.fld F94 (x':=(⟨M,(Int.tmod (M+1) 3 == 0),A4z (M+2),A4z (M+3),M+4⟩:S94)) HI2.o 4 Zd (v:=.int .i64 (M+4)) rfl;go_roundw
   case rel=>exact⟨i+1,_,by have:=HE.o;have:=HM.o;congr 1;omega,by go_num,⟨by have h_:=of_eq_true q5;omega⟩,⟨by rw[C0i];exact HY.o.1,fun j hj=>by
    by_cases hc:j=i
    ·subst hc;rw[List.getElem?_set_self HI2.o,← HE.o];rfl
    ·rw[List.getElem?_set_ne Zo];exact HY.o.2 j Zo⟩,⟨S⟩⟩
   case measure=>have h_:=of_eq_true q5;simp only [intOf];omega
  ·have c1b:decide ((i:Int) < (l.length:Int))=false:=C0a Zo
   have c1c:decide (i < l.length)=false:=C0a c1;have hi:i=l.length:=by have:=HI.o;omega
   subst hi;have HE:=B98 (A6n (mf:=A59) HY.o.1 HY.o.2);clear c1;go_wp2_with fail;go_ret;exact⟨rfl,HE.o ▸ HS.o⟩
theorem A8q {w0 w:World} {ps:List Part} {v:Value} (l:List S151) (hl:l.length≤1048576) (m:Int) (h0:0≤m) (h1:m≤1000000000) (h:St w0 w (Part.row k151 151 v l :: ps)) :
  Calls Tryz.prog 155 #[v,.int .i64 m] w fun e w'=>e=.returned (.int .i64 (m+2 * (l.length:Int)))∧St w0 w' (Part.row k151 151 v (marked A4u 2 l.length m) :: ps):=by
 have hu:=Tryz.underlying151;have HL:=B98 hl;have H0:=B98 h0;have H1:=B98 h1;obtain⟨A,c,rfl⟩:=Kd.R_slice (h.at_R 0 rfl);have HS:=B98 h;clear hl h0 h1 h;go_enter Tryz.func155,Tryz.ntmps155;go_wp2_with fail;go_loopw [1,5] (fun v1 v5 w'=>∃ (i:Nat) (y:List S151),v1=.int .i64 (m+2 * (i:Int))∧v5=.int .i64 i∧A0a (i≤l.length)∧A0a (y.length=l.length∧∀ j,j < i→y[j]? = some (A4u (m+2 * (j:Int))))∧A0a (St w0 w' (Part.row k151 151 (.slice A l.length c) y :: ps))) (fun _ v5 _=>l.length - (intOf v5).toNat)
 case atStart=>exact⟨0,l,by simp,rfl,⟨Nat.zero_le _⟩,⟨rfl,fun j hj=>absurd hj Zo⟩,HS⟩
 case round =>
  clear HS;obtain⟨i,y,rfl,rfl,HI,HY,HS⟩:=hrel;by_cases c1:i < l.length
  ·have c1b:decide ((i:Int) < (l.length:Int))=true:=B99 Zo
   have p5:(0:Int)≤(i:Int):=by omega
   have q5:(i:Int) < (l.length:Int):=by omega
   obtain⟨M,hM⟩:∃ M,M=m+2 * (i:Int):=⟨_,rfl⟩;rw[← hM];have HE:=B98 hM;have HM:=B98 (show 0≤M∧M≤1010000000 by have:=H0.o;have:=H1.o;have:=HL.o;omega);have hy:i < y.length:=by have:=HY.o.1;omega
   have HI2:=B98 hy;obtain⟨u,hu⟩:∃ u,u=y[i]:=⟨_,rfl⟩;have S:=HS.o;rw[show y=y.set i u by rw[hu];exact(List.set_getElem_self hy).symm] at S;obtain⟨go,co,eo,-,-,-,-⟩:=Kd.R_form (S.at_R 0 rfl) (by rw[C0i];omega);obtain⟨rfl,-,rfl⟩:=Value.slice.inj eo;have p6:i < 1048576:=by have:=HL.o;omega
   clear c1 hM hu hy eo HS;replace p5:=eq_true p5;replace q5:=eq_true q5;have e1:wrap64 (M+1)=M+1:=by have:=HM.o;unfold wrap64;omega
   have e2:wrap64 (M+2)=M+2:=by have:=HM.o;unfold wrap64;omega
   have d2:M+1+1=M+2:=by omega
   have hz0:wr.cell? ⟨go,i * 2,none⟩=some (.string u.f0):=(S.fcell F151 HI2.o 0 rfl).1;have hf0:wr.frozen? ⟨go,i * 2,none⟩=false:=(S.fcell F151 HI2.o 0 (v:=.string u.f0) rfl).2;have hz1:wr.cell? ⟨go,i * 2+1,none⟩=some (.int .i64 u.f1):=(S.fcell F151 HI2.o 1 rfl).1;have hf1:wr.frozen? ⟨go,i * 2+1,none⟩=false:=(S.fcell F151 HI2.o 1 (v:=.int .i64 u.f1) rfl).2;have HS:=B98 S;clear S;go_wp2_with fail;have S:=HS.o;clear HS;refine(A36 (M) (by have:=HM.o;omega) (by have:=HM.o;omega) _).mono ?_;rintro e w1 ⟨rfl,hb⟩;have S:=S.step hb;clear hb hz0 hf0 hz1 hf1;have hz0:w1.cell? ⟨go,i * 2,none⟩=some (.string u.f0):=(S.fcell F151 HI2.o 0 rfl).1;have hf0:w1.frozen? ⟨go,i * 2,none⟩=false:=(S.fcell F151 HI2.o 0 (v:=.string u.f0) rfl).2;have hz1:w1.cell? ⟨go,i * 2+1,none⟩=some (.int .i64 u.f1):=(S.fcell F151 HI2.o 1 rfl).1;have hf1:w1.frozen? ⟨go,i * 2+1,none⟩=false:=(S.fcell F151 HI2.o 1 (v:=.int .i64 u.f1) rfl).2;have HS:=B98 S;clear S;go_wp2_with fail;have S:=HS.o;have S:=S.fld F151 (x':=(⟨A4z (M),u.f1⟩:S151)) HI2.o 0 Zd (v:=.string (A4z (M))) rfl;have S:=S.fld F151 (x':=(⟨A4z (M),M+1⟩:S151)) HI2.o 1 Zd (v:=.int .i64 (M+1)) rfl;go_roundw
   case rel=>exact⟨i+1,_,by have:=HE.o;have:=HM.o;congr 1;omega,by go_num,⟨by have h_:=of_eq_true q5;omega⟩,⟨by rw[C0i];exact HY.o.1,fun j hj=>by
    by_cases hc:j=i
    ·subst hc;rw[List.getElem?_set_self HI2.o,← HE.o];rfl
    ·rw[List.getElem?_set_ne Zo];exact HY.o.2 j Zo⟩,⟨S⟩⟩
   case measure=>have h_:=of_eq_true q5;simp only [intOf];omega
  ·have c1b:decide ((i:Int) < (l.length:Int))=false:=C0a Zo
   have c1c:decide (i < l.length)=false:=C0a c1;have hi:i=l.length:=by have:=HI.o;omega
   subst hi;have HE:=B98 (A6n (mf:=A4u) HY.o.1 HY.o.2);clear c1;go_wp2_with fail;go_ret;exact⟨rfl,HE.o ▸ HS.o⟩
theorem A9v {w0 w:World} {ps:List Part} {v:Value} (l:List ByteArray) (hl:l.length≤1048576) (m:Int) (h0:0≤m) (h1:m≤1000000000) (h:St w0 w (Part.row Kd.string 9 v l :: ps)) :
  Calls Tryz.prog 156 #[v,.int .i64 m] w fun e w'=>e=.returned (.int .i64 (m+1 * (l.length:Int)))∧St w0 w' (Part.row Kd.string 9 v (marked A4v 1 l.length m) :: ps):=by
 have HL:=B98 hl;have H0:=B98 h0;have H1:=B98 h1;obtain⟨A,c,rfl⟩:=Kd.R_slice (h.at_R 0 rfl);have HS:=B98 h;clear hl h0 h1 h;go_enter Tryz.func156,Tryz.ntmps156;go_wp2_with fail;go_loopw [1,5] (fun v1 v5 w'=>∃ (i:Nat) (y:List ByteArray),v1=.int .i64 (m+1 * (i:Int))∧v5=.int .i64 i∧A0a (i≤l.length)∧A0a (y.length=l.length∧∀ j,j < i→y[j]? = some (A4v (m+1 * (j:Int))))∧A0a (St w0 w' (Part.row Kd.string 9 (.slice A l.length c) y :: ps))) (fun _ v5 _=>l.length - (intOf v5).toNat)
 case atStart=>exact⟨0,l,by simp,rfl,⟨Nat.zero_le _⟩,⟨rfl,fun j hj=>absurd hj Zo⟩,HS⟩
 case round =>
  clear HS;obtain⟨i,y,rfl,rfl,HI,HY,HS⟩:=hrel;by_cases c1:i < l.length
  ·have c1b:decide ((i:Int) < (l.length:Int))=true:=B99 Zo
   have p5:(0:Int)≤(i:Int):=by omega
   have q5:(i:Int) < (l.length:Int):=by omega
   obtain⟨M,hM⟩:∃ M,M=m+1 * (i:Int):=⟨_,rfl⟩;rw[← hM];have HE:=B98 hM;have HM:=B98 (show 0≤M∧M≤1010000000 by have:=H0.o;have:=H1.o;have:=HL.o;omega);have hy:i < y.length:=by have:=HY.o.1;omega
   have HI2:=B98 hy;obtain⟨u,hu⟩:∃ u,u=y[i]:=⟨_,rfl⟩;have S:=HS.o;rw[show y=y.set i u by rw[hu];exact(List.set_getElem_self hy).symm] at S;obtain⟨go,co,eo,-,-,-,-⟩:=Kd.R_form (S.at_R 0 rfl) (by rw[C0i];omega);obtain⟨rfl,-,rfl⟩:=Value.slice.inj eo;have p6:i < 1048576:=by have:=HL.o;omega
   clear c1 hM hu hy eo HS;replace p5:=eq_true p5;replace q5:=eq_true q5;have e1:wrap64 (M+1)=M+1:=by have:=HM.o;unfold wrap64;omega
   have hz0:wr.cell? ⟨go,i,none⟩=some (.string u):=by rw[← (S.fcell FS HI2.o 0 (v:=.string u) rfl).1,show Kd.string.sz=1 from rfl,Nat.mul_one];rfl
   have hf0:wr.frozen? ⟨go,i,none⟩=false:=by rw[← (S.fcell FS HI2.o 0 (v:=.string u) rfl).2,show Kd.string.sz=1 from rfl,Nat.mul_one];rfl
   have HS:=B98 S;clear S;go_wp2_with fail;have S:=HS.o;clear HS;refine(A36 (M) (by have:=HM.o;omega) (by have:=HM.o;omega) _).mono ?_;rintro e w1 ⟨rfl,hb⟩;have S:=S.step hb;clear hb hz0 hf0;have hz0:w1.cell? ⟨go,i,none⟩=some (.string u):=by rw[← (S.fcell FS HI2.o 0 (v:=.string u) rfl).1,show Kd.string.sz=1 from rfl,Nat.mul_one];rfl
   have hf0:w1.frozen? ⟨go,i,none⟩=false:=by rw[← (S.fcell FS HI2.o 0 (v:=.string u) rfl).2,show Kd.string.sz=1 from rfl,Nat.mul_one];rfl
   have HS:=B98 S;clear S;go_wp2_with fail;have S:=HS.o;have S:=S.fld FS (x':=(A4z (M):ByteArray)) HI2.o 0 Zd (v:=.string (A4z (M))) rfl;rw[show Kd.string.sz=1 from rfl,Nat.mul_one,Nat.add_zero] at S;go_roundw
   case rel=>exact⟨i+1,_,by have:=HE.o;have:=HM.o;congr 1;omega,by go_num,⟨by have h_:=of_eq_true q5;omega⟩,⟨by rw[C0i];exact HY.o.1,fun j hj=>by
    by_cases hc:j=i
    ·subst hc;rw[List.getElem?_set_self HI2.o,← HE.o];rfl
    ·rw[List.getElem?_set_ne Zo];exact HY.o.2 j Zo⟩,⟨S⟩⟩
   case measure=>have h_:=of_eq_true q5;simp only [intOf];omega
  ·have c1b:decide ((i:Int) < (l.length:Int))=false:=C0a Zo
   have c1c:decide (i < l.length)=false:=C0a c1;have hi:i=l.length:=by have:=HI.o;omega
   subst hi;have HE:=B98 (A6n (mf:=A4v) HY.o.1 HY.o.2);clear c1;go_wp2_with fail;go_ret;exact⟨rfl,HE.o ▸ HS.o⟩
theorem B34 {w0 w:World} {ps:List Part} {v:Value} (l:List Int) (hl:l.length≤1048576) (m:Int) (h0:0≤m) (h1:m≤1000000000) (h:St w0 w (Part.row (Kd.int .i64) 3 v l :: ps)) :
  Calls Tryz.prog 157 #[v,.int .i64 m] w fun e w'=>e=.returned (.int .i64 (m+1 * (l.length:Int)))∧St w0 w' (Part.row (Kd.int .i64) 3 v (marked A6a 1 l.length m) :: ps):=by
 have HL:=B98 hl;have H0:=B98 h0;have H1:=B98 h1;obtain⟨A,c,rfl⟩:=Kd.R_slice (h.at_R 0 rfl);have HS:=B98 h;clear hl h0 h1 h;go_enter Tryz.func157,Tryz.ntmps157;go_wp2_with fail;go_loopw [1,5] (fun v1 v5 w'=>∃ (i:Nat) (y:List Int),v1=.int .i64 (m+1 * (i:Int))∧v5=.int .i64 i∧A0a (i≤l.length)∧A0a (y.length=l.length∧∀ j,j < i→y[j]? = some (A6a (m+1 * (j:Int))))∧A0a (St w0 w' (Part.row (Kd.int .i64) 3 (.slice A l.length c) y :: ps))) (fun _ v5 _=>l.length - (intOf v5).toNat)
 case atStart=>exact⟨0,l,by simp,rfl,⟨Nat.zero_le _⟩,⟨rfl,fun j hj=>absurd hj Zo⟩,HS⟩
 case round =>
  clear HS;obtain⟨i,y,rfl,rfl,HI,HY,HS⟩:=hrel;by_cases c1:i < l.length
  ·have c1b:decide ((i:Int) < (l.length:Int))=true:=B99 Zo
   have p5:(0:Int)≤(i:Int):=by omega
   have q5:(i:Int) < (l.length:Int):=by omega
   obtain⟨M,hM⟩:∃ M,M=m+1 * (i:Int):=⟨_,rfl⟩;rw[← hM];have HE:=B98 hM;have HM:=B98 (show 0≤M∧M≤1010000000 by have:=H0.o;have:=H1.o;have:=HL.o;omega);have hy:i < y.length:=by have:=HY.o.1;omega
   have HI2:=B98 hy;obtain⟨u,hu⟩:∃ u,u=y[i]:=⟨_,rfl⟩;have S:=HS.o;rw[show y=y.set i u by rw[hu];exact(List.set_getElem_self hy).symm] at S;obtain⟨go,co,eo,-,-,-,-⟩:=Kd.R_form (S.at_R 0 rfl) (by rw[C0i];omega);obtain⟨rfl,-,rfl⟩:=Value.slice.inj eo;have p6:i < 1048576:=by have:=HL.o;omega
   clear c1 hM hu hy eo HS;replace p5:=eq_true p5;replace q5:=eq_true q5;have e1:wrap64 (M+1)=M+1:=by have:=HM.o;unfold wrap64;omega
   have hz0:wr.cell? ⟨go,i,none⟩=some (.int .i64 u):=by rw[← (S.fcell FI HI2.o 0 (v:=.int .i64 u) rfl).1,show(Kd.int .i64).sz=1 from rfl,Nat.mul_one];rfl
   have hf0:wr.frozen? ⟨go,i,none⟩=false:=by rw[← (S.fcell FI HI2.o 0 (v:=.int .i64 u) rfl).2,show(Kd.int .i64).sz=1 from rfl,Nat.mul_one];rfl
   have HS:=B98 S;clear S;go_wp2_with fail;have S:=HS.o;have S:=S.fld FI (x':=(M:Int)) HI2.o 0 Zd (v:=.int .i64 (M)) rfl;rw[show(Kd.int .i64).sz=1 from rfl,Nat.mul_one,Nat.add_zero] at S;go_roundw
   case rel=>exact⟨i+1,_,by have:=HE.o;have:=HM.o;congr 1;omega,by go_num,⟨by have h_:=of_eq_true q5;omega⟩,⟨by rw[C0i];exact HY.o.1,fun j hj=>by
    by_cases hc:j=i
    ·subst hc;rw[List.getElem?_set_self HI2.o,← HE.o];rfl
    ·rw[List.getElem?_set_ne Zo];exact HY.o.2 j Zo⟩,⟨S⟩⟩
   case measure=>have h_:=of_eq_true q5;simp only [intOf];omega
  ·have c1b:decide ((i:Int) < (l.length:Int))=false:=C0a Zo
   have c1c:decide (i < l.length)=false:=C0a c1;have hi:i=l.length:=by have:=HI.o;omega
   subst hi;have HE:=B98 (A6n (mf:=A6a) HY.o.1 HY.o.2);clear c1;go_wp2_with fail;go_ret;exact⟨rfl,HE.o ▸ HS.o⟩
theorem B2i {A:Option Addr} {c:Nat} (l:List S94) (hl:l.length≤1048576) (m:Int) (h0:0≤m) (h1:m≤1000000000) (w:World) (hA:Kd.C k94 w A l.length l) (hm:∀ (j:Nat) x,l[j]? = some x→x=A59 (m+5 * (j:Int))) :
  Calls Tryz.prog 158 #[.slice A l.length c,.int .i64 m] w fun e w'=>e=.returned (.int .i64 (m+5 * (l.length:Int)))∧Below w.heap.size w w':=by
 have hu:=Tryz.underlying94;have HL:=B98 hl;have H0:=B98 h0;have H1:=B98 h1;have HA:=B98 hA;have HMK:=B98 hm;clear hl h0 h1 hA hm;have HS:=B98 (St.start w);go_enter Tryz.func158,Tryz.ntmps158;go_wp2_with fail;go_loopw [1,5] (fun v1 v5 w'=>∃ (i:Nat),v1=.int .i64 (m+5 * (i:Int))∧v5=.int .i64 i∧A0a (i≤l.length)∧A0a (St w w' [])) (fun _ v5 _=>l.length - (intOf v5).toNat)
 case atStart=>exact⟨0,by simp,rfl,⟨Nat.zero_le _⟩,⟨by first|exact HS.o|exact HS.o.drew|exact HS.o.drew.drew⟩⟩
 case round =>
  clear HS;obtain⟨i,rfl,rfl,HI,HS⟩:=hrel;by_cases c1:i < l.length
  ·have c1b:decide ((i:Int) < (l.length:Int))=true:=B99 Zo
   have p5:(0:Int)≤(i:Int):=by omega
   have q5:(i:Int) < (l.length:Int):=by omega
   obtain⟨M,hM⟩:∃ M,M=m+5 * (i:Int):=⟨_,rfl⟩;rw[← hM];obtain⟨ad,e5,hx0,hx1,hx2,hx3,hx4⟩:=A2d HA.o (i:Int) p5 q5;cases e5;have hk:A0p l (i:Int)=A59 M:=by rw[A41 l i c1,hM];exact HMK.o i _ (C0c c1)
   rw[hk] at hx0 hx1 hx2 hx3 hx4;rw[C0k] at hx0 hx1 hx2 hx3 hx4;dsimp only [A59] at hx0 hx1 hx2 hx3 hx4;have HE:=B98 hM;have HM:=B98 (show 0≤M∧M≤1010000000 by have:=H0.o;have:=H1.o;have:=HL.o;omega);have p6:i < 1048576:=by have:=HL.o;omega
   clear c1 hM hk;replace p5:=eq_true p5;replace q5:=eq_true q5;have e1:wrap64 (M+1)=M+1:=by have:=HM.o;unfold wrap64;omega
   have e2:wrap64 (M+2)=M+2:=by have:=HM.o;unfold wrap64;omega
   have d2:M+1+1=M+2:=by omega
   have e3:wrap64 (M+3)=M+3:=by have:=HM.o;unfold wrap64;omega
   have d3:M+2+1=M+3:=by omega
   have e4:wrap64 (M+4)=M+4:=by have:=HM.o;unfold wrap64;omega
   have d4:M+3+1=M+4:=by omega
   have e5:wrap64 (M+5)=M+5:=by have:=HM.o;unfold wrap64;omega
   have d5:M+4+1=M+5:=by omega
   have hp0:=fun (p:WSt w [])=>p.old hx0;have hp1:=fun (p:WSt w [])=>p.old hx1;have hp2:=fun (p:WSt w [])=>p.old hx2;have hp3:=fun (p:WSt w [])=>p.old hx3;have hp4:=fun (p:WSt w [])=>p.old hx4;replace hx0:=hp0 ⟨wr,HS.o⟩;replace hx1:=hp1 ⟨wr,HS.o⟩;replace hx2:=hp2 ⟨wr,HS.o⟩;replace hx3:=hp3 ⟨wr,HS.o⟩;replace hx4:=hp4 ⟨wr,HS.o⟩;have hne:Nonempty (WSt w []):=⟨⟨wr,HS.o⟩⟩;go_wp2_with fail;refine A0s (C:=fun w'=>∃ p:WSt w [],w'=p.w') Zk Zk ⟨⟨_,HS.o.drew⟩,rfl⟩ ?_
   repeat(go_big_quiet_step ((go_at_call 213;refine(A36 (M+2) (by have:=HM.o;omega) (by have:=HM.o;omega) _).mono ?_;rintro e w2 ⟨rfl,hb⟩;exact⟨rfl,WSt.on _ hb⟩)))
   refine wpQuiet_nil ?_;rintro w9 ⟨⟨w9,S⟩,rfl⟩;clear HS hx0 hx1 hx2 hx3 hx4;have HS:=B98 S;clear S;have hx0:=hp0 ⟨w9,HS.o⟩;have hx1:=hp1 ⟨w9,HS.o⟩;have hx2:=hp2 ⟨w9,HS.o⟩;have hx3:=hp3 ⟨w9,HS.o⟩;have hx4:=hp4 ⟨w9,HS.o⟩;go_wp2_with fail;refine A0s (C:=fun w'=>∃ p:WSt w [],w'=p.w') Zk Zk ⟨⟨_,HS.o.drew⟩,rfl⟩ ?_
   repeat(go_big_quiet_step ((go_at_call 213;refine(A36 (M+3) (by have:=HM.o;omega) (by have:=HM.o;omega) _).mono ?_;rintro e w2 ⟨rfl,hb⟩;exact⟨rfl,WSt.on _ hb⟩)))
   refine wpQuiet_nil ?_;rintro w9 ⟨⟨w9,S⟩,rfl⟩;clear HS hx0 hx1 hx2 hx3 hx4;have HS:=B98 S;clear S;have hx0:=hp0 ⟨w9,HS.o⟩;have hx1:=hp1 ⟨w9,HS.o⟩;have hx2:=hp2 ⟨w9,HS.o⟩;have hx3:=hp3 ⟨w9,HS.o⟩;have hx4:=hp4 ⟨w9,HS.o⟩;go_wp2_with fail;go_roundw
   case rel=>exact⟨i+1,by have:=HE.o;have:=HM.o;congr 1;omega,by go_num,⟨by have h_:=of_eq_true q5;omega⟩,HS⟩
   case measure=>have h_:=of_eq_true q5;simp only [intOf];omega
  ·have c1b:decide ((i:Int) < (l.length:Int))=false:=C0a Zo
   have c1c:decide (i < l.length)=false:=C0a c1;have hi:i=l.length:=by have:=HI.o;omega
   subst hi;clear c1;go_wp2_with fail;go_ret;exact⟨rfl,HS.o.below⟩
theorem A8r {A:Option Addr} {c:Nat} (l:List S151) (hl:l.length≤1048576) (m:Int) (h0:0≤m) (h1:m≤1000000000) (w:World) (hA:Kd.C k151 w A l.length l) (hm:∀ (j:Nat) x,l[j]? = some x→x=A4u (m+2 * (j:Int))) :
  Calls Tryz.prog 159 #[.slice A l.length c,.int .i64 m] w fun e w'=>e=.returned (.int .i64 (m+2 * (l.length:Int)))∧Below w.heap.size w w':=by
 have hu:=Tryz.underlying151;have HL:=B98 hl;have H0:=B98 h0;have H1:=B98 h1;have HA:=B98 hA;have HMK:=B98 hm;clear hl h0 h1 hA hm;have HS:=B98 (St.start w);go_enter Tryz.func159,Tryz.ntmps159;go_wp2_with fail;go_loopw [1,5] (fun v1 v5 w'=>∃ (i:Nat),v1=.int .i64 (m+2 * (i:Int))∧v5=.int .i64 i∧A0a (i≤l.length)∧A0a (St w w' [])) (fun _ v5 _=>l.length - (intOf v5).toNat)
 case atStart=>exact⟨0,by simp,rfl,⟨Nat.zero_le _⟩,⟨by first|exact HS.o|exact HS.o.drew|exact HS.o.drew.drew⟩⟩
 case round =>
  clear HS;obtain⟨i,rfl,rfl,HI,HS⟩:=hrel;by_cases c1:i < l.length
  ·have c1b:decide ((i:Int) < (l.length:Int))=true:=B99 Zo
   have p5:(0:Int)≤(i:Int):=by omega
   have q5:(i:Int) < (l.length:Int):=by omega
   obtain⟨M,hM⟩:∃ M,M=m+2 * (i:Int):=⟨_,rfl⟩;rw[← hM];obtain⟨ad,e5,hx0,hx1⟩:=A1t HA.o (i:Int) p5 q5;cases e5;have hk:A0c l (i:Int)=A4u M:=by rw[A2w l i c1,hM];exact HMK.o i _ (C0c c1)
   rw[hk] at hx0 hx1;rw[C0k] at hx0 hx1;dsimp only [A4u] at hx0 hx1;have HE:=B98 hM;have HM:=B98 (show 0≤M∧M≤1010000000 by have:=H0.o;have:=H1.o;have:=HL.o;omega);have p6:i < 1048576:=by have:=HL.o;omega
   clear c1 hM hk;replace p5:=eq_true p5;replace q5:=eq_true q5;have e1:wrap64 (M+1)=M+1:=by have:=HM.o;unfold wrap64;omega
   have e2:wrap64 (M+2)=M+2:=by have:=HM.o;unfold wrap64;omega
   have d2:M+1+1=M+2:=by omega
   have hp0:=fun (p:WSt w [])=>p.old hx0;have hp1:=fun (p:WSt w [])=>p.old hx1;replace hx0:=hp0 ⟨wr,HS.o⟩;replace hx1:=hp1 ⟨wr,HS.o⟩;have hne:Nonempty (WSt w []):=⟨⟨wr,HS.o⟩⟩;go_wp2_with fail;refine A0s (C:=fun w'=>∃ p:WSt w [],w'=p.w') Zk Zk ⟨⟨_,HS.o.drew⟩,rfl⟩ ?_
   repeat(go_big_quiet_step ((go_at_call 213;refine(A36 (M) (by have:=HM.o;omega) (by have:=HM.o;omega) _).mono ?_;rintro e w2 ⟨rfl,hb⟩;exact⟨rfl,WSt.on _ hb⟩)))
   refine wpQuiet_nil ?_;rintro w9 ⟨⟨w9,S⟩,rfl⟩;clear HS hx0 hx1;have HS:=B98 S;clear S;have hx0:=hp0 ⟨w9,HS.o⟩;have hx1:=hp1 ⟨w9,HS.o⟩;go_wp2_with fail;go_roundw
   case rel=>exact⟨i+1,by have:=HE.o;have:=HM.o;congr 1;omega,by go_num,⟨by have h_:=of_eq_true q5;omega⟩,HS⟩
   case measure=>have h_:=of_eq_true q5;simp only [intOf];omega
  ·have c1b:decide ((i:Int) < (l.length:Int))=false:=C0a Zo
   have c1c:decide (i < l.length)=false:=C0a c1;have hi:i=l.length:=by have:=HI.o;omega
   subst hi;clear c1;go_wp2_with fail;go_ret;exact⟨rfl,HS.o.below⟩
theorem A9w {A:Option Addr} {c:Nat} (l:List ByteArray) (hl:l.length≤1048576) (m:Int) (h0:0≤m) (h1:m≤1000000000) (w:World) (hA:Kd.C Kd.string w A l.length l) (hm:∀ (j:Nat) x,l[j]? = some x→x=A4v (m+1 * (j:Int))) :
  Calls Tryz.prog 160 #[.slice A l.length c,.int .i64 m] w fun e w'=>e=.returned (.int .i64 (m+1 * (l.length:Int)))∧Below w.heap.size w w':=by
 have HL:=B98 hl;have H0:=B98 h0;have H1:=B98 h1;have HA:=B98 hA;have HMK:=B98 hm;clear hl h0 h1 hA hm;have HS:=B98 (St.start w);go_enter Tryz.func160,Tryz.ntmps160;go_wp2_with fail;go_loopw [1,5] (fun v1 v5 w'=>∃ (i:Nat),v1=.int .i64 (m+1 * (i:Int))∧v5=.int .i64 i∧A0a (i≤l.length)∧A0a (St w w' [])) (fun _ v5 _=>l.length - (intOf v5).toNat)
 case atStart=>exact⟨0,by simp,rfl,⟨Nat.zero_le _⟩,⟨by first|exact HS.o|exact HS.o.drew|exact HS.o.drew.drew⟩⟩
 case round =>
  clear HS;obtain⟨i,rfl,rfl,HI,HS⟩:=hrel;by_cases c1:i < l.length
  ·have c1b:decide ((i:Int) < (l.length:Int))=true:=B99 Zo
   have p5:(0:Int)≤(i:Int):=by omega
   have q5:(i:Int) < (l.length:Int):=by omega
   obtain⟨M,hM⟩:∃ M,M=m+1 * (i:Int):=⟨_,rfl⟩;rw[← hM];obtain⟨ad,e5,hx0⟩:=Kd.at_string HA.o (i:Int) p5 q5;cases e5;have hk:rdOf ByteArray.empty l (i:Int)=A4v M:=by rw[A2g l i c1,hM];exact HMK.o i _ (C0c c1)
   rw[hk] at hx0;rw[C0k] at hx0;dsimp only [A4v] at hx0;have HE:=B98 hM;have HM:=B98 (show 0≤M∧M≤1010000000 by have:=H0.o;have:=H1.o;have:=HL.o;omega);have p6:i < 1048576:=by have:=HL.o;omega
   clear c1 hM hk;replace p5:=eq_true p5;replace q5:=eq_true q5;have e1:wrap64 (M+1)=M+1:=by have:=HM.o;unfold wrap64;omega
   have hp0:=fun (p:WSt w [])=>p.old hx0;replace hx0:=hp0 ⟨wr,HS.o⟩;have hne:Nonempty (WSt w []):=⟨⟨wr,HS.o⟩⟩;go_wp2_with fail;refine A0s (C:=fun w'=>∃ p:WSt w [],w'=p.w') Zk Zk ⟨⟨_,HS.o.drew⟩,rfl⟩ ?_
   repeat(go_big_quiet_step ((go_at_call 213;refine(A36 (M) (by have:=HM.o;omega) (by have:=HM.o;omega) _).mono ?_;rintro e w2 ⟨rfl,hb⟩;exact⟨rfl,WSt.on _ hb⟩)))
   refine wpQuiet_nil ?_;rintro w9 ⟨⟨w9,S⟩,rfl⟩;clear HS hx0;have HS:=B98 S;clear S;have hx0:=hp0 ⟨w9,HS.o⟩;go_wp2_with fail;go_roundw
   case rel=>exact⟨i+1,by have:=HE.o;have:=HM.o;congr 1;omega,by go_num,⟨by have h_:=of_eq_true q5;omega⟩,HS⟩
   case measure=>have h_:=of_eq_true q5;simp only [intOf];omega
  ·have c1b:decide ((i:Int) < (l.length:Int))=false:=C0a Zo
   have c1c:decide (i < l.length)=false:=C0a c1;have hi:i=l.length:=by have:=HI.o;omega
   subst hi;clear c1;go_wp2_with fail;go_ret;exact⟨rfl,HS.o.below⟩
theorem B35 {A:Option Addr} {c:Nat} (l:List Int) (hl:l.length≤1048576) (m:Int) (h0:0≤m) (h1:m≤1000000000) (w:World) (hA:Kd.C (Kd.int .i64) w A l.length l) (hm:∀ (j:Nat) x,l[j]? = some x→x=A6a (m+1 * (j:Int))) :
  Calls Tryz.prog 161 #[.slice A l.length c,.int .i64 m] w fun e w'=>e=.returned (.int .i64 (m+1 * (l.length:Int)))∧Below w.heap.size w w':=by
 have HL:=B98 hl;have H0:=B98 h0;have H1:=B98 h1;have HA:=B98 hA;have HMK:=B98 hm;clear hl h0 h1 hA hm;have HS:=B98 (St.start w);go_enter Tryz.func161,Tryz.ntmps161;go_wp2_with fail;go_loopw [1,5] (fun v1 v5 w'=>∃ (i:Nat),v1=.int .i64 (m+1 * (i:Int))∧v5=.int .i64 i∧A0a (i≤l.length)∧A0a (St w w' [])) (fun _ v5 _=>l.length - (intOf v5).toNat)
 case atStart=>exact⟨0,by simp,rfl,⟨Nat.zero_le _⟩,⟨by first|exact HS.o|exact HS.o.drew|exact HS.o.drew.drew⟩⟩
 case round =>
  clear HS;obtain⟨i,rfl,rfl,HI,HS⟩:=hrel;by_cases c1:i < l.length
  ·have c1b:decide ((i:Int) < (l.length:Int))=true:=B99 Zo
   have p5:(0:Int)≤(i:Int):=by omega
   have q5:(i:Int) < (l.length:Int):=by omega
   obtain⟨M,hM⟩:∃ M,M=m+1 * (i:Int):=⟨_,rfl⟩;rw[← hM];obtain⟨ad,e5,hx0⟩:=Kd.at_int HA.o (i:Int) p5 q5;cases e5;have hk:rd l (i:Int)=A6a M:=by rw[B2t l i c1,hM];exact HMK.o i _ (C0c c1)
   rw[hk] at hx0;rw[C0k] at hx0;dsimp only [A6a] at hx0;have HE:=B98 hM;have HM:=B98 (show 0≤M∧M≤1010000000 by have:=H0.o;have:=H1.o;have:=HL.o;omega);have p6:i < 1048576:=by have:=HL.o;omega
   clear c1 hM hk;replace p5:=eq_true p5;replace q5:=eq_true q5;have e1:wrap64 (M+1)=M+1:=by have:=HM.o;unfold wrap64;omega
   have hp0:=fun (p:WSt w [])=>p.old hx0;replace hx0:=hp0 ⟨wr,HS.o⟩;have hne:Nonempty (WSt w []):=⟨⟨wr,HS.o⟩⟩;go_wp2_with fail;go_roundw
   case rel=>exact⟨i+1,by have:=HE.o;have:=HM.o;congr 1;omega,by go_num,⟨by have h_:=of_eq_true q5;omega⟩,HS⟩
   case measure=>have h_:=of_eq_true q5;simp only [intOf];omega
  ·have c1b:decide ((i:Int) < (l.length:Int))=false:=C0a Zo
   have c1c:decide (i < l.length)=false:=C0a c1;have hi:i=l.length:=by have:=HI.o;omega
   subst hi;clear c1;go_wp2_with fail;go_ret;exact⟨rfl,HS.o.below⟩
theorem B2j {w0 w:World} {ps:List Part} {A0:Option Addr} {c0:Nat} (l0:List S94) (s0:l0.length≤1048576) (a1:Int) (m:Int) (h0:0≤m) (h1:m≤900000000) (h:St w0 w (Part.row k94 94 (.slice A0 l0.length c0) l0 :: ps)):Calls Tryz.prog 77 #[.agg #[.slice A0 l0.length c0,.int .i64 a1],.int .i64 m] w fun e w'=>e=.returned (.int .i64 (m+5 * (l0.length:Int)))∧St w0 w' (Part.row k94 94 (.slice A0 l0.length c0) (marked A59 5 l0.length (m)) :: ps):=by
 have H0:=B98 h0;have H1:=B98 h1;have HS:=B98 h;clear h0 h1 h;go_enter Tryz.func77,Tryz.ntmps77;go_wp2_with (first|((with_reducible refine A0b (N:=2) rfl ?_);refine boxS HS (N:=2) fun g2 w2 S=>?_;clear HS;have HS:=B98 S;obtain⟨hc0,hc1⟩:=S.cells2 0 rfl;clear S));have S:=HS.o.front 1 rfl rfl;clear HS hc0 hc1;refine(B2h l0 s0 (m) (by have:=H0.o;omega) (by have:=H1.o;omega) S).mono ?_;rintro e w5 ⟨rfl,S⟩;have HS:=B98 S;obtain⟨hc0,hc1⟩:=S.cells2 1 rfl;clear S;go_wp2_with fail;go_ret;have S:=HS.o;exact⟨by first|rfl|(rw[Int.one_mul];rfl),(S.front 1 rfl rfl).tail⟩
theorem B2k {w0 w:World} {ps:List Part} {A0:Option Addr} {c0:Nat} (l0:List S151) (s0:l0.length≤1048576) {A1:Option Addr} {c1:Nat} (l1:List S151) (s1:l1.length≤1048576) (a2:Int) (m:Int) (h0:0≤m) (h1:m≤900000000) (h:St w0 w (Part.row k151 151 (.slice A0 l0.length c0) l0 :: Part.row k151 151 (.slice A1 l1.length c1) l1 :: ps)):Calls Tryz.prog 78 #[.agg #[.slice A0 l0.length c0,.slice A1 l1.length c1,.int .i64 a2],.int .i64 m] w fun e w'=>e=.returned (.int .i64 (m+2 * (l0.length:Int)+2 * (l1.length:Int)))∧St w0 w' (Part.row k151 151 (.slice A0 l0.length c0) (marked A4u 2 l0.length (m)) :: Part.row k151 151 (.slice A1 l1.length c1) (marked A4u 2 l1.length (m+2 * (l0.length:Int))) :: ps):=by
 have H0:=B98 h0;have H1:=B98 h1;have HS:=B98 h;clear h0 h1 h;go_enter Tryz.func78,Tryz.ntmps78;go_wp2_with (first|((with_reducible refine A0b (N:=2) rfl ?_);refine boxS HS (N:=2) fun g2 w2 S=>?_;clear HS;have HS:=B98 S;obtain⟨hc0,hc1,hc2⟩:=S.cells3 0 rfl;clear S));have S:=HS.o.front 1 rfl rfl;clear HS hc0 hc1 hc2;refine(A8q l0 s0 (m) (by have:=H0.o;omega) (by have:=H1.o;omega) S).mono ?_;rintro e w5 ⟨rfl,S⟩;have HS:=B98 S;obtain⟨hc0,hc1,hc2⟩:=S.cells3 1 rfl;clear S;go_wp2_with fail;have S:=HS.o.front 2 rfl rfl;clear HS hc0 hc1 hc2;refine(A8q l1 s1 (m+2 * (l0.length:Int)) (by have:=H0.o;omega) (by have:=H1.o;omega) S).mono ?_;rintro e w6 ⟨rfl,S⟩;have HS:=B98 S;obtain⟨hc0,hc1,hc2⟩:=S.cells3 2 rfl;clear S;go_wp2_with fail;go_ret;have S:=HS.o;have S:=S.front 1 rfl rfl;exact⟨by first|rfl|(rw[Int.one_mul];rfl),(S.front 2 rfl rfl).tail⟩
theorem A65 {w0 w:World} {ps:List Part} (a0:Int) {A1:Option Addr} {c1:Nat} (l1:List ByteArray) (s1:l1.length≤1048576) (m:Int) (h0:0≤m) (h1:m≤900000000) (h:St w0 w (Part.row Kd.string 9 (.slice A1 l1.length c1) l1 :: ps)):Calls Tryz.prog 79 #[.agg #[.int .i64 a0,.slice A1 l1.length c1],.int .i64 m] w fun e w'=>e=.returned (.int .i64 (m+1 * (l1.length:Int)))∧St w0 w' (Part.row Kd.string 9 (.slice A1 l1.length c1) (marked A4v 1 l1.length (m)) :: ps):=by
 have H0:=B98 h0;have H1:=B98 h1;have HS:=B98 h;clear h0 h1 h;go_enter Tryz.func79,Tryz.ntmps79;go_wp2_with (first|((with_reducible refine A0b (N:=2) rfl ?_);refine boxS HS (N:=2) fun g2 w2 S=>?_;clear HS;have HS:=B98 S;obtain⟨hc0,hc1⟩:=S.cells2 0 rfl;clear S));have S:=HS.o.front 1 rfl rfl;clear HS hc0 hc1;refine(A9v l1 s1 (m) (by have:=H0.o;omega) (by have:=H1.o;omega) S).mono ?_;rintro e w5 ⟨rfl,S⟩;have HS:=B98 S;obtain⟨hc0,hc1⟩:=S.cells2 1 rfl;clear S;go_wp2_with fail;go_ret;have S:=HS.o;exact⟨by first|rfl|(rw[Int.one_mul];rfl),(S.front 1 rfl rfl).tail⟩
theorem B01 {w0 w:World} {ps:List Part} {A0:Option Addr} {c0:Nat} (l0:List Int) (s0:l0.length≤1048576) (a1:Int) (m:Int) (h0:0≤m) (h1:m≤900000000) (h:St w0 w (Part.row (Kd.int .i64) 3 (.slice A0 l0.length c0) l0 :: ps)):Calls Tryz.prog 80 #[.agg #[.slice A0 l0.length c0,.int .i64 a1],.int .i64 m] w fun e w'=>e=.returned (.int .i64 (m+1 * (l0.length:Int)))∧St w0 w' (Part.row (Kd.int .i64) 3 (.slice A0 l0.length c0) (marked A6a 1 l0.length (m)) :: ps):=by
 have H0:=B98 h0;have H1:=B98 h1;have HS:=B98 h;clear h0 h1 h;go_enter Tryz.func80,Tryz.ntmps80;go_wp2_with (first|((with_reducible refine A0b (N:=2) rfl ?_);refine boxS HS (N:=2) fun g2 w2 S=>?_;clear HS;have HS:=B98 S;obtain⟨hc0,hc1⟩:=S.cells2 0 rfl;clear S));have S:=HS.o.front 1 rfl rfl;clear HS hc0 hc1;refine(B34 l0 s0 (m) (by have:=H0.o;omega) (by have:=H1.o;omega) S).mono ?_;rintro e w5 ⟨rfl,S⟩;have HS:=B98 S;obtain⟨hc0,hc1⟩:=S.cells2 1 rfl;clear S;go_wp2_with fail;go_ret;have S:=HS.o;exact⟨by first|rfl|(rw[Int.one_mul];rfl),(S.front 1 rfl rfl).tail⟩
theorem B2l {A0:Option Addr} {c0:Nat} (l0:List S94) (s0:l0.length≤1048576) (a1:Int) (m:Int) (h0:0≤m) (h1:m≤900000000) (w:World) (hA0:Kd.C k94 w A0 l0.length l0) (hm0:∀ (j:Nat) x,l0[j]? = some x→x=A59 (m+5 * (j:Int))):Calls Tryz.prog 81 #[.agg #[.slice A0 l0.length c0,.int .i64 a1],.int .i64 m] w fun e w'=>e=.returned (.int .i64 (m+5 * (l0.length:Int)))∧Below w.heap.size w w':=by
 have HA0:=B98 hA0;clear hA0;have H0:=B98 h0;have H1:=B98 h1;have HS:=B98 (St.start w);clear h0 h1;go_enter Tryz.func81,Tryz.ntmps81;go_wp2_with (first|((with_reducible refine A0b (N:=2) rfl ?_);refine boxS HS (N:=2) fun g2 w2 S=>?_;clear HS;have HS:=B98 S;obtain⟨hc0,hc1⟩:=S.cells2 0 rfl;clear S));have hb:=HS.o.below;refine(B2i l0 s0 (m) (by have:=H0.o;omega) (by have:=H1.o;omega) _ (Kd.C_below HA0.o hb) hm0).mono ?_;clear hb;rintro e w5 ⟨rfl,hb⟩;have S:=HS.o.step hb;clear HS hb hc0 hc1;have HS:=B98 S;obtain⟨hc0,hc1⟩:=S.cells2 0 rfl;clear S;have t0:decide (m+5 * (l0.length:Int) < 0)=false:=C0a (by have:=H0.o;omega);have d0:=t0;try rw[Int.one_mul] at d0
 go_wp2_with fail;go_ret;exact⟨by first|rfl|(rw[Int.one_mul];rfl),HS.o.below⟩
theorem B2m {A0:Option Addr} {c0:Nat} (l0:List S151) (s0:l0.length≤1048576) {A1:Option Addr} {c1:Nat} (l1:List S151) (s1:l1.length≤1048576) (a2:Int) (m:Int) (h0:0≤m) (h1:m≤900000000) (w:World) (hA0:Kd.C k151 w A0 l0.length l0) (hm0:∀ (j:Nat) x,l0[j]? = some x→x=A4u (m+2 * (j:Int))) (hA1:Kd.C k151 w A1 l1.length l1) (hm1:∀ (j:Nat) x,l1[j]? = some x→x=A4u (m+2 * (l0.length:Int)+2 * (j:Int))):Calls Tryz.prog 82 #[.agg #[.slice A0 l0.length c0,.slice A1 l1.length c1,.int .i64 a2],.int .i64 m] w fun e w'=>e=.returned (.int .i64 (m+2 * (l0.length:Int)+2 * (l1.length:Int)))∧Below w.heap.size w w':=by
 have HA0:=B98 hA0;clear hA0;have HA1:=B98 hA1;clear hA1;have H0:=B98 h0;have H1:=B98 h1;have HS:=B98 (St.start w);clear h0 h1;go_enter Tryz.func82,Tryz.ntmps82;go_wp2_with (first|((with_reducible refine A0b (N:=2) rfl ?_);refine boxS HS (N:=2) fun g2 w2 S=>?_;clear HS;have HS:=B98 S;obtain⟨hc0,hc1,hc2⟩:=S.cells3 0 rfl;clear S));have hb:=HS.o.below;refine(A8r l0 s0 (m) (by have:=H0.o;omega) (by have:=H1.o;omega) _ (Kd.C_below HA0.o hb) hm0).mono ?_;clear hb;rintro e w5 ⟨rfl,hb⟩;have S:=HS.o.step hb;clear HS hb hc0 hc1 hc2;have HS:=B98 S;obtain⟨hc0,hc1,hc2⟩:=S.cells3 0 rfl;clear S;have t0:decide (m+2 * (l0.length:Int) < 0)=false:=C0a (by have:=H0.o;omega);have d0:=t0;try rw[Int.one_mul] at d0
 go_wp2_with fail;have hb:=HS.o.below;refine(A8r l1 s1 (m+2 * (l0.length:Int)) (by have:=H0.o;omega) (by have:=H1.o;omega) _ (Kd.C_below HA1.o hb) hm1).mono ?_;clear hb;rintro e w6 ⟨rfl,hb⟩;have S:=HS.o.step hb;clear HS hb hc0 hc1 hc2;have HS:=B98 S;obtain⟨hc0,hc1,hc2⟩:=S.cells3 0 rfl;clear S;have t1:decide (m+2 * (l0.length:Int)+2 * (l1.length:Int) < 0)=false:=C0a (by have:=H0.o;omega);have d1:=t1;try rw[Int.one_mul] at d1
 go_wp2_with fail;go_ret;exact⟨by first|rfl|(rw[Int.one_mul];rfl),HS.o.below⟩
theorem A66 (a0:Int) {A1:Option Addr} {c1:Nat} (l1:List ByteArray) (s1:l1.length≤1048576) (m:Int) (h0:0≤m) (h1:m≤900000000) (w:World) (hA1:Kd.C Kd.string w A1 l1.length l1) (hm1:∀ (j:Nat) x,l1[j]? = some x→x=A4v (m+1 * (j:Int))):Calls Tryz.prog 83 #[.agg #[.int .i64 a0,.slice A1 l1.length c1],.int .i64 m] w fun e w'=>e=.returned (.int .i64 (m+1 * (l1.length:Int)))∧Below w.heap.size w w':=by
 have HA1:=B98 hA1;clear hA1;have H0:=B98 h0;have H1:=B98 h1;have HS:=B98 (St.start w);clear h0 h1;go_enter Tryz.func83,Tryz.ntmps83;go_wp2_with (first|((with_reducible refine A0b (N:=2) rfl ?_);refine boxS HS (N:=2) fun g2 w2 S=>?_;clear HS;have HS:=B98 S;obtain⟨hc0,hc1⟩:=S.cells2 0 rfl;clear S));have hb:=HS.o.below;refine(A9w l1 s1 (m) (by have:=H0.o;omega) (by have:=H1.o;omega) _ (Kd.C_below HA1.o hb) hm1).mono ?_;clear hb;rintro e w5 ⟨rfl,hb⟩;have S:=HS.o.step hb;clear HS hb hc0 hc1;have HS:=B98 S;obtain⟨hc0,hc1⟩:=S.cells2 0 rfl;clear S;have t0:decide (m+1 * (l1.length:Int) < 0)=false:=C0a (by have:=H0.o;omega);have d0:=t0;try rw[Int.one_mul] at d0
 go_wp2_with fail;go_ret;exact⟨by first|rfl|(rw[Int.one_mul];rfl),HS.o.below⟩
theorem B02 {A0:Option Addr} {c0:Nat} (l0:List Int) (s0:l0.length≤1048576) (a1:Int) (m:Int) (h0:0≤m) (h1:m≤900000000) (w:World) (hA0:Kd.C (Kd.int .i64) w A0 l0.length l0) (hm0:∀ (j:Nat) x,l0[j]? = some x→x=A6a (m+1 * (j:Int))):Calls Tryz.prog 84 #[.agg #[.slice A0 l0.length c0,.int .i64 a1],.int .i64 m] w fun e w'=>e=.returned (.int .i64 (m+1 * (l0.length:Int)))∧Below w.heap.size w w':=by
 have HA0:=B98 hA0;clear hA0;have H0:=B98 h0;have H1:=B98 h1;have HS:=B98 (St.start w);clear h0 h1;go_enter Tryz.func84,Tryz.ntmps84;go_wp2_with (first|((with_reducible refine A0b (N:=2) rfl ?_);refine boxS HS (N:=2) fun g2 w2 S=>?_;clear HS;have HS:=B98 S;obtain⟨hc0,hc1⟩:=S.cells2 0 rfl;clear S));have hb:=HS.o.below;refine(B35 l0 s0 (m) (by have:=H0.o;omega) (by have:=H1.o;omega) _ (Kd.C_below HA0.o hb) hm0).mono ?_;clear hb;rintro e w5 ⟨rfl,hb⟩;have S:=HS.o.step hb;clear HS hb hc0 hc1;have HS:=B98 S;obtain⟨hc0,hc1⟩:=S.cells2 0 rfl;clear S;have t0:decide (m+1 * (l0.length:Int) < 0)=false:=C0a (by have:=H0.o;omega);have d0:=t0;try rw[Int.one_mul] at d0
 go_wp2_with fail;go_ret;exact⟨by first|rfl|(rw[Int.one_mul];rfl),HS.o.below⟩
structure Nr.short (n:Nr):Prop where
 s0:n.sl.length≤1048576
 s2:n.ce.length≤1048576
 s3:n.old.length≤1048576
 s6:n.wk.length≤1048576
 s8:n.tk.length≤1048576
 s10:n.sk.length≤1048576
 s11:n.ct.length≤1048576
theorem Nr.small.short {n:Nr} (h:n.small):n.short:=⟨h.s0,h.s2,h.s3,h.s6,h.s8,h.s10,h.s11⟩
def Nr.k1 (n:Nr):Int:=1+5 * (n.sl.length:Int)
def Nr.k2 (n:Nr):Int:=n.k1+2 * (n.ce.length:Int)
def Nr.k3 (n:Nr):Int:=n.k2+2 * (n.old.length:Int)
def Nr.k4 (n:Nr):Int:=n.k3+1 * (n.wk.length:Int)
def Nr.k5 (n:Nr):Int:=n.k4+1 * (n.tk.length:Int)
def Nr.k6 (n:Nr):Int:=n.k5+1 * (n.sk.length:Int)
def Nr.k7 (n:Nr):Int:=n.k6+1 * (n.ct.length:Int)
theorem Nr.short.ks {n:Nr} (h:n.short):(0≤n.k1∧n.k1≤20000000)∧(0≤n.k2∧n.k2≤20000000)∧(0≤n.k3∧n.k3≤20000000)∧(0≤n.k4∧n.k4≤20000000)∧(0≤n.k5∧n.k5≤20000000)∧(0≤n.k6∧n.k6≤20000000)∧(0≤n.k7∧n.k7≤20000000):=by
 obtain⟨h1,h2,h3,h4,h5,h6,h7⟩:=h;unfold Nr.k7 Nr.k6 Nr.k5 Nr.k4 Nr.k3 Nr.k2 Nr.k1;omega
noncomputable def Nr.marked (n:Nr):Nr:=⟨Nb.marked A59 5 n.sl.length 1,n.fr,Nb.marked A4u 2 n.ce.length n.k1,Nb.marked A4u 2 n.old.length n.k2,n.mv,n.wm,Nb.marked A4v 1 n.wk.length n.k3,n.tm,Nb.marked A4v 1 n.tk.length n.k4,n.sm,Nb.marked A4v 1 n.sk.length n.k5,Nb.marked A6a 1 n.ct.length n.k6,n.ad,n.db⟩
structure Nr.isMarked (n:Nr):Prop where
 m0:∀ (j:Nat) x,n.sl[j]? = some x→x=A59 (1+5 * (j:Int))
 m2:∀ (j:Nat) x,n.ce[j]? = some x→x=A4u (n.k1+2 * (j:Int))
 m3:∀ (j:Nat) x,n.old[j]? = some x→x=A4u (n.k2+2 * (j:Int))
 m6:∀ (j:Nat) x,n.wk[j]? = some x→x=A4v (n.k3+1 * (j:Int))
 m8:∀ (j:Nat) x,n.tk[j]? = some x→x=A4v (n.k4+1 * (j:Int))
 m10:∀ (j:Nat) x,n.sk[j]? = some x→x=A4v (n.k5+1 * (j:Int))
 m11:∀ (j:Nat) x,n.ct[j]? = some x→x=A6a (n.k6+1 * (j:Int))
theorem Nr.marked_ks (n:Nr):n.marked.k1=n.k1∧n.marked.k2=n.k2∧n.marked.k3=n.k3∧n.marked.k4=n.k4∧n.marked.k5=n.k5∧n.marked.k6=n.k6∧n.marked.k7=n.k7:=by
 simp only [Nr.k7,Nr.k6,Nr.k5,Nr.k4,Nr.k3,Nr.k2,Nr.k1,Nr.marked,A64,and_self]
theorem Nr.marked_is (n:Nr):n.marked.isMarked:=by
 obtain⟨e1,e2,e3,e4,e5,e6,-⟩:=n.marked_ks;refine⟨?_,?_,?_,?_,?_,?_,?_⟩
 ·exact A4k
 ·rw[e1];exact A4k
 ·rw[e2];exact A4k
 ·rw[e3];exact A4k
 ·rw[e4];exact A4k
 ·rw[e5];exact A4k
 ·rw[e6];exact A4k
theorem Nr.short.marked {n:Nr} (h:n.short):n.marked.short:=by
 refine⟨?_,?_,?_,?_,?_,?_,?_⟩ <;> simp only [Nr.marked,A64]
 ·exact h.s0
 ·exact h.s2
 ·exact h.s3
 ·exact h.s6
 ·exact h.s8
 ·exact h.s10
 ·exact h.s11
theorem A9x {w0 w:World} {ps:List Part} (u:NV) (n:Nr) (hn:n.short) (h:St w0 w (u.rows n ++ ps)):Calls Tryz.prog 25 #[.agg (u.cells n),.int .i64 1] w fun e w'=>e=.returned (.int .i64 n.k7)∧St w0 w' (u.rows n.marked ++ ps):=by
 obtain⟨A0,c0,A2,c2,A3,c3,A6,c6,A8,c8,A10,c10,A11,c11,rfl⟩:=NV.shape h;have HN:=B98 hn;have HK:=B98 hn.ks;have HS:=B98 h;clear hn h;dsimp only [NV.cells];go_enter Tryz.func25,Tryz.ntmps25;go_wp2_with (first|((with_reducible refine A0b (N:=2) rfl ?_);refine boxS HS (N:=2) fun g2 w2 S=>?_;clear HS;have HS:=B98 S;obtain⟨hc0,hc1,hc2,hc3,hc4,hc5,hc6,hc7,hc8,hc9,hc10,hc11,hc12,hc13⟩:=S.cells14 0 rfl;clear S));have S:=HS.o;have S:=S.front 1 rfl rfl;clear HS hc0 hc1 hc2 hc3 hc4 hc5 hc6 hc7 hc8 hc9 hc10 hc11 hc12 hc13;refine(B2j n.sl HN.o.s0 n.fr 1 Zo Zo S).mono ?_;rintro e x0 ⟨rfl,S⟩;have HS:=B98 S;obtain⟨hc0,hc1,hc2,hc3,hc4,hc5,hc6,hc7,hc8,hc9,hc10,hc11,hc12,hc13⟩:=S.cells14 1 rfl;clear S;rw[show 1+5 * (n.sl.length:Int)=n.k1 from rfl];go_wp2_with fail;have S:=HS.o;have S:=(S.front 3 rfl rfl).front 3 rfl rfl;clear HS hc0 hc1 hc2 hc3 hc4 hc5 hc6 hc7 hc8 hc9 hc10 hc11 hc12 hc13;refine(B2k n.ce HN.o.s2 n.old HN.o.s3 n.mv n.k1 HK.o.1.1 (by have:=HK.o;omega) S).mono ?_;rintro e x1 ⟨rfl,S⟩;have HS:=B98 S;obtain⟨hc0,hc1,hc2,hc3,hc4,hc5,hc6,hc7,hc8,hc9,hc10,hc11,hc12,hc13⟩:=S.cells14 3 rfl;clear S;rw[show n.k1+2 * (n.ce.length:Int)+2 * (n.old.length:Int)=n.k3 from rfl];go_wp2_with fail;have S:=HS.o;have S:=S.front 4 rfl rfl;clear HS hc0 hc1 hc2 hc3 hc4 hc5 hc6 hc7 hc8 hc9 hc10 hc11 hc12 hc13;refine(A65 n.wm n.wk HN.o.s6 n.k3 HK.o.2.2.1.1 (by have:=HK.o;omega) S).mono ?_;rintro e x2 ⟨rfl,S⟩;have HS:=B98 S;obtain⟨hc0,hc1,hc2,hc3,hc4,hc5,hc6,hc7,hc8,hc9,hc10,hc11,hc12,hc13⟩:=S.cells14 4 rfl;clear S;rw[show n.k3+1 * (n.wk.length:Int)=n.k4 from rfl];go_wp2_with fail;have S:=HS.o;have S:=S.front 5 rfl rfl;clear HS hc0 hc1 hc2 hc3 hc4 hc5 hc6 hc7 hc8 hc9 hc10 hc11 hc12 hc13;refine(A65 n.tm n.tk HN.o.s8 n.k4 HK.o.2.2.2.1.1 (by have:=HK.o;omega) S).mono ?_;rintro e x3 ⟨rfl,S⟩;have HS:=B98 S;obtain⟨hc0,hc1,hc2,hc3,hc4,hc5,hc6,hc7,hc8,hc9,hc10,hc11,hc12,hc13⟩:=S.cells14 5 rfl;clear S;rw[show n.k4+1 * (n.tk.length:Int)=n.k5 from rfl];go_wp2_with fail;have S:=HS.o;have S:=S.front 6 rfl rfl;clear HS hc0 hc1 hc2 hc3 hc4 hc5 hc6 hc7 hc8 hc9 hc10 hc11 hc12 hc13;refine(A65 n.sm n.sk HN.o.s10 n.k5 HK.o.2.2.2.2.1.1 (by have:=HK.o;omega) S).mono ?_;rintro e x4 ⟨rfl,S⟩;have HS:=B98 S;obtain⟨hc0,hc1,hc2,hc3,hc4,hc5,hc6,hc7,hc8,hc9,hc10,hc11,hc12,hc13⟩:=S.cells14 6 rfl;clear S;rw[show n.k5+1 * (n.sk.length:Int)=n.k6 from rfl];go_wp2_with fail;have S:=HS.o;have S:=S.front 7 rfl rfl;clear HS hc0 hc1 hc2 hc3 hc4 hc5 hc6 hc7 hc8 hc9 hc10 hc11 hc12 hc13;refine(B01 n.ct HN.o.s11 n.ad n.k6 HK.o.2.2.2.2.2.1.1 (by have:=HK.o;omega) S).mono ?_;rintro e x5 ⟨rfl,S⟩;have HS:=B98 S;obtain⟨hc0,hc1,hc2,hc3,hc4,hc5,hc6,hc7,hc8,hc9,hc10,hc11,hc12,hc13⟩:=S.cells14 7 rfl;clear S;rw[show n.k6+1 * (n.ct.length:Int)=n.k7 from rfl];go_wp2_with fail;go_ret;have S:=HS.o;have S:=(S.front 1 rfl rfl).front 2 rfl rfl;have S:=(S.front 3 rfl rfl).front 5 rfl rfl;have S:=(S.front 5 rfl rfl).front 6 rfl rfl;exact⟨rfl,(S.front 7 rfl rfl).tail⟩
theorem A9y (w:World) (u:NV) (n:Nr) (hn:n.short) (hm:n.isMarked) (hC:A2c w u n):Calls Tryz.prog 26 #[.agg (u.cells n),.int .i64 1] w fun e w'=>e=.returned (.int .i64 n.k7)∧Below w.heap.size w w':=by
 obtain⟨A0,c0,A2,c2,A3,c3,A6,c6,A8,c8,A10,c10,A11,c11,rfl,hF⟩:=hC.open_;have HF:=B98 hF;have HN:=B98 hn;have HM:=B98 hm;have HK:=B98 hn.ks;have HS:=B98 (St.start w);clear hn hF hC hm;dsimp only [NV.cells];go_enter Tryz.func26,Tryz.ntmps26;go_wp2_with (first|((with_reducible refine A0b (N:=2) rfl ?_);refine boxS HS (N:=2) fun g2 w2 S=>?_;clear HS;have HS:=B98 S;obtain⟨hc0,hc1,hc2,hc3,hc4,hc5,hc6,hc7,hc8,hc9,hc10,hc11,hc12,hc13⟩:=S.cells14 0 rfl;clear S));have hb:=HS.o.below;refine(B2l n.sl HN.o.s0 n.fr 1 Zo Zo _ (HF.o.below hb).h0 HM.o.m0).mono ?_;clear hb;rintro e x0 ⟨rfl,hb⟩;have S:=HS.o.step hb;clear HS hb hc0 hc1 hc2 hc3 hc4 hc5 hc6 hc7 hc8 hc9 hc10 hc11 hc12 hc13;have HS:=B98 S;obtain⟨hc0,hc1,hc2,hc3,hc4,hc5,hc6,hc7,hc8,hc9,hc10,hc11,hc12,hc13⟩:=S.cells14 0 rfl;clear S;rw[show 1+5 * (n.sl.length:Int)=n.k1 from rfl];have t0:decide (n.k1 < 0)=false:=C0a (by have:=HK.o;omega);go_wp2_with fail;have hb:=HS.o.below;refine(B2m n.ce HN.o.s2 n.old HN.o.s3 n.mv n.k1 HK.o.1.1 (by have:=HK.o;omega) _ (HF.o.below hb).h2 HM.o.m2 (HF.o.below hb).h3 HM.o.m3).mono ?_;clear hb;rintro e x1 ⟨rfl,hb⟩;have S:=HS.o.step hb;clear HS hb hc0 hc1 hc2 hc3 hc4 hc5 hc6 hc7 hc8 hc9 hc10 hc11 hc12 hc13;have HS:=B98 S;obtain⟨hc0,hc1,hc2,hc3,hc4,hc5,hc6,hc7,hc8,hc9,hc10,hc11,hc12,hc13⟩:=S.cells14 0 rfl;clear S;rw[show n.k1+2 * (n.ce.length:Int)+2 * (n.old.length:Int)=n.k3 from rfl];have t1:decide (n.k3 < 0)=false:=C0a (by have:=HK.o;omega);go_wp2_with fail;have hb:=HS.o.below;refine(A66 n.wm n.wk HN.o.s6 n.k3 HK.o.2.2.1.1 (by have:=HK.o;omega) _ (HF.o.below hb).h6 HM.o.m6).mono ?_;clear hb;rintro e x2 ⟨rfl,hb⟩;have S:=HS.o.step hb;clear HS hb hc0 hc1 hc2 hc3 hc4 hc5 hc6 hc7 hc8 hc9 hc10 hc11 hc12 hc13;have HS:=B98 S;obtain⟨hc0,hc1,hc2,hc3,hc4,hc5,hc6,hc7,hc8,hc9,hc10,hc11,hc12,hc13⟩:=S.cells14 0 rfl;clear S;rw[show n.k3+1 * (n.wk.length:Int)=n.k4 from rfl];have t2:decide (n.k4 < 0)=false:=C0a (by have:=HK.o;omega);go_wp2_with fail;have hb:=HS.o.below;refine(A66 n.tm n.tk HN.o.s8 n.k4 HK.o.2.2.2.1.1 (by have:=HK.o;omega) _ (HF.o.below hb).h8 HM.o.m8).mono ?_;clear hb;rintro e x3 ⟨rfl,hb⟩;have S:=HS.o.step hb;clear HS hb hc0 hc1 hc2 hc3 hc4 hc5 hc6 hc7 hc8 hc9 hc10 hc11 hc12 hc13;have HS:=B98 S;obtain⟨hc0,hc1,hc2,hc3,hc4,hc5,hc6,hc7,hc8,hc9,hc10,hc11,hc12,hc13⟩:=S.cells14 0 rfl;clear S;rw[show n.k4+1 * (n.tk.length:Int)=n.k5 from rfl];have t3:decide (n.k5 < 0)=false:=C0a (by have:=HK.o;omega);go_wp2_with fail;have hb:=HS.o.below;refine(A66 n.sm n.sk HN.o.s10 n.k5 HK.o.2.2.2.2.1.1 (by have:=HK.o;omega) _ (HF.o.below hb).h10 HM.o.m10).mono ?_;clear hb;rintro e x4 ⟨rfl,hb⟩;have S:=HS.o.step hb;clear HS hb hc0 hc1 hc2 hc3 hc4 hc5 hc6 hc7 hc8 hc9 hc10 hc11 hc12 hc13;have HS:=B98 S;obtain⟨hc0,hc1,hc2,hc3,hc4,hc5,hc6,hc7,hc8,hc9,hc10,hc11,hc12,hc13⟩:=S.cells14 0 rfl;clear S;rw[show n.k5+1 * (n.sk.length:Int)=n.k6 from rfl];have t4:decide (n.k6 < 0)=false:=C0a (by have:=HK.o;omega);go_wp2_with fail;have hb:=HS.o.below;refine(B02 n.ct HN.o.s11 n.ad n.k6 HK.o.2.2.2.2.2.1.1 (by have:=HK.o;omega) _ (HF.o.below hb).h11 HM.o.m11).mono ?_;clear hb;rintro e x5 ⟨rfl,hb⟩;have S:=HS.o.step hb;clear HS hb hc0 hc1 hc2 hc3 hc4 hc5 hc6 hc7 hc8 hc9 hc10 hc11 hc12 hc13;have HS:=B98 S;obtain⟨hc0,hc1,hc2,hc3,hc4,hc5,hc6,hc7,hc8,hc9,hc10,hc11,hc12,hc13⟩:=S.cells14 0 rfl;clear S;rw[show n.k6+1 * (n.ct.length:Int)=n.k7 from rfl];have t5:decide (n.k7 < 0)=false:=C0a (by have:=HK.o;omega);go_wp2_with fail;go_ret;exact⟨rfl,HS.o.below⟩
end Go.Proofs.YtediiolcoilepaaGreat.Nb
