/- Walks of callees. -/
import Derived.Test.YtediiolcoilepaaGreatNbK
import Derived.BigRegion
import Derived.BigQuiet
namespace Go.Proofs.YtediiolcoilepaaGreat.Nb
set_option maxHeartbeats 8000000
set_option maxRecDepth 100000
open Go.RowKit Go.Proofs.YtediiolcoilepaaGreat.GNear Go.Proofs.YtediiolcoilepaaGreatW.PrintWords Go.Proofs.YtediiolcoilepaaGreatW.PrintLast Go.Proofs.YtediiolcoilepaaGreatW.PrintMore
set_option linter.unusedVariables false
set_option linter.unusedSimpArgs false
def laws_markText.l0:Nat→Int→ByteArray→Option (ByteArray)
 |0,_,_=>none
 |k+1,x0,x3=>if x0 > 0 then ((some (([(wrap64 (48+(Int.tmod x0 10))) % 256]:List Int):List Int)).bind fun y737=>(if (strOfNums y737).size+x3.size≤9223372036854775807 then (laws_markText.l0 k (wrap64 (Int.tdiv x0 10)) ((strOfNums y737) ++ x3)) else (none))) else (if 1+x3.size≤9223372036854775807 then (some ((⟨#[109]⟩:ByteArray) ++ x3)) else (none))
def laws_markText.f (k:Nat) (a0:Int):Option (ByteArray):=if a0≤0 then (some (⟨#[109,48]⟩:ByteArray)) else (laws_markText.l0 k a0 (⟨#[]⟩:ByteArray))
theorem laws_markText.calls (k:Nat) (a0:Int) (r:ByteArray) (w:World) (h:laws_markText.f k a0=some r) :
  Calls Tryz.prog 213 #[.int .i64 a0] w fun e w'=>e=.returned (.string r)∧Below w.heap.size w w':=by
 have HB:=Aside0.mk (Below.refl w.heap.size w);have H:(if a0≤0 then (some (⟨#[109,48]⟩:ByteArray)) else (laws_markText.l0 k a0 (⟨#[]⟩:ByteArray)))=some r:=h;clear h;by_cases c2:a0≤0
 ·rw[if_pos c2] at H
  have c2b0:decide (a0≤0)=true:=decide_eq_true c2;clear c2;obtain rfl:=Option.some.inj H;go_enter Tryz.func213,Tryz.ntmps213
  go_wp2
  go_ret;exact⟨by first|rfl|(simp[] <;> rfl)|(simp[*] <;> rfl),by repeat(first|(with_reducible first|exact HB.out|apply below_alloc|apply pw_below_drewN|apply below_drew1)|exact HB.out)⟩
 ·rw[if_neg c2] at H
  have c2b0:decide (a0≤0)=false:=decide_eq_false c2;clear c2;have H':=Aside0.mk H;clear H;go_enter Tryz.func213,Tryz.ntmps213
  go_wp2
  go_loopg [0,3] k (fun kq v0 v3 w'=>∃ (x0_1:Int) (x3_1:ByteArray),v0=.int .i64 x0_1∧v3=.string x3_1∧Aside0 (laws_markText.l0 kq x0_1 x3_1=some r)∧Aside0 (kq≤k)∧Aside0 (Below w.heap.size w w'))
  case atStart=>exact⟨(a0),((⟨#[]⟩:ByteArray)),(by first|rfl|simp[*]),(by first|rfl|simp[*]),H',⟨Nat.le_refl _⟩,⟨by repeat(first|(with_reducible first|exact HB.out|apply below_alloc|apply pw_below_drewN|apply below_drew1)|exact HB.out)⟩⟩
  case round =>
   clear H';obtain⟨x0_1,x3_1,rfl,rfl,HA,HK1,HB⟩:=hrel;cases gk with
   |zero=>exact absurd HA.out (by simp[laws_markText.l0])
   |succ k1 =>
    have H:=HA.out;clear HA;simp only [laws_markText.l0] at H;by_cases c3:x0_1 > 0
    ·rw[if_pos c3] at H
     have c3b0:decide (0 < x0_1)=true:=decide_eq_true c3;clear c3;obtain⟨y737,hy737⟩:∃ y_:List Int,y_=(([(wrap64 (48+(Int.tmod x0_1 10))) % 256]:List Int)):=⟨_,rfl⟩;replace H:(if (strOfNums y737).size+x3_1.size≤9223372036854775807 then (laws_markText.l0 k1 (wrap64 (Int.tdiv x0_1 10)) ((strOfNums y737) ++ x3_1)) else (none))=some r:=by first|(rw[hy737];with_reducible exact H)|(have H2_:=(Option.bind_some _ _).symm.trans H;rw[hy737];with_reducible exact H2_)|(have H2_:=(Option.bind_some _ _).symm.trans H;with_reducible exact H2_)|with_reducible exact H|(rw[hy737];exact H)|exact H
     have Ny737:=Aside0.mk hy737;clear hy737;by_cases c4:(strOfNums y737).size+x3_1.size≤9223372036854775807
     ·rw[if_pos c4] at H
      have c4b0:=eq_true c4;have c4b1:decide ((strOfNums y737).size+x3_1.size≤9223372036854775807)=true:=decide_eq_true c4
      try have c4b2:(9223372036854775807 < (strOfNums y737).size+x3_1.size)=False:=eq_false (Nat.not_lt.2 c4)
      have H':=Aside0.mk H;clear H;go_wp2_with (first|((with_reducible refine gate_dst (N:=12) rfl ?_);refine Kd.R_lit (Kd.int .u8) _ 5 ?hg (N:=12) ?hd (xs:=([(wrap64 (48+(Int.tmod x0_1 10))) % 256]:List Int)) (inner:=[.int .u8 ((wrap64 (48+(Int.tmod x0_1 10))) % 256)]) (ok:=fun _=>True) (okp:=fun _=>True) ?hr ?hp (fun _ hk=>hk) trivial (Below.refl _ _) (Nat.le_refl _) (by simp) ?_;(case hd=>rfl);(case hg=>rfl);(case hr=>first|(go_simp;done)|(go_simp;rfl));(case hp=>exact(Reps.one (show Kd.M (Kd.int .u8) _ _ _ ((wrap64 (48+(Int.tmod x0_1 10))) % 256) [.int .u8 ((wrap64 (48+(Int.tmod x0_1 10))) % 256)] from rfl) (Reps.none _ _)));intro v738 w5 ho6 hb hg_ hnew_;clear hg_ hnew_;(first|rw[← Ny737.out] at ho6|(simp only [Int.reduceToNat] at ho6;rw[← Ny737.out] at ho6));have n0_:=Aside0.mk (Kd.R_lower ho6 (below_size (by repeat(first|(with_reducible first|exact HB.out|apply below_alloc|apply pw_below_drewN|apply below_drew1)|exact HB.out))));have n1_:=Aside0.mk (below_step (by repeat(first|(with_reducible first|exact HB.out|apply below_alloc|apply pw_below_drewN|apply below_drew1)|exact HB.out)) hb);clear HB;have HO739:=n0_;have HB:=n1_;clear n0_ n1_;clear hb ho6;have hcv7:=own_string (P:=Tryz.prog) Tryz.underlying55 Tryz.underlying5 Tryz.underlying9 (Kd.own_of_R HO739.out)))
      go_roundg k1
      case measure=>have:=HK1.out;omega
      case rel=>exact⟨(wrap64 (Int.tdiv x0_1 10)),((strOfNums y737) ++ x3_1),(by first|rfl|simp[*]),(by first|rfl|simp[*]),H',⟨by have:=HK1.out;omega⟩,⟨by repeat(first|(with_reducible first|exact HB.out|apply below_alloc|apply pw_below_drewN|apply below_drew1)|exact HB.out)⟩⟩
     ·rw[if_neg c4] at H
      exact absurd H (by simp)
    ·rw[if_neg c3] at H
     have c3b0:decide (0 < x0_1)=false:=decide_eq_false c3;clear c3;by_cases c8:1+x3_1.size≤9223372036854775807
     ·rw[if_pos c8] at H
      have c8b0:=eq_true c8;have c8b1:decide (1+x3_1.size≤9223372036854775807)=true:=decide_eq_true c8
      try have c8b2:(9223372036854775807 < 1+x3_1.size)=False:=eq_false (Nat.not_lt.2 c8)
      obtain rfl:=Option.some.inj H;go_wp2
      go_ret;exact⟨by first|rfl|(simp[] <;> rfl)|(simp[*] <;> rfl),by repeat(first|(with_reducible first|exact HB.out|apply below_alloc|apply pw_below_drewN|apply below_drew1)|exact HB.out)⟩
     ·rw[if_neg c8] at H
      exact absurd H (by simp)
theorem nums_size (l:List Int):(strOfNums l).size=l.length:=by
 unfold strOfNums;show(l.map fun n=>UInt8.ofNat n.toNat).toArray.size=l.length;simp
theorem markT_loop (N:Nat):∀ (n:Nat) (x:ByteArray),n≤N→n+x.size≤1099511627776→∃ s,Ev (fun k=>laws_markText.l0 k (n:Int) x) s:=by
 induction N with
 |zero =>
  intro n x hn hx;refine⟨(⟨#[109]⟩:ByteArray) ++ x,Ev.step (f:=fun _=>some ((⟨#[109]⟩:ByteArray) ++ x)) (fun k=>?_) (Ev.now _)⟩;simp only [laws_markText.l0];rw[if_neg (by omega),if_pos (by omega)]
 |succ N ih =>
  intro n x hn hx
  by_cases h0:n=0
  ·refine⟨(⟨#[109]⟩:ByteArray) ++ x,Ev.step (f:=fun _=>some ((⟨#[109]⟩:ByteArray) ++ x)) (fun k=>?_) (Ev.now _)⟩
   simp only [laws_markText.l0];rw[if_neg (by omega),if_pos (by omega)]
  ·have ed:wrap64 (Int.tdiv (n:Int) 10)=((n / 10:Nat):Int):=by
    rw[Int.tdiv_eq_ediv_of_nonneg (Int.natCast_nonneg _)];unfold wrap64;omega
   have hsz:=nums_size [(wrap64 (48+(Int.tmod (n:Int) 10))) % 256];have hap:(strOfNums [(wrap64 (48+(Int.tmod (n:Int) 10))) % 256] ++ x).size=1+x.size:=by rw[ByteArray.size_append,hsz];rfl
   obtain⟨s,hs⟩:=ih (n / 10) (strOfNums [(wrap64 (48+(Int.tmod (n:Int) 10))) % 256] ++ x) (by omega) (by rw[hap];omega);refine⟨s,Ev.step (fun k=>?_) hs⟩;simp only [laws_markText.l0,Option.bind_some];rw[if_pos (by omega),if_pos (by rw[hsz];simp;omega),ed]
theorem markT_some (n:Int) (h0:0≤n) (h1:n≤1073741824):∃ s,Ev (fun k=>laws_markText.f k n) s:=by
 by_cases c:n≤0
 ·refine⟨(⟨#[109,48]⟩:ByteArray),Ev.congr (f:=fun _=>some (⟨#[109,48]⟩:ByteArray)) (fun k=>?_) (Ev.now _)⟩
  unfold laws_markText.f;rw[if_pos c]
 ·obtain⟨m,rfl⟩:=Int.eq_ofNat_of_zero_le h0
  obtain⟨s,hs⟩:=markT_loop m m (⟨#[]⟩:ByteArray) (Nat.le_refl _) (by show m+0≤_;omega);refine⟨s,Ev.congr (fun k=>?_) hs⟩;unfold laws_markText.f;rw[if_neg c]
open Classical in
noncomputable def markT (n:Int):ByteArray:=if h:∃ s,Ev (fun k=>laws_markText.f k n) s then Classical.choose h else ByteArray.empty
theorem markT_ev (n:Int) (h0:0≤n) (h1:n≤1073741824):Ev (fun k=>laws_markText.f k n) (markT n):=by
 unfold markT;rw[dif_pos (markT_some n h0 h1)];exact Classical.choose_spec (markT_some n h0 h1)
noncomputable def slMark (m:Int):S94:=⟨m,(Int.tmod (m+1) 3 == 0),markT (m+2),markT (m+3),m+4⟩
noncomputable def ceMark (m:Int):S151:=⟨markT m,m+1⟩
noncomputable def stMark (m:Int):ByteArray:=markT m
def inMark (m:Int):Int:=m
def marked {α:Type} (f:Int→α) (k:Int) (n:Nat) (m:Int):List α:=(List.range n).map fun (i:Nat)=>f (m+k * (i:Int))
theorem marked_len {α:Type} {f:Int→α} {k:Int} {n:Nat} {m:Int}:(marked f k n m).length=n:=by simp[marked]
theorem marked_at {α:Type} {f:Int→α} {k:Int} {n:Nat} {m:Int}:∀ (j:Nat) (x:α),(marked f k n m)[j]? = some x→x=f (m+k * (j:Int)):=fun j x h=>by
 obtain⟨h1,h2⟩:=List.getElem?_eq_some_iff.1 h;rw[← h2];simp[marked]
theorem marked_eq {α:Type} {mf:Int→α} {k m:Int} {n:Nat} {y:List α} (h1:y.length=n) (h2:∀ j,j < n→y[j]? = some (mf (m+k * (j:Int)))):y=marked mf k n m:=by
 apply List.ext_getElem?;intro j
 by_cases hj:j < n
 ·rw[h2 j hj];simp[marked,hj]
 ·rw[List.getElem?_eq_none (by omega),List.getElem?_eq_none (by rw[marked_len];omega)]
theorem markTextL (m:Int) (h0:0≤m) (h1:m≤1073741824) (w:World):Calls Tryz.prog 213 #[.int .i64 m] w fun e w'=>e=.returned (.string (markT m))∧Below w.heap.size w w':=by
 obtain⟨K,hK⟩:=markT_ev m h0 h1;exact laws_markText.calls K m _ w (hK K (Nat.le_refl _))
section
variable {w0 w:World} {ps:List Part} {α:Type} {d:Kd α} {enc:α→List Value} {e g n c:Nat} {xs:List α} {i:Nat} {x x':α} {v:Value}
theorem St.fld (F:Flat d enc) (h:St w0 w (Part.row d e (.slice (some ⟨g,0,none⟩) n c) (xs.set i x) :: ps)) (hi:i < xs.length) (j:Nat) (hj:j < d.sz) (he:enc x'=(enc x).set j v):St w0 (w.setCell ⟨g,i * d.sz+j,none⟩ v) (Part.row d e (.slice (some ⟨g,0,none⟩) n c) (xs.set i x') :: ps):=by
 have h1:=h.put_flat F (i:=i) (List.getElem?_set_self hi) hj he
 rwa [List.set_set] at h1
theorem St.fcell (F:Flat d enc) (h:St w0 w (Part.row d e (.slice (some ⟨g,0,none⟩) n c) (xs.set i x) :: ps)) (hi:i < xs.length) (j:Nat) (hv:(enc x)[j]? = some v):w.cell? ⟨g,i * d.sz+j,none⟩=some v∧w.frozen? ⟨g,i * d.sz+j,none⟩=false:=h.flat_cell F (List.getElem?_set_self hi) hv
end
theorem markSlotSL {w0 w:World} {ps:List Part} {v:Value} (l:List S94) (hl:l.length≤1048576) (m:Int) (h0:0≤m) (h1:m≤1000000000) (h:St w0 w (Part.row k94 94 v l :: ps)) :
  Calls Tryz.prog 154 #[v,.int .i64 m] w fun e w'=>e=.returned (.int .i64 (m+5 * (l.length:Int)))∧St w0 w' (Part.row k94 94 v (marked slMark 5 l.length m) :: ps):=by
 have hu:=Tryz.underlying94;have HL:=Aside0.mk hl;have H0:=Aside0.mk h0;have H1:=Aside0.mk h1;obtain⟨A,c,rfl⟩:=Kd.R_slice (h.at_R 0 rfl);have HS:=Aside0.mk h;clear hl h0 h1 h;go_enter Tryz.func154,Tryz.ntmps154;go_wp2_with fail;go_loopw [1,5] (fun v1 v5 w'=>∃ (i:Nat) (y:List S94),v1=.int .i64 (m+5 * (i:Int))∧v5=.int .i64 i∧Aside0 (i≤l.length)∧Aside0 (y.length=l.length∧∀ j,j < i→y[j]? = some (slMark (m+5 * (j:Int))))∧Aside0 (St w0 w' (Part.row k94 94 (.slice A l.length c) y :: ps))) (fun _ v5 _=>l.length - (intOf v5).toNat)
 case atStart=>exact⟨0,l,by simp,rfl,⟨Nat.zero_le _⟩,⟨rfl,fun j hj=>absurd hj (by omega)⟩,HS⟩
 case round =>
  clear HS;obtain⟨i,y,rfl,rfl,HI,HY,HS⟩:=hrel;by_cases c1:i < l.length
  ·have c1b:decide ((i:Int) < (l.length:Int))=true:=decide_eq_true (by omega)
   have p5:(0:Int)≤(i:Int):=by omega
   have q5:(i:Int) < (l.length:Int):=by omega
   obtain⟨M,hM⟩:∃ M,M=m+5 * (i:Int):=⟨_,rfl⟩;rw[← hM];have HE:=Aside0.mk hM;have HM:=Aside0.mk (show 0≤M∧M≤1010000000 by have:=H0.out;have:=H1.out;have:=HL.out;omega);have hy:i < y.length:=by have:=HY.out.1;omega
   have HI2:=Aside0.mk hy;obtain⟨u,hu⟩:∃ u,u=y[i]:=⟨_,rfl⟩;have S:=HS.out;rw[show y=y.set i u by rw[hu];exact(List.set_getElem_self hy).symm] at S;obtain⟨go,co,eo,-,-,-,-⟩:=Kd.R_form (S.at_R 0 rfl) (by rw[List.length_set];omega);obtain⟨rfl,-,rfl⟩:=Value.slice.inj eo;have p6:i < 1048576:=by have:=HL.out;omega
   clear c1 hM hu hy eo HS;replace p5:=eq_true p5;replace q5:=eq_true q5;have e1:wrap64 (M+1)=M+1:=by have:=HM.out;unfold wrap64;omega
   have e2:wrap64 (M+2)=M+2:=by have:=HM.out;unfold wrap64;omega
   have d2:M+1+1=M+2:=by omega
   have e3:wrap64 (M+3)=M+3:=by have:=HM.out;unfold wrap64;omega
   have d3:M+2+1=M+3:=by omega
   have e4:wrap64 (M+4)=M+4:=by have:=HM.out;unfold wrap64;omega
   have d4:M+3+1=M+4:=by omega
   have e5:wrap64 (M+5)=M+5:=by have:=HM.out;unfold wrap64;omega
   have d5:M+4+1=M+5:=by omega
   have hz0:wr.cell? ⟨go,i * 5,none⟩=some (.int .i64 u.f0):=(S.fcell F94 HI2.out 0 rfl).1;have hf0:wr.frozen? ⟨go,i * 5,none⟩=false:=(S.fcell F94 HI2.out 0 (v:=.int .i64 u.f0) rfl).2;have hz1:wr.cell? ⟨go,i * 5+1,none⟩=some (.bool u.f1):=(S.fcell F94 HI2.out 1 rfl).1;have hf1:wr.frozen? ⟨go,i * 5+1,none⟩=false:=(S.fcell F94 HI2.out 1 (v:=.bool u.f1) rfl).2;have hz2:wr.cell? ⟨go,i * 5+2,none⟩=some (.string u.f2):=(S.fcell F94 HI2.out 2 rfl).1;have hf2:wr.frozen? ⟨go,i * 5+2,none⟩=false:=(S.fcell F94 HI2.out 2 (v:=.string u.f2) rfl).2;have hz3:wr.cell? ⟨go,i * 5+3,none⟩=some (.string u.f3):=(S.fcell F94 HI2.out 3 rfl).1;have hf3:wr.frozen? ⟨go,i * 5+3,none⟩=false:=(S.fcell F94 HI2.out 3 (v:=.string u.f3) rfl).2;have hz4:wr.cell? ⟨go,i * 5+4,none⟩=some (.int .i64 u.f4):=(S.fcell F94 HI2.out 4 rfl).1;have hf4:wr.frozen? ⟨go,i * 5+4,none⟩=false:=(S.fcell F94 HI2.out 4 (v:=.int .i64 u.f4) rfl).2;have HS:=Aside0.mk S;clear S;go_wp2_with fail;have S:=HS.out;have S:=S.fld F94 (x':=(⟨M,u.f1,u.f2,u.f3,u.f4⟩:S94)) HI2.out 0 (by decide) (v:=.int .i64 (M)) rfl;have S:=S.fld F94 (x':=(⟨M,(Int.tmod (M+1) 3 == 0),u.f2,u.f3,u.f4⟩:S94)) HI2.out 1 (by decide) (v:=.bool (Int.tmod (M+1) 3 == 0)) rfl;clear HS;refine(markTextL (M+2) (by have:=HM.out;omega) (by have:=HM.out;omega) _).mono ?_;rintro e w1 ⟨rfl,hb⟩;have S:=S.step hb;clear hb hz0 hf0 hz1 hf1 hz2 hf2 hz3 hf3 hz4 hf4;have hz0:w1.cell? ⟨go,i * 5,none⟩=some (.int .i64 M):=(S.fcell F94 HI2.out 0 rfl).1;have hf0:w1.frozen? ⟨go,i * 5,none⟩=false:=(S.fcell F94 HI2.out 0 (v:=.int .i64 M) rfl).2;have hz1:w1.cell? ⟨go,i * 5+1,none⟩=some (.bool ((Int.tmod (M+1) 3 == 0))):=(S.fcell F94 HI2.out 1 rfl).1;have hf1:w1.frozen? ⟨go,i * 5+1,none⟩=false:=(S.fcell F94 HI2.out 1 (v:=.bool ((Int.tmod (M+1) 3 == 0))) rfl).2;have hz2:w1.cell? ⟨go,i * 5+2,none⟩=some (.string u.f2):=(S.fcell F94 HI2.out 2 rfl).1;have hf2:w1.frozen? ⟨go,i * 5+2,none⟩=false:=(S.fcell F94 HI2.out 2 (v:=.string u.f2) rfl).2;have hz3:w1.cell? ⟨go,i * 5+3,none⟩=some (.string u.f3):=(S.fcell F94 HI2.out 3 rfl).1;have hf3:w1.frozen? ⟨go,i * 5+3,none⟩=false:=(S.fcell F94 HI2.out 3 (v:=.string u.f3) rfl).2;have hz4:w1.cell? ⟨go,i * 5+4,none⟩=some (.int .i64 u.f4):=(S.fcell F94 HI2.out 4 rfl).1;have hf4:w1.frozen? ⟨go,i * 5+4,none⟩=false:=(S.fcell F94 HI2.out 4 (v:=.int .i64 u.f4) rfl).2;have HS:=Aside0.mk S;clear S;go_wp2_with fail;have S:=HS.out;have S:=S.fld F94 (x':=(⟨M,(Int.tmod (M+1) 3 == 0),markT (M+2),u.f3,u.f4⟩:S94)) HI2.out 2 (by decide) (v:=.string (markT (M+2))) rfl;clear HS;refine(markTextL (M+3) (by have:=HM.out;omega) (by have:=HM.out;omega) _).mono ?_;rintro e w2 ⟨rfl,hb⟩;have S:=S.step hb;clear hb hz0 hf0 hz1 hf1 hz2 hf2 hz3 hf3 hz4 hf4;have hz0:w2.cell? ⟨go,i * 5,none⟩=some (.int .i64 M):=(S.fcell F94 HI2.out 0 rfl).1;have hf0:w2.frozen? ⟨go,i * 5,none⟩=false:=(S.fcell F94 HI2.out 0 (v:=.int .i64 M) rfl).2;have hz1:w2.cell? ⟨go,i * 5+1,none⟩=some (.bool ((Int.tmod (M+1) 3 == 0))):=(S.fcell F94 HI2.out 1 rfl).1;have hf1:w2.frozen? ⟨go,i * 5+1,none⟩=false:=(S.fcell F94 HI2.out 1 (v:=.bool ((Int.tmod (M+1) 3 == 0))) rfl).2;have hz2:w2.cell? ⟨go,i * 5+2,none⟩=some (.string (markT (M+2))):=(S.fcell F94 HI2.out 2 rfl).1;have hf2:w2.frozen? ⟨go,i * 5+2,none⟩=false:=(S.fcell F94 HI2.out 2 (v:=.string (markT (M+2))) rfl).2;have hz3:w2.cell? ⟨go,i * 5+3,none⟩=some (.string u.f3):=(S.fcell F94 HI2.out 3 rfl).1;have hf3:w2.frozen? ⟨go,i * 5+3,none⟩=false:=(S.fcell F94 HI2.out 3 (v:=.string u.f3) rfl).2;have hz4:w2.cell? ⟨go,i * 5+4,none⟩=some (.int .i64 u.f4):=(S.fcell F94 HI2.out 4 rfl).1;have hf4:w2.frozen? ⟨go,i * 5+4,none⟩=false:=(S.fcell F94 HI2.out 4 (v:=.int .i64 u.f4) rfl).2;have HS:=Aside0.mk S;clear S;go_wp2_with fail;have S:=HS.out;have S:=S.fld F94 (x':=(⟨M,(Int.tmod (M+1) 3 == 0),markT (M+2),markT (M+3),u.f4⟩:S94)) HI2.out 3 (by decide) (v:=.string (markT (M+3))) rfl;have S:=S.fld F94 (x':=(⟨M,(Int.tmod (M+1) 3 == 0),markT (M+2),markT (M+3),M+4⟩:S94)) HI2.out 4 (by decide) (v:=.int .i64 (M+4)) rfl;go_roundw
   case rel=>exact⟨i+1,_,by have:=HE.out;have:=HM.out;congr 1;omega,by go_num,⟨by have h_:=of_eq_true q5;omega⟩,⟨by rw[List.length_set];exact HY.out.1,fun j hj=>by
    by_cases hc:j=i
    ·subst hc;rw[List.getElem?_set_self HI2.out,← HE.out];rfl
    ·rw[List.getElem?_set_ne (by omega)];exact HY.out.2 j (by omega)⟩,⟨S⟩⟩
   case measure=>have h_:=of_eq_true q5;simp only [intOf];omega
  ·have c1b:decide ((i:Int) < (l.length:Int))=false:=decide_eq_false (by omega)
   have c1c:decide (i < l.length)=false:=decide_eq_false c1;have hi:i=l.length:=by have:=HI.out;omega
   subst hi;have HE:=Aside0.mk (marked_eq (mf:=slMark) HY.out.1 HY.out.2);clear c1;go_wp2_with fail;go_ret;exact⟨rfl,HE.out ▸ HS.out⟩
theorem markCellSL {w0 w:World} {ps:List Part} {v:Value} (l:List S151) (hl:l.length≤1048576) (m:Int) (h0:0≤m) (h1:m≤1000000000) (h:St w0 w (Part.row k151 151 v l :: ps)) :
  Calls Tryz.prog 155 #[v,.int .i64 m] w fun e w'=>e=.returned (.int .i64 (m+2 * (l.length:Int)))∧St w0 w' (Part.row k151 151 v (marked ceMark 2 l.length m) :: ps):=by
 have hu:=Tryz.underlying151;have HL:=Aside0.mk hl;have H0:=Aside0.mk h0;have H1:=Aside0.mk h1;obtain⟨A,c,rfl⟩:=Kd.R_slice (h.at_R 0 rfl);have HS:=Aside0.mk h;clear hl h0 h1 h;go_enter Tryz.func155,Tryz.ntmps155;go_wp2_with fail;go_loopw [1,5] (fun v1 v5 w'=>∃ (i:Nat) (y:List S151),v1=.int .i64 (m+2 * (i:Int))∧v5=.int .i64 i∧Aside0 (i≤l.length)∧Aside0 (y.length=l.length∧∀ j,j < i→y[j]? = some (ceMark (m+2 * (j:Int))))∧Aside0 (St w0 w' (Part.row k151 151 (.slice A l.length c) y :: ps))) (fun _ v5 _=>l.length - (intOf v5).toNat)
 case atStart=>exact⟨0,l,by simp,rfl,⟨Nat.zero_le _⟩,⟨rfl,fun j hj=>absurd hj (by omega)⟩,HS⟩
 case round =>
  clear HS;obtain⟨i,y,rfl,rfl,HI,HY,HS⟩:=hrel;by_cases c1:i < l.length
  ·have c1b:decide ((i:Int) < (l.length:Int))=true:=decide_eq_true (by omega)
   have p5:(0:Int)≤(i:Int):=by omega
   have q5:(i:Int) < (l.length:Int):=by omega
   obtain⟨M,hM⟩:∃ M,M=m+2 * (i:Int):=⟨_,rfl⟩;rw[← hM];have HE:=Aside0.mk hM;have HM:=Aside0.mk (show 0≤M∧M≤1010000000 by have:=H0.out;have:=H1.out;have:=HL.out;omega);have hy:i < y.length:=by have:=HY.out.1;omega
   have HI2:=Aside0.mk hy;obtain⟨u,hu⟩:∃ u,u=y[i]:=⟨_,rfl⟩;have S:=HS.out;rw[show y=y.set i u by rw[hu];exact(List.set_getElem_self hy).symm] at S;obtain⟨go,co,eo,-,-,-,-⟩:=Kd.R_form (S.at_R 0 rfl) (by rw[List.length_set];omega);obtain⟨rfl,-,rfl⟩:=Value.slice.inj eo;have p6:i < 1048576:=by have:=HL.out;omega
   clear c1 hM hu hy eo HS;replace p5:=eq_true p5;replace q5:=eq_true q5;have e1:wrap64 (M+1)=M+1:=by have:=HM.out;unfold wrap64;omega
   have e2:wrap64 (M+2)=M+2:=by have:=HM.out;unfold wrap64;omega
   have d2:M+1+1=M+2:=by omega
   have hz0:wr.cell? ⟨go,i * 2,none⟩=some (.string u.f0):=(S.fcell F151 HI2.out 0 rfl).1;have hf0:wr.frozen? ⟨go,i * 2,none⟩=false:=(S.fcell F151 HI2.out 0 (v:=.string u.f0) rfl).2;have hz1:wr.cell? ⟨go,i * 2+1,none⟩=some (.int .i64 u.f1):=(S.fcell F151 HI2.out 1 rfl).1;have hf1:wr.frozen? ⟨go,i * 2+1,none⟩=false:=(S.fcell F151 HI2.out 1 (v:=.int .i64 u.f1) rfl).2;have HS:=Aside0.mk S;clear S;go_wp2_with fail;have S:=HS.out;clear HS;refine(markTextL (M) (by have:=HM.out;omega) (by have:=HM.out;omega) _).mono ?_;rintro e w1 ⟨rfl,hb⟩;have S:=S.step hb;clear hb hz0 hf0 hz1 hf1;have hz0:w1.cell? ⟨go,i * 2,none⟩=some (.string u.f0):=(S.fcell F151 HI2.out 0 rfl).1;have hf0:w1.frozen? ⟨go,i * 2,none⟩=false:=(S.fcell F151 HI2.out 0 (v:=.string u.f0) rfl).2;have hz1:w1.cell? ⟨go,i * 2+1,none⟩=some (.int .i64 u.f1):=(S.fcell F151 HI2.out 1 rfl).1;have hf1:w1.frozen? ⟨go,i * 2+1,none⟩=false:=(S.fcell F151 HI2.out 1 (v:=.int .i64 u.f1) rfl).2;have HS:=Aside0.mk S;clear S;go_wp2_with fail;have S:=HS.out;have S:=S.fld F151 (x':=(⟨markT (M),u.f1⟩:S151)) HI2.out 0 (by decide) (v:=.string (markT (M))) rfl;have S:=S.fld F151 (x':=(⟨markT (M),M+1⟩:S151)) HI2.out 1 (by decide) (v:=.int .i64 (M+1)) rfl;go_roundw
   case rel=>exact⟨i+1,_,by have:=HE.out;have:=HM.out;congr 1;omega,by go_num,⟨by have h_:=of_eq_true q5;omega⟩,⟨by rw[List.length_set];exact HY.out.1,fun j hj=>by
    by_cases hc:j=i
    ·subst hc;rw[List.getElem?_set_self HI2.out,← HE.out];rfl
    ·rw[List.getElem?_set_ne (by omega)];exact HY.out.2 j (by omega)⟩,⟨S⟩⟩
   case measure=>have h_:=of_eq_true q5;simp only [intOf];omega
  ·have c1b:decide ((i:Int) < (l.length:Int))=false:=decide_eq_false (by omega)
   have c1c:decide (i < l.length)=false:=decide_eq_false c1;have hi:i=l.length:=by have:=HI.out;omega
   subst hi;have HE:=Aside0.mk (marked_eq (mf:=ceMark) HY.out.1 HY.out.2);clear c1;go_wp2_with fail;go_ret;exact⟨rfl,HE.out ▸ HS.out⟩
theorem markStringSL {w0 w:World} {ps:List Part} {v:Value} (l:List ByteArray) (hl:l.length≤1048576) (m:Int) (h0:0≤m) (h1:m≤1000000000) (h:St w0 w (Part.row Kd.string 9 v l :: ps)) :
  Calls Tryz.prog 156 #[v,.int .i64 m] w fun e w'=>e=.returned (.int .i64 (m+1 * (l.length:Int)))∧St w0 w' (Part.row Kd.string 9 v (marked stMark 1 l.length m) :: ps):=by
 have HL:=Aside0.mk hl;have H0:=Aside0.mk h0;have H1:=Aside0.mk h1;obtain⟨A,c,rfl⟩:=Kd.R_slice (h.at_R 0 rfl);have HS:=Aside0.mk h;clear hl h0 h1 h;go_enter Tryz.func156,Tryz.ntmps156;go_wp2_with fail;go_loopw [1,5] (fun v1 v5 w'=>∃ (i:Nat) (y:List ByteArray),v1=.int .i64 (m+1 * (i:Int))∧v5=.int .i64 i∧Aside0 (i≤l.length)∧Aside0 (y.length=l.length∧∀ j,j < i→y[j]? = some (stMark (m+1 * (j:Int))))∧Aside0 (St w0 w' (Part.row Kd.string 9 (.slice A l.length c) y :: ps))) (fun _ v5 _=>l.length - (intOf v5).toNat)
 case atStart=>exact⟨0,l,by simp,rfl,⟨Nat.zero_le _⟩,⟨rfl,fun j hj=>absurd hj (by omega)⟩,HS⟩
 case round =>
  clear HS;obtain⟨i,y,rfl,rfl,HI,HY,HS⟩:=hrel;by_cases c1:i < l.length
  ·have c1b:decide ((i:Int) < (l.length:Int))=true:=decide_eq_true (by omega)
   have p5:(0:Int)≤(i:Int):=by omega
   have q5:(i:Int) < (l.length:Int):=by omega
   obtain⟨M,hM⟩:∃ M,M=m+1 * (i:Int):=⟨_,rfl⟩;rw[← hM];have HE:=Aside0.mk hM;have HM:=Aside0.mk (show 0≤M∧M≤1010000000 by have:=H0.out;have:=H1.out;have:=HL.out;omega);have hy:i < y.length:=by have:=HY.out.1;omega
   have HI2:=Aside0.mk hy;obtain⟨u,hu⟩:∃ u,u=y[i]:=⟨_,rfl⟩;have S:=HS.out;rw[show y=y.set i u by rw[hu];exact(List.set_getElem_self hy).symm] at S;obtain⟨go,co,eo,-,-,-,-⟩:=Kd.R_form (S.at_R 0 rfl) (by rw[List.length_set];omega);obtain⟨rfl,-,rfl⟩:=Value.slice.inj eo;have p6:i < 1048576:=by have:=HL.out;omega
   clear c1 hM hu hy eo HS;replace p5:=eq_true p5;replace q5:=eq_true q5;have e1:wrap64 (M+1)=M+1:=by have:=HM.out;unfold wrap64;omega
   have hz0:wr.cell? ⟨go,i,none⟩=some (.string u):=by rw[← (S.fcell FS HI2.out 0 (v:=.string u) rfl).1,show Kd.string.sz=1 from rfl,Nat.mul_one];rfl
   have hf0:wr.frozen? ⟨go,i,none⟩=false:=by rw[← (S.fcell FS HI2.out 0 (v:=.string u) rfl).2,show Kd.string.sz=1 from rfl,Nat.mul_one];rfl
   have HS:=Aside0.mk S;clear S;go_wp2_with fail;have S:=HS.out;clear HS;refine(markTextL (M) (by have:=HM.out;omega) (by have:=HM.out;omega) _).mono ?_;rintro e w1 ⟨rfl,hb⟩;have S:=S.step hb;clear hb hz0 hf0;have hz0:w1.cell? ⟨go,i,none⟩=some (.string u):=by rw[← (S.fcell FS HI2.out 0 (v:=.string u) rfl).1,show Kd.string.sz=1 from rfl,Nat.mul_one];rfl
   have hf0:w1.frozen? ⟨go,i,none⟩=false:=by rw[← (S.fcell FS HI2.out 0 (v:=.string u) rfl).2,show Kd.string.sz=1 from rfl,Nat.mul_one];rfl
   have HS:=Aside0.mk S;clear S;go_wp2_with fail;have S:=HS.out;have S:=S.fld FS (x':=(markT (M):ByteArray)) HI2.out 0 (by decide) (v:=.string (markT (M))) rfl;rw[show Kd.string.sz=1 from rfl,Nat.mul_one,Nat.add_zero] at S;go_roundw
   case rel=>exact⟨i+1,_,by have:=HE.out;have:=HM.out;congr 1;omega,by go_num,⟨by have h_:=of_eq_true q5;omega⟩,⟨by rw[List.length_set];exact HY.out.1,fun j hj=>by
    by_cases hc:j=i
    ·subst hc;rw[List.getElem?_set_self HI2.out,← HE.out];rfl
    ·rw[List.getElem?_set_ne (by omega)];exact HY.out.2 j (by omega)⟩,⟨S⟩⟩
   case measure=>have h_:=of_eq_true q5;simp only [intOf];omega
  ·have c1b:decide ((i:Int) < (l.length:Int))=false:=decide_eq_false (by omega)
   have c1c:decide (i < l.length)=false:=decide_eq_false c1;have hi:i=l.length:=by have:=HI.out;omega
   subst hi;have HE:=Aside0.mk (marked_eq (mf:=stMark) HY.out.1 HY.out.2);clear c1;go_wp2_with fail;go_ret;exact⟨rfl,HE.out ▸ HS.out⟩
theorem markIntSL {w0 w:World} {ps:List Part} {v:Value} (l:List Int) (hl:l.length≤1048576) (m:Int) (h0:0≤m) (h1:m≤1000000000) (h:St w0 w (Part.row (Kd.int .i64) 3 v l :: ps)) :
  Calls Tryz.prog 157 #[v,.int .i64 m] w fun e w'=>e=.returned (.int .i64 (m+1 * (l.length:Int)))∧St w0 w' (Part.row (Kd.int .i64) 3 v (marked inMark 1 l.length m) :: ps):=by
 have HL:=Aside0.mk hl;have H0:=Aside0.mk h0;have H1:=Aside0.mk h1;obtain⟨A,c,rfl⟩:=Kd.R_slice (h.at_R 0 rfl);have HS:=Aside0.mk h;clear hl h0 h1 h;go_enter Tryz.func157,Tryz.ntmps157;go_wp2_with fail;go_loopw [1,5] (fun v1 v5 w'=>∃ (i:Nat) (y:List Int),v1=.int .i64 (m+1 * (i:Int))∧v5=.int .i64 i∧Aside0 (i≤l.length)∧Aside0 (y.length=l.length∧∀ j,j < i→y[j]? = some (inMark (m+1 * (j:Int))))∧Aside0 (St w0 w' (Part.row (Kd.int .i64) 3 (.slice A l.length c) y :: ps))) (fun _ v5 _=>l.length - (intOf v5).toNat)
 case atStart=>exact⟨0,l,by simp,rfl,⟨Nat.zero_le _⟩,⟨rfl,fun j hj=>absurd hj (by omega)⟩,HS⟩
 case round =>
  clear HS;obtain⟨i,y,rfl,rfl,HI,HY,HS⟩:=hrel;by_cases c1:i < l.length
  ·have c1b:decide ((i:Int) < (l.length:Int))=true:=decide_eq_true (by omega)
   have p5:(0:Int)≤(i:Int):=by omega
   have q5:(i:Int) < (l.length:Int):=by omega
   obtain⟨M,hM⟩:∃ M,M=m+1 * (i:Int):=⟨_,rfl⟩;rw[← hM];have HE:=Aside0.mk hM;have HM:=Aside0.mk (show 0≤M∧M≤1010000000 by have:=H0.out;have:=H1.out;have:=HL.out;omega);have hy:i < y.length:=by have:=HY.out.1;omega
   have HI2:=Aside0.mk hy;obtain⟨u,hu⟩:∃ u,u=y[i]:=⟨_,rfl⟩;have S:=HS.out;rw[show y=y.set i u by rw[hu];exact(List.set_getElem_self hy).symm] at S;obtain⟨go,co,eo,-,-,-,-⟩:=Kd.R_form (S.at_R 0 rfl) (by rw[List.length_set];omega);obtain⟨rfl,-,rfl⟩:=Value.slice.inj eo;have p6:i < 1048576:=by have:=HL.out;omega
   clear c1 hM hu hy eo HS;replace p5:=eq_true p5;replace q5:=eq_true q5;have e1:wrap64 (M+1)=M+1:=by have:=HM.out;unfold wrap64;omega
   have hz0:wr.cell? ⟨go,i,none⟩=some (.int .i64 u):=by rw[← (S.fcell FI HI2.out 0 (v:=.int .i64 u) rfl).1,show(Kd.int .i64).sz=1 from rfl,Nat.mul_one];rfl
   have hf0:wr.frozen? ⟨go,i,none⟩=false:=by rw[← (S.fcell FI HI2.out 0 (v:=.int .i64 u) rfl).2,show(Kd.int .i64).sz=1 from rfl,Nat.mul_one];rfl
   have HS:=Aside0.mk S;clear S;go_wp2_with fail;have S:=HS.out;have S:=S.fld FI (x':=(M:Int)) HI2.out 0 (by decide) (v:=.int .i64 (M)) rfl;rw[show(Kd.int .i64).sz=1 from rfl,Nat.mul_one,Nat.add_zero] at S;go_roundw
   case rel=>exact⟨i+1,_,by have:=HE.out;have:=HM.out;congr 1;omega,by go_num,⟨by have h_:=of_eq_true q5;omega⟩,⟨by rw[List.length_set];exact HY.out.1,fun j hj=>by
    by_cases hc:j=i
    ·subst hc;rw[List.getElem?_set_self HI2.out,← HE.out];rfl
    ·rw[List.getElem?_set_ne (by omega)];exact HY.out.2 j (by omega)⟩,⟨S⟩⟩
   case measure=>have h_:=of_eq_true q5;simp only [intOf];omega
  ·have c1b:decide ((i:Int) < (l.length:Int))=false:=decide_eq_false (by omega)
   have c1c:decide (i < l.length)=false:=decide_eq_false c1;have hi:i=l.length:=by have:=HI.out;omega
   subst hi;have HE:=Aside0.mk (marked_eq (mf:=inMark) HY.out.1 HY.out.2);clear c1;go_wp2_with fail;go_ret;exact⟨rfl,HE.out ▸ HS.out⟩
theorem heldSlotSL {A:Option Addr} {c:Nat} (l:List S94) (hl:l.length≤1048576) (m:Int) (h0:0≤m) (h1:m≤1000000000) (w:World) (hA:Kd.C k94 w A l.length l) (hm:∀ (j:Nat) x,l[j]? = some x→x=slMark (m+5 * (j:Int))) :
  Calls Tryz.prog 158 #[.slice A l.length c,.int .i64 m] w fun e w'=>e=.returned (.int .i64 (m+5 * (l.length:Int)))∧Below w.heap.size w w':=by
 have hu:=Tryz.underlying94;have HL:=Aside0.mk hl;have H0:=Aside0.mk h0;have H1:=Aside0.mk h1;have HA:=Aside0.mk hA;have HMK:=Aside0.mk hm;clear hl h0 h1 hA hm;have HS:=Aside0.mk (St.start w);go_enter Tryz.func158,Tryz.ntmps158;go_wp2_with fail;go_loopw [1,5] (fun v1 v5 w'=>∃ (i:Nat),v1=.int .i64 (m+5 * (i:Int))∧v5=.int .i64 i∧Aside0 (i≤l.length)∧Aside0 (St w w' [])) (fun _ v5 _=>l.length - (intOf v5).toNat)
 case atStart=>exact⟨0,by simp,rfl,⟨Nat.zero_le _⟩,⟨by first|exact HS.out|exact HS.out.drew|exact HS.out.drew.drew⟩⟩
 case round =>
  clear HS;obtain⟨i,rfl,rfl,HI,HS⟩:=hrel;by_cases c1:i < l.length
  ·have c1b:decide ((i:Int) < (l.length:Int))=true:=decide_eq_true (by omega)
   have p5:(0:Int)≤(i:Int):=by omega
   have q5:(i:Int) < (l.length:Int):=by omega
   obtain⟨M,hM⟩:∃ M,M=m+5 * (i:Int):=⟨_,rfl⟩;rw[← hM];obtain⟨ad,e5,hx0,hx1,hx2,hx3,hx4⟩:=at_T94 HA.out (i:Int) p5 q5;cases e5;have hk:rd_T94 l (i:Int)=slMark M:=by rw[rd_sl l i c1,hM];exact HMK.out i _ (List.getElem?_eq_getElem c1)
   rw[hk] at hx0 hx1 hx2 hx3 hx4;rw[Int.toNat_natCast] at hx0 hx1 hx2 hx3 hx4;dsimp only [slMark] at hx0 hx1 hx2 hx3 hx4;have HE:=Aside0.mk hM;have HM:=Aside0.mk (show 0≤M∧M≤1010000000 by have:=H0.out;have:=H1.out;have:=HL.out;omega);have p6:i < 1048576:=by have:=HL.out;omega
   clear c1 hM hk;replace p5:=eq_true p5;replace q5:=eq_true q5;have e1:wrap64 (M+1)=M+1:=by have:=HM.out;unfold wrap64;omega
   have e2:wrap64 (M+2)=M+2:=by have:=HM.out;unfold wrap64;omega
   have d2:M+1+1=M+2:=by omega
   have e3:wrap64 (M+3)=M+3:=by have:=HM.out;unfold wrap64;omega
   have d3:M+2+1=M+3:=by omega
   have e4:wrap64 (M+4)=M+4:=by have:=HM.out;unfold wrap64;omega
   have d4:M+3+1=M+4:=by omega
   have e5:wrap64 (M+5)=M+5:=by have:=HM.out;unfold wrap64;omega
   have d5:M+4+1=M+5:=by omega
   have hp0:=fun (p:WSt w [])=>p.old hx0;have hp1:=fun (p:WSt w [])=>p.old hx1;have hp2:=fun (p:WSt w [])=>p.old hx2;have hp3:=fun (p:WSt w [])=>p.old hx3;have hp4:=fun (p:WSt w [])=>p.old hx4;replace hx0:=hp0 ⟨wr,HS.out⟩;replace hx1:=hp1 ⟨wr,HS.out⟩;replace hx2:=hp2 ⟨wr,HS.out⟩;replace hx3:=hp3 ⟨wr,HS.out⟩;replace hx4:=hp4 ⟨wr,HS.out⟩;have hne:Nonempty (WSt w []):=⟨⟨wr,HS.out⟩⟩;go_wp2_with fail;refine wp_region_quietL (C:=fun w'=>∃ p:WSt w [],w'=p.w') (by kernel_rfl) (by kernel_rfl) ⟨⟨_,HS.out.drew⟩,rfl⟩ ?_
   repeat(go_big_quiet_step ((go_at_call 213;refine(markTextL (M+2) (by have:=HM.out;omega) (by have:=HM.out;omega) _).mono ?_;rintro e w2 ⟨rfl,hb⟩;exact⟨rfl,WSt.on _ hb⟩)))
   refine wpQuiet_nil ?_;rintro w9 ⟨⟨w9,S⟩,rfl⟩;clear HS hx0 hx1 hx2 hx3 hx4;have HS:=Aside0.mk S;clear S;have hx0:=hp0 ⟨w9,HS.out⟩;have hx1:=hp1 ⟨w9,HS.out⟩;have hx2:=hp2 ⟨w9,HS.out⟩;have hx3:=hp3 ⟨w9,HS.out⟩;have hx4:=hp4 ⟨w9,HS.out⟩;go_wp2_with fail;refine wp_region_quietL (C:=fun w'=>∃ p:WSt w [],w'=p.w') (by kernel_rfl) (by kernel_rfl) ⟨⟨_,HS.out.drew⟩,rfl⟩ ?_
   repeat(go_big_quiet_step ((go_at_call 213;refine(markTextL (M+3) (by have:=HM.out;omega) (by have:=HM.out;omega) _).mono ?_;rintro e w2 ⟨rfl,hb⟩;exact⟨rfl,WSt.on _ hb⟩)))
   refine wpQuiet_nil ?_;rintro w9 ⟨⟨w9,S⟩,rfl⟩;clear HS hx0 hx1 hx2 hx3 hx4;have HS:=Aside0.mk S;clear S;have hx0:=hp0 ⟨w9,HS.out⟩;have hx1:=hp1 ⟨w9,HS.out⟩;have hx2:=hp2 ⟨w9,HS.out⟩;have hx3:=hp3 ⟨w9,HS.out⟩;have hx4:=hp4 ⟨w9,HS.out⟩;go_wp2_with fail;go_roundw
   case rel=>exact⟨i+1,by have:=HE.out;have:=HM.out;congr 1;omega,by go_num,⟨by have h_:=of_eq_true q5;omega⟩,HS⟩
   case measure=>have h_:=of_eq_true q5;simp only [intOf];omega
  ·have c1b:decide ((i:Int) < (l.length:Int))=false:=decide_eq_false (by omega)
   have c1c:decide (i < l.length)=false:=decide_eq_false c1;have hi:i=l.length:=by have:=HI.out;omega
   subst hi;clear c1;go_wp2_with fail;go_ret;exact⟨rfl,HS.out.below⟩
theorem heldCellSL {A:Option Addr} {c:Nat} (l:List S151) (hl:l.length≤1048576) (m:Int) (h0:0≤m) (h1:m≤1000000000) (w:World) (hA:Kd.C k151 w A l.length l) (hm:∀ (j:Nat) x,l[j]? = some x→x=ceMark (m+2 * (j:Int))) :
  Calls Tryz.prog 159 #[.slice A l.length c,.int .i64 m] w fun e w'=>e=.returned (.int .i64 (m+2 * (l.length:Int)))∧Below w.heap.size w w':=by
 have hu:=Tryz.underlying151;have HL:=Aside0.mk hl;have H0:=Aside0.mk h0;have H1:=Aside0.mk h1;have HA:=Aside0.mk hA;have HMK:=Aside0.mk hm;clear hl h0 h1 hA hm;have HS:=Aside0.mk (St.start w);go_enter Tryz.func159,Tryz.ntmps159;go_wp2_with fail;go_loopw [1,5] (fun v1 v5 w'=>∃ (i:Nat),v1=.int .i64 (m+2 * (i:Int))∧v5=.int .i64 i∧Aside0 (i≤l.length)∧Aside0 (St w w' [])) (fun _ v5 _=>l.length - (intOf v5).toNat)
 case atStart=>exact⟨0,by simp,rfl,⟨Nat.zero_le _⟩,⟨by first|exact HS.out|exact HS.out.drew|exact HS.out.drew.drew⟩⟩
 case round =>
  clear HS;obtain⟨i,rfl,rfl,HI,HS⟩:=hrel;by_cases c1:i < l.length
  ·have c1b:decide ((i:Int) < (l.length:Int))=true:=decide_eq_true (by omega)
   have p5:(0:Int)≤(i:Int):=by omega
   have q5:(i:Int) < (l.length:Int):=by omega
   obtain⟨M,hM⟩:∃ M,M=m+2 * (i:Int):=⟨_,rfl⟩;rw[← hM];obtain⟨ad,e5,hx0,hx1⟩:=at_T151 HA.out (i:Int) p5 q5;cases e5;have hk:rd_T151 l (i:Int)=ceMark M:=by rw[rd_ce l i c1,hM];exact HMK.out i _ (List.getElem?_eq_getElem c1)
   rw[hk] at hx0 hx1;rw[Int.toNat_natCast] at hx0 hx1;dsimp only [ceMark] at hx0 hx1;have HE:=Aside0.mk hM;have HM:=Aside0.mk (show 0≤M∧M≤1010000000 by have:=H0.out;have:=H1.out;have:=HL.out;omega);have p6:i < 1048576:=by have:=HL.out;omega
   clear c1 hM hk;replace p5:=eq_true p5;replace q5:=eq_true q5;have e1:wrap64 (M+1)=M+1:=by have:=HM.out;unfold wrap64;omega
   have e2:wrap64 (M+2)=M+2:=by have:=HM.out;unfold wrap64;omega
   have d2:M+1+1=M+2:=by omega
   have hp0:=fun (p:WSt w [])=>p.old hx0;have hp1:=fun (p:WSt w [])=>p.old hx1;replace hx0:=hp0 ⟨wr,HS.out⟩;replace hx1:=hp1 ⟨wr,HS.out⟩;have hne:Nonempty (WSt w []):=⟨⟨wr,HS.out⟩⟩;go_wp2_with fail;refine wp_region_quietL (C:=fun w'=>∃ p:WSt w [],w'=p.w') (by kernel_rfl) (by kernel_rfl) ⟨⟨_,HS.out.drew⟩,rfl⟩ ?_
   repeat(go_big_quiet_step ((go_at_call 213;refine(markTextL (M) (by have:=HM.out;omega) (by have:=HM.out;omega) _).mono ?_;rintro e w2 ⟨rfl,hb⟩;exact⟨rfl,WSt.on _ hb⟩)))
   refine wpQuiet_nil ?_;rintro w9 ⟨⟨w9,S⟩,rfl⟩;clear HS hx0 hx1;have HS:=Aside0.mk S;clear S;have hx0:=hp0 ⟨w9,HS.out⟩;have hx1:=hp1 ⟨w9,HS.out⟩;go_wp2_with fail;go_roundw
   case rel=>exact⟨i+1,by have:=HE.out;have:=HM.out;congr 1;omega,by go_num,⟨by have h_:=of_eq_true q5;omega⟩,HS⟩
   case measure=>have h_:=of_eq_true q5;simp only [intOf];omega
  ·have c1b:decide ((i:Int) < (l.length:Int))=false:=decide_eq_false (by omega)
   have c1c:decide (i < l.length)=false:=decide_eq_false c1;have hi:i=l.length:=by have:=HI.out;omega
   subst hi;clear c1;go_wp2_with fail;go_ret;exact⟨rfl,HS.out.below⟩
theorem heldStringSL {A:Option Addr} {c:Nat} (l:List ByteArray) (hl:l.length≤1048576) (m:Int) (h0:0≤m) (h1:m≤1000000000) (w:World) (hA:Kd.C Kd.string w A l.length l) (hm:∀ (j:Nat) x,l[j]? = some x→x=stMark (m+1 * (j:Int))) :
  Calls Tryz.prog 160 #[.slice A l.length c,.int .i64 m] w fun e w'=>e=.returned (.int .i64 (m+1 * (l.length:Int)))∧Below w.heap.size w w':=by
 have HL:=Aside0.mk hl;have H0:=Aside0.mk h0;have H1:=Aside0.mk h1;have HA:=Aside0.mk hA;have HMK:=Aside0.mk hm;clear hl h0 h1 hA hm;have HS:=Aside0.mk (St.start w);go_enter Tryz.func160,Tryz.ntmps160;go_wp2_with fail;go_loopw [1,5] (fun v1 v5 w'=>∃ (i:Nat),v1=.int .i64 (m+1 * (i:Int))∧v5=.int .i64 i∧Aside0 (i≤l.length)∧Aside0 (St w w' [])) (fun _ v5 _=>l.length - (intOf v5).toNat)
 case atStart=>exact⟨0,by simp,rfl,⟨Nat.zero_le _⟩,⟨by first|exact HS.out|exact HS.out.drew|exact HS.out.drew.drew⟩⟩
 case round =>
  clear HS;obtain⟨i,rfl,rfl,HI,HS⟩:=hrel;by_cases c1:i < l.length
  ·have c1b:decide ((i:Int) < (l.length:Int))=true:=decide_eq_true (by omega)
   have p5:(0:Int)≤(i:Int):=by omega
   have q5:(i:Int) < (l.length:Int):=by omega
   obtain⟨M,hM⟩:∃ M,M=m+1 * (i:Int):=⟨_,rfl⟩;rw[← hM];obtain⟨ad,e5,hx0⟩:=Kd.at_string HA.out (i:Int) p5 q5;cases e5;have hk:rdOf ByteArray.empty l (i:Int)=stMark M:=by rw[rdS_at l i c1,hM];exact HMK.out i _ (List.getElem?_eq_getElem c1)
   rw[hk] at hx0;rw[Int.toNat_natCast] at hx0;dsimp only [stMark] at hx0;have HE:=Aside0.mk hM;have HM:=Aside0.mk (show 0≤M∧M≤1010000000 by have:=H0.out;have:=H1.out;have:=HL.out;omega);have p6:i < 1048576:=by have:=HL.out;omega
   clear c1 hM hk;replace p5:=eq_true p5;replace q5:=eq_true q5;have e1:wrap64 (M+1)=M+1:=by have:=HM.out;unfold wrap64;omega
   have hp0:=fun (p:WSt w [])=>p.old hx0;replace hx0:=hp0 ⟨wr,HS.out⟩;have hne:Nonempty (WSt w []):=⟨⟨wr,HS.out⟩⟩;go_wp2_with fail;refine wp_region_quietL (C:=fun w'=>∃ p:WSt w [],w'=p.w') (by kernel_rfl) (by kernel_rfl) ⟨⟨_,HS.out.drew⟩,rfl⟩ ?_
   repeat(go_big_quiet_step ((go_at_call 213;refine(markTextL (M) (by have:=HM.out;omega) (by have:=HM.out;omega) _).mono ?_;rintro e w2 ⟨rfl,hb⟩;exact⟨rfl,WSt.on _ hb⟩)))
   refine wpQuiet_nil ?_;rintro w9 ⟨⟨w9,S⟩,rfl⟩;clear HS hx0;have HS:=Aside0.mk S;clear S;have hx0:=hp0 ⟨w9,HS.out⟩;go_wp2_with fail;go_roundw
   case rel=>exact⟨i+1,by have:=HE.out;have:=HM.out;congr 1;omega,by go_num,⟨by have h_:=of_eq_true q5;omega⟩,HS⟩
   case measure=>have h_:=of_eq_true q5;simp only [intOf];omega
  ·have c1b:decide ((i:Int) < (l.length:Int))=false:=decide_eq_false (by omega)
   have c1c:decide (i < l.length)=false:=decide_eq_false c1;have hi:i=l.length:=by have:=HI.out;omega
   subst hi;clear c1;go_wp2_with fail;go_ret;exact⟨rfl,HS.out.below⟩
theorem heldIntSL {A:Option Addr} {c:Nat} (l:List Int) (hl:l.length≤1048576) (m:Int) (h0:0≤m) (h1:m≤1000000000) (w:World) (hA:Kd.C (Kd.int .i64) w A l.length l) (hm:∀ (j:Nat) x,l[j]? = some x→x=inMark (m+1 * (j:Int))) :
  Calls Tryz.prog 161 #[.slice A l.length c,.int .i64 m] w fun e w'=>e=.returned (.int .i64 (m+1 * (l.length:Int)))∧Below w.heap.size w w':=by
 have HL:=Aside0.mk hl;have H0:=Aside0.mk h0;have H1:=Aside0.mk h1;have HA:=Aside0.mk hA;have HMK:=Aside0.mk hm;clear hl h0 h1 hA hm;have HS:=Aside0.mk (St.start w);go_enter Tryz.func161,Tryz.ntmps161;go_wp2_with fail;go_loopw [1,5] (fun v1 v5 w'=>∃ (i:Nat),v1=.int .i64 (m+1 * (i:Int))∧v5=.int .i64 i∧Aside0 (i≤l.length)∧Aside0 (St w w' [])) (fun _ v5 _=>l.length - (intOf v5).toNat)
 case atStart=>exact⟨0,by simp,rfl,⟨Nat.zero_le _⟩,⟨by first|exact HS.out|exact HS.out.drew|exact HS.out.drew.drew⟩⟩
 case round =>
  clear HS;obtain⟨i,rfl,rfl,HI,HS⟩:=hrel;by_cases c1:i < l.length
  ·have c1b:decide ((i:Int) < (l.length:Int))=true:=decide_eq_true (by omega)
   have p5:(0:Int)≤(i:Int):=by omega
   have q5:(i:Int) < (l.length:Int):=by omega
   obtain⟨M,hM⟩:∃ M,M=m+1 * (i:Int):=⟨_,rfl⟩;rw[← hM];obtain⟨ad,e5,hx0⟩:=Kd.at_int HA.out (i:Int) p5 q5;cases e5;have hk:rd l (i:Int)=inMark M:=by rw[rd_at l i c1,hM];exact HMK.out i _ (List.getElem?_eq_getElem c1)
   rw[hk] at hx0;rw[Int.toNat_natCast] at hx0;dsimp only [inMark] at hx0;have HE:=Aside0.mk hM;have HM:=Aside0.mk (show 0≤M∧M≤1010000000 by have:=H0.out;have:=H1.out;have:=HL.out;omega);have p6:i < 1048576:=by have:=HL.out;omega
   clear c1 hM hk;replace p5:=eq_true p5;replace q5:=eq_true q5;have e1:wrap64 (M+1)=M+1:=by have:=HM.out;unfold wrap64;omega
   have hp0:=fun (p:WSt w [])=>p.old hx0;replace hx0:=hp0 ⟨wr,HS.out⟩;have hne:Nonempty (WSt w []):=⟨⟨wr,HS.out⟩⟩;go_wp2_with fail;go_roundw
   case rel=>exact⟨i+1,by have:=HE.out;have:=HM.out;congr 1;omega,by go_num,⟨by have h_:=of_eq_true q5;omega⟩,HS⟩
   case measure=>have h_:=of_eq_true q5;simp only [intOf];omega
  ·have c1b:decide ((i:Int) < (l.length:Int))=false:=decide_eq_false (by omega)
   have c1c:decide (i < l.length)=false:=decide_eq_false c1;have hi:i=l.length:=by have:=HI.out;omega
   subst hi;clear c1;go_wp2_with fail;go_ret;exact⟨rfl,HS.out.below⟩
theorem markArenaL {w0 w:World} {ps:List Part} {A0:Option Addr} {c0:Nat} (l0:List S94) (s0:l0.length≤1048576) (a1:Int) (m:Int) (h0:0≤m) (h1:m≤900000000) (h:St w0 w (Part.row k94 94 (.slice A0 l0.length c0) l0 :: ps)):Calls Tryz.prog 77 #[.agg #[.slice A0 l0.length c0,.int .i64 a1],.int .i64 m] w fun e w'=>e=.returned (.int .i64 (m+5 * (l0.length:Int)))∧St w0 w' (Part.row k94 94 (.slice A0 l0.length c0) (marked slMark 5 l0.length (m)) :: ps):=by
 have H0:=Aside0.mk h0;have H1:=Aside0.mk h1;have HS:=Aside0.mk h;clear h0 h1 h;go_enter Tryz.func77,Tryz.ntmps77;go_wp2_with (first|((with_reducible refine gate_dst (N:=2) rfl ?_);refine boxS HS (N:=2) fun g2 w2 S=>?_;clear HS;have HS:=Aside0.mk S;obtain⟨hc0,hc1⟩:=S.cells2 0 rfl;clear S));have S:=HS.out.front 1 rfl rfl;clear HS hc0 hc1;refine(markSlotSL l0 s0 (m) (by have:=H0.out;omega) (by have:=H1.out;omega) S).mono ?_;rintro e w5 ⟨rfl,S⟩;have HS:=Aside0.mk S;obtain⟨hc0,hc1⟩:=S.cells2 1 rfl;clear S;go_wp2_with fail;go_ret;have S:=HS.out;exact⟨by first|rfl|(rw[Int.one_mul];rfl),(S.front 1 rfl rfl).tail⟩
theorem markTableL {w0 w:World} {ps:List Part} {A0:Option Addr} {c0:Nat} (l0:List S151) (s0:l0.length≤1048576) {A1:Option Addr} {c1:Nat} (l1:List S151) (s1:l1.length≤1048576) (a2:Int) (m:Int) (h0:0≤m) (h1:m≤900000000) (h:St w0 w (Part.row k151 151 (.slice A0 l0.length c0) l0 :: Part.row k151 151 (.slice A1 l1.length c1) l1 :: ps)):Calls Tryz.prog 78 #[.agg #[.slice A0 l0.length c0,.slice A1 l1.length c1,.int .i64 a2],.int .i64 m] w fun e w'=>e=.returned (.int .i64 (m+2 * (l0.length:Int)+2 * (l1.length:Int)))∧St w0 w' (Part.row k151 151 (.slice A0 l0.length c0) (marked ceMark 2 l0.length (m)) :: Part.row k151 151 (.slice A1 l1.length c1) (marked ceMark 2 l1.length (m+2 * (l0.length:Int))) :: ps):=by
 have H0:=Aside0.mk h0;have H1:=Aside0.mk h1;have HS:=Aside0.mk h;clear h0 h1 h;go_enter Tryz.func78,Tryz.ntmps78;go_wp2_with (first|((with_reducible refine gate_dst (N:=2) rfl ?_);refine boxS HS (N:=2) fun g2 w2 S=>?_;clear HS;have HS:=Aside0.mk S;obtain⟨hc0,hc1,hc2⟩:=S.cells3 0 rfl;clear S));have S:=HS.out.front 1 rfl rfl;clear HS hc0 hc1 hc2;refine(markCellSL l0 s0 (m) (by have:=H0.out;omega) (by have:=H1.out;omega) S).mono ?_;rintro e w5 ⟨rfl,S⟩;have HS:=Aside0.mk S;obtain⟨hc0,hc1,hc2⟩:=S.cells3 1 rfl;clear S;go_wp2_with fail;have S:=HS.out.front 2 rfl rfl;clear HS hc0 hc1 hc2;refine(markCellSL l1 s1 (m+2 * (l0.length:Int)) (by have:=H0.out;omega) (by have:=H1.out;omega) S).mono ?_;rintro e w6 ⟨rfl,S⟩;have HS:=Aside0.mk S;obtain⟨hc0,hc1,hc2⟩:=S.cells3 2 rfl;clear S;go_wp2_with fail;go_ret;have S:=HS.out;have S:=S.front 1 rfl rfl;exact⟨by first|rfl|(rw[Int.one_mul];rfl),(S.front 2 rfl rfl).tail⟩
theorem markQueueL {w0 w:World} {ps:List Part} (a0:Int) {A1:Option Addr} {c1:Nat} (l1:List ByteArray) (s1:l1.length≤1048576) (m:Int) (h0:0≤m) (h1:m≤900000000) (h:St w0 w (Part.row Kd.string 9 (.slice A1 l1.length c1) l1 :: ps)):Calls Tryz.prog 79 #[.agg #[.int .i64 a0,.slice A1 l1.length c1],.int .i64 m] w fun e w'=>e=.returned (.int .i64 (m+1 * (l1.length:Int)))∧St w0 w' (Part.row Kd.string 9 (.slice A1 l1.length c1) (marked stMark 1 l1.length (m)) :: ps):=by
 have H0:=Aside0.mk h0;have H1:=Aside0.mk h1;have HS:=Aside0.mk h;clear h0 h1 h;go_enter Tryz.func79,Tryz.ntmps79;go_wp2_with (first|((with_reducible refine gate_dst (N:=2) rfl ?_);refine boxS HS (N:=2) fun g2 w2 S=>?_;clear HS;have HS:=Aside0.mk S;obtain⟨hc0,hc1⟩:=S.cells2 0 rfl;clear S));have S:=HS.out.front 1 rfl rfl;clear HS hc0 hc1;refine(markStringSL l1 s1 (m) (by have:=H0.out;omega) (by have:=H1.out;omega) S).mono ?_;rintro e w5 ⟨rfl,S⟩;have HS:=Aside0.mk S;obtain⟨hc0,hc1⟩:=S.cells2 1 rfl;clear S;go_wp2_with fail;go_ret;have S:=HS.out;exact⟨by first|rfl|(rw[Int.one_mul];rfl),(S.front 1 rfl rfl).tail⟩
theorem markSketchL {w0 w:World} {ps:List Part} {A0:Option Addr} {c0:Nat} (l0:List Int) (s0:l0.length≤1048576) (a1:Int) (m:Int) (h0:0≤m) (h1:m≤900000000) (h:St w0 w (Part.row (Kd.int .i64) 3 (.slice A0 l0.length c0) l0 :: ps)):Calls Tryz.prog 80 #[.agg #[.slice A0 l0.length c0,.int .i64 a1],.int .i64 m] w fun e w'=>e=.returned (.int .i64 (m+1 * (l0.length:Int)))∧St w0 w' (Part.row (Kd.int .i64) 3 (.slice A0 l0.length c0) (marked inMark 1 l0.length (m)) :: ps):=by
 have H0:=Aside0.mk h0;have H1:=Aside0.mk h1;have HS:=Aside0.mk h;clear h0 h1 h;go_enter Tryz.func80,Tryz.ntmps80;go_wp2_with (first|((with_reducible refine gate_dst (N:=2) rfl ?_);refine boxS HS (N:=2) fun g2 w2 S=>?_;clear HS;have HS:=Aside0.mk S;obtain⟨hc0,hc1⟩:=S.cells2 0 rfl;clear S));have S:=HS.out.front 1 rfl rfl;clear HS hc0 hc1;refine(markIntSL l0 s0 (m) (by have:=H0.out;omega) (by have:=H1.out;omega) S).mono ?_;rintro e w5 ⟨rfl,S⟩;have HS:=Aside0.mk S;obtain⟨hc0,hc1⟩:=S.cells2 1 rfl;clear S;go_wp2_with fail;go_ret;have S:=HS.out;exact⟨by first|rfl|(rw[Int.one_mul];rfl),(S.front 1 rfl rfl).tail⟩
theorem heldArenaL {A0:Option Addr} {c0:Nat} (l0:List S94) (s0:l0.length≤1048576) (a1:Int) (m:Int) (h0:0≤m) (h1:m≤900000000) (w:World) (hA0:Kd.C k94 w A0 l0.length l0) (hm0:∀ (j:Nat) x,l0[j]? = some x→x=slMark (m+5 * (j:Int))):Calls Tryz.prog 81 #[.agg #[.slice A0 l0.length c0,.int .i64 a1],.int .i64 m] w fun e w'=>e=.returned (.int .i64 (m+5 * (l0.length:Int)))∧Below w.heap.size w w':=by
 have HA0:=Aside0.mk hA0;clear hA0;have H0:=Aside0.mk h0;have H1:=Aside0.mk h1;have HS:=Aside0.mk (St.start w);clear h0 h1;go_enter Tryz.func81,Tryz.ntmps81;go_wp2_with (first|((with_reducible refine gate_dst (N:=2) rfl ?_);refine boxS HS (N:=2) fun g2 w2 S=>?_;clear HS;have HS:=Aside0.mk S;obtain⟨hc0,hc1⟩:=S.cells2 0 rfl;clear S));have hb:=HS.out.below;refine(heldSlotSL l0 s0 (m) (by have:=H0.out;omega) (by have:=H1.out;omega) _ (Kd.C_below HA0.out hb) hm0).mono ?_;clear hb;rintro e w5 ⟨rfl,hb⟩;have S:=HS.out.step hb;clear HS hb hc0 hc1;have HS:=Aside0.mk S;obtain⟨hc0,hc1⟩:=S.cells2 0 rfl;clear S;have t0:decide (m+5 * (l0.length:Int) < 0)=false:=decide_eq_false (by have:=H0.out;omega);have d0:=t0;try rw[Int.one_mul] at d0
 go_wp2_with fail;go_ret;exact⟨by first|rfl|(rw[Int.one_mul];rfl),HS.out.below⟩
theorem heldTableL {A0:Option Addr} {c0:Nat} (l0:List S151) (s0:l0.length≤1048576) {A1:Option Addr} {c1:Nat} (l1:List S151) (s1:l1.length≤1048576) (a2:Int) (m:Int) (h0:0≤m) (h1:m≤900000000) (w:World) (hA0:Kd.C k151 w A0 l0.length l0) (hm0:∀ (j:Nat) x,l0[j]? = some x→x=ceMark (m+2 * (j:Int))) (hA1:Kd.C k151 w A1 l1.length l1) (hm1:∀ (j:Nat) x,l1[j]? = some x→x=ceMark (m+2 * (l0.length:Int)+2 * (j:Int))):Calls Tryz.prog 82 #[.agg #[.slice A0 l0.length c0,.slice A1 l1.length c1,.int .i64 a2],.int .i64 m] w fun e w'=>e=.returned (.int .i64 (m+2 * (l0.length:Int)+2 * (l1.length:Int)))∧Below w.heap.size w w':=by
 have HA0:=Aside0.mk hA0;clear hA0;have HA1:=Aside0.mk hA1;clear hA1;have H0:=Aside0.mk h0;have H1:=Aside0.mk h1;have HS:=Aside0.mk (St.start w);clear h0 h1;go_enter Tryz.func82,Tryz.ntmps82;go_wp2_with (first|((with_reducible refine gate_dst (N:=2) rfl ?_);refine boxS HS (N:=2) fun g2 w2 S=>?_;clear HS;have HS:=Aside0.mk S;obtain⟨hc0,hc1,hc2⟩:=S.cells3 0 rfl;clear S));have hb:=HS.out.below;refine(heldCellSL l0 s0 (m) (by have:=H0.out;omega) (by have:=H1.out;omega) _ (Kd.C_below HA0.out hb) hm0).mono ?_;clear hb;rintro e w5 ⟨rfl,hb⟩;have S:=HS.out.step hb;clear HS hb hc0 hc1 hc2;have HS:=Aside0.mk S;obtain⟨hc0,hc1,hc2⟩:=S.cells3 0 rfl;clear S;have t0:decide (m+2 * (l0.length:Int) < 0)=false:=decide_eq_false (by have:=H0.out;omega);have d0:=t0;try rw[Int.one_mul] at d0
 go_wp2_with fail;have hb:=HS.out.below;refine(heldCellSL l1 s1 (m+2 * (l0.length:Int)) (by have:=H0.out;omega) (by have:=H1.out;omega) _ (Kd.C_below HA1.out hb) hm1).mono ?_;clear hb;rintro e w6 ⟨rfl,hb⟩;have S:=HS.out.step hb;clear HS hb hc0 hc1 hc2;have HS:=Aside0.mk S;obtain⟨hc0,hc1,hc2⟩:=S.cells3 0 rfl;clear S;have t1:decide (m+2 * (l0.length:Int)+2 * (l1.length:Int) < 0)=false:=decide_eq_false (by have:=H0.out;omega);have d1:=t1;try rw[Int.one_mul] at d1
 go_wp2_with fail;go_ret;exact⟨by first|rfl|(rw[Int.one_mul];rfl),HS.out.below⟩
theorem heldQueueL (a0:Int) {A1:Option Addr} {c1:Nat} (l1:List ByteArray) (s1:l1.length≤1048576) (m:Int) (h0:0≤m) (h1:m≤900000000) (w:World) (hA1:Kd.C Kd.string w A1 l1.length l1) (hm1:∀ (j:Nat) x,l1[j]? = some x→x=stMark (m+1 * (j:Int))):Calls Tryz.prog 83 #[.agg #[.int .i64 a0,.slice A1 l1.length c1],.int .i64 m] w fun e w'=>e=.returned (.int .i64 (m+1 * (l1.length:Int)))∧Below w.heap.size w w':=by
 have HA1:=Aside0.mk hA1;clear hA1;have H0:=Aside0.mk h0;have H1:=Aside0.mk h1;have HS:=Aside0.mk (St.start w);clear h0 h1;go_enter Tryz.func83,Tryz.ntmps83;go_wp2_with (first|((with_reducible refine gate_dst (N:=2) rfl ?_);refine boxS HS (N:=2) fun g2 w2 S=>?_;clear HS;have HS:=Aside0.mk S;obtain⟨hc0,hc1⟩:=S.cells2 0 rfl;clear S));have hb:=HS.out.below;refine(heldStringSL l1 s1 (m) (by have:=H0.out;omega) (by have:=H1.out;omega) _ (Kd.C_below HA1.out hb) hm1).mono ?_;clear hb;rintro e w5 ⟨rfl,hb⟩;have S:=HS.out.step hb;clear HS hb hc0 hc1;have HS:=Aside0.mk S;obtain⟨hc0,hc1⟩:=S.cells2 0 rfl;clear S;have t0:decide (m+1 * (l1.length:Int) < 0)=false:=decide_eq_false (by have:=H0.out;omega);have d0:=t0;try rw[Int.one_mul] at d0
 go_wp2_with fail;go_ret;exact⟨by first|rfl|(rw[Int.one_mul];rfl),HS.out.below⟩
theorem heldSketchL {A0:Option Addr} {c0:Nat} (l0:List Int) (s0:l0.length≤1048576) (a1:Int) (m:Int) (h0:0≤m) (h1:m≤900000000) (w:World) (hA0:Kd.C (Kd.int .i64) w A0 l0.length l0) (hm0:∀ (j:Nat) x,l0[j]? = some x→x=inMark (m+1 * (j:Int))):Calls Tryz.prog 84 #[.agg #[.slice A0 l0.length c0,.int .i64 a1],.int .i64 m] w fun e w'=>e=.returned (.int .i64 (m+1 * (l0.length:Int)))∧Below w.heap.size w w':=by
 have HA0:=Aside0.mk hA0;clear hA0;have H0:=Aside0.mk h0;have H1:=Aside0.mk h1;have HS:=Aside0.mk (St.start w);clear h0 h1;go_enter Tryz.func84,Tryz.ntmps84;go_wp2_with (first|((with_reducible refine gate_dst (N:=2) rfl ?_);refine boxS HS (N:=2) fun g2 w2 S=>?_;clear HS;have HS:=Aside0.mk S;obtain⟨hc0,hc1⟩:=S.cells2 0 rfl;clear S));have hb:=HS.out.below;refine(heldIntSL l0 s0 (m) (by have:=H0.out;omega) (by have:=H1.out;omega) _ (Kd.C_below HA0.out hb) hm0).mono ?_;clear hb;rintro e w5 ⟨rfl,hb⟩;have S:=HS.out.step hb;clear HS hb hc0 hc1;have HS:=Aside0.mk S;obtain⟨hc0,hc1⟩:=S.cells2 0 rfl;clear S;have t0:decide (m+1 * (l0.length:Int) < 0)=false:=decide_eq_false (by have:=H0.out;omega);have d0:=t0;try rw[Int.one_mul] at d0
 go_wp2_with fail;go_ret;exact⟨by first|rfl|(rw[Int.one_mul];rfl),HS.out.below⟩
structure Nr.short (n:Nr):Prop where
 s0:n.sl.length≤1048576
 s2:n.ce.length≤1048576
 s3:n.old.length≤1048576
 s6:n.wk.length≤1048576
 s8:n.tk.length≤1048576
 s10:n.sk.length≤1048576
 s11:n.ct.length≤1048576
theorem Nr.small.short {n:Nr} (h:n.small):n.short:=⟨h.s0,h.s2,h.s3,h.s6,h.s8,h.s10,h.s11⟩
def Nr.k1 (n:Nr):Int:=1+5 * (n.sl.length:Int)
def Nr.k2 (n:Nr):Int:=n.k1+2 * (n.ce.length:Int)
def Nr.k3 (n:Nr):Int:=n.k2+2 * (n.old.length:Int)
def Nr.k4 (n:Nr):Int:=n.k3+1 * (n.wk.length:Int)
def Nr.k5 (n:Nr):Int:=n.k4+1 * (n.tk.length:Int)
def Nr.k6 (n:Nr):Int:=n.k5+1 * (n.sk.length:Int)
def Nr.k7 (n:Nr):Int:=n.k6+1 * (n.ct.length:Int)
theorem Nr.short.ks {n:Nr} (h:n.short):(0≤n.k1∧n.k1≤20000000)∧(0≤n.k2∧n.k2≤20000000)∧(0≤n.k3∧n.k3≤20000000)∧(0≤n.k4∧n.k4≤20000000)∧(0≤n.k5∧n.k5≤20000000)∧(0≤n.k6∧n.k6≤20000000)∧(0≤n.k7∧n.k7≤20000000):=by
 obtain⟨h1,h2,h3,h4,h5,h6,h7⟩:=h;unfold Nr.k7 Nr.k6 Nr.k5 Nr.k4 Nr.k3 Nr.k2 Nr.k1;omega
noncomputable def Nr.marked (n:Nr):Nr:=⟨Nb.marked slMark 5 n.sl.length 1,n.fr,Nb.marked ceMark 2 n.ce.length n.k1,Nb.marked ceMark 2 n.old.length n.k2,n.mv,n.wm,Nb.marked stMark 1 n.wk.length n.k3,n.tm,Nb.marked stMark 1 n.tk.length n.k4,n.sm,Nb.marked stMark 1 n.sk.length n.k5,Nb.marked inMark 1 n.ct.length n.k6,n.ad,n.db⟩
structure Nr.isMarked (n:Nr):Prop where
 m0:∀ (j:Nat) x,n.sl[j]? = some x→x=slMark (1+5 * (j:Int))
 m2:∀ (j:Nat) x,n.ce[j]? = some x→x=ceMark (n.k1+2 * (j:Int))
 m3:∀ (j:Nat) x,n.old[j]? = some x→x=ceMark (n.k2+2 * (j:Int))
 m6:∀ (j:Nat) x,n.wk[j]? = some x→x=stMark (n.k3+1 * (j:Int))
 m8:∀ (j:Nat) x,n.tk[j]? = some x→x=stMark (n.k4+1 * (j:Int))
 m10:∀ (j:Nat) x,n.sk[j]? = some x→x=stMark (n.k5+1 * (j:Int))
 m11:∀ (j:Nat) x,n.ct[j]? = some x→x=inMark (n.k6+1 * (j:Int))
theorem Nr.marked_ks (n:Nr):n.marked.k1=n.k1∧n.marked.k2=n.k2∧n.marked.k3=n.k3∧n.marked.k4=n.k4∧n.marked.k5=n.k5∧n.marked.k6=n.k6∧n.marked.k7=n.k7:=by
 simp only [Nr.k7,Nr.k6,Nr.k5,Nr.k4,Nr.k3,Nr.k2,Nr.k1,Nr.marked,marked_len,and_self]
theorem Nr.marked_is (n:Nr):n.marked.isMarked:=by
 obtain⟨e1,e2,e3,e4,e5,e6,-⟩:=n.marked_ks;refine⟨?_,?_,?_,?_,?_,?_,?_⟩
 ·exact marked_at
 ·rw[e1];exact marked_at
 ·rw[e2];exact marked_at
 ·rw[e3];exact marked_at
 ·rw[e4];exact marked_at
 ·rw[e5];exact marked_at
 ·rw[e6];exact marked_at
theorem Nr.short.marked {n:Nr} (h:n.short):n.marked.short:=by
 refine⟨?_,?_,?_,?_,?_,?_,?_⟩ <;> simp only [Nr.marked,marked_len]
 ·exact h.s0
 ·exact h.s2
 ·exact h.s3
 ·exact h.s6
 ·exact h.s8
 ·exact h.s10
 ·exact h.s11
theorem markNearL {w0 w:World} {ps:List Part} (u:NV) (n:Nr) (hn:n.short) (h:St w0 w (u.rows n ++ ps)):Calls Tryz.prog 25 #[.agg (u.cells n),.int .i64 1] w fun e w'=>e=.returned (.int .i64 n.k7)∧St w0 w' (u.rows n.marked ++ ps):=by
 obtain⟨A0,c0,A2,c2,A3,c3,A6,c6,A8,c8,A10,c10,A11,c11,rfl⟩:=NV.shape h;have HN:=Aside0.mk hn;have HK:=Aside0.mk hn.ks;have HS:=Aside0.mk h;clear hn h;dsimp only [NV.cells];go_enter Tryz.func25,Tryz.ntmps25;go_wp2_with (first|((with_reducible refine gate_dst (N:=2) rfl ?_);refine boxS HS (N:=2) fun g2 w2 S=>?_;clear HS;have HS:=Aside0.mk S;obtain⟨hc0,hc1,hc2,hc3,hc4,hc5,hc6,hc7,hc8,hc9,hc10,hc11,hc12,hc13⟩:=S.cells14 0 rfl;clear S));have S:=HS.out;have S:=S.front 1 rfl rfl;clear HS hc0 hc1 hc2 hc3 hc4 hc5 hc6 hc7 hc8 hc9 hc10 hc11 hc12 hc13;refine(markArenaL n.sl HN.out.s0 n.fr 1 (by omega) (by omega) S).mono ?_;rintro e x0 ⟨rfl,S⟩;have HS:=Aside0.mk S;obtain⟨hc0,hc1,hc2,hc3,hc4,hc5,hc6,hc7,hc8,hc9,hc10,hc11,hc12,hc13⟩:=S.cells14 1 rfl;clear S;rw[show 1+5 * (n.sl.length:Int)=n.k1 from rfl];go_wp2_with fail;have S:=HS.out;have S:=S.front 3 rfl rfl;have S:=S.front 3 rfl rfl;clear HS hc0 hc1 hc2 hc3 hc4 hc5 hc6 hc7 hc8 hc9 hc10 hc11 hc12 hc13;refine(markTableL n.ce HN.out.s2 n.old HN.out.s3 n.mv n.k1 HK.out.1.1 (by have:=HK.out;omega) S).mono ?_;rintro e x1 ⟨rfl,S⟩;have HS:=Aside0.mk S;obtain⟨hc0,hc1,hc2,hc3,hc4,hc5,hc6,hc7,hc8,hc9,hc10,hc11,hc12,hc13⟩:=S.cells14 3 rfl;clear S;rw[show n.k1+2 * (n.ce.length:Int)+2 * (n.old.length:Int)=n.k3 from rfl];go_wp2_with fail;have S:=HS.out;have S:=S.front 4 rfl rfl;clear HS hc0 hc1 hc2 hc3 hc4 hc5 hc6 hc7 hc8 hc9 hc10 hc11 hc12 hc13;refine(markQueueL n.wm n.wk HN.out.s6 n.k3 HK.out.2.2.1.1 (by have:=HK.out;omega) S).mono ?_;rintro e x2 ⟨rfl,S⟩;have HS:=Aside0.mk S;obtain⟨hc0,hc1,hc2,hc3,hc4,hc5,hc6,hc7,hc8,hc9,hc10,hc11,hc12,hc13⟩:=S.cells14 4 rfl;clear S;rw[show n.k3+1 * (n.wk.length:Int)=n.k4 from rfl];go_wp2_with fail;have S:=HS.out;have S:=S.front 5 rfl rfl;clear HS hc0 hc1 hc2 hc3 hc4 hc5 hc6 hc7 hc8 hc9 hc10 hc11 hc12 hc13;refine(markQueueL n.tm n.tk HN.out.s8 n.k4 HK.out.2.2.2.1.1 (by have:=HK.out;omega) S).mono ?_;rintro e x3 ⟨rfl,S⟩;have HS:=Aside0.mk S;obtain⟨hc0,hc1,hc2,hc3,hc4,hc5,hc6,hc7,hc8,hc9,hc10,hc11,hc12,hc13⟩:=S.cells14 5 rfl;clear S;rw[show n.k4+1 * (n.tk.length:Int)=n.k5 from rfl];go_wp2_with fail;have S:=HS.out;have S:=S.front 6 rfl rfl;clear HS hc0 hc1 hc2 hc3 hc4 hc5 hc6 hc7 hc8 hc9 hc10 hc11 hc12 hc13;refine(markQueueL n.sm n.sk HN.out.s10 n.k5 HK.out.2.2.2.2.1.1 (by have:=HK.out;omega) S).mono ?_;rintro e x4 ⟨rfl,S⟩;have HS:=Aside0.mk S;obtain⟨hc0,hc1,hc2,hc3,hc4,hc5,hc6,hc7,hc8,hc9,hc10,hc11,hc12,hc13⟩:=S.cells14 6 rfl;clear S;rw[show n.k5+1 * (n.sk.length:Int)=n.k6 from rfl];go_wp2_with fail;have S:=HS.out;have S:=S.front 7 rfl rfl;clear HS hc0 hc1 hc2 hc3 hc4 hc5 hc6 hc7 hc8 hc9 hc10 hc11 hc12 hc13;refine(markSketchL n.ct HN.out.s11 n.ad n.k6 HK.out.2.2.2.2.2.1.1 (by have:=HK.out;omega) S).mono ?_;rintro e x5 ⟨rfl,S⟩;have HS:=Aside0.mk S;obtain⟨hc0,hc1,hc2,hc3,hc4,hc5,hc6,hc7,hc8,hc9,hc10,hc11,hc12,hc13⟩:=S.cells14 7 rfl;clear S;rw[show n.k6+1 * (n.ct.length:Int)=n.k7 from rfl];go_wp2_with fail;go_ret;have S:=HS.out;have S:=S.front 1 rfl rfl;have S:=S.front 2 rfl rfl;have S:=S.front 3 rfl rfl;have S:=S.front 5 rfl rfl;have S:=S.front 5 rfl rfl;have S:=S.front 6 rfl rfl;exact⟨rfl,(S.front 7 rfl rfl).tail⟩
theorem heldNearL (w:World) (u:NV) (n:Nr) (hn:n.short) (hm:n.isMarked) (hC:NearC w u n):Calls Tryz.prog 26 #[.agg (u.cells n),.int .i64 1] w fun e w'=>e=.returned (.int .i64 n.k7)∧Below w.heap.size w w':=by
 obtain⟨A0,c0,A2,c2,A3,c3,A6,c6,A8,c8,A10,c10,A11,c11,rfl,hF⟩:=hC.open_;have HF:=Aside0.mk hF;have HN:=Aside0.mk hn;have HM:=Aside0.mk hm;have HK:=Aside0.mk hn.ks;have HS:=Aside0.mk (St.start w);clear hn hF hC hm;dsimp only [NV.cells];go_enter Tryz.func26,Tryz.ntmps26;go_wp2_with (first|((with_reducible refine gate_dst (N:=2) rfl ?_);refine boxS HS (N:=2) fun g2 w2 S=>?_;clear HS;have HS:=Aside0.mk S;obtain⟨hc0,hc1,hc2,hc3,hc4,hc5,hc6,hc7,hc8,hc9,hc10,hc11,hc12,hc13⟩:=S.cells14 0 rfl;clear S));have hb:=HS.out.below;refine(heldArenaL n.sl HN.out.s0 n.fr 1 (by omega) (by omega) _ (HF.out.below hb).h0 HM.out.m0).mono ?_;clear hb;rintro e x0 ⟨rfl,hb⟩;have S:=HS.out.step hb;clear HS hb hc0 hc1 hc2 hc3 hc4 hc5 hc6 hc7 hc8 hc9 hc10 hc11 hc12 hc13;have HS:=Aside0.mk S;obtain⟨hc0,hc1,hc2,hc3,hc4,hc5,hc6,hc7,hc8,hc9,hc10,hc11,hc12,hc13⟩:=S.cells14 0 rfl;clear S;rw[show 1+5 * (n.sl.length:Int)=n.k1 from rfl];have t0:decide (n.k1 < 0)=false:=decide_eq_false (by have:=HK.out;omega);go_wp2_with fail;have hb:=HS.out.below;refine(heldTableL n.ce HN.out.s2 n.old HN.out.s3 n.mv n.k1 HK.out.1.1 (by have:=HK.out;omega) _ (HF.out.below hb).h2 HM.out.m2 (HF.out.below hb).h3 HM.out.m3).mono ?_;clear hb;rintro e x1 ⟨rfl,hb⟩;have S:=HS.out.step hb;clear HS hb hc0 hc1 hc2 hc3 hc4 hc5 hc6 hc7 hc8 hc9 hc10 hc11 hc12 hc13;have HS:=Aside0.mk S;obtain⟨hc0,hc1,hc2,hc3,hc4,hc5,hc6,hc7,hc8,hc9,hc10,hc11,hc12,hc13⟩:=S.cells14 0 rfl;clear S;rw[show n.k1+2 * (n.ce.length:Int)+2 * (n.old.length:Int)=n.k3 from rfl];have t1:decide (n.k3 < 0)=false:=decide_eq_false (by have:=HK.out;omega);go_wp2_with fail;have hb:=HS.out.below;refine(heldQueueL n.wm n.wk HN.out.s6 n.k3 HK.out.2.2.1.1 (by have:=HK.out;omega) _ (HF.out.below hb).h6 HM.out.m6).mono ?_;clear hb;rintro e x2 ⟨rfl,hb⟩;have S:=HS.out.step hb;clear HS hb hc0 hc1 hc2 hc3 hc4 hc5 hc6 hc7 hc8 hc9 hc10 hc11 hc12 hc13;have HS:=Aside0.mk S;obtain⟨hc0,hc1,hc2,hc3,hc4,hc5,hc6,hc7,hc8,hc9,hc10,hc11,hc12,hc13⟩:=S.cells14 0 rfl;clear S;rw[show n.k3+1 * (n.wk.length:Int)=n.k4 from rfl];have t2:decide (n.k4 < 0)=false:=decide_eq_false (by have:=HK.out;omega);go_wp2_with fail;have hb:=HS.out.below;refine(heldQueueL n.tm n.tk HN.out.s8 n.k4 HK.out.2.2.2.1.1 (by have:=HK.out;omega) _ (HF.out.below hb).h8 HM.out.m8).mono ?_;clear hb;rintro e x3 ⟨rfl,hb⟩;have S:=HS.out.step hb;clear HS hb hc0 hc1 hc2 hc3 hc4 hc5 hc6 hc7 hc8 hc9 hc10 hc11 hc12 hc13;have HS:=Aside0.mk S;obtain⟨hc0,hc1,hc2,hc3,hc4,hc5,hc6,hc7,hc8,hc9,hc10,hc11,hc12,hc13⟩:=S.cells14 0 rfl;clear S;rw[show n.k4+1 * (n.tk.length:Int)=n.k5 from rfl];have t3:decide (n.k5 < 0)=false:=decide_eq_false (by have:=HK.out;omega);go_wp2_with fail;have hb:=HS.out.below;refine(heldQueueL n.sm n.sk HN.out.s10 n.k5 HK.out.2.2.2.2.1.1 (by have:=HK.out;omega) _ (HF.out.below hb).h10 HM.out.m10).mono ?_;clear hb;rintro e x4 ⟨rfl,hb⟩;have S:=HS.out.step hb;clear HS hb hc0 hc1 hc2 hc3 hc4 hc5 hc6 hc7 hc8 hc9 hc10 hc11 hc12 hc13;have HS:=Aside0.mk S;obtain⟨hc0,hc1,hc2,hc3,hc4,hc5,hc6,hc7,hc8,hc9,hc10,hc11,hc12,hc13⟩:=S.cells14 0 rfl;clear S;rw[show n.k5+1 * (n.sk.length:Int)=n.k6 from rfl];have t4:decide (n.k6 < 0)=false:=decide_eq_false (by have:=HK.out;omega);go_wp2_with fail;have hb:=HS.out.below;refine(heldSketchL n.ct HN.out.s11 n.ad n.k6 HK.out.2.2.2.2.2.1.1 (by have:=HK.out;omega) _ (HF.out.below hb).h11 HM.out.m11).mono ?_;clear hb;rintro e x5 ⟨rfl,hb⟩;have S:=HS.out.step hb;clear HS hb hc0 hc1 hc2 hc3 hc4 hc5 hc6 hc7 hc8 hc9 hc10 hc11 hc12 hc13;have HS:=Aside0.mk S;obtain⟨hc0,hc1,hc2,hc3,hc4,hc5,hc6,hc7,hc8,hc9,hc10,hc11,hc12,hc13⟩:=S.cells14 0 rfl;clear S;rw[show n.k6+1 * (n.ct.length:Int)=n.k7 from rfl];have t5:decide (n.k7 < 0)=false:=decide_eq_false (by have:=HK.out;omega);go_wp2_with fail;go_ret;exact⟨rfl,HS.out.below⟩
end Go.Proofs.YtediiolcoilepaaGreat.Nb
