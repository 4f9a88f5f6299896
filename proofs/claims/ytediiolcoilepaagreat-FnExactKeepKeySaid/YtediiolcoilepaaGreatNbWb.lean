/- Walks of callees. -/
import Derived.Test.YtediiolcoilepaaGreatNbV
namespace Go.Proofs.YtediiolcoilepaaGreat.Nb
set_option maxHeartbeats 8000000
set_option maxRecDepth 100000
open Go.RowKit YtediiolcoilepaaGreat.GNear YtediiolcoilepaaGreatW.PrintWords YtediiolcoilepaaGreatW.PrintLast YtediiolcoilepaaGreatW.PrintMore
theorem B8r (a b:Nat) (ha:a < 9223372036854775808) (hb:b < 9223372036854775808):Go.bits .and .i64 (a:Int) (b:Int)=((a &&& b:Nat):Int) :=
 (bits_nat .i64 63 Zd (fun n h0 h1=>by rw[IntKind.wrap_i64];omega) a b ha hb).1
theorem B7m (a b:Nat) (ha:a < 9223372036854775808) (hb:b < 9223372036854775808):Go.bits .or .i64 (a:Int) (b:Int)=((a|||b:Nat):Int) :=
 (bits_nat .i64 63 Zd (fun n h0 h1=>by rw[IntKind.wrap_i64];omega) a b ha hb).2
def bitN (s:ByteArray) (seed:Nat):Nat:=A6h s seed % 32
theorem A32 (s:ByteArray) (seed:Nat):bitN s seed < 32:=Nat.mod_lt _ Zo
theorem A3t (m:Nat) (h:m < 32):2 ^ m≤2147483648:=by
 have:=Nat.pow_le_pow_right (n:=2) Zo (show m≤31 by omega)
 simpa using this
theorem B6t (s:ByteArray) (hs:s.size≤4611686018427387904) (seed:Nat) (h:seed≤1000000000) (d:Nat):∀ (i:Nat),i+d=bitN s seed →
  Ev (fun k=>A1d.l0 k s (seed:Int) ((2 ^ i:Nat):Int) (i:Int)) ((2 ^ bitN s seed:Nat):Int):=by
 have hh:=(A67 s hs seed h).1;have hm:=A32 s seed;have et:Int.tmod ((A6h s seed:Nat):Int) 32=((bitN s seed:Nat):Int):=by
  rw[Int.tmod_eq_emod_of_nonneg Zo];unfold bitN;omega
 induction d with
 |zero =>
  intro i hd;refine Ev.step (f:=fun k=>(A0r.f k s (seed:Int)).bind fun t105=>(if (i:Int) < (Int.tmod t105 32) then (A1d.l0 k s (seed:Int) (wrap64 (2 * ((2 ^ i:Nat):Int))) (wrap64 ((i:Int)+1))) else (some ((2 ^ i:Nat):Int)))) (fun k=>?_) (Ev.bind hh ?_)
  ·simp only [A1d.l0]
  ·simp only [et,if_neg (show ¬ ((i:Int) < ((bitN s seed:Nat):Int)) by omega)]
   rw[show bitN s seed=i by omega];exact Ev.now _
 |succ d ih =>
  intro i hd;have hp:=A3t i Zo;have ep:wrap64 (2 * ((2 ^ i:Nat):Int))=((2 ^ (i+1):Nat):Int):=by
   rw[Nat.pow_succ];generalize 2 ^ i=q at *;unfold wrap64;omega
  refine Ev.step (f:=fun k=>(A0r.f k s (seed:Int)).bind fun t105=>(if (i:Int) < (Int.tmod t105 32) then (A1d.l0 k s (seed:Int) (wrap64 (2 * ((2 ^ i:Nat):Int))) (wrap64 ((i:Int)+1))) else (some ((2 ^ i:Nat):Int)))) (fun k=>?_) (Ev.bind hh ?_)
  ·simp only [A1d.l0]
  ·simp only [et,if_pos (show((i:Int) < ((bitN s seed:Nat):Int)) by omega),ep,w64 i Zo]
   exact ih (i+1) Zo
theorem B4l (s:ByteArray) (hs:s.size≤4611686018427387904) (seed:Nat) (h:seed≤1000000000):Ev (fun k=>A1d.f k s (seed:Int)) ((2 ^ bitN s seed:Nat):Int) :=
 B6t s hs seed h (bitN s seed) 0 Zo
theorem A9h (D m:Nat) (hD:D < 4294967296) (hm:m < 32):A2o.f (D:Int) ((2 ^ m:Nat):Int)=some (D.testBit m):=by
 have hp0:0 < 2 ^ m:=Nat.two_pow_pos m;unfold A2o.f;rw[if_neg Zo,Int.tdiv_eq_ediv_of_nonneg Zo];have e:((D:Int) / ((2 ^ m:Nat):Int))=((D / 2 ^ m:Nat):Int):=by rw[Int.natCast_ediv]
 have hle:D / 2 ^ m≤D:=Nat.div_le_self _ _;have ew:wrap64 ((D:Int) / ((2 ^ m:Nat):Int))=((D / 2 ^ m:Nat):Int):=by
  rw[e];generalize D / 2 ^ m=q at *;unfold wrap64;omega
 rw[ew,Int.tmod_eq_emod_of_nonneg (Int.natCast_nonneg _),Nat.testBit_eq_decide_div_mod_eq]
 congr 1
 generalize D / 2 ^ m=q
 by_cases c:q % 2=1
 ·rw[B99 c];simp;omega
 ·rw[C0a c];simp;omega
def A4o (s:ByteArray):Nat:=2 ^ bitN s 7|||2 ^ bitN s 8
theorem A9i (s:ByteArray):A4o s < 4294967296 :=
 Nat.or_lt_two_pow (n:=32) (by have:=A3t _ (A32 s 7);omega) (by have:=A3t _ (A32 s 8);omega)
theorem B4m (m:Nat) (h:m < 32):shl .i64 1 (m:Int)=((2 ^ m:Nat):Int):=by
 unfold shl;have e:min ((m:Int).toNat) (IntKind.bits .i64)=m:=by simp[IntKind.bits];omega
 have hp:=A3t m h;rw[e,IntKind.wrap_i64,Int.one_mul];have:((2:Int) ^ m)=((2 ^ m:Nat):Int):=by simp
 rw[this];generalize 2 ^ m=q at *;omega
theorem B4n (s:ByteArray) (hs:s.size≤4611686018427387904):Ev (fun k=>A2b.f k s) ((A4o s:Nat):Int):=by
 have h7:=(A67 s hs 7 Zo).2;have h8:=(A67 s hs 8 Zo).2;have e7:IntKind.u64.wrap (Int.tmod ((A6h s 7:Nat):Int) 32)=((bitN s 7:Nat):Int):=by
  rw[Int.tmod_eq_emod_of_nonneg Zo];unfold bitN;simp[IntKind.wrap,IntKind.bits,IntKind.signed];omega
 have e8:IntKind.u64.wrap (Int.tmod ((A6h s 8:Nat):Int) 32)=((bitN s 8:Nat):Int):=by
  rw[Int.tmod_eq_emod_of_nonneg Zo];unfold bitN;simp[IntKind.wrap,IntKind.bits,IntKind.signed];omega
 unfold A2b.f;refine Ev.bind h7 (Ev.bind h8 ?_);have p7:=A3t _ (A32 s 7);have p8:=A3t _ (A32 s 8);simp only [e7,e8,if_pos (show(0:Int)≤((bitN s 7:Nat):Int) by omega),if_pos (show(0:Int)≤((bitN s 8:Nat):Int) by omega),B4m _ (A32 s 7),B4m _ (A32 s 8)];rw[B7m _ _ Zo Zo];exact Ev.now _
theorem okI (D:Int):A1r.f D=some (decide (0≤D∧D < 4294967296)):=by
 unfold A1r.f A0n.f
 by_cases c:D ≥ 0
 ·rw[if_pos c];simp only [Option.bind_some];congr 1;rw[Bool.eq_iff_iff];simp;omega
 ·rw[if_neg c];simp only [Option.bind_some];congr 1;rw[Bool.eq_iff_iff];simp;omega
def A4s (D:Nat) (s:ByteArray):Bool:=D.testBit (bitN s 7) && D.testBit (bitN s 8)
theorem B4o (D:Nat) (s:ByteArray):(D &&& A4o s=A4o s) ↔ A4s D s=true:=by
 unfold A4s A4o;rw[Bool.and_eq_true];constructor
 ·intro h
  have g:∀ i,(D.testBit i && ((2 ^ bitN s 7).testBit i||(2 ^ bitN s 8).testBit i))=((2 ^ bitN s 7).testBit i||(2 ^ bitN s 8).testBit i):=by
   intro i;have:=congrArg (fun x=>Nat.testBit x i) h
   simpa [Nat.testBit_and,Nat.testBit_or] using this
  constructor
  ·have:=g (bitN s 7);simpa [Nat.testBit_two_pow] using this
  ·have:=g (bitN s 8);simpa [Nat.testBit_two_pow] using this
 ·rintro ⟨h7,h8⟩
  apply Nat.eq_of_testBit_eq;intro i;rw[Nat.testBit_and,Nat.testBit_or,Nat.testBit_two_pow,Nat.testBit_two_pow]
  by_cases c7:bitN s 7=i
  ·subst c7;simp[h7]
  ·by_cases c8:bitN s 8=i
   ·subst c8;simp[h8]
   ·simp[c7,c8]
theorem B9r (D m:Nat) (hD:D < 4294967296) (hm:m < 32):D|||2 ^ m=if D.testBit m then D else D+2 ^ m:=by
 have hp:=A3t m hm
 by_cases c:D.testBit m=true
 ·rw[if_pos c]
  apply Nat.eq_of_testBit_eq;intro i;rw[Nat.testBit_or,Nat.testBit_two_pow]
  by_cases e:m=i
  ·subst e;simp[c]
  ·simp[e]
 ·rw[if_neg c]
  have c':D.testBit m=false:=by simpa using c
  have h0:D &&& 2 ^ m=0:=by
   apply Nat.eq_of_testBit_eq;intro i;rw[Nat.testBit_and,Nat.testBit_two_pow,Nat.zero_testBit]
   by_cases e:m=i
   ·subst e;simp[c']
   ·simp[e]
  have hz:BitVec.ofNat 33 D &&& BitVec.ofNat 33 (2 ^ m)=0#33:=by
   apply BitVec.eq_of_toNat_eq;rw[BitVec.toNat_and,BitVec.toNat_ofNat,BitVec.toNat_ofNat,Nat.mod_eq_of_lt Zo,Nat.mod_eq_of_lt Zo,h0];rfl
  have h:=congrArg BitVec.toNat (BitVec.add_eq_or_of_and_eq_zero _ _ hz);rw[BitVec.toNat_add,BitVec.toNat_or,BitVec.toNat_ofNat,BitVec.toNat_ofNat,Nat.mod_eq_of_lt (show D < 2 ^ 33 by omega),Nat.mod_eq_of_lt (show 2 ^ m < 2 ^ 33 by omega),Nat.mod_eq_of_lt Zo] at h;exact h.symm
theorem B9s (D b:Nat) (hD:D < 4294967296) (hb:b < 4294967296):D|||b < 4294967296:=Nat.or_lt_two_pow (n:=32) hD hb
theorem B6u (D:Nat) (s:ByteArray) (hD:D < 4294967296) (hs:s.size≤4611686018427387904):Ev (fun k=>A3p.f k (D:Int) s) ((D|||A4o s:Nat):Int):=by
 have hb:=A9i s;unfold A3p.f;simp only [okI,Option.bind_some,decide_eq_true (show 0≤(D:Int)∧(D:Int) < 4294967296 by omega),if_true];refine Ev.bind (B4n s hs) ?_;rw[B7m D (A4o s) Zo Zo];exact Ev.now _
theorem B1z (D:Int) (s:ByteArray) (hs:s.size≤4611686018427387904):Ev (fun k=>A2z.f k D s) (decide (0≤D∧D < 4294967296) && A4s D.toNat s):=by
 unfold A2z.f;refine Ev.bind (B4n s hs) ?_;simp only [okI,Option.bind_some]
 by_cases c:0≤D∧D < 4294967296
 ·simp only [decide_eq_true c,if_true,Bool.true_and]
  obtain⟨n,rfl⟩:=Int.eq_ofNat_of_zero_le c.1;have hb:=A9i s;rw[B8r n (A4o s) Zo Zo,C0k];have e:((((n &&& A4o s:Nat):Int)) == ((A4o s:Nat):Int))=A4s n s:=by
   rw[Bool.eq_iff_iff,← B4o,beq_iff_eq];omega
  rw[e];exact Ev.now _
 ·simp only [decide_eq_false c,Bool.false_and,if_neg (show ¬ (false=true) by decide)]
  exact Ev.now _
theorem B7n (w:World) (D:Nat) (hD:D < 4294967296) (key:ByteArray) (hk:key.size≤4611686018427387904) :
  Calls Tryz.prog 171 #[.agg #[.int .i64 (D:Int)],.string key] w fun e w'=>e=.returned (.bool (A4s D key))∧Below w.heap.size w w':=by
 obtain⟨K7,h7⟩:=B4l key hk 7 Zo;obtain⟨K8,h8⟩:=B4l key hk 8 Zo;obtain⟨b7,hb7⟩:∃ b,b=D.testBit (bitN key 7):=⟨_,rfl⟩;obtain⟨b8,hb8⟩:∃ b,b=D.testBit (bitN key 8):=⟨_,rfl⟩;obtain⟨p7,hp7⟩:∃ p,p=((2 ^ bitN key 7:Nat):Int):=⟨_,rfl⟩;obtain⟨p8,hp8⟩:∃ p,p=((2 ^ bitN key 8:Nat):Int):=⟨_,rfl⟩;have H7:=B98 (show A1d.f K7 key 7=some p7 from hp7 ▸ h7 K7 (Nat.le_refl _));have H8:=B98 (show A1d.f K8 key 8=some p8 from hp8 ▸ h8 K8 (Nat.le_refl _));have T7:=B98 (show A2o.f (D:Int) p7=some b7 by rw[hp7,hb7];exact A9h D (bitN key 7) hD (A32 key 7));have T8:=B98 (show A2o.f (D:Int) p8=some b8 by rw[hp8,hb8];exact A9h D (bitN key 8) hD (A32 key 8));have HD:=B98 (show A2k.f (D:Int)=some true by rw[B8o,B99 Zo]);have HE:=B98 (show A4s D key=(b7 && b8) by rw[hb7,hb8];rfl);have HS:=B98 (St.start w);rw[HE.o];clear h7 h8 hD hb7 hb8 hp7 hp8 hk HE;go_enter Tryz.func171,Tryz.ntmps171;go_wp2_with (first|((with_reducible refine A0b (N:=2) rfl ?_);refine boxS HS (N:=2) fun g2 w2 S=>?_;clear HS;have HS:=B98 S;clear S));have hc0:∀ p:WSt w [Part.blk g2 48 #[.int .i64 (D:Int)]],p.w'.cell? ⟨g2,0,none⟩=some (.int .i64 (D:Int)):=fun p=>p.st.at_cell 0 rfl 0 rfl;have hne:Nonempty (WSt w [Part.blk g2 48 #[.int .i64 (D:Int)]]):=⟨⟨_,HS.o⟩⟩;refine A0s (C:=fun w'=>∃ p:WSt w [Part.blk g2 48 #[.int .i64 (D:Int)]],w'=p.w') Zk Zk ⟨⟨_,HS.o.drew⟩,rfl⟩ ?_
 repeat(go_big_quiet_step (first|(go_at_call 117;refine(A2k.calls (D:Int) true _ HD.o).mono ?_;rintro e w2 ⟨rfl,hb⟩;exact⟨rfl,WSt.on _ Zh⟩)|(go_at_call 220;refine(A1d.calls K7 key 7 p7 _ H7.o).mono ?_;rintro e w2 ⟨rfl,hb⟩;exact⟨rfl,WSt.on _ Zh⟩)|(go_at_call 219;refine(A2o.calls (D:Int) p7 b7 _ T7.o).mono ?_;rintro e w2 ⟨rfl,hb⟩;exact⟨rfl,WSt.on _ Zh⟩)))
 cases b7 with
 |false =>
  repeat(go_big_quiet_step (fail))
  refine wpQuiet_nil ?_;rintro w9 ⟨⟨w9,S⟩,rfl⟩;clear hc0;go_wp2_with fail;go_ret;exact⟨by simp,S.below⟩
 |true =>
  repeat(go_big_quiet_step (first|(go_at_call 220;refine(A1d.calls K8 key 8 p8 _ H8.o).mono ?_;rintro e w2 ⟨rfl,hb⟩;exact⟨rfl,WSt.on _ Zh⟩)|(go_at_call 219;refine(A2o.calls (D:Int) p8 b8 _ T8.o).mono ?_;rintro e w2 ⟨rfl,hb⟩;exact⟨rfl,WSt.on _ Zh⟩)))
  refine wpQuiet_nil ?_;rintro w9 ⟨⟨w9,S⟩,rfl⟩;clear hc0;go_wp2_with fail;go_ret;exact⟨by simp,S.below⟩
def orD (D:Nat) (key:ByteArray):Nat→Nat
 |0=>D
 |i+1=>orD D key i|||2 ^ bitN key (7+i)
theorem B7o (D:Nat) (key:ByteArray) (hD:D < 4294967296):∀ i,orD D key i < 4294967296
 |0=>hD
 |i+1=>B9s _ _ (B7o D key hD i) (by have:=A3t _ (A32 key (7+i));omega)
theorem orD_2 (D:Nat) (key:ByteArray):orD D key 2=D|||A4o key:=by
 show D|||2 ^ bitN key 7|||2 ^ bitN key 8=_;rw[Nat.or_assoc];rfl
theorem B6v (w:World) (D:Nat) (hD:D < 4294967296) (key:ByteArray) (hk:key.size≤4611686018427387904) :
  Calls Tryz.prog 172 #[.agg #[.int .i64 (D:Int)],.string key] w fun e w'=>e=.returned (.agg #[.int .i64 ((D|||A4o key:Nat):Int)])∧Below w.heap.size w w':=by
 have HD:=B98 (show A2k.f (D:Int)=some true by rw[B8o,B99 Zo]);have HK:=B98 hk;have HDD:=B98 hD;have HS:=B98 (St.start w);clear hD hk;go_enter Tryz.func172,Tryz.ntmps172;go_wp2_with (first|((with_reducible refine A0b (N:=2) rfl ?_);refine boxS HS (N:=2) fun g2 w2 S=>?_;clear HS;have HS:=B98 S;have ha0:=S.at_cell 0 rfl 0 rfl;clear S)|((with_reducible refine A0b (N:=4) rfl ?_);refine boxS HS (N:=4) fun g4 w4 S=>?_;clear HS ha0;have HS:=B98 S;have ha0:=S.at_cell 1 rfl 0 rfl;clear S));refine(A2k.calls (D:Int) true _ HD.o).mono ?_;rintro e w5 ⟨rfl,hb⟩;have S:=HS.o.step Zh;clear HS hb ha0;have HS:=B98 S;clear S;go_wp2_with fail;go_loopw [5] (fun v5 w'=>∃ (i:Nat),v5=.int .i64 ((7+i:Nat):Int)∧A0a (i≤2)∧A0a (St w w' [Part.blk g4 48 #[.int .i64 0],Part.blk g2 48 #[.int .i64 (orD D key i:Int)]])) (fun v5 _=>9 - (intOf v5).toNat)
 case atStart=>exact⟨0,rfl,⟨by omega⟩,HS⟩
 case round =>
  clear HS;obtain⟨i,rfl,HI,HS⟩:=hrel;by_cases c:i < 2
  ·obtain⟨K,hK⟩:=B4l key HK.o (7+i) Zo
   have hE:=B7o D key HDD.o i;have hp:=A3t _ (A32 key (7+i));have ho:=B9r (orD D key i) (bitN key (7+i)) hE (A32 key (7+i));obtain⟨E,hEE⟩:∃ E,E=orD D key i:=⟨_,rfl⟩;obtain⟨b,hb⟩:∃ b,b=E.testBit (bitN key (7+i)):=⟨_,rfl⟩;obtain⟨p,hpp⟩:∃ p,p=2 ^ bitN key (7+i):=⟨_,rfl⟩;have T:=B98 (show A2o.f (E:Int) ((p:Nat):Int)=some b by rw[hpp,hb,hEE];exact A9h _ _ hE (A32 key _));have HN:=B98 (show orD D key (i+1)=if b=true then E else E+p by show orD D key i|||_=_;rw[ho,hb,hpp,hEE]);have HKK:=B98 (show A1d.f K key ((7+i:Nat):Int)=some ((p:Nat):Int) from hpp ▸ hK K (Nat.le_refl _));rw[← hEE] at HS;have ew:wrap64 ((E:Int)+(p:Int))=((E+p:Nat):Int):=by rw[← hEE] at hE;rw[← hpp] at hp;unfold wrap64;omega
   have es:wrap64 (((7+i:Nat):Int)+1)=((7+(i+1):Nat):Int):=by unfold wrap64;omega
   have c1:decide (((7+i:Nat):Int)≤8)=true:=B99 Zo;obtain⟨s,hs⟩:∃ s:Int,s=((7+i:Nat):Int):=⟨_,rfl⟩;rw[← hs] at HKK es c1 ⊢;have HSS:=B98 hs;have HC:=B98 c;clear hK hE hp ho hEE hb hpp hs c;go_wp2_with fail;refine(A1d.calls K key s (p:Int) _ HKK.o).mono ?_;rintro e w7 ⟨rfl,hb⟩;have S:=HS.o.step hb.below;clear HS hb;have HS:=B98 S;have ha0:=S.at_cell 1 rfl 0 rfl;clear S;go_wp2_with fail;refine(A2o.calls (E:Int) (p:Int) b _ T.o).mono ?_;rintro e w8 ⟨rfl,hb⟩;have S:=HS.o.step hb.below;clear HS hb ha0;have HS:=B98 S;have ha0:=S.at_cell 1 rfl 0 rfl;have fa0:=S.at_frozen 1 rfl 0;clear S;cases b with
   |true =>
    go_wp2_with fail;go_roundw
    case rel=>exact⟨i+1,by rw[es],⟨by have:=HC.o;omega⟩,⟨by rw[HN.o];simpa using HS.o⟩⟩
    case measure=>have:=HSS.o;have:=HC.o;rw[es];simp only [intOf];omega
   |false =>
    go_wp2_with fail;go_roundw
    case rel=>exact⟨i+1,by rw[es],⟨by have:=HC.o;omega⟩,⟨by rw[HN.o,if_neg Zs];exact((HS.o.swap.put (cs':=#[.int .i64 ((E+p:Nat):Int)]) 0 (.int .i64 ((E+p:Nat):Int)) rfl).swap)⟩⟩
    case measure=>have:=HSS.o;have:=HC.o;rw[es];simp only [intOf];omega
  ·have hi:i=2:=by have:=HI.o;omega
   subst hi;rw[orD_2] at HS;clear c;have ha0:=HS.o.at_cell 1 rfl 0 rfl;have hr0:=HS.o.at_cell 0 rfl 0 rfl;have fr0:=HS.o.at_frozen 0 rfl 0;go_wp2_with fail;have S:=HS.o.put (cs':=#[.int .i64 ((D|||A4o key:Nat):Int)]) 0 (.int .i64 ((D|||A4o key:Nat):Int)) rfl;refine bodyPost_ret (results_cell_row rfl _ _ _ _ _ _ _ rfl S.head.2 Tryz.underlying48 rfl Zk) rfl ?_;exact⟨rfl,S.below⟩
attribute [local go_sem] A4b A4c A5j A5k A3u A3v A4d A4e
def hf (x:Int):Int:=wrap64 (Int.tdiv x 2)
def hl (l:List Int) (i:Nat):List Int:=(l.take i).map hf ++ l.drop i
theorem B7p (l:List Int) (i:Nat):(hl l i).length=l.length:=by unfold hl;simp;omega
theorem B4p (l:List Int) (i:Nat) (h:i < l.length):(hl l i).set i (hf (rd (hl l i) (i:Int)))=hl l (i+1):=by
 have e:(hl l i)[i]? = some l[i]:=by
  unfold hl;rw[List.getElem?_append_right (by simp;omega)];simp[h,Nat.min_eq_left (Nat.le_of_lt h)]
 have e2:rd (hl l i) (i:Int)=l[i]:=by unfold rd;rw[C0k,C0j,e];rfl
 rw[e2];apply List.ext_getElem?;intro j;rw[List.getElem?_set];unfold hl
 by_cases c:i=j
 ·subst c
  rw[if_pos rfl,if_pos (by simp;omega),List.getElem?_append_left (by simp;omega)];simp[h]
 ·rw[if_neg c]
  by_cases c2:j < i
  ·rw[List.getElem?_append_left (by simp;omega),List.getElem?_append_left (by simp;omega)]
   simp[c2,Nat.lt_succ_of_lt c2]
  ·rw[List.getElem?_append_right (by simp;omega),List.getElem?_append_right (by simp;omega)]
   simp[Nat.min_eq_left (Nat.le_of_lt h),Nat.min_eq_left (show i+1≤l.length by omega)]
   congr 1;omega
theorem B1c (g o t:Nat) (cs:Array Value) (u:Value) (l:List Int) (P_:Nat→Prop) (w0 w:World) (hl0:l.length≤1048576) (hB:Below w0.heap.size w0 w) (hb:w.heap[g]? = some (.cells cs t (0,0))) (hu:cs[o]? = some u) (hg:w0.heap.size≤g)
  (ho:Kd.R (Kd.int .i64) 3 w w0.heap.size P_ u l) (hne:some g ≠ u.ownBlock) :
  Calls Tryz.prog 216 #[.pointer (some ⟨g,o,none⟩)] w fun e w'=>e=.returned (.tuple #[])∧Kd.R (Kd.int .i64) 3 w' w0.heap.size P_ u (l.map hf)∧Below w0.heap.size w0 w'∧Kept w w' (fun k=>some k=u.ownBlock):=by
 have HB:=B98 hB;have HO:=B98 ho;have HNE:=B98 hne;have HU:=B98 hu;have HL:=B98 hl0;have HBK:=B98 hb;have HG:=B98 hg;obtain⟨A,c,e⟩:=Kd.R_slice ho;subst e;have hcell:w.cell? ⟨g,o,none⟩=some (.slice A l.length c):=(A1h hb o).trans hu;clear hB ho hne hu hl0 hb hg;go_enter Tryz.func216,Tryz.ntmps216
 go_wp2
 clear hcell;go_loopw [8] (fun v8 wr=>∃ i:Nat,v8=.int .i64 i∧A0a (i≤l.length)∧A0a (Kd.R (Kd.int .i64) 3 wr w0.heap.size P_ (.slice A l.length c) (hl l i))∧A0a (Below w0.heap.size w0 wr)∧A0a (Kept w wr (fun k=>some k=(Value.slice A l.length c).ownBlock)) ) (fun v8 _=>l.length - (intOf v8).toNat)
 case atStart=>exact⟨0,rfl,⟨by omega⟩,⟨by simpa [hl] using HO.o⟩,HB,⟨Kept.refl _ _⟩⟩
 case round =>
  obtain⟨i,rfl,HI,HO,HB,HK⟩:=hrel;by_cases c1:i < l.length
  ·have c1b:decide ((i:Int) < (l.length:Int))=true:=B99 Zo
   have c1c:decide (i < l.length)=true:=B99 c1;have hbk:=HBK.o;have hbr:wr.heap[g]? = some (.cells cs t (0,0)):=(HK.o.2 g (A6c hbk) HNE.o).trans hbk;have hcell:wr.cell? ⟨g,o,none⟩=some (.slice A l.length c):=(A1h hbr o).trans HU.o;clear hbk hbr;have hll:=B7p l i;have p5:(0:Int)≤(i:Int):=by omega
   have q5:(i:Int) < (((hl l i).length:Nat):Int):=by rw[hll];omega
   have hlen:l.length=(hl l i).length:=hll.symm;have HO1:=HO.o;obtain⟨go5,co5,eo5,gb5,gl5,cl5,HG5⟩:=Kd.R_form HO1 (by rw[hll];omega);obtain⟨rfl,en_,rfl⟩:=Value.slice.inj eo5;have GB5:=B98 gb5;obtain⟨hx5,hf5⟩:=Kd.R_celln 0 HO1 (i:Int) p5 (show(i:Int) < ((l.length:Nat):Int) by omega);rw[C0k] at hx5 hf5;replace hx5:wr.cell? ⟨go5,i,none⟩=some (.int .i64 (rd (hl l i) (i:Int))):=hx5;have p6:i < 1048576:=by have:=HL.o;omega
   have HP7:=B98 (Kd.R_putg HO1 (i:Int) (hf (rd (hl l i) (i:Int))));clear HO1 gb5 gl5 cl5 HG5 eo5 en_ hlen;rw[C0k] at HP7;rw[B4p l i c1] at HP7;generalize hv:rd (hl l i) (i:Int)=v at HP7 hx5;clear hv;go_wp2
   go_roundw
   case rel=>exact⟨i+1,by go_num,⟨by omega⟩,⟨HP7.o.1⟩,⟨A3l HB.o GB5.o⟩,⟨Kept.of_grown HP7.o.2 HK.o (fun k_ e_=>.inl e_.symm)⟩⟩
   case measure=>simp[intOf];omega
  ·have c1b:decide ((i:Int) < (l.length:Int))=false:=C0a Zo
   have c1c:decide (i < l.length)=false:=C0a c1
   go_wp2
   go_end0;exact⟨rfl,by have:=HO.o;rw[show i=l.length by have:=HI.o;omega] at this;simpa [hl] using this,HB.o,HK.o⟩
def cl (l:List Int) (a:Nat→Int):Nat→List Int
 |0=>l
 |i+1=>(cl l a i).set (a i).toNat (mn (rd (cl l a i) (a i)+1) 15)
theorem A8w (l:List Int) (a:Nat→Int) (i:Nat):(cl l a i).length=l.length:=by
 induction i with
 |zero=>rfl
 |succ i ih=>simp[cl,ih]
theorem B8s (l:List Int) (a:Nat→Int) (h:∀ x ∈ l,0≤x∧x≤15) (i:Nat):∀ x ∈ cl l a i,0≤x∧x≤15:=by
 induction i with
 |zero=>exact h
 |succ i ih =>
  intro x hx
  rcases List.mem_or_eq_of_mem_set hx with h'|h'
  ·exact ih x h'
  ·have hr:0≤rd (cl l a i) (a i)∧rd (cl l a i) (a i)≤15:=by
    unfold rd;rw[C0j]
    cases e:(cl l a i)[(a i).toNat]? with
    |none=>simp
    |some v=>exact ih v (C0h e)
   rw[h'];unfold mn;split <;> omega
theorem B8t {l:List Int} (h:∀ x ∈ l,0≤x∧x≤15) (i:Int):0≤rd l i∧rd l i≤15:=by
 unfold rd;rw[C0j]
 cases e:l[i.toNat]? with
 |none=>simp
 |some v=>exact h v (C0h e)
theorem B1d (k g o t:Nat) (cs:Array Value) (u:Value) (l:List Int) (n:Int) (key:ByteArray) (a:Nat→Int) (P_:Nat→Prop) (w0 w:World) (hl0:l.length=48) (hx:∀ x ∈ l,0≤x∧x≤15) (hn:0≤n∧n≤99)
  (ha:∀ i:Nat,i < 3→A23.f k key (i:Int)=some (a i)∧0≤a i∧a i < 48)
  (hB:Below w0.heap.size w0 w) (hb:w.heap[g]? = some (.cells cs t (0,0))) (hu:cs[o]? = some u) (hn1:cs[o+1]? = some (.int .i64 n)) (hg:w0.heap.size≤g)
  (ho:Kd.R (Kd.int .i64) 3 w w0.heap.size P_ u l) (hP:∀ k,P_ k→k ≠ g) :
  Calls Tryz.prog 164 #[.pointer (some ⟨g,o,none⟩),.string key] w fun e w'=>e=.returned (.tuple #[])∧Kd.R (Kd.int .i64) 3 w' w0.heap.size P_ u (if n=99 then (cl l a 3).map hf else cl l a 3) ∧
   w'.heap[g]? = some (.cells (cs.setIfInBounds (o+1) (.int .i64 (if n=99 then 0 else n+1))) t (0,0))∧Below w0.heap.size w0 w'∧Kept w w' (fun k=>some k=u.ownBlock ∨ k=g):=by
 have HB:=B98 hB;have HO:=B98 ho;have HNE:=B98 (show some g ≠ u.ownBlock from fun e=>hP g (ho.1 g e.symm) rfl);have HP:=B98 hP;have HU:=B98 hu;have HN1:=B98 hn1;have HN:=B98 hn;have HL:=B98 hl0;have HX:=B98 hx;have HA:=B98 ha;have HBK:=B98 hb;have HG:=B98 hg;obtain⟨A,c,e⟩:=Kd.R_slice ho;subst e;clear hB ho hP hu hl0 hb hg hx hn hn1 ha;go_enter Tryz.func164,Tryz.ntmps164
 go_wp2
 go_loopw [6] (fun v6 wr=>∃ i:Nat,v6=.int .i64 i∧A0a (i≤3)∧A0a (Kd.R (Kd.int .i64) 3 wr w0.heap.size P_ (.slice A l.length c) (cl l a i))∧A0a (Below w0.heap.size w0 wr)∧A0a (Kept w wr (fun k=>some k=(Value.slice A l.length c).ownBlock))) (fun v6 _=>3 - (intOf v6).toNat)
 case atStart=>exact⟨0,rfl,⟨by omega⟩,⟨HO.o⟩,HB,⟨Kept.refl _ _⟩⟩
 case round =>
  obtain⟨i,rfl,HI,HO,HB,HK⟩:=hrel;by_cases c1:i < 3
  ·have c1b:decide ((i:Int) < 3)=true:=B99 Zo
   have c1c:decide (i < 3)=true:=B99 c1;obtain⟨hca,ha0,ha1⟩:=HA.o i c1;have CA:=B98 hca;clear hca;go_wp2_with (first|((with_reducible refine A0j (f:=215) rfl ?_);refine A1l (some 11) rfl rfl Tryz.func215 Zk rfl #[.string key,.int .i64 (i:Int)] rfl (by(try simp only [List.map_toArray,List.map_cons,List.map_nil]);first|done|rfl) ?_;(with_reducible refine(A23.calls k key (i:Int) (a i) _ CA.o).mono ?_);rintro e w2 ⟨rfl,hb⟩;refine⟨_,rfl,?_⟩;have n0_:=B98 (Kd.R_below HO.o hb);have n1_:=B98 (A33 HB.o hb);have n2_:=B98 (Kept.below HK.o hb);clear HO HB HK hb;have HO:=n0_;have HB:=n1_;have HK:=n2_;clear n0_ n1_ n2_));have hll:=A8w l a i;have h48:=HL.o;have hbk:=HBK.o;have hbr:w2.heap[g]? = some (.cells cs t (0,0)):=A9r hbk HK.o HNE.o;have hcell:w2.cell? ⟨g,o,none⟩=some (.slice A l.length c):=(A1h hbr o).trans HU.o;clear hbk hbr;have HO1:=HO.o;have q5:a i < (((cl l a i).length:Nat):Int):=by rw[hll];omega
   obtain⟨go5,co5,eo5,gb5,gl5,cl5,HG5⟩:=Kd.R_form HO1 (by rw[hll];omega);obtain⟨rfl,en_,rfl⟩:=Value.slice.inj eo5;have GB5:=B98 gb5;obtain⟨hx5,hf5⟩:=Kd.R_celln 0 HO1 (a i) ha0 (show a i < ((l.length:Nat):Int) by omega);replace hx5:w2.cell? ⟨go5,(a i).toNat,none⟩=some (.int .i64 (rd (cl l a i) (a i))):=hx5;have HP7:=B98 (Kd.R_putg HO1 (a i) (mn (rd (cl l a i) (a i)+1) 15));have hv1:=B8t (B8s l a HX.o i) (a i);clear HO1 gb5 gl5 cl5 HG5 eo5 en_ q5 hll;generalize hv:rd (cl l a i) (a i)=v at HP7 hx5 hv1;have HV:=B98 hv;clear hv;obtain⟨hv0,hv15⟩:=hv1;have ha1':a i < ((l.length:Nat):Int):=by omega
   have ha2':(a i).toNat < l.length:=by omega
   clear h48;go_region
   go_wp2
   go_roundw
   case rel =>
    have hset:cl l a (i+1)=(cl l a i).set (a i).toNat (mn (v+1) 15):=by show(cl l a i).set (a i).toNat (mn (rd (cl l a i) (a i)+1) 15)=_;rw[HV.o]
    have h1:=HP7.o.1;rw[← hset] at h1;exact⟨i+1,by go_num,⟨by omega⟩,⟨Kd.R_drew h1⟩,⟨A2r (A3l HB.o GB5.o)⟩,⟨Kept.drew (Kept.of_grown HP7.o.2 HK.o (fun k_ e_=>.inl e_.symm))⟩⟩
   case measure=>simp[intOf];omega
  ·have c1b:decide ((i:Int) < 3)=false:=C0a Zo
   have c1c:decide (i < 3)=false:=C0a c1;obtain rfl:i=3:=by have:=HI.o;omega
   have hbk:=HBK.o;have hbr:wr.heap[g]? = some (.cells cs t (0,0)):=A9r hbk HK.o HNE.o;have hcell0:wr.cell? ⟨g,o,none⟩=some (.slice A l.length c):=(A1h hbr o).trans HU.o;have hcell:wr.cell? ⟨g,o+1,none⟩=some (.int .i64 n):=(A1h hbr (o+1)).trans HN1.o;have hfrz:=A1k hbr (o+1);have HBR:=B98 hbr;obtain⟨hn0,hn99⟩:=HN.o;clear hbk hbr;by_cases c9:n=99
   ·subst c9
    have hset:=B98 (A4p HBR.o (o+1) (.int .i64 100));go_wp2_with fail;have hR1:Kd.R (Kd.int .i64) 3 (wr.setCell ⟨g,o+1,none⟩ (.int .i64 100)) w0.heap.size P_ (.slice A l.length c) (cl l a 3):=Kd.R_far HO.o (p:=⟨g,o+1,none⟩) HP.o _;have hlt:o+1 < cs.size:=(Array.getElem?_eq_some_iff.1 HN1.o).1;refine(B1c g o t (cs.setIfInBounds (o+1) (.int .i64 100)) (.slice A l.length c) (cl l a 3) P_ w0 _ (by rw[A8w];have:=HL.o;omega) (A3l HB.o HG.o) hset.o (by rw[Array.getElem?_setIfInBounds_ne Zo];exact HU.o) HG.o hR1 HNE.o).mono ?_;rintro e w5 ⟨rfl,hR5,hB5,hK5⟩;have HR5:=B98 hR5;have HB5:=B98 hB5;have HK5:=B98 (Kept.then_ (Kept.mono HK.o (S':=fun k=>some k=(Value.slice A l.length c).ownBlock ∨ k=g) (fun k h=>.inl h)) (Kept.then_ (Kept.setCell (Kept.refl wr (fun k=>some k=(Value.slice A l.length c).ownBlock ∨ k=g)) (p:=⟨g,o+1,none⟩) (.inl (.inr rfl)) (.int .i64 100)) hK5 (fun k h=>.inl (.inl h))) (fun k h=>.inl h));have hbr5:=A9r hset.o hK5 HNE.o;have HBR5:=B98 hbr5;have hcell5:w5.cell? ⟨g,o+1,none⟩=some (.int .i64 100):=(A1h hbr5 (o+1)).trans (by simp[hlt]);have hfrz5:=A1k hbr5 (o+1);clear hR5 hB5 hK5 hbr5 hR1 hcell hcell0 hfrz hlt;go_wp2
    go_end0;refine⟨rfl,?_,?_,A3l HB5.o HG.o,Kept.setCell HK5.o (.inl (.inr rfl)) _⟩
    ·exact Kd.R_far HR5.o (p:=⟨g,o+1,none⟩) HP.o _
    ·have:=A4p HBR5.o (o+1) (.int .i64 0)
     rw[Array.setIfInBounds_setIfInBounds] at this;exact this
   ·have c9b:((n+1:Int) == 100)=false:=C0g.2 Zo
    have hset:=B98 (A4p HBR.o (o+1) (.int .i64 (n+1)))
    go_wp2
    go_end0;refine⟨rfl,?_,?_,A3l HB.o HG.o,Kept.setCell (Kept.mono HK.o (fun k h=>.inl h)) (.inl (.inr rfl)) _⟩
    ·exact Kd.R_far HO.o (p:=⟨g,o+1,none⟩) HP.o _
    ·exact hset.o
def plc (s:ByteArray) (i:Nat):Int:=(i:Int) * 16+((A6h s i % 16:Nat):Int)
theorem B12 (s:ByteArray) (i:Nat) (h:i < 3):0≤plc s i∧plc s i < 48:=by
 have:=Nat.mod_lt (A6h s i) (show 16 > 0 by omega);unfold plc;omega
theorem B13 (s:ByteArray) (i:Nat) (h:i < 3):wrap64 ((wrap64 ((i:Int) * 16))+(Int.tmod ((A6h s i:Nat):Int) 16))=plc s i:=by
 rw[Int.tmod_eq_emod_of_nonneg (Int.natCast_nonneg _)];have:=Nat.mod_lt (A6h s i) (show 16 > 0 by omega);unfold plc wrap64;omega
theorem B2z (s:ByteArray) (hs:s.size≤4611686018427387904) (i:Nat) (h:i < 3):Ev (fun k=>A23.f k s (i:Int)) (plc s i)∧Ev (fun k=>A3y.f k s (i:Int)) (plc s i):=by
 obtain⟨h1,h2⟩:=A67 s hs i Zo;constructor
 ·unfold A23.f
  refine Ev.bind h2 ?_;rw[B13 s i h];exact Ev.now _
 ·unfold A3y.f
  refine Ev.bind h1 ?_;rw[B13 s i h];exact Ev.now _
def cntd (l:List Int) (n:Int) (s:ByteArray):List Int × Int :=
 if skOk l n=true then (if n=99 then (cl l (plc s) 3).map hf else cl l (plc s) 3,if n=99 then 0 else n+1) else (l,n)
theorem B14 (l:List Int) (n:Int) (s:ByteArray):(cntd l n s).1.length=l.length:=by
 unfold cntd
 split
 ·show(if n=99 then (cl l (plc s) 3).map hf else cl l (plc s) 3).length=l.length
  split <;> simp[A8w]
 ·rfl
theorem B4q (l:List Int) (i:Int) (h0:0≤i) (v:Int) (h:i < (l.length:Int)) (e:rd l i=v):l.set i.toNat v=l:=by
 subst e;unfold rd;have hi:i.toNat < l.length:=by omega
 rw[C0j,C0c hi];exact List.set_getElem_self hi
theorem B6w {w0 w:World} {ps:List Part} (g o t c:Nat) (cs:Array Value) (A:Option Addr) (l:List Int) (n:Int) (key:ByteArray) (hs:key.size≤4611686018427387904) (hok:skOk l n=true)
  (h:St w0 w (Part.blk g t cs :: Part.row (Kd.int .i64) 3 (.slice A l.length c) l :: ps)) (h0:cs[o]? = some (.slice A l.length c)) (h1:cs[o+1]? = some (.int .i64 n)) :
  Calls Tryz.prog 164 #[.pointer (some ⟨g,o,none⟩),.string key] w fun e w'=>e=.returned (.tuple #[])∧St w0 w' (Part.blk g t (cs.setIfInBounds (o+1) (.int .i64 (cntd l n key).2)) :: Part.row (Kd.int .i64) 3 (.slice A l.length c) (cntd l n key).1 :: ps):=by
 obtain⟨h48,hx,hn⟩:=A4a.1 hok;have hK:∃ K,∀ i:Nat,i < 3→A23.f K key (i:Int)=some (plc key i):=by
  obtain⟨K0,e0⟩:=(B2z key hs 0 Zo).1;obtain⟨K1,e1⟩:=(B2z key hs 1 Zo).1;obtain⟨K2,e2⟩:=(B2z key hs 2 Zo).1;refine⟨K0+K1+K2,fun i hi=>?_⟩;obtain rfl|rfl|rfl:i=0 ∨ i=1 ∨ i=2:=by omega
  ·exact e0 _ Zo
  ·exact e1 _ Zo
  ·exact e2 _ Zo
 obtain⟨K,hK⟩:=hK;refine(B1d K g o t cs (.slice A l.length c) l n key (plc key) (Free g ps) w0 w h48 hx hn (fun i hi=>⟨hK i hi,B12 key i hi⟩) h.below h.head.2 h0 h1 h.head.1 h.row_free (fun k hk=>hk.1)).mono ?_;rintro e w' ⟨rfl,hr,hc,hb,hk⟩;refine⟨rfl,?_⟩;unfold cntd;rw[if_pos hok];exact St.via rfl h hb hc hr hk (fun k hk=>hk)
theorem B4r {A:Option Addr} {c:Nat} (l:List Int) (n:Int) (key:ByteArray) (hs:key.size≤4611686018427387904) (hok:skOk l n=true) (w:World) (hA:Kd.C (Kd.int .i64) w A l.length l) (hcl:l.length≤c) :
  Calls Tryz.prog 173 #[.agg #[.slice A l.length c,.int .i64 n],.string key] w fun e w'=>∃ v,e=.returned (.agg #[v,.int .i64 (cntd l n key).2])∧Kd.R (Kd.int .i64) 3 w' w.heap.size (fun _=>True) v (cntd l n key).1∧Below w.heap.size w w':=by
 obtain⟨h48,hx,hn⟩:=A4a.1 hok;obtain⟨K,hK⟩:=B4c l n Zo;have HK:=B98 ((hK K (Nat.le_refl _)).trans (by rw[hok]));have HA:=B98 hA;have HCL:=B98 hcl;have HS:=B98 (St.start w);have HX:=B98 hx;have HN:=B98 hn;have HL:=B98 h48;have HKZ:=B98 hs;have HCN:=B98 (show cntd l n key=(if n=99 then (cl l (plc key) 3).map hf else cl l (plc key) 3,if n=99 then 0 else n+1) by unfold cntd;rw[if_pos hok]);clear hK hok hA hcl hx hn hs h48;go_enter Tryz.func173,Tryz.ntmps173;go_wp2_with (first|((with_reducible refine A0b (N:=2) rfl ?_);refine boxS HS (N:=2) fun g2 w2 S=>?_;clear HS;have HS:=B98 S;obtain⟨ha0,ha1⟩:=S.cells2 0 rfl;clear S)|((with_reducible refine A0b (N:=4) rfl ?_);refine boxS HS (N:=4) fun g4 w4 S=>?_;clear HS ha0 ha1;have HS:=B98 S;obtain⟨ha0,ha1⟩:=S.cells2 1 rfl;clear S));refine(B16 l (by have:=HL.o;omega) n _ (Kd.C_below HA.o HS.o.below)).mono ?_;rintro e w4 ⟨v,rfl,hr,hb⟩;have S:=HS.o.new_row rfl hb hr;obtain⟨B,d,rfl⟩:=Kd.R_slice hr;obtain⟨go,co,eo,-,-,-,-⟩:=Kd.R_form (S.at_R 0 rfl) (by have:=HL.o;omega);obtain⟨rfl,-,rfl⟩:=Value.slice.inj eo;clear HS hr hb eo ha0 ha1;have HS:=B98 S;clear S;go_upto_region 2 with (first|((with_reducible refine A0b (N:=5) rfl ?_);refine boxS HS (N:=5) fun g5 w5 S=>?_;clear HS;have HS:=B98 S;obtain⟨ho0,ho1⟩:=S.cells2 0 rfl;obtain⟨fo0,fo1⟩:=S.frozen2 0 rfl;clear S));have S:=HS.o;clear HS ho0 fo0 ho1 fo1;have S:=S.put2 (.slice (some ⟨go,0,none⟩) l.length d) (.int .i64 n);obtain⟨z5,hw,S⟩:=S.fold;rw[← hw];clear hw;have HS:=B98 S;obtain⟨ha0,ha1⟩:=S.cells2 3 rfl;clear S;go_wp2_with fail;refine(A0v.calls K A c l n true _ (Kd.C_below HA.o HS.o.below) HCL.o HK.o).mono ?_;rintro e w6 ⟨rfl,hb⟩;have S:=HS.o.step Zh;clear HS hb ha0 ha1;have HS:=B98 S;clear S;go_wp2_with fail;go_loopw [6] (fun v6 w'=>∃ i:Nat,v6=.int .i64 i∧A0a (i≤3)∧A0a (St w w' (Part.blk g5 47 #[.slice (some ⟨go,0,none⟩) l.length d,.int .i64 n] :: Part.row (Kd.int .i64) 3 (.slice (some ⟨go,0,none⟩) l.length d) (cl l (plc key) i) :: [Part.blk g4 47 #[.slice none 0 0,.int .i64 0],Part.blk g2 47 #[.slice A l.length c,.int .i64 n]]))) (fun v6 _=>3 - (intOf v6).toNat)
 case atStart=>exact⟨0,rfl,⟨by omega⟩,HS⟩
 case round =>
  clear HS;obtain⟨i,rfl,HI,HS⟩:=hrel;by_cases c1:i < 3
  ·have c1b:decide ((i:Int) < 3)=true:=B99 Zo
   have c1c:decide (i < 3)=true:=B99 c1;obtain⟨K2,hK2⟩:=(B2z key HKZ.o i c1).2;have HK2:=B98 (hK2 K2 (Nat.le_refl _));clear hK2;go_wp2_with fail;refine(A3y.calls K2 key (i:Int) (plc key i) _ HK2.o).mono ?_;rintro e w8 ⟨rfl,hb⟩;have S:=HS.o.step Zh;clear HS hb HK2;have HS:=B98 S;have ho0:=S.at_cell 0 rfl 0 rfl;clear S;obtain⟨hp0,hp1⟩:=B12 key i c1;have hlen:=A8w l (plc key) i;have hbd:=B8t (B8s l (plc key) HX.o i) (plc key i);have hR:=HS.o.at_R 1 rfl;obtain⟨hx5,hf5⟩:=Kd.R_celln 0 hR (plc key i) hp0 (show(plc key i) < ((l.length:Nat):Int) by have:=HL.o;omega);replace hx5:w8.cell? ⟨go,((plc key i)).toNat,none⟩=some (.int .i64 (rd (cl l (plc key) i) (plc key i))):=hx5;have hne1:=HS.o.at_own 0 1 rfl rfl Zd;have hne2:¬ go=g5:=fun e=>hne1 (by rw[e];rfl);have hne3:¬ g5=go:=fun e=>hne2 e.symm;clear hR hne1;have HP:=B98 hp0;have hset:cl l (plc key) (i+1)=(cl l (plc key) i).set (plc key i).toNat (mn (rd (cl l (plc key) i) (plc key i)+1) 15):=rfl;have hq:(cl l (plc key) i)[(plc key i).toNat]? = some (rd (cl l (plc key) i) (plc key i)):=by unfold rd;rw[C0j,C0c (by have:=HL.o;omega)];rfl
   have hsame:=B4q (cl l (plc key) i) (plc key i) hp0 (rd (cl l (plc key) i) (plc key i)) (by have:=HL.o;omega) rfl;have p5:plc key i < ((l.length:Nat):Int):=by have:=HL.o;omega
   have p6:(plc key i).toNat < l.length:=by have:=HL.o;omega
   generalize hv:rd (cl l (plc key) i) (plc key i)=v at *;generalize plc key i=p at *;have HSET:=B98 hset;have HQ:=B98 hq;have HSAME:=B98 hsame;clear hset hq hsame hv hlen hp1;by_cases c2:v < 15
   ·have c2b:decide (v < 15)=true:=B99 c2
    have em:mn (v+1) 15=v+1:=by unfold mn;split <;> omega
    have ew:wrap64 (v+1)=v+1:=by unfold wrap64;omega
    have HEM:=B98 em;clear c2 em hbd;go_wp2_with fail;go_region;go_wp2_with fail;go_roundw
    case rel =>
     have S:=(HS.o.swap.put_flat FI (j:=0) (x':=v+1) (v:=.int .i64 (v+1)) HQ.o Zd rfl).swap;rw[← HEM.o,← HSET.o,HEM.o] at S;have ep:p.toNat * (Kd.int .i64).sz+0=p.toNat:=Nat.mul_one _;rw[ep] at S;exact⟨i+1,by go_num,⟨by omega⟩,⟨by first|exact S.drew|(rw[ew];exact S.drew)⟩⟩
    case measure=>simp[intOf];omega
   ·have c2b:decide (v < 15)=false:=C0a c2
    have em:mn (v+1) 15=v:=by unfold mn;split <;> omega
    have HEM:=B98 em;clear c2 em hbd;go_wp2_with fail;go_roundw
    case rel=>exact⟨i+1,by go_num,⟨by omega⟩,⟨by rw[HSET.o,HEM.o,HSAME.o];exact HS.o⟩⟩
    case measure=>simp[intOf];omega
  ·have c1b:decide ((i:Int) < 3)=false:=C0a Zo
   have c1c:decide (i < 3)=false:=C0a c1;obtain rfl:i=3:=by have:=HI.o;omega
   clear c1;have en:wrap64 (n+1)=n+1:=by have:=HN.o;unfold wrap64;omega
   have hlen:=A8w l (plc key) 3;have HLN:=B98 hlen;generalize hl3:cl l (plc key) 3=m at *;clear hl3 hlen;have ho1:=HS.o.at_cell 0 rfl 1 rfl;have fo1:=HS.o.at_frozen 0 rfl 1
   by_cases c9:n=99
   ·subst c9
    have HCN2:=B98 (show cntd l 99 key=(m.map hf,0) by rw[HCN.o];rfl);go_upto_region 11 with fail;have S:=HS.o.put (cs':=#[.slice (some ⟨go,0,none⟩) l.length d,.int .i64 100]) 1 (.int .i64 100) rfl;clear HS ho1 fo1;obtain⟨z6,hw,S⟩:=S.fold;rw[← hw];clear hw;have HS:=B98 S;have ho1:=S.at_cell 0 rfl 1 rfl;have fo1:=S.at_frozen 0 rfl 1;clear S;go_upto_region 13 with fail;have S:=HS.o.put (cs':=#[.slice (some ⟨go,0,none⟩) l.length d,.int .i64 0]) 1 (.int .i64 0) rfl;clear HS ho1 fo1;obtain⟨z7,hw,S⟩:=S.fold;rw[← hw];clear hw;have HS:=B98 S;clear S;go_wp2_with fail;go_loopw [8] (fun v8 w'=>∃ i:Nat,v8=.int .i64 i∧A0a (i≤l.length)∧A0a (St w w' (Part.blk g5 47 #[.slice (some ⟨go,0,none⟩) l.length d,.int .i64 0] :: Part.row (Kd.int .i64) 3 (.slice (some ⟨go,0,none⟩) l.length d) (hl m i) :: [Part.blk g4 47 #[.slice none 0 0,.int .i64 0],Part.blk g2 47 #[.slice A l.length c,.int .i64 99]]))) (fun v8 _=>l.length - (intOf v8).toNat)
    case atStart=>exact⟨0,rfl,⟨by omega⟩,⟨by simpa [hl] using HS.o⟩⟩
    case round =>
     clear HS;obtain⟨i,rfl,HI,HS⟩:=hrel;have ho0:=HS.o.at_cell 0 rfl 0 rfl;have hl48:=HL.o;by_cases c1:i < l.length
     ·have c1b:decide ((i:Int) < (l.length:Int))=true:=B99 Zo
      have c1c:decide (i < l.length)=true:=B99 c1;have hlen:=B7p m i;have hR:=HS.o.at_R 1 rfl;obtain⟨hx5,hf5⟩:=Kd.R_celln 0 hR (i:Int) Zo (show(i:Int) < ((l.length:Nat):Int) by omega);replace hx5:wr.cell? ⟨go,((i:Int)).toNat,none⟩=some (.int .i64 (rd (hl m i) (i:Int))):=hx5;have hne1:=HS.o.at_own 0 1 rfl rfl Zd;have hne2:¬ go=g5:=fun e=>hne1 (by rw[e];rfl);have hne3:¬ g5=go:=fun e=>hne2 e.symm;clear hR hne1;have hq:(hl m i)[i]? = some (rd (hl m i) (i:Int)):=by unfold rd;rw[C0j,C0k,C0c (by have:=HLN.o;omega)];rfl
      have hnx:=B4p m i (by have:=HLN.o;omega);generalize hv:rd (hl m i) (i:Int)=v at *;rw[C0k] at hx5 hf5;have HQ:=B98 hq;have HNX:=B98 hnx;have p5:(0:Int)≤(i:Int):=by omega
      have p6:(i:Int) < ((l.length:Nat):Int):=by omega
      have p7:i < 1048576:=by omega
      clear hq hnx hv hlen hl48;go_wp2_with fail;go_region;go_wp2_with fail;go_roundw
      case rel =>
       have S:=(HS.o.swap.put_flat FI (j:=0) (x':=hf v) (v:=.int .i64 (hf v)) HQ.o Zd rfl).swap;rw[HNX.o] at S;have ep:i * (Kd.int .i64).sz+0=i:=Nat.mul_one _;rw[ep] at S;exact⟨i+1,by go_num,⟨by omega⟩,⟨S.drew⟩⟩
      case measure=>simp[intOf];omega
     ·have c1b:decide ((i:Int) < (l.length:Int))=false:=C0a Zo
      have c1c:decide (i < l.length)=false:=C0a c1;obtain rfl:i=l.length:=by have:=HI.o;omega
      clear c1 hl48;have ho1:=HS.o.at_cell 0 rfl 1 rfl;obtain⟨hr0,hr1⟩:=HS.o.cells2 2 rfl;obtain⟨fr0,fr1⟩:=HS.o.frozen2 2 rfl;have n1:=HS.o.at_ne 0 2 rfl rfl Zd;have n2:=HS.o.at_ne 2 0 rfl rfl Zd;go_wp2_with fail;have S:=HS.o.front 2 rfl rfl;have S:=S.put2 (.slice (some ⟨go,0,none⟩) l.length d) (.int .i64 0);refine bodyPost_ret (results_cell_row rfl _ _ _ _ _ _ _ rfl S.head.2 Tryz.underlying47 rfl Zk) rfl ?_;have e1:hl m l.length=m.map hf:=by unfold hl;rw[List.take_of_length_le (by have:=HLN.o;omega),List.drop_of_length_le (by have:=HLN.o;omega),List.append_nil]
      exact⟨_,by rw[HCN2.o],by rw[HCN2.o];have:=S.at_R 2 rfl;rw[e1] at this;exact Kd.R_mono this (fun _ _=>trivial),S.below⟩
   ·have HCN2:=B98 (show cntd l n key=(m,n+1) by rw[HCN.o,if_neg c9,if_neg c9])
    have c9b:((n+1:Int) == 100)=false:=C0g.2 Zo;clear c9;go_upto_region 11 with fail;have S:=HS.o.put (cs':=#[.slice (some ⟨go,0,none⟩) l.length d,.int .i64 (n+1)]) 1 (.int .i64 (n+1)) rfl;clear HS ho1 fo1;obtain⟨z6,hw,S⟩:=S.fold;rw[← hw];clear hw;have HS:=B98 S;obtain⟨ho0,ho1⟩:=S.cells2 0 rfl;obtain⟨hr0,hr1⟩:=S.cells2 2 rfl;obtain⟨fr0,fr1⟩:=S.frozen2 2 rfl;have n1:=S.at_ne 0 2 rfl rfl Zd;have n2:=S.at_ne 2 0 rfl rfl Zd;clear S;go_wp2_with fail;have S:=HS.o.front 2 rfl rfl;have S:=S.put2 (.slice (some ⟨go,0,none⟩) l.length d) (.int .i64 (n+1));refine bodyPost_ret (results_cell_row rfl _ _ _ _ _ _ _ rfl S.head.2 Tryz.underlying47 rfl Zk) rfl ?_;exact⟨_,by rw[HCN2.o],by rw[HCN2.o];exact Kd.R_mono (S.at_R 2 rfl) (fun _ _=>trivial),S.below⟩
end Go.Proofs.YtediiolcoilepaaGreat.Nb
