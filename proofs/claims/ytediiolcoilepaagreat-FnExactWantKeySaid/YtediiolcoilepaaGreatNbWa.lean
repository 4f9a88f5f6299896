/- Walks of callees. -/
import Derived.Test.YtediiolcoilepaaGreatNbV
import Derived.Test.YtediiolcoilepaaGreatGNear13
import Derived.BigRegion
import Derived.BigQuiet
namespace Go.Proofs.YtediiolcoilepaaGreat.Nb
set_option maxHeartbeats 8000000
set_option maxRecDepth 100000
open Go.RowKit Go.Proofs.YtediiolcoilepaaGreat.GNear Go.Proofs.YtediiolcoilepaaGreatW.PrintWords Go.Proofs.YtediiolcoilepaaGreatW.PrintLast Go.Proofs.YtediiolcoilepaaGreatW.PrintMore
set_option linter.unusedVariables false
set_option linter.unusedSimpArgs false
theorem and_i64 (a b:Nat) (ha:a < 9223372036854775808) (hb:b < 9223372036854775808):Go.bits .and .i64 (a:Int) (b:Int)=((a &&& b:Nat):Int) :=
 (bits_nat .i64 63 (by decide) (fun n h0 h1=>by rw[IntKind.wrap_i64];omega) a b ha hb).1
theorem or_i64 (a b:Nat) (ha:a < 9223372036854775808) (hb:b < 9223372036854775808):Go.bits .or .i64 (a:Int) (b:Int)=((a|||b:Nat):Int) :=
 (bits_nat .i64 63 (by decide) (fun n h0 h1=>by rw[IntKind.wrap_i64];omega) a b ha hb).2
def bitN (s:ByteArray) (seed:Nat):Nat:=hashN s seed % 32
theorem bitN_lt (s:ByteArray) (seed:Nat):bitN s seed < 32:=Nat.mod_lt _ (by omega)
theorem pow_small (m:Nat) (h:m < 32):2 ^ m≤2147483648:=by
 have:=Nat.pow_le_pow_right (n:=2) (by omega) (show m≤31 by omega)
 simpa using this
theorem bit_loop (s:ByteArray) (hs:s.size≤4611686018427387904) (seed:Nat) (h:seed≤1000000000) (d:Nat):∀ (i:Nat),i+d=bitN s seed →
  Ev (fun k=>spec_l06Bit.l0 k s (seed:Int) ((2 ^ i:Nat):Int) (i:Int)) ((2 ^ bitN s seed:Nat):Int):=by
 have hh:=(hash_ev s hs seed h).1;have hm:=bitN_lt s seed;have et:Int.tmod ((hashN s seed:Nat):Int) 32=((bitN s seed:Nat):Int):=by
  rw[Int.tmod_eq_emod_of_nonneg (by omega)];unfold bitN;omega
 induction d with
 |zero =>
  intro i hd;refine Ev.step (f:=fun k=>(spec_HashOf.f k s (seed:Int)).bind fun t105=>(if (i:Int) < (Int.tmod t105 32) then (spec_l06Bit.l0 k s (seed:Int) (wrap64 (2 * ((2 ^ i:Nat):Int))) (wrap64 ((i:Int)+1))) else (some ((2 ^ i:Nat):Int)))) (fun k=>?_) (Ev.bind hh ?_)
  ·simp only [spec_l06Bit.l0]
  ·simp only [et,if_neg (show ¬ ((i:Int) < ((bitN s seed:Nat):Int)) by omega)]
   rw[show bitN s seed=i by omega];exact Ev.now _
 |succ d ih =>
  intro i hd;have hp:=pow_small i (by omega);have ep:wrap64 (2 * ((2 ^ i:Nat):Int))=((2 ^ (i+1):Nat):Int):=by
   rw[Nat.pow_succ];generalize 2 ^ i=q at *;unfold wrap64;omega
  refine Ev.step (f:=fun k=>(spec_HashOf.f k s (seed:Int)).bind fun t105=>(if (i:Int) < (Int.tmod t105 32) then (spec_l06Bit.l0 k s (seed:Int) (wrap64 (2 * ((2 ^ i:Nat):Int))) (wrap64 ((i:Int)+1))) else (some ((2 ^ i:Nat):Int)))) (fun k=>?_) (Ev.bind hh ?_)
  ·simp only [spec_l06Bit.l0]
  ·simp only [et,if_pos (show((i:Int) < ((bitN s seed:Nat):Int)) by omega),ep,w64 i (by omega)]
   exact ih (i+1) (by omega)
theorem bit_ev (s:ByteArray) (hs:s.size≤4611686018427387904) (seed:Nat) (h:seed≤1000000000):Ev (fun k=>spec_l06Bit.f k s (seed:Int)) ((2 ^ bitN s seed:Nat):Int) :=
 bit_loop s hs seed h (bitN s seed) 0 (by omega)
theorem has_some (D m:Nat) (hD:D < 4294967296) (hm:m < 32):spec_l06Has.f (D:Int) ((2 ^ m:Nat):Int)=some (D.testBit m):=by
 have hp0:0 < 2 ^ m:=Nat.two_pow_pos m;unfold spec_l06Has.f;rw[if_neg (by omega),Int.tdiv_eq_ediv_of_nonneg (by omega)];have e:((D:Int) / ((2 ^ m:Nat):Int))=((D / 2 ^ m:Nat):Int):=by rw[Int.natCast_ediv]
 have hle:D / 2 ^ m≤D:=Nat.div_le_self _ _;have ew:wrap64 ((D:Int) / ((2 ^ m:Nat):Int))=((D / 2 ^ m:Nat):Int):=by
  rw[e];generalize D / 2 ^ m=q at *;unfold wrap64;omega
 rw[ew,Int.tmod_eq_emod_of_nonneg (Int.natCast_nonneg _),Nat.testBit_eq_decide_div_mod_eq]
 congr 1
 generalize D / 2 ^ m=q
 by_cases c:q % 2=1
 ·rw[decide_eq_true c];simp;omega
 ·rw[decide_eq_false c];simp;omega
def bitsN (s:ByteArray):Nat:=2 ^ bitN s 7|||2 ^ bitN s 8
theorem bitsN_lt (s:ByteArray):bitsN s < 4294967296 :=
 Nat.or_lt_two_pow (n:=32) (by have:=pow_small _ (bitN_lt s 7);omega) (by have:=pow_small _ (bitN_lt s 8);omega)
theorem shl_one (m:Nat) (h:m < 32):shl .i64 1 (m:Int)=((2 ^ m:Nat):Int):=by
 unfold shl;have e:min ((m:Int).toNat) (IntKind.bits .i64)=m:=by simp[IntKind.bits];omega
 have hp:=pow_small m h;rw[e,IntKind.wrap_i64,Int.one_mul];have:((2:Int) ^ m)=((2 ^ m:Nat):Int):=by simp
 rw[this];generalize 2 ^ m=q at *;omega
theorem bits_ev (s:ByteArray) (hs:s.size≤4611686018427387904):Ev (fun k=>impl_bitsOf.f k s) ((bitsN s:Nat):Int):=by
 have h7:=(hash_ev s hs 7 (by omega)).2;have h8:=(hash_ev s hs 8 (by omega)).2;have e7:IntKind.u64.wrap (Int.tmod ((hashN s 7:Nat):Int) 32)=((bitN s 7:Nat):Int):=by
  rw[Int.tmod_eq_emod_of_nonneg (by omega)];unfold bitN;simp[IntKind.wrap,IntKind.bits,IntKind.signed];omega
 have e8:IntKind.u64.wrap (Int.tmod ((hashN s 8:Nat):Int) 32)=((bitN s 8:Nat):Int):=by
  rw[Int.tmod_eq_emod_of_nonneg (by omega)];unfold bitN;simp[IntKind.wrap,IntKind.bits,IntKind.signed];omega
 unfold impl_bitsOf.f;refine Ev.bind h7 (Ev.bind h8 ?_);have p7:=pow_small _ (bitN_lt s 7);have p8:=pow_small _ (bitN_lt s 8);simp only [e7,e8,if_pos (show(0:Int)≤((bitN s 7:Nat):Int) by omega),if_pos (show(0:Int)≤((bitN s 8:Nat):Int) by omega),shl_one _ (bitN_lt s 7),shl_one _ (bitN_lt s 8)];rw[or_i64 _ _ (by omega) (by omega)];exact Ev.now _
theorem okI (D:Int):impl_DoorOk.f D=some (decide (0≤D∧D < 4294967296)):=by
 unfold impl_DoorOk.f impl_inRange.f
 by_cases c:D ≥ 0
 ·rw[if_pos c];simp only [Option.bind_some];congr 1;rw[Bool.eq_iff_iff];simp;omega
 ·rw[if_neg c];simp only [Option.bind_some];congr 1;rw[Bool.eq_iff_iff];simp;omega
def seenN (D:Nat) (s:ByteArray):Bool:=D.testBit (bitN s 7) && D.testBit (bitN s 8)
theorem seen_bits (D:Nat) (s:ByteArray):(D &&& bitsN s=bitsN s) ↔ seenN D s=true:=by
 unfold seenN bitsN;rw[Bool.and_eq_true];constructor
 ·intro h
  have g:∀ i,(D.testBit i && ((2 ^ bitN s 7).testBit i||(2 ^ bitN s 8).testBit i))=((2 ^ bitN s 7).testBit i||(2 ^ bitN s 8).testBit i):=by
   intro i;have:=congrArg (fun x=>Nat.testBit x i) h
   simpa [Nat.testBit_and,Nat.testBit_or] using this
  constructor
  ·have:=g (bitN s 7);simpa [Nat.testBit_two_pow] using this
  ·have:=g (bitN s 8);simpa [Nat.testBit_two_pow] using this
 ·rintro ⟨h7,h8⟩
  apply Nat.eq_of_testBit_eq;intro i;rw[Nat.testBit_and,Nat.testBit_or,Nat.testBit_two_pow,Nat.testBit_two_pow]
  by_cases c7:bitN s 7=i
  ·subst c7;simp[h7]
  ·by_cases c8:bitN s 8=i
   ·subst c8;simp[h8]
   ·simp[c7,c8]
theorem or_bit (D m:Nat) (hD:D < 4294967296) (hm:m < 32):D|||2 ^ m=if D.testBit m then D else D+2 ^ m:=by
 have hp:=pow_small m hm
 by_cases c:D.testBit m=true
 ·rw[if_pos c]
  apply Nat.eq_of_testBit_eq;intro i;rw[Nat.testBit_or,Nat.testBit_two_pow]
  by_cases e:m=i
  ·subst e;simp[c]
  ·simp[e]
 ·rw[if_neg c]
  have c':D.testBit m=false:=by simpa using c
  have h0:D &&& 2 ^ m=0:=by
   apply Nat.eq_of_testBit_eq;intro i;rw[Nat.testBit_and,Nat.testBit_two_pow,Nat.zero_testBit]
   by_cases e:m=i
   ·subst e;simp[c']
   ·simp[e]
  have hz:BitVec.ofNat 33 D &&& BitVec.ofNat 33 (2 ^ m)=0#33:=by
   apply BitVec.eq_of_toNat_eq;rw[BitVec.toNat_and,BitVec.toNat_ofNat,BitVec.toNat_ofNat,Nat.mod_eq_of_lt (by omega),Nat.mod_eq_of_lt (by omega),h0];rfl
  have h:=congrArg BitVec.toNat (BitVec.add_eq_or_of_and_eq_zero _ _ hz);rw[BitVec.toNat_add,BitVec.toNat_or,BitVec.toNat_ofNat,BitVec.toNat_ofNat,Nat.mod_eq_of_lt (show D < 2 ^ 33 by omega),Nat.mod_eq_of_lt (show 2 ^ m < 2 ^ 33 by omega),Nat.mod_eq_of_lt (by omega)] at h;exact h.symm
theorem or_lt (D b:Nat) (hD:D < 4294967296) (hb:b < 4294967296):D|||b < 4294967296:=Nat.or_lt_two_pow (n:=32) hD hb
theorem markI_ev (D:Nat) (s:ByteArray) (hD:D < 4294967296) (hs:s.size≤4611686018427387904):Ev (fun k=>impl_MarkKey.f k (D:Int) s) ((D|||bitsN s:Nat):Int):=by
 have hb:=bitsN_lt s;unfold impl_MarkKey.f;simp only [okI,Option.bind_some,decide_eq_true (show 0≤(D:Int)∧(D:Int) < 4294967296 by omega),if_true];refine Ev.bind (bits_ev s hs) ?_;rw[or_i64 D (bitsN s) (by omega) (by omega)];exact Ev.now _
theorem seenI_ev (D:Int) (s:ByteArray) (hs:s.size≤4611686018427387904):Ev (fun k=>impl_SeenKey.f k D s) (decide (0≤D∧D < 4294967296) && seenN D.toNat s):=by
 unfold impl_SeenKey.f;refine Ev.bind (bits_ev s hs) ?_;simp only [okI,Option.bind_some]
 by_cases c:0≤D∧D < 4294967296
 ·simp only [decide_eq_true c,if_true,Bool.true_and]
  obtain⟨n,rfl⟩:=Int.eq_ofNat_of_zero_le c.1;have hb:=bitsN_lt s;rw[and_i64 n (bitsN s) (by omega) (by omega),Int.toNat_natCast];have e:((((n &&& bitsN s:Nat):Int)) == ((bitsN s:Nat):Int))=seenN n s:=by
   rw[Bool.eq_iff_iff,← seen_bits,beq_iff_eq];omega
  rw[e];exact Ev.now _
 ·simp only [decide_eq_false c,Bool.false_and,if_neg (show ¬ (false=true) by decide)]
  exact Ev.now _
theorem seenSL (w:World) (D:Nat) (hD:D < 4294967296) (key:ByteArray) (hk:key.size≤4611686018427387904) :
  Calls Tryz.prog 171 #[.agg #[.int .i64 (D:Int)],.string key] w fun e w'=>e=.returned (.bool (seenN D key))∧Below w.heap.size w w':=by
 obtain⟨K7,h7⟩:=bit_ev key hk 7 (by omega);obtain⟨K8,h8⟩:=bit_ev key hk 8 (by omega);obtain⟨b7,hb7⟩:∃ b,b=D.testBit (bitN key 7):=⟨_,rfl⟩;obtain⟨b8,hb8⟩:∃ b,b=D.testBit (bitN key 8):=⟨_,rfl⟩;obtain⟨p7,hp7⟩:∃ p,p=((2 ^ bitN key 7:Nat):Int):=⟨_,rfl⟩;obtain⟨p8,hp8⟩:∃ p,p=((2 ^ bitN key 8:Nat):Int):=⟨_,rfl⟩;have H7:=Aside0.mk (show spec_l06Bit.f K7 key 7=some p7 from hp7 ▸ h7 K7 (Nat.le_refl _));have H8:=Aside0.mk (show spec_l06Bit.f K8 key 8=some p8 from hp8 ▸ h8 K8 (Nat.le_refl _));have T7:=Aside0.mk (show spec_l06Has.f (D:Int) p7=some b7 by rw[hp7,hb7];exact has_some D (bitN key 7) hD (bitN_lt key 7));have T8:=Aside0.mk (show spec_l06Has.f (D:Int) p8=some b8 by rw[hp8,hb8];exact has_some D (bitN key 8) hD (bitN_lt key 8));have HD:=Aside0.mk (show spec_DoorOk.f (D:Int)=some true by rw[doorS,decide_eq_true (by omega)]);have HE:=Aside0.mk (show seenN D key=(b7 && b8) by rw[hb7,hb8];rfl);have HS:=Aside0.mk (St.start w);rw[HE.out];clear h7 h8 hD hb7 hb8 hp7 hp8 hk HE;go_enter Tryz.func171,Tryz.ntmps171;go_wp2_with (first|((with_reducible refine gate_dst (N:=2) rfl ?_);refine boxS HS (N:=2) fun g2 w2 S=>?_;clear HS;have HS:=Aside0.mk S;clear S));have hc0:∀ p:WSt w [Part.blk g2 48 #[.int .i64 (D:Int)]],p.w'.cell? ⟨g2,0,none⟩=some (.int .i64 (D:Int)):=fun p=>p.st.at_cell 0 rfl 0 rfl;have hne:Nonempty (WSt w [Part.blk g2 48 #[.int .i64 (D:Int)]]):=⟨⟨_,HS.out⟩⟩;refine wp_region_quietL (C:=fun w'=>∃ p:WSt w [Part.blk g2 48 #[.int .i64 (D:Int)]],w'=p.w') (by kernel_rfl) (by kernel_rfl) ⟨⟨_,HS.out.drew⟩,rfl⟩ ?_
 repeat(go_big_quiet_step (first|(go_at_call 117;refine(spec_DoorOk.calls (D:Int) true _ HD.out).mono ?_;rintro e w2 ⟨rfl,hb⟩;exact⟨rfl,WSt.on _ (by first|exact hb|exact hb.below)⟩)|(go_at_call 220;refine(spec_l06Bit.calls K7 key 7 p7 _ H7.out).mono ?_;rintro e w2 ⟨rfl,hb⟩;exact⟨rfl,WSt.on _ (by first|exact hb|exact hb.below)⟩)|(go_at_call 219;refine(spec_l06Has.calls (D:Int) p7 b7 _ T7.out).mono ?_;rintro e w2 ⟨rfl,hb⟩;exact⟨rfl,WSt.on _ (by first|exact hb|exact hb.below)⟩)))
 cases b7 with
 |false =>
  repeat(go_big_quiet_step (fail))
  refine wpQuiet_nil ?_;rintro w9 ⟨⟨w9,S⟩,rfl⟩;clear hc0;go_wp2_with fail;go_ret;exact⟨by simp,S.below⟩
 |true =>
  repeat(go_big_quiet_step (first|(go_at_call 220;refine(spec_l06Bit.calls K8 key 8 p8 _ H8.out).mono ?_;rintro e w2 ⟨rfl,hb⟩;exact⟨rfl,WSt.on _ (by first|exact hb|exact hb.below)⟩)|(go_at_call 219;refine(spec_l06Has.calls (D:Int) p8 b8 _ T8.out).mono ?_;rintro e w2 ⟨rfl,hb⟩;exact⟨rfl,WSt.on _ (by first|exact hb|exact hb.below)⟩)))
  refine wpQuiet_nil ?_;rintro w9 ⟨⟨w9,S⟩,rfl⟩;clear hc0;go_wp2_with fail;go_ret;exact⟨by simp,S.below⟩
def orD (D:Nat) (key:ByteArray):Nat→Nat
 |0=>D
 |i+1=>orD D key i|||2 ^ bitN key (7+i)
theorem orD_lt (D:Nat) (key:ByteArray) (hD:D < 4294967296):∀ i,orD D key i < 4294967296
 |0=>hD
 |i+1=>or_lt _ _ (orD_lt D key hD i) (by have:=pow_small _ (bitN_lt key (7+i));omega)
theorem orD_2 (D:Nat) (key:ByteArray):orD D key 2=D|||bitsN key:=by
 show D|||2 ^ bitN key 7|||2 ^ bitN key 8=_;rw[Nat.or_assoc];rfl
theorem markKeyS (w:World) (D:Nat) (hD:D < 4294967296) (key:ByteArray) (hk:key.size≤4611686018427387904) :
  Calls Tryz.prog 172 #[.agg #[.int .i64 (D:Int)],.string key] w fun e w'=>e=.returned (.agg #[.int .i64 ((D|||bitsN key:Nat):Int)])∧Below w.heap.size w w':=by
 have HD:=Aside0.mk (show spec_DoorOk.f (D:Int)=some true by rw[doorS,decide_eq_true (by omega)]);have HK:=Aside0.mk hk;have HDD:=Aside0.mk hD;have HS:=Aside0.mk (St.start w);clear hD hk;go_enter Tryz.func172,Tryz.ntmps172;go_wp2_with (first|((with_reducible refine gate_dst (N:=2) rfl ?_);refine boxS HS (N:=2) fun g2 w2 S=>?_;clear HS;have HS:=Aside0.mk S;have ha0:=S.at_cell 0 rfl 0 rfl;clear S)|((with_reducible refine gate_dst (N:=4) rfl ?_);refine boxS HS (N:=4) fun g4 w4 S=>?_;clear HS ha0;have HS:=Aside0.mk S;have ha0:=S.at_cell 1 rfl 0 rfl;clear S));refine(spec_DoorOk.calls (D:Int) true _ HD.out).mono ?_;rintro e w5 ⟨rfl,hb⟩;have S:=HS.out.step (by first|exact hb|exact hb.below);clear HS hb ha0;have HS:=Aside0.mk S;clear S;go_wp2_with fail;go_loopw [5] (fun v5 w'=>∃ (i:Nat),v5=.int .i64 ((7+i:Nat):Int)∧Aside0 (i≤2)∧Aside0 (St w w' [Part.blk g4 48 #[.int .i64 0],Part.blk g2 48 #[.int .i64 (orD D key i:Int)]])) (fun v5 _=>9 - (intOf v5).toNat)
 case atStart=>exact⟨0,rfl,⟨by omega⟩,HS⟩
 case round =>
  clear HS;obtain⟨i,rfl,HI,HS⟩:=hrel;by_cases c:i < 2
  ·obtain⟨K,hK⟩:=bit_ev key HK.out (7+i) (by omega)
   have hE:=orD_lt D key HDD.out i;have hp:=pow_small _ (bitN_lt key (7+i));have ho:=or_bit (orD D key i) (bitN key (7+i)) hE (bitN_lt key (7+i));obtain⟨E,hEE⟩:∃ E,E=orD D key i:=⟨_,rfl⟩;obtain⟨b,hb⟩:∃ b,b=E.testBit (bitN key (7+i)):=⟨_,rfl⟩;obtain⟨p,hpp⟩:∃ p,p=2 ^ bitN key (7+i):=⟨_,rfl⟩;have T:=Aside0.mk (show spec_l06Has.f (E:Int) ((p:Nat):Int)=some b by rw[hpp,hb,hEE];exact has_some _ _ hE (bitN_lt key _));have HN:=Aside0.mk (show orD D key (i+1)=if b=true then E else E+p by show orD D key i|||_=_;rw[ho,hb,hpp,hEE]);have HKK:=Aside0.mk (show spec_l06Bit.f K key ((7+i:Nat):Int)=some ((p:Nat):Int) from hpp ▸ hK K (Nat.le_refl _));rw[← hEE] at HS;have ew:wrap64 ((E:Int)+(p:Int))=((E+p:Nat):Int):=by rw[← hEE] at hE;rw[← hpp] at hp;unfold wrap64;omega
   have es:wrap64 (((7+i:Nat):Int)+1)=((7+(i+1):Nat):Int):=by unfold wrap64;omega
   have c1:decide (((7+i:Nat):Int)≤8)=true:=decide_eq_true (by omega);obtain⟨s,hs⟩:∃ s:Int,s=((7+i:Nat):Int):=⟨_,rfl⟩;rw[← hs] at HKK es c1 ⊢;have HSS:=Aside0.mk hs;have HC:=Aside0.mk c;clear hK hE hp ho hEE hb hpp hs c;go_wp2_with fail;refine(spec_l06Bit.calls K key s (p:Int) _ HKK.out).mono ?_;rintro e w7 ⟨rfl,hb⟩;have S:=HS.out.step hb.below;clear HS hb;have HS:=Aside0.mk S;have ha0:=S.at_cell 1 rfl 0 rfl;clear S;go_wp2_with fail;refine(spec_l06Has.calls (E:Int) (p:Int) b _ T.out).mono ?_;rintro e w8 ⟨rfl,hb⟩;have S:=HS.out.step hb.below;clear HS hb ha0;have HS:=Aside0.mk S;have ha0:=S.at_cell 1 rfl 0 rfl;have fa0:=S.at_frozen 1 rfl 0;clear S;cases b with
   |true =>
    go_wp2_with fail;go_roundw
    case rel=>exact⟨i+1,by rw[es],⟨by have:=HC.out;omega⟩,⟨by rw[HN.out];simpa using HS.out⟩⟩
    case measure=>have:=HSS.out;have:=HC.out;rw[es];simp only [intOf];omega
   |false =>
    go_wp2_with fail;go_roundw
    case rel=>exact⟨i+1,by rw[es],⟨by have:=HC.out;omega⟩,⟨by rw[HN.out,if_neg (by simp)];exact((HS.out.swap.put (cs':=#[.int .i64 ((E+p:Nat):Int)]) 0 (.int .i64 ((E+p:Nat):Int)) rfl).swap)⟩⟩
    case measure=>have:=HSS.out;have:=HC.out;rw[es];simp only [intOf];omega
  ·have hi:i=2:=by have:=HI.out;omega
   subst hi;rw[orD_2] at HS;clear c;have ha0:=HS.out.at_cell 1 rfl 0 rfl;have hr0:=HS.out.at_cell 0 rfl 0 rfl;have fr0:=HS.out.at_frozen 0 rfl 0;go_wp2_with fail;have S:=HS.out.put (cs':=#[.int .i64 ((D|||bitsN key:Nat):Int)]) 0 (.int .i64 ((D|||bitsN key:Nat):Int)) rfl;refine bodyPost_ret (results_cell_row rfl _ _ g4 48 #[.int .i64 ((D|||bitsN key:Nat):Int)] (0,0) _ rfl S.head.2 Tryz.underlying48 rfl (by kernel_rfl)) rfl ?_;exact⟨rfl,S.below⟩
end Go.Proofs.YtediiolcoilepaaGreat.Nb
