/- Parts of the proof: walks of callees, plain laws about what they compute. -/
import Derived.Test.YtediiolcoilepaaGreatNbU
import Derived.BigRegion
import Derived.BigQuiet
namespace Go.Proofs.YtediiolcoilepaaGreat.Nb
open Go.RowKit Go.Proofs.YtediiolcoilepaaGreat.GNear Go.Proofs.YtediiolcoilepaaGreatW.PrintWords Go.Proofs.YtediiolcoilepaaGreatW.PrintLast Go.Proofs.YtediiolcoilepaaGreatW.PrintMore
attribute [local go_sem] max2_int min2_int max_two min_two max_three min_three max_four min_four
set_option linter.unusedVariables false
set_option linter.unusedSimpArgs false
set_option maxHeartbeats 4000000 in
set_option maxRecDepth 100000 in
theorem withoutL {A:Option Addr} {c:Nat} (l:List ByteArray) (hl:l.length≤1048576) (key:ByteArray) (w:World) (hA:Kd.C Kd.string w A l.length l) :
  Calls Tryz.prog 76 #[.slice A l.length c,.string key] w fun e w'=>∃ v,e=.returned v∧Kd.R Kd.string 9 w' w.heap.size (fun _=>True) v (l.filter (fun s=>decide (s ≠ key)))∧Below w.heap.size w w':=by
 have HA:=Aside0.mk hA
 have HL:=Aside0.mk hl
 have HS:=Aside0.mk (St.start w)
 clear hA hl;go_enter Tryz.func76,Tryz.ntmps76
 go_wp2_with (first|((with_reducible refine gate_dst (N:=7) rfl ?_);refine Kd.R_lit Kd.string _ 9 ?hg (N:=7) ?hd (xs:=([]:List ByteArray)) (inner:=[]) (ok:=fun _=>True) (okp:=fun _=>True) ?hr ?hp (fun _ hk=>hk) trivial (Below.refl _ _) (Nat.le_refl _) (by simp) ?_;(case hd=>rfl);(case hg=>rfl);(case hr=>first|(go_simp;done)|(go_simp;rfl));(case hp=>exact(Reps.none _ _));intro v7 x7 ho hb _ _;have HS1:=Aside0.mk (HS.out.new_row rfl hb ho);clear HS ho hb;have HS:=HS1;clear HS1))
 go_loopw [5,6] (fun v5 v6 w'=>∃ (i:Nat) (acc:List ByteArray),v6=.int .i64 i∧Aside0 (i≤l.length)∧Aside0 (acc=(l.take i).filter (fun s=>decide (s ≠ key)))∧Aside0 (St w w' [Part.row Kd.string 9 v5 acc])) (fun _ v6 _=>l.length - (intOf v6).toNat)
 case atStart=>exact⟨0,[],rfl,⟨Nat.zero_le _⟩,⟨by simp⟩,HS⟩
 case round =>
  clear HS;obtain⟨i,acc,rfl,HI,HG,HS⟩:=hrel;by_cases c1:i < l.length
  ·have c1b:decide ((i:Int) < (l.length:Int))=true:=decide_eq_true (by omega)
   have p5:(0:Int)≤(i:Int):=by omega
   have q5:(i:Int) < (l.length:Int):=by omega
   obtain⟨ad,e5,hx0⟩:=Kd.at_string (Kd.C_below HA.out HS.out.below) (i:Int) p5 q5
   cases e5
   obtain⟨x,hx⟩:∃ x,x=rdOf ByteArray.empty l (i:Int):=⟨_,rfl⟩
   rw[← hx] at hx0;rw[Int.toNat_natCast] at hx0;have HX:=Aside0.mk (show l.take (i+1)=l.take i ++ [x] by rw[List.take_add_one,List.getElem?_eq_getElem c1,hx,rdS_at l i c1];rfl)
   clear c1 hx;have hal:acc.length≤1048576:=by rw[HG.out];have h1:=List.length_filter_le (fun s=>decide (s ≠ key)) (l.take i);have h2:=HL.out;rw[List.length_take] at h1;omega
   have HAL:=Aside0.mk hal
   clear hal;replace p5:=eq_true p5;replace q5:=eq_true q5;have p6:i < 1048576:=by have:=HL.out;have h_:=of_eq_true q5;omega
   by_cases hk:x=key
   ·have t1:(x.toList != key.toList)=false:=bne_eq_false_iff_eq.mpr (by rw[hk])
    have t2:(x.toList == key.toList)=true:=beq_iff_eq.mpr (by rw[hk])
    have HK:=Aside0.mk hk
    clear hk;go_wp2_with fail
    go_roundw
    case rel=>exact⟨i+1,acc,by go_num,⟨by have h_:=of_eq_true q5;omega⟩,⟨by rw[HX.out,List.filter_append,HG.out,HK.out];simp⟩,HS⟩
    case measure=>have h_:=of_eq_true q5;simp only [intOf];omega
   ·have t1:(x.toList != key.toList)=true:=bne_iff_ne.mpr (fun e=>hk (str_eq.1 e))
    have t2:(x.toList == key.toList)=false:=beq_eq_false_iff_ne.mpr (fun e=>hk (str_eq.1 e))
    have HK:=Aside0.mk hk
    clear hk;go_wp2_with (first|((with_reducible refine gate_builtin (b:=.append) (xs:=#[.tmp 20,.tmp 25]) rfl ?_);at_builtin;have S:=HS.out;refine Kd.R_append Kd.string (w0:=w) w.heap.size rfl (.tmp 20) (.tmp 25) 28 9 (.string ⟨#[]⟩) 16 rfl Tryz.underlying28 info9 rfl (by decide) (by omega) u5 acc x [.string x] (fun k_=>(w.heap.size≤k_)) (fun _=>False) rfl (by first|(go_simp;done)|(go_simp;rfl)) ?aP (fun _ hk=>hk.elim) ?aF ?aO ?aB ?aS ?aL ?_;(case aP=>exact rfl);(case aB=>exact S.below);(case aF=>exact(fun k_ hk=>Nat.le_trans S.below.size hk));(case aO=>exact(Kd.R_reok rfl (S.at_R 0 rfl) (fun k_ hk=>Kd.R_base (S.at_R 0 rfl) k_ hk)));(case aS=>exact S.below.size);(case aL=>have:=HAL.out;omega);intro v7 w7 ho hb hg hat;have S:=S.appended rfl hb hg ho hat;have HS7:=Aside0.mk S;clear S ho hb hg hat))
    go_roundw
    case rel=>exact⟨i+1,acc ++ [x],by go_num,⟨by have h_:=of_eq_true q5;omega⟩,⟨by rw[HX.out,List.filter_append,HG.out];simp[HK.out]⟩,HS7⟩
    case measure=>have h_:=of_eq_true q5;simp only [intOf];omega
  ·have c1b:decide ((i:Int) < (l.length:Int))=false:=decide_eq_false (by omega)
   have c1c:decide (i < l.length)=false:=decide_eq_false c1
   have HE:=Aside0.mk (show acc=l.filter (fun s=>decide (s ≠ key)) by rw[HG.out,List.take_of_length_le (by omega)])
   clear c1;go_wp2_with fail
   go_ret
   exact⟨u5,rfl,by rw[← HE.out];exact Kd.R_mono (HS.out.at_R 0 rfl) (fun _ _=>trivial),HS.out.below⟩
theorem St.fold {w0 w:World} {ps:List Part} (h:St w0 w ps):∃ w',w'=w∧St w0 w' ps:=⟨w,rfl,h⟩
set_option maxHeartbeats 4000000 in
set_option maxRecDepth 100000 in
theorem liftS {A:Option Addr} {c:Nat} (l:List S94) (hl:l.length≤1048576) (fr h:Int) (hr:arR l fr) (hh:h≤9223372036854775807) (k:Nat) (x:S94) (hx:l[k]? = some x) (hu:x.f1=true) (hk:24 * x.f0+(k:Int)=h) (w:World) (hA:Kd.C k94 w A l.length l) (hcl:l.length≤c) :
  Calls Tryz.prog 103 #[.agg #[.slice A l.length c,.int .i64 fr],.int .i64 h] w fun e w'=>∃ v,e=.returned (.tuple #[.agg #[v,.int .i64 (k:Int)],.bool true])∧Kd.R k94 94 w' w.heap.size (fun _=>True) v (l.set k ⟨genN x,false,⟨#[]⟩,⟨#[]⟩,fr⟩)∧Below w.heap.size w w':=by
 have hu94:=Tryz.underlying94;obtain⟨K,hK⟩:=atS_ev l fr h hr hh;rw[(placeOf_some hr).2 ⟨x,hx,hu,hk⟩] at hK;have HK:=Aside0.mk (show spec_l03At.f K l fr h=some (k:Int) from hK K (Nat.le_refl _))
 have hkl:k < l.length:=(List.getElem?_eq_some_iff.1 hx).1
 have ex:rd_T94 l (k:Int)=x:=by rw[rd_sl l k hkl];rw[List.getElem?_eq_getElem hkl] at hx;exact Option.some.inj hx
 have HA:=Aside0.mk hA
 have HCL:=Aside0.mk hcl
 clear hcl;have HL:=Aside0.mk hl
 have HX:=Aside0.mk hx
 have HE:=Aside0.mk ex
 have HKL:=Aside0.mk hkl
 have HS:=Aside0.mk (St.start w)
 clear hA hl hK hx hu hk hr hh ex hkl;go_enter Tryz.func103,Tryz.ntmps103
 go_wp2_with (first|((with_reducible refine gate_dst (N:=2) rfl ?_);refine boxS HS (N:=2) (cs:=#[.slice A l.length c,.int .i64 fr]) (t:=42) fun g2 w2 S=>?_;clear HS;have HS:=Aside0.mk S;obtain⟨ha0,ha1⟩:=S.cells2 0 rfl;clear S)|((with_reducible refine gate_dst (N:=4) rfl ?_);refine boxS HS (N:=4) (cs:=#[.slice none 0 0,.int .i64 0]) (t:=42) fun g4 w4 S=>?_;clear HS ha0 ha1;have HS:=Aside0.mk S;obtain⟨ha0,ha1⟩:=S.cells2 1 rfl;clear S))
 refine(spec_l03At.calls K A c l fr h (k:Int) _ (Kd.C_below HA.out HS.out.below) HCL.out HK.out).mono ?_
 rintro e w1 ⟨rfl,hb⟩
 have S:=HS.out.step hb
 clear HS hb ha0 ha1;have HS:=Aside0.mk S
 obtain⟨ha0,ha1⟩:=S.cells2 1 rfl
 clear S;have t1:decide ((k:Int) < 0)=false:=decide_eq_false (by omega)
 go_wp2_with fail
 refine(l03CopyL l HL.out fr _ (Kd.C_below HA.out HS.out.below)).mono ?_
 rintro e w2 ⟨v,rfl,hr,hb⟩
 have S:=HS.out.new_row rfl hb hr
 obtain⟨B0,d0,rfl⟩:=Kd.R_slice hr;obtain⟨go,co,eo,-,-,-,-⟩:=Kd.R_form (S.at_R 0 rfl) (by have:=HKL.out;omega)
 obtain⟨rfl,-,rfl⟩:=Value.slice.inj eo;clear HS hr hb ha0 ha1 eo;have HS:=Aside0.mk S
 clear S;have p5:(0:Int)≤(k:Int):=by omega
 have q5:(k:Int) < (l.length:Int):=by have:=HKL.out;omega
 obtain⟨ad,e5,hy0,-⟩:=at_T94 HA.out (k:Int) p5 q5
 cases e5
 rw[HE.out,Int.toNat_natCast] at hy0;obtain⟨b,hkb⟩:∃ b,k * 5=b:=⟨_,rfl⟩
 rw[hkb] at hy0;have hlt:=World.block_lt_of_cell? w _ hy0
 have HY:=Aside0.mk (fun (w':World) (hb:Below w.heap.size w w')=>(hb.cell hlt).trans hy0)
 have HLT:=Aside0.mk hlt
 clear hy0 hlt;replace p5:=eq_true p5;replace q5:=eq_true q5;clear t1;have t1:decide ((k:Int) < 0)=false:=decide_eq_false (by omega)
 by_cases c9:wrap64 (x.f0+1) > 41666665
 ·have hgen:genN x=0:=if_pos c9
  have HG:=Aside0.mk hgen
  have c9b:decide (41666665 < wrap64 (x.f0+1))=true:=decide_eq_true c9
  clear hgen c9;go_upto_region 9 with (first|((with_reducible refine gate_dst (N:=7) rfl ?_);refine boxS HS (N:=7) (cs:=#[.slice none 0 0,.int .i64 0]) (t:=42) fun g7 w7 S=>?_;clear HS;have HS:=Aside0.mk S;obtain⟨ho0,ho1⟩:=S.cells2 0 rfl;obtain⟨fo0,fo1⟩:=S.frozen2 0 rfl;obtain⟨hr0,hr1⟩:=S.cells2 2 rfl;obtain⟨fr0,fr1⟩:=S.frozen2 2 rfl;obtain⟨ha0,ha1⟩:=S.cells2 3 rfl;have nor:=S.at_ne 0 2 rfl rfl (by decide);have noa:=S.at_ne 0 3 rfl rfl (by decide);have nro:=S.at_ne 2 0 rfl rfl (by decide);have nra:=S.at_ne 2 3 rfl rfl (by decide);have nao:=S.at_ne 3 0 rfl rfl (by decide);have nar:=S.at_ne 3 2 rfl rfl (by decide);have mo1:¬ go=g7:=fun e=>S.at_own 0 1 rfl rfl (by decide) (by rw[e];rfl);have mo2:¬ g7=go:=fun e=>mo1 e.symm;have mr1:¬ go=g4:=fun e=>S.at_own 2 1 rfl rfl (by decide) (by rw[e];rfl);have mr2:¬ g4=go:=fun e=>mr1 e.symm;have ma1:¬ go=g2:=fun e=>S.at_own 3 1 rfl rfl (by decide) (by rw[e];rfl);have ma2:¬ g2=go:=fun e=>ma1 e.symm;have hx0:=HY.out w7 S.below;have hx9:=HY.out _ ((S.put (cs':=#[Value.slice (some ⟨go,0,none⟩) l.length d0,Value.int .i64 0]) 0 (Value.slice (some ⟨go,0,none⟩) l.length d0) rfl).put (cs':=#[Value.slice (some ⟨go,0,none⟩) l.length d0,Value.int .i64 fr]) 1 (Value.int .i64 fr) rfl).below;have l3:¬ ad.add b=⟨g7,0,none⟩:=fun e=>(by have h1:=S.head.1;have h2:=HLT.out;rw[e] at h2;exact absurd h2 (Nat.not_lt.2 h1));have l4:¬ ad.add b=⟨g7,1,none⟩:=fun e=>(by have h1:=S.head.1;have h2:=HLT.out;rw[e] at h2;exact absurd h2 (Nat.not_lt.2 h1));have l5:¬ (⟨g7,0,none⟩:Addr)=ad.add b:=fun e=>l3 e.symm;have l6:¬ (⟨g7,1,none⟩:Addr)=ad.add b:=fun e=>l4 e.symm;have lo1:¬ (ad.add b).block=g7:=fun e=>(by have h1:=S.head.1;have h2:=HLT.out;rw[e] at h2;omega);have lo2:¬ g7=(ad.add b).block:=fun e=>lo1 e.symm;have hz0:w7.cell? ⟨go,b,none⟩=some (.int .i64 x.f0):=hkb ▸ (St.flat_cell F94 (S.front 1 rfl rfl) HX.out (j:=0) rfl).1;have hf0:w7.frozen? ⟨go,b,none⟩=false:=hkb ▸ (St.flat_cell F94 (S.front 1 rfl rfl) HX.out (j:=0) (v:=.int .i64 x.f0) rfl).2;have hz1:w7.cell? ⟨go,b+1,none⟩=some (.bool x.f1):=hkb ▸ (St.flat_cell F94 (S.front 1 rfl rfl) HX.out (j:=1) rfl).1;have hf1:w7.frozen? ⟨go,b+1,none⟩=false:=hkb ▸ (St.flat_cell F94 (S.front 1 rfl rfl) HX.out (j:=1) (v:=.bool x.f1) rfl).2;have hz2:w7.cell? ⟨go,b+2,none⟩=some (.string x.f2):=hkb ▸ (St.flat_cell F94 (S.front 1 rfl rfl) HX.out (j:=2) rfl).1;have hf2:w7.frozen? ⟨go,b+2,none⟩=false:=hkb ▸ (St.flat_cell F94 (S.front 1 rfl rfl) HX.out (j:=2) (v:=.string x.f2) rfl).2;have hz3:w7.cell? ⟨go,b+3,none⟩=some (.string x.f3):=hkb ▸ (St.flat_cell F94 (S.front 1 rfl rfl) HX.out (j:=3) rfl).1;have hf3:w7.frozen? ⟨go,b+3,none⟩=false:=hkb ▸ (St.flat_cell F94 (S.front 1 rfl rfl) HX.out (j:=3) (v:=.string x.f3) rfl).2;have hz4:w7.cell? ⟨go,b+4,none⟩=some (.int .i64 x.f4):=hkb ▸ (St.flat_cell F94 (S.front 1 rfl rfl) HX.out (j:=4) rfl).1;have hf4:w7.frozen? ⟨go,b+4,none⟩=false:=hkb ▸ (St.flat_cell F94 (S.front 1 rfl rfl) HX.out (j:=4) (v:=.int .i64 x.f4) rfl).2;clear S))
  have S:=HS.out;clear HS hx0 hx9 l3 l4 l5 l6 lo1 lo2 ho0 ho1 hr0 hr1 ha0 ha1 fo0 fo1 fr0 fr1 nor noa nro nra nao nar mo1 mo2 mr1 mr2 ma1 ma2 hz0 hf0 hz1 hf1 hz2 hf2 hz3 hf3 hz4 hf4;have S:=S.put2 (Value.slice (some ⟨go,0,none⟩) l.length d0) (Value.int .i64 fr)
  have S:=(S.front 1 rfl rfl).slot5 HX.out ⟨0,false,⟨#[]⟩,⟨#[]⟩,fr⟩
  dsimp only at S
  simp only [hkb] at S;obtain⟨w9,hw9,S⟩:=S.fold;rw[← hw9]
  clear hw9;have S:=S.front 1 rfl rfl
  have HS:=Aside0.mk S
  obtain⟨ho0,ho1⟩:=S.cells2 0 rfl
  obtain⟨fo0,fo1⟩:=S.frozen2 0 rfl
  obtain⟨hr0,hr1⟩:=S.cells2 2 rfl
  obtain⟨fr0,fr1⟩:=S.frozen2 2 rfl
  have n1:=S.at_ne 0 2 rfl rfl (by decide)
  have n2:=S.at_ne 2 0 rfl rfl (by decide)
  clear S;go_wp2_with fail
  have S:=HS.out;have S:=S.put (cs':=#[Value.slice (some ⟨go,0,none⟩) l.length d0,Value.int .i64 (k:Int)]) 1 (Value.int .i64 (k:Int)) rfl
  have S:=S.front 2 rfl rfl
  have S:=S.put2 (Value.slice (some ⟨go,0,none⟩) l.length d0) (Value.int .i64 (k:Int))
  refine bodyPost_ret (results_ct rfl _ _ g4 42 #[Value.slice (some ⟨go,0,none⟩) l.length d0,Value.int .i64 (k:Int)] (0,0) _ rfl S.head.2 Tryz.underlying42 rfl (by kernel_rfl)) rfl ?_
  exact⟨_,rfl,by rw[HG.out];exact Kd.R_mono (S.at_R 2 rfl) (fun _ _=>trivial),S.below⟩
 ·have hgen:genN x=(wrap64 (x.f0+1)):=if_neg c9
  have HG:=Aside0.mk hgen
  have c9b:decide (41666665 < wrap64 (x.f0+1))=false:=decide_eq_false c9
  clear hgen c9;go_upto_region 9 with (first|((with_reducible refine gate_dst (N:=7) rfl ?_);refine boxS HS (N:=7) (cs:=#[.slice none 0 0,.int .i64 0]) (t:=42) fun g7 w7 S=>?_;clear HS;have HS:=Aside0.mk S;obtain⟨ho0,ho1⟩:=S.cells2 0 rfl;obtain⟨fo0,fo1⟩:=S.frozen2 0 rfl;obtain⟨hr0,hr1⟩:=S.cells2 2 rfl;obtain⟨fr0,fr1⟩:=S.frozen2 2 rfl;obtain⟨ha0,ha1⟩:=S.cells2 3 rfl;have nor:=S.at_ne 0 2 rfl rfl (by decide);have noa:=S.at_ne 0 3 rfl rfl (by decide);have nro:=S.at_ne 2 0 rfl rfl (by decide);have nra:=S.at_ne 2 3 rfl rfl (by decide);have nao:=S.at_ne 3 0 rfl rfl (by decide);have nar:=S.at_ne 3 2 rfl rfl (by decide);have mo1:¬ go=g7:=fun e=>S.at_own 0 1 rfl rfl (by decide) (by rw[e];rfl);have mo2:¬ g7=go:=fun e=>mo1 e.symm;have mr1:¬ go=g4:=fun e=>S.at_own 2 1 rfl rfl (by decide) (by rw[e];rfl);have mr2:¬ g4=go:=fun e=>mr1 e.symm;have ma1:¬ go=g2:=fun e=>S.at_own 3 1 rfl rfl (by decide) (by rw[e];rfl);have ma2:¬ g2=go:=fun e=>ma1 e.symm;have hx0:=HY.out w7 S.below;have hx9:=HY.out _ ((S.put (cs':=#[Value.slice (some ⟨go,0,none⟩) l.length d0,Value.int .i64 0]) 0 (Value.slice (some ⟨go,0,none⟩) l.length d0) rfl).put (cs':=#[Value.slice (some ⟨go,0,none⟩) l.length d0,Value.int .i64 fr]) 1 (Value.int .i64 fr) rfl).below;have l3:¬ ad.add b=⟨g7,0,none⟩:=fun e=>(by have h1:=S.head.1;have h2:=HLT.out;rw[e] at h2;exact absurd h2 (Nat.not_lt.2 h1));have l4:¬ ad.add b=⟨g7,1,none⟩:=fun e=>(by have h1:=S.head.1;have h2:=HLT.out;rw[e] at h2;exact absurd h2 (Nat.not_lt.2 h1));have l5:¬ (⟨g7,0,none⟩:Addr)=ad.add b:=fun e=>l3 e.symm;have l6:¬ (⟨g7,1,none⟩:Addr)=ad.add b:=fun e=>l4 e.symm;have lo1:¬ (ad.add b).block=g7:=fun e=>(by have h1:=S.head.1;have h2:=HLT.out;rw[e] at h2;omega);have lo2:¬ g7=(ad.add b).block:=fun e=>lo1 e.symm;have hz0:w7.cell? ⟨go,b,none⟩=some (.int .i64 x.f0):=hkb ▸ (St.flat_cell F94 (S.front 1 rfl rfl) HX.out (j:=0) rfl).1;have hf0:w7.frozen? ⟨go,b,none⟩=false:=hkb ▸ (St.flat_cell F94 (S.front 1 rfl rfl) HX.out (j:=0) (v:=.int .i64 x.f0) rfl).2;have hz1:w7.cell? ⟨go,b+1,none⟩=some (.bool x.f1):=hkb ▸ (St.flat_cell F94 (S.front 1 rfl rfl) HX.out (j:=1) rfl).1;have hf1:w7.frozen? ⟨go,b+1,none⟩=false:=hkb ▸ (St.flat_cell F94 (S.front 1 rfl rfl) HX.out (j:=1) (v:=.bool x.f1) rfl).2;have hz2:w7.cell? ⟨go,b+2,none⟩=some (.string x.f2):=hkb ▸ (St.flat_cell F94 (S.front 1 rfl rfl) HX.out (j:=2) rfl).1;have hf2:w7.frozen? ⟨go,b+2,none⟩=false:=hkb ▸ (St.flat_cell F94 (S.front 1 rfl rfl) HX.out (j:=2) (v:=.string x.f2) rfl).2;have hz3:w7.cell? ⟨go,b+3,none⟩=some (.string x.f3):=hkb ▸ (St.flat_cell F94 (S.front 1 rfl rfl) HX.out (j:=3) rfl).1;have hf3:w7.frozen? ⟨go,b+3,none⟩=false:=hkb ▸ (St.flat_cell F94 (S.front 1 rfl rfl) HX.out (j:=3) (v:=.string x.f3) rfl).2;have hz4:w7.cell? ⟨go,b+4,none⟩=some (.int .i64 x.f4):=hkb ▸ (St.flat_cell F94 (S.front 1 rfl rfl) HX.out (j:=4) rfl).1;have hf4:w7.frozen? ⟨go,b+4,none⟩=false:=hkb ▸ (St.flat_cell F94 (S.front 1 rfl rfl) HX.out (j:=4) (v:=.int .i64 x.f4) rfl).2;clear S))
  have S:=HS.out;clear HS hx0 hx9 l3 l4 l5 l6 lo1 lo2 ho0 ho1 hr0 hr1 ha0 ha1 fo0 fo1 fr0 fr1 nor noa nro nra nao nar mo1 mo2 mr1 mr2 ma1 ma2 hz0 hf0 hz1 hf1 hz2 hf2 hz3 hf3 hz4 hf4;have S:=S.put2 (Value.slice (some ⟨go,0,none⟩) l.length d0) (Value.int .i64 fr)
  have S:=(S.front 1 rfl rfl).slot5 HX.out ⟨(wrap64 (x.f0+1)),false,⟨#[]⟩,⟨#[]⟩,fr⟩
  dsimp only at S
  simp only [hkb] at S;obtain⟨w9,hw9,S⟩:=S.fold;rw[← hw9]
  clear hw9;have S:=S.front 1 rfl rfl
  have HS:=Aside0.mk S
  obtain⟨ho0,ho1⟩:=S.cells2 0 rfl
  obtain⟨fo0,fo1⟩:=S.frozen2 0 rfl
  obtain⟨hr0,hr1⟩:=S.cells2 2 rfl
  obtain⟨fr0,fr1⟩:=S.frozen2 2 rfl
  have n1:=S.at_ne 0 2 rfl rfl (by decide)
  have n2:=S.at_ne 2 0 rfl rfl (by decide)
  clear S;go_wp2_with fail
  have S:=HS.out;have S:=S.put (cs':=#[Value.slice (some ⟨go,0,none⟩) l.length d0,Value.int .i64 (k:Int)]) 1 (Value.int .i64 (k:Int)) rfl
  have S:=S.front 2 rfl rfl
  have S:=S.put2 (Value.slice (some ⟨go,0,none⟩) l.length d0) (Value.int .i64 (k:Int))
  refine bodyPost_ret (results_ct rfl _ _ g4 42 #[Value.slice (some ⟨go,0,none⟩) l.length d0,Value.int .i64 (k:Int)] (0,0) _ rfl S.head.2 Tryz.underlying42 rfl (by kernel_rfl)) rfl ?_
  exact⟨_,rfl,by rw[HG.out];exact Kd.R_mono (S.at_R 2 rfl) (fun _ _=>trivial),S.below⟩
set_option maxHeartbeats 4000000 in
set_option maxRecDepth 100000 in
theorem takeS {A0 A1:Option Addr} {c0 c1:Nat} (l0:List S151) (s0:l0.length≤1048576) (l1:List S151) (a2:Int) (ht:taR l0 l1 a2) (e1:l1 = []) (hs:∀ x ∈ l0,x.f0.size≤4611686018427387904) (key:ByteArray) (hk:key.size ≠ 0) (hk2:key.size≤4611686018427387904) (i:Nat) (hi:TM.seek S151.f0 S151.f1 l0 key (stOf key)=some i)
  (w:World) (hA0:Kd.C k151 w A0 l0.length l0) (hc0:l0.length≤c0) (hA1:Kd.C k151 w A1 l1.length l1) (hc1:l1.length≤c1) :
  Calls Tryz.prog 153 #[.agg #[.slice A0 l0.length c0,.slice A1 l1.length c1,.int .i64 a2],.string key] w fun e w'=>∃ v0 v1:Value,e=.returned (.tuple #[.agg #[v0,v1,.int .i64 a2],.bool true])∧St w w' [Part.row k151 151 v0 (l0.set i ⟨⟨#[]⟩,-2⟩),Part.row k151 151 v1 l1]:=by
 have hu151:=Tryz.underlying151;obtain⟨x,hx,-⟩:=TM.seekF_some S151.f0 S151.f1 hi;have hil:i < l0.length:=(List.getElem?_eq_some_iff.1 hx).1
 obtain⟨b0,⟨K0,hK0⟩,hb0⟩:=tableS_ev l0 l1 a2 s0 (by rw[e1];simp) hs (by rw[e1];simp)
 obtain rfl:b0=true:=(hb0 e1).2 ht
 obtain⟨K1,hK1⟩:=seekS_ev l0 key s0 hk2;have h0:∀ x ∈ l0,x.f0=key→0≤x.f1:=fun y hy e=>by
  obtain⟨j,hj,rfl⟩:=List.getElem_of_mem hy;have:=(ht.cells j _ (List.getElem?_eq_getElem hj)).2 (by rw[e];exact hk)
  omega
 rw[seekSV_eq h0,hi] at hK1;have HK0:=Aside0.mk (hK0 K0 (Nat.le_refl _))
 have HK1:=Aside0.mk (show spec_l04Seek.f K1 l0 key=some (i:Int) from hK1 K1 (Nat.le_refl _))
 have HA0:=Aside0.mk hA0
 have HA1:=Aside0.mk hA1
 have HC0:=Aside0.mk hc0
 have HC1:=Aside0.mk hc1
 have HL:=Aside0.mk s0
 have HL1:=Aside0.mk (show l1.length≤1048576 by rw[e1];simp)
 have HX:=Aside0.mk hx
 have HIL:=Aside0.mk hil
 have HS:=Aside0.mk (St.start w)
 have t1:(key.toList == ([]:List UInt8))=false:=beq_eq_false_iff_ne.mpr (fun e=>hk ((empty_iff _).1 e))
 have t2:(key.toList != ([]:List UInt8))=true:=bne_iff_ne.mpr (fun e=>hk ((empty_iff _).1 e))
 clear hA0 hA1 hc0 hc1 s0 hK0 hK1 hb0 h0 hx hil hi hs e1 ht hk hk2;go_enter Tryz.func153,Tryz.ntmps153
 go_wp2_with (first|((with_reducible refine gate_dst (N:=2) rfl ?_);refine boxS HS (N:=2) (cs:=#[.slice A0 l0.length c0,.slice A1 l1.length c1,.int .i64 a2]) (t:=45) fun g2 w2 S=>?_;clear HS;have HS:=Aside0.mk S;obtain⟨ha0,ha1,ha2⟩:=S.cells3 0 rfl;clear S)|((with_reducible refine gate_dst (N:=4) rfl ?_);refine boxS HS (N:=4) (cs:=#[.slice none 0 0,.slice none 0 0,.int .i64 0]) (t:=45) fun g4 w4 S=>?_;clear HS ha0 ha1 ha2;have HS:=Aside0.mk S;obtain⟨ha0,ha1,ha2⟩:=S.cells3 1 rfl;clear S))
 refine(spec_TableOk.calls K0 A0 c0 l0 A1 c1 l1 a2 true _ (Kd.C_below HA0.out HS.out.below) HC0.out (Kd.C_below HA1.out HS.out.below) HC1.out HK0.out).mono ?_
 rintro e w1 ⟨rfl,hb⟩
 have S:=HS.out.step hb
 clear HS hb ha0 ha1 ha2;have HS:=Aside0.mk S
 obtain⟨ha0,ha1,ha2⟩:=S.cells3 1 rfl
 clear S;go_wp2_with fail
 refine(l04CopyL l0 HL.out l1 HL1.out a2 _ (Kd.C_below HA0.out HS.out.below) (Kd.C_below HA1.out HS.out.below)).mono ?_
 rintro e w2 ⟨v0,v1,rfl,st⟩
 have S:=HS.out.join st
 obtain⟨B0,d0,rfl⟩:=Kd.R_slice (S.at_R 0 rfl)
 obtain⟨B1,d1,rfl⟩:=Kd.R_slice (S.at_R 1 rfl)
 obtain⟨go,co,eo,-,-,-,-⟩:=Kd.R_form (S.at_R 0 rfl) (by have:=HIL.out;omega)
 obtain⟨rfl,-,rfl⟩:=Value.slice.inj eo;clear HS st ha0 ha1 ha2 eo t1 t2;have HS:=Aside0.mk S
 clear S;go_upto_region 4 with (first|((with_reducible refine gate_dst (N:=6) rfl ?_);refine boxS HS (N:=6) (cs:=#[.slice none 0 0,.slice none 0 0,.int .i64 0]) (t:=45) fun g6 w6 S=>?_;clear HS;have HS:=Aside0.mk S;obtain⟨ho0,ho1,ho2⟩:=S.cells3 0 rfl;obtain⟨fo0,fo1,fo2⟩:=S.frozen3 0 rfl;clear S))
 have S:=HS.out;clear HS ho0 fo0 ho1 fo1 ho2 fo2;have S:=S.put3 (Value.slice (some ⟨go,0,none⟩) l0.length d0) (Value.slice B1 l1.length d1) (Value.int .i64 a2)
 obtain⟨w4,hw,S⟩:=S.fold;rw[← hw]
 clear hw;have HS:=Aside0.mk S
 obtain⟨ha0,ha1,ha2⟩:=S.cells3 4 rfl
 clear S;go_wp2_with fail
 refine(spec_l04Seek.calls K1 A0 c0 l0 key (i:Int) _ (Kd.C_below HA0.out HS.out.below) HC0.out HK1.out).mono ?_
 rintro e w5 ⟨rfl,hb⟩
 have S:=HS.out.step hb
 clear HS hb ha0 ha1 ha2;have HS:=Aside0.mk S
 obtain⟨ho0,ho1,ho2⟩:=S.cells3 0 rfl
 obtain⟨bq,hbq⟩:∃ b,i * 2=b:=⟨_,rfl⟩
 have hz0:w5.cell? ⟨go,bq,none⟩=some (.string x.f0):=hbq ▸ ((S.front 1 rfl rfl).flat_cell F151 HX.out (j:=0) rfl).1
 have hf0:w5.frozen? ⟨go,bq,none⟩=false:=hbq ▸ ((S.front 1 rfl rfl).flat_cell F151 HX.out (j:=0) (v:=.string x.f0) rfl).2
 have hz1:w5.cell? ⟨go,bq+1,none⟩=some (.int .i64 x.f1):=hbq ▸ ((S.front 1 rfl rfl).flat_cell F151 HX.out (j:=1) rfl).1
 have hf1:w5.frozen? ⟨go,bq+1,none⟩=false:=hbq ▸ ((S.front 1 rfl rfl).flat_cell F151 HX.out (j:=1) (v:=.int .i64 x.f1) rfl).2
 have p5:(0:Int)≤(i:Int):=by omega
 have q5:(i:Int) < (l0.length:Int):=by have:=HIL.out;omega
 have c1:decide ((0:Int)≤(i:Int))=true:=decide_eq_true p5
 replace p5:=eq_true p5;replace q5:=eq_true q5;clear S;go_upto_region 7 with fail
 have S:=(HS.out.front 1 rfl rfl).cell2 HX.out ⟨⟨#[]⟩,-2⟩
 dsimp only at S
 simp only [hbq] at S;obtain⟨w6,hw,S⟩:=S.fold;rw[← hw]
 clear hw HS hz0 hz1 hf0 hf1 ho0 ho1 ho2;have S:=S.front 1 rfl rfl
 have HS:=Aside0.mk S
 obtain⟨ho0,ho1,ho2⟩:=S.cells3 0 rfl
 obtain⟨hr0,hr1,hr2⟩:=S.cells3 3 rfl
 obtain⟨fr0,fr1,fr2⟩:=S.frozen3 3 rfl
 have n1:=S.at_ne 0 3 rfl rfl (by decide)
 have n2:=S.at_ne 3 0 rfl rfl (by decide)
 clear S;go_wp2_with fail
 have S:=HS.out.front 3 rfl rfl
 have S:=S.put3 (Value.slice (some ⟨go,0,none⟩) l0.length d0) (Value.slice B1 l1.length d1) (Value.int .i64 a2)
 refine bodyPost_ret (results_ct rfl _ _ g4 45 #[Value.slice (some ⟨go,0,none⟩) l0.length d0,Value.slice B1 l1.length d1,Value.int .i64 a2] (0,0) _ rfl S.head.2 Tryz.underlying45 rfl (by kernel_rfl)) rfl ?_
 exact⟨_,_,rfl,(S.tail.tail.front 2 rfl rfl).tail⟩
theorem seekM_lt {cs:List S151} {key:ByteArray}:∀ {d p i:Nat},seekM cs key d p=some i→i < cs.length
 |0,_,_,h=>by cases h
 |d+1,p,i,h=>by
  simp only [seekM] at h;cases hx:cs[p]? with
  |none=>rw[hx] at h;cases h
  |some x =>
   rw[hx] at h;dsimp only at h
   split at h
   ·obtain rfl:=Option.some.inj h
    exact(List.getElem?_eq_some_iff.1 hx).1
   ·split at h
    ·cases h
    ·exact seekM_lt h
theorem seekKeyS_any {n:Nr} (hn:n.small) (key:ByteArray) (hz:key.size≤4611686018427387904) :
  ∃ h b,Ev (fun k=>spec_SeekKey.f k n.ce n.old n.mv key) (h,b)∧(NearR n→(b=true ↔ key.size ≠ 0∧∃ c ∈ n.ce,c.f0=key))∧(NearR n→∀ c ∈ n.ce,c.f0=key→key.size ≠ 0→h=c.f1):=by
 obtain⟨bt,ht,hq⟩:=tableS_ev n.ce n.old n.mv hn.s2 hn.s3 hn.k2 hn.k3;cases bt with
 |false =>
  refine⟨0,false,Ev.bind ht (Ev.congr (f:=fun k=>spec_SeekKey.j0 k key true n.ce n.old n.mv) (fun k=>if_neg (by simp)) (Ev.step (f:=fun _=>some (0,false)) (fun k=>by simp only [spec_SeekKey.j0,if_true]) (Ev.now _))),fun h=>?_,fun h=>?_⟩
  ·have:=(hq (List.eq_nil_of_length_eq_zero h.shape.old)).2 h.parts.table;cases this
  ·have:=(hq (List.eq_nil_of_length_eq_zero h.shape.old)).2 h.parts.table;cases this
 |true =>
  by_cases hk:key.size=0
  ·have hkb:(key.toList == ([]:List UInt8))=true:=beq_iff_eq.2 ((empty_iff _).2 hk)
   exact⟨0,false,Ev.bind ht (Ev.congr (f:=fun k=>spec_SeekKey.j0 k key true n.ce n.old n.mv) (fun k=>by show(if true=true then _ else _)=_;rw[if_pos rfl,hkb]) (Ev.step (f:=fun _=>some (0,false)) (fun k=>by simp only [spec_SeekKey.j0,if_true]) (Ev.now _))),fun _=>⟨fun h=>Bool.noConfusion h,fun h=>absurd hk h.1⟩,fun _ c _ _ h=>absurd hk h⟩
  have hkb:(key.toList == ([]:List UInt8))=false:=beq_eq_false_iff_ne.2 (fun e=>hk ((empty_iff _).1 e))
  have st:∀ {h b},Ev (fun k=>(spec_l04Seek.f k n.ce key).bind fun t776=>(if t776 ≥ 0 then (if 0≤t776 then (if t776 < (n.ce.length:Int) then (some ((rd_T151 n.ce t776).f1,true)) else (none)) else (none)) else ((spec_l04Seek.f k n.old key).bind fun t778=>(if t778 ≥ 0 then (if 0≤t778 then (if t778 < (n.old.length:Int) then (some ((rd_T151 n.old t778).f1,true)) else (none)) else (none)) else (some (0,false)))))) (h,b)→Ev (fun k=>spec_SeekKey.f k n.ce n.old n.mv key) (h,b):=fun e =>
   Ev.bind ht (Ev.congr (f:=fun k=>spec_SeekKey.j0 k key false n.ce n.old n.mv) (fun k=>by show(if true=true then _ else _)=_;rw[if_pos rfl,hkb]) (Ev.step (fun k=>by simp only [spec_SeekKey.j0,Bool.false_eq_true,if_false]) e))
  have h1:=seekS_ev n.ce key hn.s2 hz
  have h2:=seekS_ev n.old key hn.s3 hz
  have hR:NearR n→seekSV n.ce key=TM.seek S151.f0 S151.f1 n.ce key (stOf key):=fun h=>seekSV_eq (fun y hy e=>by
   obtain⟨j,hj,rfl⟩:=List.getElem_of_mem hy;have:=(h.parts.table.cells j _ (List.getElem?_eq_getElem hj)).2 (by rw[e];exact hk)
   omega)
  cases hs:seekSV n.ce key with
  |some i =>
   rw[hs] at h1;have hi:=seekM_lt hs
   refine⟨(rd_T151 n.ce ((i:Nat):Int)).f1,true,st (Ev.bind (show Ev _ ((i:Nat):Int) from h1) (Ev.step (f:=fun _=>some ((rd_T151 n.ce ((i:Nat):Int)).f1,true)) (fun k=>?_) (Ev.now _))),fun h=>⟨fun _=>?_,fun _=>rfl⟩,fun h c hc e _=>?_⟩
   ·show(if ((i:Nat):Int) ≥ 0 then _ else _)=_
    rw[if_pos (by omega),if_pos (by omega),if_pos (by omega)]
   ·rw[hR h] at hs
    obtain⟨x,hx,hxk⟩:=TM.seekF_some S151.f0 S151.f1 hs;exact⟨hk,x,List.mem_of_getElem? hx,hxk⟩
   ·rw[hR h] at hs
    obtain⟨x,hx,hxk⟩:=TM.seekF_some S151.f0 S151.f1 hs;rw[rd_ce n.ce i hi,same_cell h.parts hc (List.getElem_mem hi) (by rw[e];exact hk) (by rw[List.getElem?_eq_getElem hi] at hx;rw[Option.some.inj hx,hxk,e])]
  |none =>
   rw[hs] at h1;have no:NearR n→∀ c ∈ n.ce,c.f0 ≠ key:=fun h=>by rw[hR h] at hs;exact(TM.Found.seek S151.f0 S151.f1 h.parts.table.cells.found hk).1 hs
   cases hs2:seekSV n.old key with
   |some i =>
    rw[hs2] at h2;have hi:=seekM_lt hs2
    refine⟨(rd_T151 n.old ((i:Nat):Int)).f1,true,st (Ev.bind (show Ev _ (-1:Int) from h1) (Ev.congr (f:=fun k=>(spec_l04Seek.f k n.old key).bind fun t778=>(if t778 ≥ 0 then (if 0≤t778 then (if t778 < (n.old.length:Int) then (some ((rd_T151 n.old t778).f1,true)) else (none)) else (none)) else (some (0,false)))) (fun k=>?_) (Ev.bind (show Ev _ ((i:Nat):Int) from h2) (Ev.step (f:=fun _=>some ((rd_T151 n.old ((i:Nat):Int)).f1,true)) (fun k=>?_) (Ev.now _))))),fun h=>?_,fun h c hc e _=>absurd e (no h c hc)⟩
    ·show(if (-1:Int) ≥ 0 then _ else _)=_
     rw[if_neg (by omega)]
    ·show(if ((i:Nat):Int) ≥ 0 then _ else _)=_
     rw[if_pos (by omega),if_pos (by omega),if_pos (by omega)]
    ·rw[List.eq_nil_of_length_eq_zero h.shape.old] at hi;simp at hi
   |none =>
    rw[hs2] at h2;refine⟨0,false,st (Ev.bind (show Ev _ (-1:Int) from h1) (Ev.congr (f:=fun k=>(spec_l04Seek.f k n.old key).bind fun t778=>(if t778 ≥ 0 then (if 0≤t778 then (if t778 < (n.old.length:Int) then (some ((rd_T151 n.old t778).f1,true)) else (none)) else (none)) else (some (0,false)))) (fun k=>?_) (Ev.bind (show Ev _ (-1:Int) from h2) (Ev.step (f:=fun _=>some (0,false)) (fun k=>?_) (Ev.now _))))),fun h=>⟨fun h=>Bool.noConfusion h,fun ⟨_,c,hc,e⟩=>absurd e (no h c hc)⟩,fun h c hc e _=>absurd e (no h c hc)⟩
    ·show(if (-1:Int) ≥ 0 then _ else _)=_
     rw[if_neg (by omega)]
    ·show(if (-1:Int) ≥ 0 then _ else _)=_
     rw[if_neg (by omega)]
set_option maxHeartbeats 4000000 in
set_option maxRecDepth 100000 in
theorem l08LiftL {w0 w:World} {ps:List Part} (g:Nat) (u:NV) (n:Nr) (hn:n.small) (hR:NearR n) (hH:∀ c ∈ n.ce,c.f1≤9223372036854775807) (i k:Nat) (c:S151) (x:S94) (hc:n.ce[i]? = some c) (hk:c.f0.size ≠ 0) (hx:n.sl[k]? = some x) (hu:x.f1=true) (hh:24 * x.f0+(k:Int)=c.f1)
  (h:St w0 w (Part.blk g 50 (u.cells n) :: (u.rows n ++ ps))) :
  Calls Tryz.prog 75 #[.pointer (some ⟨g,0,none⟩),.string c.f0] w fun e w'=>e=.returned (.tuple #[])∧∃ z:NV,St w0 w' (Part.blk g 50 (z.cells (n.remove i k x)) :: (z.rows (n.remove i k x) ++ ps)):=by
 have hmem:=List.mem_of_getElem? hc
 have hP:=hR.parts;have ho:n.old = []:=List.eq_nil_of_length_eq_zero hR.shape.old
 have hs:=((hP.table.cells i _ hc).2 hk).2.2
 have hkb:=hn.k2 c hmem
 obtain⟨fh,fb,⟨K,hK⟩,hfb,hfh⟩:=seekKeyS_any hn c.f0 hkb;obtain rfl:fb=true:=(hfb hR).2 ⟨hk,c,hmem,rfl⟩
 obtain rfl:fh=c.f1:=hfh hR c hmem rfl hk
 have HK:=Aside0.mk (hK K (Nat.le_refl _))
 have HI:=Aside0.mk (And.intro hc (And.intro hk (And.intro hx (And.intro hu hh))))
 have HSK:=Aside0.mk hs
 have HN:=Aside0.mk hn
 have HR:=Aside0.mk hR
 have HO:=Aside0.mk ho
 have HH:=Aside0.mk (hH c hmem)
 have HKB:=Aside0.mk hkb
 obtain⟨A0,c0,A2,c2,A3,c3,A6,c6,A8,c8,A10,c10,A11,c11,rfl⟩:=NV.shape h.tail;have HS:=Aside0.mk (show St w0 w (Part.blk g 50 #[Value.slice A0 n.sl.length c0,Value.int .i64 n.fr,Value.slice A2 n.ce.length c2,Value.slice A3 n.old.length c3,Value.int .i64 n.mv,Value.int .i64 n.wm,Value.slice A6 n.wk.length c6,Value.int .i64 n.tm,Value.slice A8 n.tk.length c8,Value.int .i64 n.sm,Value.slice A10 n.sk.length c10,Value.slice A11 n.ct.length c11,Value.int .i64 n.ad,Value.int .i64 n.db] :: Part.row k94 94 (Value.slice A0 n.sl.length c0) n.sl :: Part.row k151 151 (Value.slice A2 n.ce.length c2) n.ce :: Part.row k151 151 (Value.slice A3 n.old.length c3) n.old :: Part.row Kd.string 9 (Value.slice A6 n.wk.length c6) n.wk :: Part.row Kd.string 9 (Value.slice A8 n.tk.length c8) n.tk :: Part.row Kd.string 9 (Value.slice A10 n.sk.length c10) n.sk :: Part.row (Kd.int .i64) 3 (Value.slice A11 n.ct.length c11) n.ct :: ps) from h)
 clear hK hfb hfh hs hc hk hx hu hh hn hR hP ho h hmem hkb hH;obtain⟨fh,hfh⟩:∃ q,q=c.f1:=⟨_,rfl⟩
 rw[← hfh] at HK HI HH
 clear hfh;obtain⟨hc0,hc1,hc2,hc3,hc4⟩:=HS.out.cells5 0 rfl
 go_enter Tryz.func75,Tryz.ntmps75
 go_wp2_with fail
 refine(spec_SeekKey.calls K A2 c2 n.ce A3 c3 n.old n.mv c.f0 fh true _ (HS.out.at_C 2 rfl).2.2 (HS.out.at_C 2 rfl).2.1 (HS.out.at_C 3 rfl).2.2 (HS.out.at_C 3 rfl).2.1 HK.out).mono ?_
 rintro e w1 ⟨rfl,hb⟩
 have S:=HS.out.step hb
 clear HS hb hc0 hc1 hc2 hc3 hc4;have HS:=Aside0.mk S
 obtain⟨hc0,hc1,hc2,hc3,hc4⟩:=S.cells5 0 rfl
 clear S;go_wp2_with fail
 refine(liftS n.sl HN.out.s0 n.fr fh HR.out.parts.arena HH.out k x HI.out.2.2.1 HI.out.2.2.2.1 HI.out.2.2.2.2 _ (HS.out.at_C 1 rfl).2.2 (HS.out.at_C 1 rfl).2.1).mono ?_
 rintro e w2 ⟨q0,rfl,hr,hb⟩
 obtain⟨sl1,hsl⟩:∃ q,q=n.sl.set k ⟨genN x,false,⟨#[]⟩,⟨#[]⟩,n.fr⟩:=⟨_,rfl⟩
 rw[← hsl] at hr;have HSL:=Aside0.mk hsl
 clear hsl;have S:=HS.out.new_row rfl hb hr
 obtain⟨B0,d0,rfl⟩:=Kd.R_slice hr;clear HS hb hr hc0 hc1 hc2 hc3 hc4;have HS:=Aside0.mk S
 clear S;go_upto_region 2 with (first|((with_reducible refine gate_dst (N:=6) rfl ?_);refine boxS HS (N:=6) (cs:=#[.slice none 0 0,.int .i64 0]) (t:=42) fun g6 w6 S=>?_;clear HS;have HS:=Aside0.mk S;obtain⟨ho0,ho1⟩:=S.cells2 0 rfl;obtain⟨fo0,fo1⟩:=S.frozen2 0 rfl;clear S))
 have S:=HS.out;clear HS ho0 fo0 ho1 fo1;have S:=S.put2 (Value.slice B0 sl1.length d0) (Value.int .i64 (k:Int))
 obtain⟨w4,hw,S⟩:=S.fold;rw[← hw]
 clear hw;have HS:=Aside0.mk S
 obtain⟨hc0,hc1,hc2,hc3,hc4⟩:=S.cells5 2 rfl
 clear S;go_wp2_with fail
 refine(takeS n.ce HN.out.s2 n.old n.mv HR.out.parts.table HO.out HN.out.k2 c.f0 HI.out.2.1 HKB.out i HSK.out _ (HS.out.at_C 4 rfl).2.2 (HS.out.at_C 4 rfl).2.1 (HS.out.at_C 5 rfl).2.2 (HS.out.at_C 5 rfl).2.1).mono ?_
 rintro e w5 ⟨q2,q3,rfl,st⟩
 obtain⟨ce1,hce⟩:∃ q,q=n.ce.set i ⟨⟨#[]⟩,-2⟩:=⟨_,rfl⟩
 rw[← hce] at st;have HCE:=Aside0.mk hce
 clear hce;have S:=HS.out.join st
 obtain⟨B2,d2,rfl⟩:=Kd.R_slice (S.at_R 0 rfl)
 obtain⟨B3,d3,rfl⟩:=Kd.R_slice (S.at_R 1 rfl)
 clear HS st hc0 hc1 hc2 hc3 hc4;have HS:=Aside0.mk S
 clear S;go_upto_region 3 with (first|((with_reducible refine gate_dst (N:=8) rfl ?_);refine boxS HS (N:=8) (cs:=#[.slice none 0 0,.slice none 0 0,.int .i64 0]) (t:=45) fun g8 w8 S=>?_;clear HS;have HS:=Aside0.mk S;obtain⟨hp0,hp1,hp2⟩:=S.cells3 0 rfl;obtain⟨fp0,fp1,fp2⟩:=S.frozen3 0 rfl;clear S))
 have S:=HS.out;clear HS hp0 fp0 hp1 fp1 hp2 fp2;have S:=S.put3 (Value.slice B2 ce1.length d2) (Value.slice B3 n.old.length d3) (Value.int .i64 n.mv)
 obtain⟨w6,hw,S⟩:=S.fold;rw[← hw]
 clear hw;have HS:=Aside0.mk S
 obtain⟨hp0,hp1,hp2⟩:=S.cells3 0 rfl
 obtain⟨ho0,ho1⟩:=S.cells2 3 rfl
 obtain⟨hc0,hc1,hc2,hc3,hc4⟩:=S.cells5 5 rfl
 obtain⟨fc0,fc1,fc2,fc3,fc4⟩:=S.frozen5 5 rfl
 have n1:=S.at_ne 0 5 rfl rfl (by decide)
 have n2:=S.at_ne 5 0 rfl rfl (by decide)
 have n3:=S.at_ne 3 5 rfl rfl (by decide)
 have n4:=S.at_ne 5 3 rfl rfl (by decide)
 clear S;go_wp2_with fail
 go_end0
 have S:=HS.out.front 5 rfl rfl
 have S:=S.put (cs':=#[Value.slice B0 sl1.length d0,Value.int .i64 n.fr,Value.slice A2 n.ce.length c2,Value.slice A3 n.old.length c3,Value.int .i64 n.mv,Value.int .i64 n.wm,Value.slice A6 n.wk.length c6,Value.int .i64 n.tm,Value.slice A8 n.tk.length c8,Value.int .i64 n.sm,Value.slice A10 n.sk.length c10,Value.slice A11 n.ct.length c11,Value.int .i64 n.ad,Value.int .i64 n.db]) 0 (Value.slice B0 sl1.length d0) rfl
 have S:=S.put (cs':=#[Value.slice B0 sl1.length d0,Value.int .i64 (k:Int),Value.slice A2 n.ce.length c2,Value.slice A3 n.old.length c3,Value.int .i64 n.mv,Value.int .i64 n.wm,Value.slice A6 n.wk.length c6,Value.int .i64 n.tm,Value.slice A8 n.tk.length c8,Value.int .i64 n.sm,Value.slice A10 n.sk.length c10,Value.slice A11 n.ct.length c11,Value.int .i64 n.ad,Value.int .i64 n.db]) 1 (Value.int .i64 (k:Int)) rfl
 have S:=S.put (cs':=#[Value.slice B0 sl1.length d0,Value.int .i64 (k:Int),Value.slice B2 ce1.length d2,Value.slice A3 n.old.length c3,Value.int .i64 n.mv,Value.int .i64 n.wm,Value.slice A6 n.wk.length c6,Value.int .i64 n.tm,Value.slice A8 n.tk.length c8,Value.int .i64 n.sm,Value.slice A10 n.sk.length c10,Value.slice A11 n.ct.length c11,Value.int .i64 n.ad,Value.int .i64 n.db]) 2 (Value.slice B2 ce1.length d2) rfl
 have S:=S.put (cs':=#[Value.slice B0 sl1.length d0,Value.int .i64 (k:Int),Value.slice B2 ce1.length d2,Value.slice B3 n.old.length d3,Value.int .i64 n.mv,Value.int .i64 n.wm,Value.slice A6 n.wk.length c6,Value.int .i64 n.tm,Value.slice A8 n.tk.length c8,Value.int .i64 n.sm,Value.slice A10 n.sk.length c10,Value.slice A11 n.ct.length c11,Value.int .i64 n.ad,Value.int .i64 n.db]) 3 (Value.slice B3 n.old.length d3) rfl
 have S:=S.put (cs':=#[Value.slice B0 sl1.length d0,Value.int .i64 (k:Int),Value.slice B2 ce1.length d2,Value.slice B3 n.old.length d3,Value.int .i64 n.mv,Value.int .i64 n.wm,Value.slice A6 n.wk.length c6,Value.int .i64 n.tm,Value.slice A8 n.tk.length c8,Value.int .i64 n.sm,Value.slice A10 n.sk.length c10,Value.slice A11 n.ct.length c11,Value.int .i64 n.ad,Value.int .i64 n.db]) 4 (Value.int .i64 n.mv) rfl
 have S:=(S.front 1 rfl rfl).tail
 have S:=(S.front 3 rfl rfl).tail
 have S:=(S.front 4 rfl rfl).tail
 have S:=(S.front 4 rfl rfl).tail
 have S:=(S.front 4 rfl rfl).tail
 have S:=S.front 2 rfl rfl
 have S:=S.front 2 rfl rfl
 have S:=S.front 3 rfl rfl
 have S:=S.front 3 rfl rfl
 have e:n.remove i k x = { n with sl:=sl1,fr:=(k:Int),ce:=ce1 }:=by rw[HSL.out,HCE.out];rfl
 rw[e]
 exact⟨rfl,⟨.slice B0 sl1.length d0,.slice B2 ce1.length d2,.slice B3 n.old.length d3,.slice A6 n.wk.length c6,.slice A8 n.tk.length c8,.slice A10 n.sk.length c10,.slice A11 n.ct.length c11⟩,S⟩
theorem dropK_filter (key:ByteArray):∀ (l:List ByteArray),l.Nodup→dropK key l=l.filter (fun s=>decide (s ≠ key))
 |[],_=>rfl
 |a :: l,h=>by
  obtain⟨h1,h2⟩:=List.nodup_cons.1 h;unfold dropK
  by_cases c:a=key
  ·rw[if_pos c,List.filter_cons_of_neg (by simp[c])]
   refine(List.filter_eq_self.2 (fun b hb=>?_)).symm
   exact decide_eq_true (fun e=>h1 (by rw[c,← e];exact hb))
  ·rw[if_neg c,List.filter_cons_of_pos (by simp[c]),dropK_filter key l h2]
def Nr.forget (n:Nr) (i k:Nat) (x:S94) (key:ByteArray):Nr:={ n.remove i k x with wk:=n.wk.filter (fun s=>decide (s ≠ key)),tk:=n.tk.filter (fun s=>decide (s ≠ key)),sk:=n.sk.filter (fun s=>decide (s ≠ key)) }
set_option maxHeartbeats 4000000 in
set_option maxRecDepth 100000 in
theorem forgetS_no (w:World) (v:NV) (n:Nr) (hn:n.small) (hH:∀ c ∈ n.ce,c.f1≤9223372036854775807) (hC:NearC w v n) (key:ByteArray) (hkz:key.size≤4611686018427387904) (hno:¬ (NearR n∧key.size ≠ 0∧∃ c ∈ n.ce,c.f0=key)):Calls Tryz.prog 24 #[.agg (v.cells n),.string key] w fun e w'=>e=.returned (.tuple #[.agg #[Value.slice none 0 0,Value.int .i64 0,Value.slice none 0 0,Value.slice none 0 0,Value.int .i64 0,Value.int .i64 0,Value.slice none 0 0,Value.int .i64 0,Value.slice none 0 0,Value.int .i64 0,Value.slice none 0 0,Value.slice none 0 0,Value.int .i64 0,Value.int .i64 0],.bool false])∧Below w.heap.size w w':=by
 have hO:=fun w1 hb=>nearOkS w1 v n hn hH (hC.below (w':=w1) hb)
 have hN:=fun w1 hb=>l08CopyL w1 v n hn.short (hC.below (w':=w1) hb)
 obtain⟨fh,fb,⟨KF,hKF⟩,hfb,-⟩:=seekKeyS_any hn key hkz;obtain⟨A0,c0,A2,c2,A3,c3,A6,c6,A8,c8,A10,c10,A11,c11,rfl,hF⟩:=hC.open_;have HFK:=Aside0.mk (hKF KF (Nat.le_refl _))
 have HFB:=Aside0.mk hfb
 have HN:=Aside0.mk hn
 have HNO:=Aside0.mk hno
 clear hno;have HH:=Aside0.mk hH
 have HF:=Aside0.mk hF
 have HKZ:=Aside0.mk hkz
 have HS:=Aside0.mk (St.start w)
 clear hC hF hn hH hkz hKF hfb;dsimp only [NV.cells] at *
 have HO:=Aside0.mk hO
 have HCN:=Aside0.mk hN
 clear hO hN;go_enter Tryz.func24,Tryz.ntmps24
 go_wp2_with (first|((with_reducible refine gate_dst (N:=2) rfl ?_);refine boxS HS (N:=2) (cs:=#[.slice A0 n.sl.length c0,.int .i64 n.fr,.slice A2 n.ce.length c2,.slice A3 n.old.length c3,.int .i64 n.mv,.int .i64 n.wm,.slice A6 n.wk.length c6,.int .i64 n.tm,.slice A8 n.tk.length c8,.int .i64 n.sm,.slice A10 n.sk.length c10,.slice A11 n.ct.length c11,.int .i64 n.ad,.int .i64 n.db]) (t:=50) fun g2 w2 S=>?_;clear HS;have HS:=Aside0.mk S;obtain⟨ha0,ha1,ha2,ha3,ha4,ha5,ha6,ha7,ha8,ha9,ha10,ha11,ha12,ha13⟩:=S.cells14 0 rfl;clear S)|((with_reducible refine gate_dst (N:=4) rfl ?_);refine boxS HS (N:=4) (cs:=#[.slice none 0 0,.int .i64 0,.slice none 0 0,.slice none 0 0,.int .i64 0,.int .i64 0,.slice none 0 0,.int .i64 0,.slice none 0 0,.int .i64 0,.slice none 0 0,.slice none 0 0,.int .i64 0,.int .i64 0]) (t:=50) fun g4 w4 S=>?_;clear HS ha0 ha1 ha2 ha3 ha4 ha5 ha6 ha7 ha8 ha9 ha10 ha11 ha12 ha13;have HS:=Aside0.mk S;obtain⟨ha0,ha1,ha2,ha3,ha4,ha5,ha6,ha7,ha8,ha9,ha10,ha11,ha12,ha13⟩:=S.cells14 1 rfl;clear S))
 have hbb:=HS.out.below;refine(spec_SeekKey.calls KF A2 c2 n.ce A3 c3 n.old n.mv key fh fb _ (HF.out.below hbb).h2 HF.out.l2 (HF.out.below hbb).h3 HF.out.l3 HFK.out).mono ?_
 clear hbb;rintro e w1 ⟨rfl,hb⟩
 have S:=HS.out.step hb
 clear HS hb ha0 ha1 ha2 ha3 ha4 ha5 ha6 ha7 ha8 ha9 ha10 ha11 ha12 ha13;have HS:=Aside0.mk S
 obtain⟨ha0,ha1,ha2,ha3,ha4,ha5,ha6,ha7,ha8,ha9,ha10,ha11,ha12,ha13⟩:=S.cells14 1 rfl
 clear S;go_wp2_with fail
 refine(HO.out _ HS.out.below).mono ?_
 rintro e w2 ⟨b,rfl,hq,hb⟩
 have S:=HS.out.step hb
 clear HS hb HO ha0 ha1 ha2 ha3 ha4 ha5 ha6 ha7 ha8 ha9 ha10 ha11 ha12 ha13;have HQ:=Aside0.mk hq
 clear hq;have HS:=Aside0.mk S
 clear S;cases b with
 |false =>
  obtain⟨hr0,hr1,hr2,hr3,hr4,hr5,hr6,hr7,hr8,hr9,hr10,hr11,hr12,hr13⟩:=HS.out.cells14 0 rfl
  obtain⟨fr0,fr1,fr2,fr3,fr4,fr5,fr6,fr7,fr8,fr9,fr10,fr11,fr12,fr13⟩:=HS.out.frozen14 0 rfl
  go_wp2_with fail
  have S:=HS.out.front 0 rfl rfl
  have S:=S.put14 (Value.slice none 0 0) (Value.int .i64 0) (Value.slice none 0 0) (Value.slice none 0 0) (Value.int .i64 0) (Value.int .i64 0) (Value.slice none 0 0) (Value.int .i64 0) (Value.slice none 0 0) (Value.int .i64 0) (Value.slice none 0 0) (Value.slice none 0 0) (Value.int .i64 0) (Value.int .i64 0)
  refine bodyPost_ret (results_ct rfl _ _ g4 50 #[Value.slice none 0 0,Value.int .i64 0,Value.slice none 0 0,Value.slice none 0 0,Value.int .i64 0,Value.int .i64 0,Value.slice none 0 0,Value.int .i64 0,Value.slice none 0 0,Value.int .i64 0,Value.slice none 0 0,Value.slice none 0 0,Value.int .i64 0,Value.int .i64 0] (0,0) _ rfl S.head.2 Tryz.underlying50 rfl (by kernel_rfl)) rfl ?_
  exact⟨rfl,S.below⟩
 |true =>
 obtain rfl:fb=false:=by cases fb with|false=>rfl|true=>exact absurd ⟨HQ.out.1 rfl,(HFB.out (HQ.out.1 rfl)).1 rfl⟩ HNO.out
 obtain⟨hr0,hr1,hr2,hr3,hr4,hr5,hr6,hr7,hr8,hr9,hr10,hr11,hr12,hr13⟩:=HS.out.cells14 0 rfl
 obtain⟨fr0,fr1,fr2,fr3,fr4,fr5,fr6,fr7,fr8,fr9,fr10,fr11,fr12,fr13⟩:=HS.out.frozen14 0 rfl
 go_wp2_with fail
 have S:=HS.out.front 0 rfl rfl
 have S:=S.put14 (Value.slice none 0 0) (Value.int .i64 0) (Value.slice none 0 0) (Value.slice none 0 0) (Value.int .i64 0) (Value.int .i64 0) (Value.slice none 0 0) (Value.int .i64 0) (Value.slice none 0 0) (Value.int .i64 0) (Value.slice none 0 0) (Value.slice none 0 0) (Value.int .i64 0) (Value.int .i64 0)
 refine bodyPost_ret (results_ct rfl _ _ g4 50 #[Value.slice none 0 0,Value.int .i64 0,Value.slice none 0 0,Value.slice none 0 0,Value.int .i64 0,Value.int .i64 0,Value.slice none 0 0,Value.int .i64 0,Value.slice none 0 0,Value.int .i64 0,Value.slice none 0 0,Value.slice none 0 0,Value.int .i64 0,Value.int .i64 0] (0,0) _ rfl S.head.2 Tryz.underlying50 rfl (by kernel_rfl)) rfl ?_
 exact⟨rfl,S.below⟩
set_option maxHeartbeats 4000000 in
set_option maxRecDepth 100000 in
theorem forgetS_yes (w:World) (v:NV) (n:Nr) (hn:n.small) (hH:∀ c ∈ n.ce,c.f1≤9223372036854775807) (hC:NearC w v n) (key:ByteArray) (hkz:key.size≤4611686018427387904) (hR:NearR n) (i k:Nat) (c:S151) (x:S94) (hc:n.ce[i]? = some c) (he:c.f0=key) (hk:key.size ≠ 0) (hx:n.sl[k]? = some x) (hu:x.f1=true) (hh:24 * x.f0+(k:Int)=c.f1):Calls Tryz.prog 24 #[.agg (v.cells n),.string key] w fun e w'=>∃ u:NV,e=.returned (.tuple #[.agg (u.cells (n.forget i k x key)),.bool true])∧St w w' (u.rows (n.forget i k x key)):=by
 subst he;have hO:=fun w1 hb=>nearOkS w1 v n hn hH (hC.below (w':=w1) hb)
 have hN:=fun w1 hb=>l08CopyL w1 v n hn.short (hC.below (w':=w1) hb)
 obtain⟨fh,fb,⟨KF,hKF⟩,hfb,-⟩:=seekKeyS_any hn c.f0 hkz;obtain⟨A0,c0,A2,c2,A3,c3,A6,c6,A8,c8,A10,c10,A11,c11,rfl,hF⟩:=hC.open_;have HFK:=Aside0.mk (hKF KF (Nat.le_refl _))
 have HFB:=Aside0.mk hfb
 have HN:=Aside0.mk hn
 have HR:=Aside0.mk hR
 have HI:=Aside0.mk (And.intro hc (And.intro hk (And.intro hx (And.intro hu hh))))
 clear hR hc hk hx hu hh;have HH:=Aside0.mk hH
 have HF:=Aside0.mk hF
 have HKZ:=Aside0.mk hkz
 have HS:=Aside0.mk (St.start w)
 clear hC hF hn hH hkz hKF hfb;dsimp only [NV.cells] at *
 have HO:=Aside0.mk hO
 have HCN:=Aside0.mk hN
 clear hO hN;obtain rfl:fb=true:=(HFB.out HR.out).2 ⟨HI.out.2.1,c,List.mem_of_getElem? HI.out.1,rfl⟩
 go_enter Tryz.func24,Tryz.ntmps24
 go_wp2_with (first|((with_reducible refine gate_dst (N:=2) rfl ?_);refine boxS HS (N:=2) (cs:=#[.slice A0 n.sl.length c0,.int .i64 n.fr,.slice A2 n.ce.length c2,.slice A3 n.old.length c3,.int .i64 n.mv,.int .i64 n.wm,.slice A6 n.wk.length c6,.int .i64 n.tm,.slice A8 n.tk.length c8,.int .i64 n.sm,.slice A10 n.sk.length c10,.slice A11 n.ct.length c11,.int .i64 n.ad,.int .i64 n.db]) (t:=50) fun g2 w2 S=>?_;clear HS;have HS:=Aside0.mk S;obtain⟨ha0,ha1,ha2,ha3,ha4,ha5,ha6,ha7,ha8,ha9,ha10,ha11,ha12,ha13⟩:=S.cells14 0 rfl;clear S)|((with_reducible refine gate_dst (N:=4) rfl ?_);refine boxS HS (N:=4) (cs:=#[.slice none 0 0,.int .i64 0,.slice none 0 0,.slice none 0 0,.int .i64 0,.int .i64 0,.slice none 0 0,.int .i64 0,.slice none 0 0,.int .i64 0,.slice none 0 0,.slice none 0 0,.int .i64 0,.int .i64 0]) (t:=50) fun g4 w4 S=>?_;clear HS ha0 ha1 ha2 ha3 ha4 ha5 ha6 ha7 ha8 ha9 ha10 ha11 ha12 ha13;have HS:=Aside0.mk S;obtain⟨ha0,ha1,ha2,ha3,ha4,ha5,ha6,ha7,ha8,ha9,ha10,ha11,ha12,ha13⟩:=S.cells14 1 rfl;clear S))
 have hbb:=HS.out.below;refine(spec_SeekKey.calls KF A2 c2 n.ce A3 c3 n.old n.mv c.f0 fh true _ (HF.out.below hbb).h2 HF.out.l2 (HF.out.below hbb).h3 HF.out.l3 HFK.out).mono ?_
 clear hbb;rintro e w1 ⟨rfl,hb⟩
 have S:=HS.out.step hb
 clear HS hb ha0 ha1 ha2 ha3 ha4 ha5 ha6 ha7 ha8 ha9 ha10 ha11 ha12 ha13;have HS:=Aside0.mk S
 obtain⟨ha0,ha1,ha2,ha3,ha4,ha5,ha6,ha7,ha8,ha9,ha10,ha11,ha12,ha13⟩:=S.cells14 1 rfl
 clear S;go_wp2_with fail
 refine(HO.out _ HS.out.below).mono ?_
 rintro e w2 ⟨b,rfl,hq,hb⟩
 have S:=HS.out.step hb
 clear HS hb HO ha0 ha1 ha2 ha3 ha4 ha5 ha6 ha7 ha8 ha9 ha10 ha11 ha12 ha13;have HQ:=Aside0.mk hq
 clear hq;have HS:=Aside0.mk S
 obtain rfl:b=true:=HQ.out.2 HR.out
 obtain⟨ha0,ha1,ha2,ha3,ha4,ha5,ha6,ha7,ha8,ha9,ha10,ha11,ha12,ha13⟩:=S.cells14 1 rfl
 clear S;go_wp2_with fail
 refine(HCN.out _ HS.out.below).mono ?_
 rintro e w3 ⟨u,rfl,st⟩
 have S:=HS.out.join st
 clear HS st HCN ha0 ha1 ha2 ha3 ha4 ha5 ha6 ha7 ha8 ha9 ha10 ha11 ha12 ha13;obtain⟨B0,d0,B2,d2,B3,d3,B6,d6,B8,d8,B10,d10,B11,d11,rfl⟩:=NV.shape S;dsimp only [NV.cells]
 have HS:=Aside0.mk S
 clear S;go_upto_region 5 with (first|((with_reducible refine gate_dst (N:=8) rfl ?_);refine boxS HS (N:=8) (cs:=#[.slice none 0 0,.int .i64 0,.slice none 0 0,.slice none 0 0,.int .i64 0,.int .i64 0,.slice none 0 0,.int .i64 0,.slice none 0 0,.int .i64 0,.slice none 0 0,.slice none 0 0,.int .i64 0,.int .i64 0]) (t:=50) fun g8 w8 S=>?_;clear HS;have HS:=Aside0.mk S;obtain⟨ho0,ho1,ho2,ho3,ho4,ho5,ho6,ho7,ho8,ho9,ho10,ho11,ho12,ho13⟩:=S.cells14 0 rfl;obtain⟨fo0,fo1,fo2,fo3,fo4,fo5,fo6,fo7,fo8,fo9,fo10,fo11,fo12,fo13⟩:=S.frozen14 0 rfl;clear S))
 have S:=HS.out;clear HS ho0 fo0 ho1 fo1 ho2 fo2 ho3 fo3 ho4 fo4 ho5 fo5 ho6 fo6 ho7 fo7 ho8 fo8 ho9 fo9 ho10 fo10 ho11 fo11 ho12 fo12 ho13 fo13;have S:=S.put14 (Value.slice B0 n.sl.length d0) (Value.int .i64 n.fr) (Value.slice B2 n.ce.length d2) (Value.slice B3 n.old.length d3) (Value.int .i64 n.mv) (Value.int .i64 n.wm) (Value.slice B6 n.wk.length d6) (Value.int .i64 n.tm) (Value.slice B8 n.tk.length d8) (Value.int .i64 n.sm) (Value.slice B10 n.sk.length d10) (Value.slice B11 n.ct.length d11) (Value.int .i64 n.ad) (Value.int .i64 n.db)
 obtain⟨w4,hw,S⟩:=S.fold;rw[← hw]
 clear hw;go_wp2_with fail
 refine(l08LiftL g8 (⟨.slice B0 n.sl.length d0,.slice B2 n.ce.length d2,.slice B3 n.old.length d3,.slice B6 n.wk.length d6,.slice B8 n.tk.length d8,.slice B10 n.sk.length d10,.slice B11 n.ct.length d11⟩:NV) n HN.out HR.out HH.out i k c x HI.out.1 HI.out.2.1 HI.out.2.2.1 HI.out.2.2.2.1 HI.out.2.2.2.2 S).mono ?_
 clear S;rintro e w5 ⟨rfl,z,S⟩
 obtain⟨N,hN⟩:∃ N,N=n.remove i k x:=⟨_,rfl⟩
 rw[← hN] at S;have HNN:=Aside0.mk hN
 have HL:=Aside0.mk (show N.sl.length≤1048576∧N.ce.length≤1048576∧N.old.length≤1048576∧N.wk.length≤1048576∧N.tk.length≤1048576∧N.sk.length≤1048576∧N.ct.length≤1048576 by rw[hN];exact⟨by simpa [Nr.remove] using HN.out.s0,by simpa [Nr.remove] using HN.out.s2,HN.out.s3,HN.out.s6,HN.out.s8,HN.out.s10,HN.out.s11⟩)
 clear hN;obtain⟨E0,e0,E2,e2,E3,e3,E6,e6,E8,e8,E10,e10,E11,e11,rfl⟩:=NV.shape S.tail;have HS:=Aside0.mk S
 have ho6:w5.cell? ⟨g8,6,none⟩=some (Value.slice E6 N.wk.length e6):=S.at_cell 0 rfl 6 rfl
 clear S;go_wp2_with fail
 refine(withoutL N.wk HL.out.2.2.2.1 c.f0 _ (HS.out.at_C 4 rfl).2.2).mono ?_
 rintro e x6 ⟨q6,rfl,hr,hb⟩
 obtain⟨l6,hl⟩:∃ q,q=N.wk.filter (fun s=>decide (s ≠ c.f0)):=⟨_,rfl⟩
 rw[← hl] at hr;have HL6:=Aside0.mk hl
 have HLE6:=Aside0.mk (show l6.length≤1048576 by rw[hl];exact Nat.le_trans (List.length_filter_le _ _) HL.out.2.2.2.1)
 clear hl;have S:=HS.out.new_row rfl hb hr
 obtain⟨Q6,p6,rfl⟩:=Kd.R_slice hr;clear HS hb hr ho6;have HS:=Aside0.mk S
 have ho6:x6.cell? ⟨g8,6,none⟩=some (Value.slice E6 N.wk.length e6):=S.at_cell 1 rfl 6 rfl
 have fo6:=S.at_frozen 1 rfl 6
 clear S;go_upto_region 7 with fail
 have S:=HS.out.front 1 rfl rfl
 clear HS ho6 fo6;have S:=S.put (cs':=#[Value.slice E0 N.sl.length e0,Value.int .i64 N.fr,Value.slice E2 N.ce.length e2,Value.slice E3 N.old.length e3,Value.int .i64 N.mv,Value.int .i64 N.wm,Value.slice Q6 l6.length p6,Value.int .i64 N.tm,Value.slice E8 N.tk.length e8,Value.int .i64 N.sm,Value.slice E10 N.sk.length e10,Value.slice E11 N.ct.length e11,Value.int .i64 N.ad,Value.int .i64 N.db]) 6 (Value.slice Q6 l6.length p6) rfl
 obtain⟨y6,hw,S⟩:=S.fold;rw[← hw]
 clear hw;have HS:=Aside0.mk S
 have ho8:y6.cell? ⟨g8,8,none⟩=some (Value.slice E8 N.tk.length e8):=S.at_cell 0 rfl 8 rfl
 clear S;go_wp2_with fail
 refine(withoutL N.tk HL.out.2.2.2.2.1 c.f0 _ (HS.out.at_C 6 rfl).2.2).mono ?_
 rintro e x8 ⟨q8,rfl,hr,hb⟩
 obtain⟨l8,hl⟩:∃ q,q=N.tk.filter (fun s=>decide (s ≠ c.f0)):=⟨_,rfl⟩
 rw[← hl] at hr;have HL8:=Aside0.mk hl
 have HLE8:=Aside0.mk (show l8.length≤1048576 by rw[hl];exact Nat.le_trans (List.length_filter_le _ _) HL.out.2.2.2.2.1)
 clear hl;have S:=HS.out.new_row rfl hb hr
 obtain⟨Q8,p8,rfl⟩:=Kd.R_slice hr;clear HS hb hr ho8;have HS:=Aside0.mk S
 have ho8:x8.cell? ⟨g8,8,none⟩=some (Value.slice E8 N.tk.length e8):=S.at_cell 1 rfl 8 rfl
 have fo8:=S.at_frozen 1 rfl 8
 clear S;go_upto_region 8 with fail
 have S:=HS.out.front 1 rfl rfl
 clear HS ho8 fo8;have S:=S.put (cs':=#[Value.slice E0 N.sl.length e0,Value.int .i64 N.fr,Value.slice E2 N.ce.length e2,Value.slice E3 N.old.length e3,Value.int .i64 N.mv,Value.int .i64 N.wm,Value.slice Q6 l6.length p6,Value.int .i64 N.tm,Value.slice Q8 l8.length p8,Value.int .i64 N.sm,Value.slice E10 N.sk.length e10,Value.slice E11 N.ct.length e11,Value.int .i64 N.ad,Value.int .i64 N.db]) 8 (Value.slice Q8 l8.length p8) rfl
 obtain⟨y8,hw,S⟩:=S.fold;rw[← hw]
 clear hw;have HS:=Aside0.mk S
 have ho10:y8.cell? ⟨g8,10,none⟩=some (Value.slice E10 N.sk.length e10):=S.at_cell 0 rfl 10 rfl
 clear S;go_wp2_with fail
 refine(withoutL N.sk HL.out.2.2.2.2.2.1 c.f0 _ (HS.out.at_C 8 rfl).2.2).mono ?_
 rintro e x10 ⟨q10,rfl,hr,hb⟩
 obtain⟨l10,hl⟩:∃ q,q=N.sk.filter (fun s=>decide (s ≠ c.f0)):=⟨_,rfl⟩
 rw[← hl] at hr;have HL10:=Aside0.mk hl
 have HLE10:=Aside0.mk (show l10.length≤1048576 by rw[hl];exact Nat.le_trans (List.length_filter_le _ _) HL.out.2.2.2.2.2.1)
 clear hl;have S:=HS.out.new_row rfl hb hr
 obtain⟨Q10,p10,rfl⟩:=Kd.R_slice hr;clear HS hb hr ho10;have HS:=Aside0.mk S
 have ho10:x10.cell? ⟨g8,10,none⟩=some (Value.slice E10 N.sk.length e10):=S.at_cell 1 rfl 10 rfl
 have fo10:=S.at_frozen 1 rfl 10
 clear S;go_upto_region 9 with fail
 have S:=HS.out.front 1 rfl rfl
 clear HS ho10 fo10;have S:=S.put (cs':=#[Value.slice E0 N.sl.length e0,Value.int .i64 N.fr,Value.slice E2 N.ce.length e2,Value.slice E3 N.old.length e3,Value.int .i64 N.mv,Value.int .i64 N.wm,Value.slice Q6 l6.length p6,Value.int .i64 N.tm,Value.slice Q8 l8.length p8,Value.int .i64 N.sm,Value.slice Q10 l10.length p10,Value.slice E11 N.ct.length e11,Value.int .i64 N.ad,Value.int .i64 N.db]) 10 (Value.slice Q10 l10.length p10) rfl
 obtain⟨y10,hw,S⟩:=S.fold;rw[← hw]
 clear hw;have HS:=Aside0.mk S
 have ho0:y10.cell? ⟨g8,0,none⟩=some (Value.slice E0 N.sl.length e0):=S.at_cell 0 rfl 0 rfl
 have ho1:y10.cell? ⟨g8,1,none⟩=some (Value.int .i64 N.fr):=S.at_cell 0 rfl 1 rfl
 have ho2:y10.cell? ⟨g8,2,none⟩=some (Value.slice E2 N.ce.length e2):=S.at_cell 0 rfl 2 rfl
 have ho3:y10.cell? ⟨g8,3,none⟩=some (Value.slice E3 N.old.length e3):=S.at_cell 0 rfl 3 rfl
 have ho4:y10.cell? ⟨g8,4,none⟩=some (Value.int .i64 N.mv):=S.at_cell 0 rfl 4 rfl
 have ho5:y10.cell? ⟨g8,5,none⟩=some (Value.int .i64 N.wm):=S.at_cell 0 rfl 5 rfl
 have ho6:y10.cell? ⟨g8,6,none⟩=some (Value.slice Q6 l6.length p6):=S.at_cell 0 rfl 6 rfl
 have ho7:y10.cell? ⟨g8,7,none⟩=some (Value.int .i64 N.tm):=S.at_cell 0 rfl 7 rfl
 have ho8:y10.cell? ⟨g8,8,none⟩=some (Value.slice Q8 l8.length p8):=S.at_cell 0 rfl 8 rfl
 have ho9:y10.cell? ⟨g8,9,none⟩=some (Value.int .i64 N.sm):=S.at_cell 0 rfl 9 rfl
 have ho10:y10.cell? ⟨g8,10,none⟩=some (Value.slice Q10 l10.length p10):=S.at_cell 0 rfl 10 rfl
 have ho11:y10.cell? ⟨g8,11,none⟩=some (Value.slice E11 N.ct.length e11):=S.at_cell 0 rfl 11 rfl
 have ho12:y10.cell? ⟨g8,12,none⟩=some (Value.int .i64 N.ad):=S.at_cell 0 rfl 12 rfl
 have ho13:y10.cell? ⟨g8,13,none⟩=some (Value.int .i64 N.db):=S.at_cell 0 rfl 13 rfl
 clear S;go_wp2_with fail
 have hC2:NearC y10 (⟨.slice E0 N.sl.length e0,.slice E2 N.ce.length e2,.slice E3 N.old.length e3,.slice Q6 l6.length p6,.slice Q8 l8.length p8,.slice Q10 l10.length p10,.slice E11 N.ct.length e11⟩:NV) { N with wk:=l6,tk:=l8,sk:=l10 }:=NearC.of_St HS.out (fun p hp=>by simp only [NV.rows,List.mem_cons,List.not_mem_nil,or_false] at hp ⊢;rcases hp with rfl|rfl|rfl|rfl|rfl|rfl|rfl <;> simp)
 refine(l08CopyL y10 (⟨.slice E0 N.sl.length e0,.slice E2 N.ce.length e2,.slice E3 N.old.length e3,.slice Q6 l6.length p6,.slice Q8 l8.length p8,.slice Q10 l10.length p10,.slice E11 N.ct.length e11⟩:NV) { N with wk:=l6,tk:=l8,sk:=l10 } ⟨HL.out.1,HL.out.2.1,HL.out.2.2.1,HLE6.out,HLE8.out,HLE10.out,HL.out.2.2.2.2.2.2⟩ hC2).mono ?_
 clear hC2;rintro e w8 ⟨u2,rfl,st⟩
 have S:=HS.out.join st
 clear HS st ho0 ho1 ho2 ho3 ho4 ho5 ho6 ho7 ho8 ho9 ho10 ho11 ho12 ho13;obtain⟨G0,f0,G2,f2,G3,f3,G6,f6,G8,f8,G10,f10,G11,f11,rfl⟩:=NV.shape S;dsimp only [NV.cells]
 have HS:=Aside0.mk S
 obtain⟨hr0,hr1,hr2,hr3,hr4,hr5,hr6,hr7,hr8,hr9,hr10,hr11,hr12,hr13⟩:=S.cells14 18 rfl
 obtain⟨fr0,fr1,fr2,fr3,fr4,fr5,fr6,fr7,fr8,fr9,fr10,fr11,fr12,fr13⟩:=S.frozen14 18 rfl
 clear S;go_wp2_with fail
 have S:=HS.out.front 18 rfl rfl
 have S:=S.put14 (Value.slice G0 N.sl.length f0) (Value.int .i64 N.fr) (Value.slice G2 N.ce.length f2) (Value.slice G3 N.old.length f3) (Value.int .i64 N.mv) (Value.int .i64 N.wm) (Value.slice G6 l6.length f6) (Value.int .i64 N.tm) (Value.slice G8 l8.length f8) (Value.int .i64 N.sm) (Value.slice G10 l10.length f10) (Value.slice G11 N.ct.length f11) (Value.int .i64 N.ad) (Value.int .i64 N.db)
 refine bodyPost_ret (results_ct rfl _ _ g4 50 #[Value.slice G0 N.sl.length f0,Value.int .i64 N.fr,Value.slice G2 N.ce.length f2,Value.slice G3 N.old.length f3,Value.int .i64 N.mv,Value.int .i64 N.wm,Value.slice G6 l6.length f6,Value.int .i64 N.tm,Value.slice G8 l8.length f8,Value.int .i64 N.sm,Value.slice G10 l10.length f10,Value.slice G11 N.ct.length f11,Value.int .i64 N.ad,Value.int .i64 N.db] (0,0) _ rfl S.head.2 Tryz.underlying50 rfl (by kernel_rfl)) rfl ?_
 have e:n.forget i k x c.f0 = { N with wk:=l6,tk:=l8,sk:=l10 }:=by rw[HL6.out,HL8.out,HL10.out,HNN.out];rfl
 rw[e]
 exact⟨(⟨.slice G0 N.sl.length f0,.slice G2 N.ce.length f2,.slice G3 N.old.length f3,.slice G6 l6.length f6,.slice G8 l8.length f8,.slice G10 l10.length f10,.slice G11 N.ct.length f11⟩:NV),rfl,S.tail.sub (List.sublist_append_left (NV.rows (⟨.slice G0 N.sl.length f0,.slice G2 N.ce.length f2,.slice G3 N.old.length f3,.slice G6 l6.length f6,.slice G8 l8.length f8,.slice G10 l10.length f10,.slice G11 N.ct.length f11⟩:NV) { N with wk:=l6,tk:=l8,sk:=l10 }) _)⟩
end Go.Proofs.YtediiolcoilepaaGreat.Nb
