/- Walks of callees. -/
import Derived.Test.YtediiolcoilepaaGreatNbU
import Derived.BigRegion
import Derived.BigQuiet
namespace Go.Proofs.YtediiolcoilepaaGreat.Nb
set_option maxHeartbeats 8000000
set_option maxRecDepth 100000
open Go.RowKit Go.Proofs.YtediiolcoilepaaGreat.GNear Go.Proofs.YtediiolcoilepaaGreatW.PrintWords Go.Proofs.YtediiolcoilepaaGreatW.PrintLast Go.Proofs.YtediiolcoilepaaGreatW.PrintMore
set_option linter.unusedVariables false
set_option linter.unusedSimpArgs false
theorem withoutL {A:Option Addr} {c:Nat} (l:List ByteArray) (hl:l.length≤1048576) (key:ByteArray) (w:World) (hA:Kd.C Kd.string w A l.length l) :
  Calls Tryz.prog 76 #[.slice A l.length c,.string key] w fun e w'=>∃ v,e=.returned v∧Kd.R Kd.string 9 w' w.heap.size (fun _=>True) v (l.filter (fun s=>decide (s ≠ key)))∧Below w.heap.size w w':=by
 have HA:=Aside0.mk hA;have HL:=Aside0.mk hl;have HS:=Aside0.mk (St.start w);clear hA hl;go_enter Tryz.func76,Tryz.ntmps76;go_wp2_with (first|((with_reducible refine gate_dst (N:=7) rfl ?_);refine Kd.R_lit Kd.string _ 9 ?hg (N:=7) ?hd (xs:=([]:List ByteArray)) (inner:=[]) (ok:=fun _=>True) (okp:=fun _=>True) ?hr ?hp (fun _ hk=>hk) trivial (Below.refl _ _) (Nat.le_refl _) (by simp) ?_;(case hd=>rfl);(case hg=>rfl);(case hr=>first|(go_simp;done)|(go_simp;rfl));(case hp=>exact(Reps.none _ _));intro v7 x7 ho hb _ _;have HS1:=Aside0.mk (HS.out.new_row rfl hb ho);clear HS ho hb;have HS:=HS1;clear HS1));go_loopw [5,6] (fun v5 v6 w'=>∃ (i:Nat) (acc:List ByteArray),v6=.int .i64 i∧Aside0 (i≤l.length)∧Aside0 (acc=(l.take i).filter (fun s=>decide (s ≠ key)))∧Aside0 (St w w' [Part.row Kd.string 9 v5 acc])) (fun _ v6 _=>l.length - (intOf v6).toNat)
 case atStart=>exact⟨0,[],rfl,⟨Nat.zero_le _⟩,⟨by simp⟩,HS⟩
 case round =>
  clear HS;obtain⟨i,acc,rfl,HI,HG,HS⟩:=hrel;by_cases c1:i < l.length
  ·have c1b:decide ((i:Int) < (l.length:Int))=true:=decide_eq_true (by omega)
   have p5:(0:Int)≤(i:Int):=by omega
   have q5:(i:Int) < (l.length:Int):=by omega
   obtain⟨ad,e5,hx0⟩:=Kd.at_string (Kd.C_below HA.out HS.out.below) (i:Int) p5 q5;cases e5;obtain⟨x,hx⟩:∃ x,x=rdOf ByteArray.empty l (i:Int):=⟨_,rfl⟩;rw[← hx] at hx0;rw[Int.toNat_natCast] at hx0;have HX:=Aside0.mk (show l.take (i+1)=l.take i ++ [x] by rw[List.take_add_one,List.getElem?_eq_getElem c1,hx,rdS_at l i c1];rfl);clear c1 hx;have hal:acc.length≤1048576:=by rw[HG.out];have h1:=List.length_filter_le (fun s=>decide (s ≠ key)) (l.take i);have h2:=HL.out;rw[List.length_take] at h1;omega
   have HAL:=Aside0.mk hal;clear hal;replace p5:=eq_true p5;replace q5:=eq_true q5;have p6:i < 1048576:=by have:=HL.out;have h_:=of_eq_true q5;omega
   by_cases hk:x=key
   ·have t1:(x.toList != key.toList)=false:=bne_eq_false_iff_eq.mpr (by rw[hk])
    have t2:(x.toList == key.toList)=true:=beq_iff_eq.mpr (by rw[hk]);have HK:=Aside0.mk hk;clear hk;go_wp2_with fail;go_roundw
    case rel=>exact⟨i+1,acc,by go_num,⟨by have h_:=of_eq_true q5;omega⟩,⟨by rw[HX.out,List.filter_append,HG.out,HK.out];simp⟩,HS⟩
    case measure=>have h_:=of_eq_true q5;simp only [intOf];omega
   ·have t1:(x.toList != key.toList)=true:=bne_iff_ne.mpr (fun e=>hk (str_eq.1 e))
    have t2:(x.toList == key.toList)=false:=beq_eq_false_iff_ne.mpr (fun e=>hk (str_eq.1 e));have HK:=Aside0.mk hk;clear hk;go_wp2_with (first|((with_reducible refine gate_builtin (b:=.append) (xs:=#[.tmp 20,.tmp 25]) rfl ?_);at_builtin;have S:=HS.out;refine Kd.R_append Kd.string (w0:=w) w.heap.size rfl (.tmp 20) (.tmp 25) 28 9 (.string ⟨#[]⟩) 16 rfl Tryz.underlying28 info9 rfl (by decide) (by omega) u5 acc x [.string x] (fun k_=>(w.heap.size≤k_)) (fun _=>False) rfl (by first|(go_simp;done)|(go_simp;rfl)) ?aP (fun _ hk=>hk.elim) ?aF ?aO ?aB ?aS ?aL ?_;(case aP=>exact rfl);(case aB=>exact S.below);(case aF=>exact(fun k_ hk=>Nat.le_trans S.below.size hk));(case aO=>exact(Kd.R_reok rfl (S.at_R 0 rfl) (fun k_ hk=>Kd.R_base (S.at_R 0 rfl) k_ hk)));(case aS=>exact S.below.size);(case aL=>have:=HAL.out;omega);intro v7 w7 ho hb hg hat;have S:=S.appended rfl hb hg ho hat;have HS7:=Aside0.mk S;clear S ho hb hg hat));go_roundw
    case rel=>exact⟨i+1,acc ++ [x],by go_num,⟨by have h_:=of_eq_true q5;omega⟩,⟨by rw[HX.out,List.filter_append,HG.out];simp[HK.out]⟩,HS7⟩
    case measure=>have h_:=of_eq_true q5;simp only [intOf];omega
  ·have c1b:decide ((i:Int) < (l.length:Int))=false:=decide_eq_false (by omega)
   have c1c:decide (i < l.length)=false:=decide_eq_false c1;have HE:=Aside0.mk (show acc=l.filter (fun s=>decide (s ≠ key)) by rw[HG.out,List.take_of_length_le (by omega)]);clear c1;go_wp2_with fail;go_ret;exact⟨u5,rfl,by rw[← HE.out];exact Kd.R_mono (HS.out.at_R 0 rfl) (fun _ _=>trivial),HS.out.below⟩
theorem St.fold {w0 w:World} {ps:List Part} (h:St w0 w ps):∃ w',w'=w∧St w0 w' ps:=⟨w,rfl,h⟩
theorem seekM_lt {cs:List S151} {key:ByteArray}:∀ {d p i:Nat},seekM cs key d p=some i→i < cs.length
 |0,_,_,h=>by cases h
 |d+1,p,i,h=>by
  simp only [seekM] at h;cases hx:cs[p]? with
  |none=>rw[hx] at h;cases h
  |some x =>
   rw[hx] at h;dsimp only at h
   split at h
   ·obtain rfl:=Option.some.inj h
    exact(List.getElem?_eq_some_iff.1 hx).1
   ·split at h
    ·cases h
    ·exact seekM_lt h
theorem seekKeyS_any {n:Nr} (hn:n.small) (key:ByteArray) (hz:key.size≤4611686018427387904) :
  ∃ h b,Ev (fun k=>spec_SeekKey.f k n.ce n.old n.mv key) (h,b)∧(NearR n→(b=true ↔ key.size ≠ 0∧∃ c ∈ n.ce,c.f0=key))∧(NearR n→∀ c ∈ n.ce,c.f0=key→key.size ≠ 0→h=c.f1):=by
 obtain⟨bt,ht,hq⟩:=tableS_ev n.ce n.old n.mv hn.s2 hn.s3 hn.k2 hn.k3;cases bt with
 |false =>
  refine⟨0,false,Ev.bind ht (Ev.congr (f:=fun k=>spec_SeekKey.j0 k key true n.ce n.old n.mv) (fun k=>if_neg (by simp)) (Ev.step (f:=fun _=>some (0,false)) (fun k=>by simp only [spec_SeekKey.j0,if_true]) (Ev.now _))),fun h=>?_,fun h=>?_⟩
  ·have:=(hq (List.eq_nil_of_length_eq_zero h.shape.old)).2 h.parts.table;cases this
  ·have:=(hq (List.eq_nil_of_length_eq_zero h.shape.old)).2 h.parts.table;cases this
 |true =>
  by_cases hk:key.size=0
  ·have hkb:(key.toList == ([]:List UInt8))=true:=beq_iff_eq.2 ((empty_iff _).2 hk)
   exact⟨0,false,Ev.bind ht (Ev.congr (f:=fun k=>spec_SeekKey.j0 k key true n.ce n.old n.mv) (fun k=>by show(if true=true then _ else _)=_;rw[if_pos rfl,hkb]) (Ev.step (f:=fun _=>some (0,false)) (fun k=>by simp only [spec_SeekKey.j0,if_true]) (Ev.now _))),fun _=>⟨fun h=>Bool.noConfusion h,fun h=>absurd hk h.1⟩,fun _ c _ _ h=>absurd hk h⟩
  have hkb:(key.toList == ([]:List UInt8))=false:=beq_eq_false_iff_ne.2 (fun e=>hk ((empty_iff _).1 e));have st:∀ {h b},Ev (fun k=>(spec_l04Seek.f k n.ce key).bind fun t776=>(if t776 ≥ 0 then (if 0≤t776 then (if t776 < (n.ce.length:Int) then (some ((rd_T151 n.ce t776).f1,true)) else (none)) else (none)) else ((spec_l04Seek.f k n.old key).bind fun t778=>(if t778 ≥ 0 then (if 0≤t778 then (if t778 < (n.old.length:Int) then (some ((rd_T151 n.old t778).f1,true)) else (none)) else (none)) else (some (0,false)))))) (h,b)→Ev (fun k=>spec_SeekKey.f k n.ce n.old n.mv key) (h,b):=fun e =>
   Ev.bind ht (Ev.congr (f:=fun k=>spec_SeekKey.j0 k key false n.ce n.old n.mv) (fun k=>by show(if true=true then _ else _)=_;rw[if_pos rfl,hkb]) (Ev.step (fun k=>by simp only [spec_SeekKey.j0,Bool.false_eq_true,if_false]) e))
  have h1:=seekS_ev n.ce key hn.s2 hz;have h2:=seekS_ev n.old key hn.s3 hz;have hR:NearR n→seekSV n.ce key=TM.seek S151.f0 S151.f1 n.ce key (stOf key):=fun h=>seekSV_eq (fun y hy e=>by
   obtain⟨j,hj,rfl⟩:=List.getElem_of_mem hy;have:=(h.parts.table.cells j _ (List.getElem?_eq_getElem hj)).2 (by rw[e];exact hk);omega)
  cases hs:seekSV n.ce key with
  |some i =>
   rw[hs] at h1;have hi:=seekM_lt hs;refine⟨(rd_T151 n.ce ((i:Nat):Int)).f1,true,st (Ev.bind (show Ev _ ((i:Nat):Int) from h1) (Ev.step (f:=fun _=>some ((rd_T151 n.ce ((i:Nat):Int)).f1,true)) (fun k=>?_) (Ev.now _))),fun h=>⟨fun _=>?_,fun _=>rfl⟩,fun h c hc e _=>?_⟩
   ·show(if ((i:Nat):Int) ≥ 0 then _ else _)=_
    rw[if_pos (by omega),if_pos (by omega),if_pos (by omega)]
   ·rw[hR h] at hs
    obtain⟨x,hx,hxk⟩:=TM.seekF_some S151.f0 S151.f1 hs;exact⟨hk,x,List.mem_of_getElem? hx,hxk⟩
   ·rw[hR h] at hs
    obtain⟨x,hx,hxk⟩:=TM.seekF_some S151.f0 S151.f1 hs;rw[rd_ce n.ce i hi,same_cell h.parts hc (List.getElem_mem hi) (by rw[e];exact hk) (by rw[List.getElem?_eq_getElem hi] at hx;rw[Option.some.inj hx,hxk,e])]
  |none =>
   rw[hs] at h1;have no:NearR n→∀ c ∈ n.ce,c.f0 ≠ key:=fun h=>by rw[hR h] at hs;exact(TM.Found.seek S151.f0 S151.f1 h.parts.table.cells.found hk).1 hs
   cases hs2:seekSV n.old key with
   |some i =>
    rw[hs2] at h2;have hi:=seekM_lt hs2;refine⟨(rd_T151 n.old ((i:Nat):Int)).f1,true,st (Ev.bind (show Ev _ (-1:Int) from h1) (Ev.congr (f:=fun k=>(spec_l04Seek.f k n.old key).bind fun t778=>(if t778 ≥ 0 then (if 0≤t778 then (if t778 < (n.old.length:Int) then (some ((rd_T151 n.old t778).f1,true)) else (none)) else (none)) else (some (0,false)))) (fun k=>?_) (Ev.bind (show Ev _ ((i:Nat):Int) from h2) (Ev.step (f:=fun _=>some ((rd_T151 n.old ((i:Nat):Int)).f1,true)) (fun k=>?_) (Ev.now _))))),fun h=>?_,fun h c hc e _=>absurd e (no h c hc)⟩
    ·show(if (-1:Int) ≥ 0 then _ else _)=_
     rw[if_neg (by omega)]
    ·show(if ((i:Nat):Int) ≥ 0 then _ else _)=_
     rw[if_pos (by omega),if_pos (by omega),if_pos (by omega)]
    ·rw[List.eq_nil_of_length_eq_zero h.shape.old] at hi;simp at hi
   |none =>
    rw[hs2] at h2;refine⟨0,false,st (Ev.bind (show Ev _ (-1:Int) from h1) (Ev.congr (f:=fun k=>(spec_l04Seek.f k n.old key).bind fun t778=>(if t778 ≥ 0 then (if 0≤t778 then (if t778 < (n.old.length:Int) then (some ((rd_T151 n.old t778).f1,true)) else (none)) else (none)) else (some (0,false)))) (fun k=>?_) (Ev.bind (show Ev _ (-1:Int) from h2) (Ev.step (f:=fun _=>some (0,false)) (fun k=>?_) (Ev.now _))))),fun h=>⟨fun h=>Bool.noConfusion h,fun ⟨_,c,hc,e⟩=>absurd e (no h c hc)⟩,fun h c hc e _=>absurd e (no h c hc)⟩
    ·show(if (-1:Int) ≥ 0 then _ else _)=_
     rw[if_neg (by omega)]
    ·show(if (-1:Int) ≥ 0 then _ else _)=_
     rw[if_neg (by omega)]
theorem dropK_filter (key:ByteArray):∀ (l:List ByteArray),l.Nodup→dropK key l=l.filter (fun s=>decide (s ≠ key))
 |[],_=>rfl
 |a :: l,h=>by
  obtain⟨h1,h2⟩:=List.nodup_cons.1 h;unfold dropK
  by_cases c:a=key
  ·rw[if_pos c,List.filter_cons_of_neg (by simp[c])]
   refine(List.filter_eq_self.2 (fun b hb=>?_)).symm;exact decide_eq_true (fun e=>h1 (by rw[c,← e];exact hb))
  ·rw[if_neg c,List.filter_cons_of_pos (by simp[c]),dropK_filter key l h2]
end Go.Proofs.YtediiolcoilepaaGreat.Nb
