/- Walks of callees. -/
import Derived.Test.YtediiolcoilepaaGreatNbWf
import Derived.BigRegion
import Derived.BigQuiet
namespace Go.Proofs.YtediiolcoilepaaGreat.Nb
set_option maxHeartbeats 8000000
set_option maxRecDepth 100000
open Go.RowKit Go.Proofs.YtediiolcoilepaaGreat.GNear Go.Proofs.YtediiolcoilepaaGreatW.PrintWords Go.Proofs.YtediiolcoilepaaGreatW.PrintLast Go.Proofs.YtediiolcoilepaaGreatW.PrintMore
set_option linter.unusedVariables false
set_option linter.unusedSimpArgs false
structure QsR (n:Nr):Prop where
 w:okQ n.wm n.wk
 t:okQ n.tm n.tk
 s:okQ n.sm n.sk
 nd:(n.wk ++ n.tk ++ n.sk).Nodup
theorem NearR.queues {n:Nr} (h:NearR n):QsR n:=by
 have ho:n.old = []:=List.eq_nil_of_length_eq_zero h.shape.old;have hnd:=h.parts.table.once;rw[ho,List.append_nil] at hnd;exact⟨h.parts.window,h.parts.trial,h.parts.safe,h.queued.nodup_iff.2 hnd⟩
theorem QsR.ts {n:Nr} (h:QsR n) {k:ByteArray} (h1:k ∈ n.tk):k ∉ n.sk∧k ∉ n.wk:=by
 obtain⟨h2,-,h3⟩:=List.nodup_append.1 h.nd;obtain⟨-,-,h4⟩:=List.nodup_append.1 h2;exact⟨fun e=>h3 k (List.mem_append_right _ h1) k e rfl,fun e=>h4 k e k h1 rfl⟩
open Classical in
noncomputable def Nr.touchM (n:Nr) (key:ByteArray):Nr :=
 if key ∈ n.wk then { n with wk:=touchK key n.wk } else if key ∈ n.sk then { n with sk:=touchK key n.sk }
 else if n.sm=0 then { n with tk:=touchK key n.tk }
 else { n with tk:=if pushO n.sm n.sk key=⟨#[]⟩ then dropK key n.tk else pushQ n.tm (dropK key n.tk) (pushO n.sm n.sk key),sk:=pushQ n.sm n.sk key }
theorem touchK_no {key:ByteArray} {l:List ByteArray} (h:¬ key ∈ l):touchK key l=l:=if_neg h
theorem pushO_mem {m:Int} {l:List ByteArray} {s:ByteArray} (h:¬ (l.length:Int) < m) (h0:0 < m):pushO m l s ∈ l:=by
 unfold pushO;rw[if_neg h];obtain⟨k,hk⟩:∃ k,l.length=k+1:=⟨l.length - 1,by omega⟩;rw[List.getD_eq_getElem?_getD,hk,List.getElem?_cons_succ,List.getElem?_eq_getElem (by omega)];exact List.getElem_mem _
theorem touchK_len (key:ByteArray) (l:List ByteArray):(touchK key l).length≤l.length+1:=by
 unfold touchK
 split
 ·have:=dropK_len key l;simp;omega
 ·omega
theorem dropK_mem {key x:ByteArray}:∀ {l:List ByteArray},x ∈ dropK key l→x ∈ l
 |[],h=>h
 |a :: l,h=>by
  unfold dropK at h
  split at h
  ·exact List.mem_cons_of_mem _ h
  ·rcases List.mem_cons.1 h with rfl|h
   ·exact List.mem_cons_self
   ·exact List.mem_cons_of_mem _ (dropK_mem h)
theorem dropK_lt {key:ByteArray}:∀ {l:List ByteArray},key ∈ l→(dropK key l).length < l.length
 |a :: l,h=>by
  unfold dropK
  split
  ·simp
  ·rename_i c
   rcases List.mem_cons.1 h with e|h
   ·exact absurd e.symm c
   ·have:=dropK_lt h;simp;omega
theorem touchNI {w0 w:World} {ps:List Part} (g:Nat) (u:NV) (n:Nr) (hn:n.small) (hQ:QsR n) (key:ByteArray) (hkey:key ∈ n.wk ∨ key ∈ n.tk ∨ key ∈ n.sk) (h:St w0 w (Part.blk g 50 (u.cells n) :: (u.rows n ++ ps))) :
  Calls Tryz.prog 87 #[.pointer (some ⟨g,0,none⟩),.string key] w fun e w'=>e=.returned (.tuple #[])∧∃ z:NV,St w0 w' (Part.blk g 50 (z.cells (n.touchM key)) :: (z.rows (n.touchM key) ++ ps)):=by
 obtain⟨A0,c0,A2,c2,A3,c3,A6,c6,A8,c8,A10,c10,A11,c11,rfl⟩:=NV.shape h.tail;have HN:=Aside0.mk hn;have HQ:=Aside0.mk hQ;have HKEY:=Aside0.mk hkey;have HS:=Aside0.mk (show St w0 w (Part.blk g 50 #[Value.slice A0 n.sl.length c0,Value.int .i64 n.fr,Value.slice A2 n.ce.length c2,Value.slice A3 n.old.length c3,Value.int .i64 n.mv,Value.int .i64 n.wm,Value.slice A6 n.wk.length c6,Value.int .i64 n.tm,Value.slice A8 n.tk.length c8,Value.int .i64 n.sm,Value.slice A10 n.sk.length c10,Value.slice A11 n.ct.length c11,Value.int .i64 n.ad,Value.int .i64 n.db] :: Part.row k94 94 (Value.slice A0 n.sl.length c0) n.sl :: Part.row k151 151 (Value.slice A2 n.ce.length c2) n.ce :: Part.row k151 151 (Value.slice A3 n.old.length c3) n.old :: Part.row Kd.string 9 (Value.slice A6 n.wk.length c6) n.wk :: Part.row Kd.string 9 (Value.slice A8 n.tk.length c8) n.tk :: Part.row Kd.string 9 (Value.slice A10 n.sk.length c10) n.sk :: Part.row (Kd.int .i64) 3 (Value.slice A11 n.ct.length c11) n.ct :: ps) from h);clear hn hQ hkey h;go_enter Tryz.func87,Tryz.ntmps87;go_wp2_with fail;have S:=(HS.out.front 4 rfl rfl).swap;refine(touchQL g 5 50 c6 _ A6 n.wk key HN.out.s6 S rfl).mono ?_;clear S HS;rintro e w2 ⟨b,rfl,hb,A',c',S⟩;obtain⟨l1,h1⟩:∃ x,x=touchK key n.wk:=⟨_,rfl⟩;rw[← h1] at S;have HL1:=Aside0.mk h1;clear h1;obtain⟨B1,hB⟩:∃ x,x=A':=⟨_,rfl⟩;obtain⟨d1,hd⟩:∃ x,x=c':=⟨_,rfl⟩;rw[← hB,← hd] at S;clear hB hd A' c';have S:=S.front 4 rfl rfl;have S:=S.front 4 rfl rfl;have S:=S.front 4 rfl rfl;have S:=S.front 3 rfl rfl;have HS:=Aside0.mk S;clear S;by_cases k6:key ∈ n.wk
 ·obtain rfl:b=true:=hb.2 k6
  have HK6:=Aside0.mk k6;clear hb k6;go_wp2_with fail;go_end0;have e:n.touchM key = { n with wk:=l1 }:=by unfold Nr.touchM;rw[if_pos HK6.out,HL1.out]
  rw[e];exact⟨rfl,⟨.slice A0 n.sl.length c0,.slice A2 n.ce.length c2,.slice A3 n.old.length c3,.slice B1 l1.length d1,.slice A8 n.tk.length c8,.slice A10 n.sk.length c10,.slice A11 n.ct.length c11⟩,HS.out⟩
 obtain rfl:b=false:=by cases b with|false=>rfl|true=>exact absurd (hb.1 rfl) k6
 have HK6:=Aside0.mk k6;have HW:=Aside0.mk (show l1=n.wk from HL1.out.trans (touchK_no k6));clear hb k6;go_wp2_with fail;have S:=(HS.out.front 6 rfl rfl).swap;refine(touchQL g 9 50 c10 _ A10 n.sk key HN.out.s10 S rfl).mono ?_;clear S HS;rintro e w3 ⟨b,rfl,hb,A',c',S⟩;obtain⟨l2,h1⟩:∃ x,x=touchK key n.sk:=⟨_,rfl⟩;rw[← h1] at S;have HL2:=Aside0.mk h1;clear h1;obtain⟨B2,hB⟩:∃ x,x=A':=⟨_,rfl⟩;obtain⟨d2,hd⟩:∃ x,x=c':=⟨_,rfl⟩;rw[← hB,← hd] at S;clear hB hd A' c';have S:=S.front 6 rfl rfl;have S:=S.front 6 rfl rfl;have S:=S.front 6 rfl rfl;have S:=S.front 6 rfl rfl;have S:=S.front 6 rfl rfl;have S:=S.front 5 rfl rfl;have HS:=Aside0.mk S;clear S;by_cases k10:key ∈ n.sk
 ·obtain rfl:b=true:=hb.2 k10
  have HK10:=Aside0.mk k10;clear hb k10;go_wp2_with fail;go_end0;have e:n.touchM key = { n with wk:=l1,sk:=l2 }:=by unfold Nr.touchM;rw[if_neg HK6.out,if_pos HK10.out,HW.out,HL2.out]
  rw[e];exact⟨rfl,⟨.slice A0 n.sl.length c0,.slice A2 n.ce.length c2,.slice A3 n.old.length c3,.slice B1 l1.length d1,.slice A8 n.tk.length c8,.slice B2 l2.length d2,.slice A11 n.ct.length c11⟩,HS.out⟩
 obtain rfl:b=false:=by cases b with|false=>rfl|true=>exact absurd (hb.1 rfl) k10
 have HK10:=Aside0.mk k10;have HSK:=Aside0.mk (show l2=n.sk from HL2.out.trans (touchK_no k10));have HT:=Aside0.mk (show key ∈ n.tk from HKEY.out.elim (fun h=>absurd h HK6.out) (fun h=>h.elim id (fun h=>absurd h HK10.out)));clear hb k10;have hc9:w3.cell? ⟨g,9,none⟩=some (Value.int .i64 n.sm):=HS.out.at_cell 0 rfl 9 rfl
 by_cases k0:n.sm=0
 ·have k0b:(n.sm == 0)=true:=beq_iff_eq.2 k0
  have HK0:=Aside0.mk k0;clear k0;go_wp2_with fail;have S:=(HS.out.front 5 rfl rfl).swap;refine(touchQL g 7 50 c8 _ A8 n.tk key HN.out.s8 S rfl).mono ?_;clear S HS;rintro e w4 ⟨b,rfl,hb,A',c',S⟩;obtain⟨l3,h1⟩:∃ x,x=touchK key n.tk:=⟨_,rfl⟩;rw[← h1] at S;have HL3:=Aside0.mk h1;clear h1;obtain⟨B3,hB⟩:∃ x,x=A':=⟨_,rfl⟩;obtain⟨d3,hd⟩:∃ x,x=c':=⟨_,rfl⟩;rw[← hB,← hd] at S;clear hB hd A' c';have S:=S.front 5 rfl rfl;have S:=S.front 5 rfl rfl;have S:=S.front 5 rfl rfl;have S:=S.front 5 rfl rfl;have S:=S.front 4 rfl rfl;have HS:=Aside0.mk S;clear S;clear hc9 k0b;go_wp2_with fail;go_end0;have e:n.touchM key = { n with wk:=l1,tk:=l3,sk:=l2 }:=by unfold Nr.touchM;rw[if_neg HK6.out,if_neg HK10.out,if_pos HK0.out,HW.out,HSK.out,HL3.out]
  rw[e];exact⟨rfl,⟨.slice A0 n.sl.length c0,.slice A2 n.ce.length c2,.slice A3 n.old.length c3,.slice B1 l1.length d1,.slice B3 l3.length d3,.slice B2 l2.length d2,.slice A11 n.ct.length c11⟩,HS.out⟩
 have k0b:(n.sm == 0)=false:=beq_eq_false_iff_ne.2 k0;have HK0:=Aside0.mk k0;clear k0;go_wp2_with fail;have S:=(HS.out.front 5 rfl rfl).swap;refine(dropL g 7 50 c8 _ A8 n.tk key HN.out.s8 S rfl).mono ?_;clear S HS;rintro e w4 ⟨b,rfl,hb,S⟩;obtain⟨l3,h1⟩:∃ x,x=dropK key n.tk:=⟨_,rfl⟩;rw[← h1] at S;have HL3:=Aside0.mk h1;clear h1;have S:=S.front 5 rfl rfl;have S:=S.front 5 rfl rfl;have S:=S.front 5 rfl rfl;have S:=S.front 5 rfl rfl;have S:=S.front 4 rfl rfl;have HS:=Aside0.mk S;clear S;obtain rfl:b=true:=hb.2 HT.out;clear hb hc9 k0b;go_wp2_with fail;have HLS:=Aside0.mk (show l2.length≤1048575 by rw[HSK.out];have:=HQ.out.s;have:=this.2.1;have:=HQ.out.s.2.2.1;omega);have S:=(HS.out.front 6 rfl rfl).swap;refine(pushQL g 9 50 d2 _ B2 l2 n.sm key HLS.out S rfl rfl).mono ?_;clear S HS;rintro e w5 ⟨rfl,A',c',S⟩;obtain⟨l4,h1⟩:∃ x,x=pushQ n.sm l2 key:=⟨_,rfl⟩;rw[← h1] at S;have HL4:=Aside0.mk h1;clear h1;obtain⟨B4,hB⟩:∃ x,x=A':=⟨_,rfl⟩;obtain⟨d4,hd⟩:∃ x,x=c':=⟨_,rfl⟩;rw[← hB,← hd] at S;clear hB hd A' c';have S:=S.front 6 rfl rfl;have S:=S.front 6 rfl rfl;have S:=S.front 6 rfl rfl;have S:=S.front 6 rfl rfl;have S:=S.front 6 rfl rfl;have S:=S.front 5 rfl rfl;have HS:=Aside0.mk S;clear S;obtain⟨po,hpo⟩:∃ x,x=pushO n.sm l2 key:=⟨_,rfl⟩;rw[← hpo];have HPO:=Aside0.mk (show po=pushO n.sm n.sk key by rw[hpo,HSK.out]);have HPQ:=Aside0.mk (show l4=pushQ n.sm n.sk key by rw[HL4.out,HSK.out]);clear hpo;by_cases k1:po.size=0
 ·obtain rfl:po=⟨#[]⟩:=by apply ByteArray.ext;exact Array.eq_empty_of_size_eq_zero k1
  clear k1;go_wp2_with fail;go_end0;have e:n.touchM key = { n with wk:=l1,tk:=l3,sk:=l4 }:=by unfold Nr.touchM;rw[if_neg HK6.out,if_neg HK10.out,if_neg HK0.out,if_pos HPO.out.symm,HW.out,HL3.out,HPQ.out]
  rw[e];exact⟨rfl,⟨.slice A0 n.sl.length c0,.slice A2 n.ce.length c2,.slice A3 n.old.length c3,.slice B1 l1.length d1,.slice A8 l3.length c8,.slice B4 l4.length d4,.slice A11 n.ct.length c11⟩,HS.out⟩
 have t1:(po.toList == ([]:List UInt8))=false:=beq_eq_false_iff_ne.mpr (fun e=>k1 ((empty_iff _).1 e));have t2:(po.toList != ([]:List UInt8))=true:=bne_iff_ne.mpr (fun e=>k1 ((empty_iff _).1 e));have HPE:=Aside0.mk (show ¬ pushO n.sm n.sk key=⟨#[]⟩ from fun e=>k1 (by rw[HPO.out,e];rfl));clear k1;go_wp2_with fail;have HLT:=Aside0.mk (show l3.length≤1048575 by rw[HL3.out];have:=dropK_lt HT.out;have:=HN.out.s8;omega);have S:=(HS.out.front 5 rfl rfl).swap;refine(pushQL g 7 50 c8 _ A8 l3 n.tm po HLT.out S rfl rfl).mono ?_;clear S HS;rintro e w6 ⟨rfl,A',c',S⟩;obtain⟨l5,h1⟩:∃ x,x=pushQ n.tm l3 po:=⟨_,rfl⟩;rw[← h1] at S;have HL5:=Aside0.mk h1;clear h1;obtain⟨B5,hB⟩:∃ x,x=A':=⟨_,rfl⟩;obtain⟨d5,hd⟩:∃ x,x=c':=⟨_,rfl⟩;rw[← hB,← hd] at S;clear hB hd A' c';have S:=S.front 5 rfl rfl;have S:=S.front 5 rfl rfl;have S:=S.front 5 rfl rfl;have S:=S.front 5 rfl rfl;have S:=S.front 4 rfl rfl;have HS:=Aside0.mk S;clear S;clear t1 t2;go_wp2_with fail;go_end0;have e:n.touchM key = { n with wk:=l1,tk:=l5,sk:=l4 }:=by unfold Nr.touchM;rw[if_neg HK6.out,if_neg HK10.out,if_neg HK0.out,if_neg HPE.out,HW.out,HL5.out,HL3.out,HPO.out,HPQ.out]
 rw[e];exact⟨rfl,⟨.slice A0 n.sl.length c0,.slice A2 n.ce.length c2,.slice A3 n.old.length c3,.slice B1 l1.length d1,.slice B5 l5.length d5,.slice B4 l4.length d4,.slice A11 n.ct.length c11⟩,HS.out⟩
end Go.Proofs.YtediiolcoilepaaGreat.Nb
