/- Walks of callees. -/
import Derived.Test.YtediiolcoilepaaGreatNbPs
namespace Go.Proofs.YtediiolcoilepaaGreat.Nb
set_option maxHeartbeats 8000000
set_option maxRecDepth 100000
open Go.RowKit YtediiolcoilepaaGreat.GNear YtediiolcoilepaaGreatW.PrintWords YtediiolcoilepaaGreatW.PrintLast YtediiolcoilepaaGreatW.PrintMore
theorem B3w (key:ByteArray):A0l.f (key.size:Int) 1 12=some (decide (1≤key.size∧key.size≤12)):=by
 unfold A0l.f
 by_cases h:1≤key.size
 ·rw[if_pos Zo];congr 1;rw[Bool.eq_iff_iff];simp only [decide_eq_true_eq];omega
 ·rw[if_neg Zo,C0a Zo]
theorem B5u (w:World) (v:NV) (n:Nr) (hn:n.small) (hH:∀ c ∈ n.ce,c.f1≤9223372036854775807) (hC:A2c w v n) (key val:ByteArray) (hno:¬ (A2i n∧(1≤key.size∧key.size≤12)∧val.size≤20)):Calls Tryz.prog 35 #[.agg (v.cells n),.string key,.string val] w (A7h Nr.zero ⟨#[]⟩ false w):=by
 have hO:=fun w1 hb=>B00 w1 v n hn hH (hC.below (w':=w1) hb);have hCN:=fun w1 hb=>A5g w1 v n hn.short (hC.below (w':=w1) hb);obtain⟨A0,c0,A2,c2,A3,c3,A6,c6,A8,c8,A10,c10,A11,c11,rfl,hF⟩:=hC.open_;have HN:=B98 hn;have HS:=B98 (St.start w);have HNO:=B98 hno;have HIK:=B98 (B3w key);clear hno;clear hC hF hn hH;dsimp only [NV.cells] at *;have HO:=B98 hO;have HCN:=B98 hCN;clear hO hCN;go_enter Tryz.func35,Tryz.ntmps35;go_wp2_with (first|((with_reducible refine A0b (N:=3) rfl ?_);refine boxS HS (N:=3) fun g3 w3 S=>?_;clear HS;have HS:=B98 S;clear S)|((with_reducible refine A0b (N:=6) rfl ?_);refine boxS HS (N:=6) fun g6 w6 S=>?_;clear HS;have HS:=B98 S;obtain⟨ha0,ha1,ha2,ha3,ha4,ha5,ha6,ha7,ha8,ha9,ha10,ha11,ha12,ha13⟩:=S.cells14 1 rfl;clear S));refine(HO.o _ HS.o.below).mono ?_;rintro e w6 ⟨b,rfl,hq,hb⟩;have S:=HS.o.step Zh;clear HS hb;have HS:=B98 S;clear S;clear HO ha0 ha1 ha2 ha3 ha4 ha5 ha6 ha7 ha8 ha9 ha10 ha11 ha12 ha13;cases b with
 |false =>
  clear hq;obtain⟨hr0,hr1,hr2,hr3,hr4,hr5,hr6,hr7,hr8,hr9,hr10,hr11,hr12,hr13⟩:=HS.o.cells14 0 rfl;obtain⟨fr0,fr1,fr2,fr3,fr4,fr5,fr6,fr7,fr8,fr9,fr10,fr11,fr12,fr13⟩:=HS.o.frozen14 0 rfl;go_wp2_with fail;have S:=HS.o;have S:=S.put14 (.slice none 0 0) (.int .i64 0) (.slice none 0 0) (.slice none 0 0) (.int .i64 0) (.int .i64 0) (.slice none 0 0) (.int .i64 0) (.slice none 0 0) (.int .i64 0) (.slice none 0 0) (.slice none 0 0) (.int .i64 0) (.int .i64 0);refine bodyPost_ret (A17 rfl _ _ _ _ _ _ _ rfl S.head.2 Tryz.underlying50 rfl Zk) rfl ?_;exact⟨NV.zero,rfl,St.zero S.below⟩
 |true =>
 have HR:=B98 (hq.1 rfl);clear hq;go_wp2_with fail;refine(A0l.calls (key.size:Int) 1 12 _ _ HIK.o).mono ?_;rintro e w7 ⟨rfl,hb⟩;have S:=HS.o.step Zh;clear HS hb;have HS:=B98 S;clear S;by_cases hk:1≤key.size∧key.size≤12
 case neg =>
  rw[C0a hk];clear hk;obtain⟨hr0,hr1,hr2,hr3,hr4,hr5,hr6,hr7,hr8,hr9,hr10,hr11,hr12,hr13⟩:=HS.o.cells14 0 rfl;obtain⟨fr0,fr1,fr2,fr3,fr4,fr5,fr6,fr7,fr8,fr9,fr10,fr11,fr12,fr13⟩:=HS.o.frozen14 0 rfl;go_wp2_with fail;have S:=HS.o;have S:=S.put14 (.slice none 0 0) (.int .i64 0) (.slice none 0 0) (.slice none 0 0) (.int .i64 0) (.int .i64 0) (.slice none 0 0) (.int .i64 0) (.slice none 0 0) (.int .i64 0) (.slice none 0 0) (.slice none 0 0) (.int .i64 0) (.int .i64 0);refine bodyPost_ret (A17 rfl _ _ _ _ _ _ _ rfl S.head.2 Tryz.underlying50 rfl Zk) rfl ?_;exact⟨NV.zero,rfl,St.zero S.below⟩
 rw[B99 hk];have hv:¬ val.size≤20:=fun h=>HNO.o ⟨HR.o,hk,h⟩;have t2:decide ((20:Int) < (val.size:Int))=true:=B99 Zo;have t3:decide (20 < val.size)=true:=B99 Zo;clear hk hv;obtain⟨hr0,hr1,hr2,hr3,hr4,hr5,hr6,hr7,hr8,hr9,hr10,hr11,hr12,hr13⟩:=HS.o.cells14 0 rfl;obtain⟨fr0,fr1,fr2,fr3,fr4,fr5,fr6,fr7,fr8,fr9,fr10,fr11,fr12,fr13⟩:=HS.o.frozen14 0 rfl;go_wp2_with fail;have S:=HS.o;have S:=S.put14 (.slice none 0 0) (.int .i64 0) (.slice none 0 0) (.slice none 0 0) (.int .i64 0) (.int .i64 0) (.slice none 0 0) (.int .i64 0) (.slice none 0 0) (.int .i64 0) (.slice none 0 0) (.slice none 0 0) (.int .i64 0) (.int .i64 0);refine bodyPost_ret (A17 rfl _ _ _ _ _ _ _ rfl S.head.2 Tryz.underlying50 rfl Zk) rfl ?_;exact⟨NV.zero,rfl,St.zero S.below⟩
end Go.Proofs.YtediiolcoilepaaGreat.Nb
