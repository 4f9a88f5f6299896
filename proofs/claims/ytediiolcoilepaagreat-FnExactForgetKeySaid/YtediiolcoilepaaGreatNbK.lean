/- Parts of the proof: walks of callees, plain laws about what they compute. -/
import Derived.Test.YtediiolcoilepaaGreatNbJ
import Derived.BigRegion
import Derived.BigQuiet
namespace Go.Proofs.YtediiolcoilepaaGreat.Nb
open Go.RowKit Go.Proofs.YtediiolcoilepaaGreat.GNear Go.Proofs.YtediiolcoilepaaGreatW.PrintWords Go.Proofs.YtediiolcoilepaaGreatW.PrintLast Go.Proofs.YtediiolcoilepaaGreatW.PrintMore
attribute [local go_sem] max2_int min2_int max_two min_two max_three min_three max_four min_four
set_option linter.unusedVariables false
set_option linter.unusedSimpArgs false
theorem St.cell2 {w0 w:World} {ps:List Part} {gs n c:Nat} {l:List S151} (h:St w0 w (Part.row k151 151 (.slice (some ⟨gs,0,none⟩) n c) l :: ps)) {i:Nat} {x:S151} (hx:l[i]? = some x) (y:S151) :
  St w0 ((w.setCell ⟨gs,i * 2,none⟩ (.string y.f0)).setCell ⟨gs,i * 2+1,none⟩ (.int .i64 y.f1)) (Part.row k151 151 (.slice (some ⟨gs,0,none⟩) n c) (l.set i y) :: ps):=by
 have hi:i < l.length:=(List.getElem?_eq_some_iff.1 hx).1
 have S1:=h.put_flat F151 (j:=0) (x':=⟨y.f0,x.f1⟩) (v:=.string y.f0) hx (by decide) rfl
 have S2:=S1.put_flat F151 (j:=1) (x':=y) (v:=.int .i64 y.f1) (List.getElem?_set_self (by first|exact hi|(simp only [List.length_set];exact hi))) (by decide) rfl
 simp only [List.set_set] at S2;exact S2
theorem St.putS {w0 w:World} {ps:List Part} {α:Type} {enc:α→Value} {h1:∀ x,(enc x).oneCell'=true} {e g n c:Nat} {xs:List α} (hE:(Kd.scalar enc h1).E = []) (h:St w0 w (Part.row (Kd.scalar enc h1) e (.slice (some ⟨g,0,none⟩) n c) xs :: ps)) (i:Nat) (x:α):St w0 (w.setCell ⟨g,i,none⟩ (enc x)) (Part.row (Kd.scalar enc h1) e (.slice (some ⟨g,0,none⟩) n c) (xs.set i x) :: ps) :=
 have q:=Kd.R_putg h.head (i:Int) x
 h.over hE q.2 q.1
set_option maxHeartbeats 4000000 in
set_option maxRecDepth 100000 in
theorem toSlotL (x:S196) (w:World):Calls Tryz.prog 188 #[.agg #[.int .i64 x.f0,.bool x.f1,.string x.f2,.string x.f3,.int .i64 x.f4]] w fun e w'=>e=.returned (.agg #[.int .i64 x.f0,.bool x.f1,.string x.f2,.string x.f3,.int .i64 x.f4])∧Below w.heap.size w w':=by
 have HS:=Aside0.mk (St.start w)
 go_enter Tryz.func188,Tryz.ntmps188
 go_wp2_with (first|((with_reducible refine gate_dst (N:=1) rfl ?_);refine boxS HS (N:=1) (cs:=#[.int .i64 x.f0,.bool x.f1,.string x.f2,.string x.f3,.int .i64 x.f4]) (t:=196) fun g1 w1 S=>?_;clear HS;have HS:=Aside0.mk S;obtain⟨ha0,ha1,ha2,ha3,ha4⟩:=S.cells5 0 rfl;clear S)|((with_reducible refine gate_dst (N:=2) rfl ?_);refine boxS HS (N:=2) (cs:=#[.int .i64 0,.bool false,.string (⟨#[]⟩:ByteArray),.string (⟨#[]⟩:ByteArray),.int .i64 0]) (t:=94) fun g2 w2 S=>?_;clear HS ha0 ha1 ha2 ha3 ha4;have HS:=Aside0.mk S;obtain⟨hb0,hb1,hb2,hb3,hb4⟩:=S.cells5 0 rfl;obtain⟨ha0,ha1,ha2,ha3,ha4⟩:=S.cells5 1 rfl;clear S)|((with_reducible refine gate_dst (N:=3) rfl ?_);refine boxS HS (N:=3) (cs:=#[.int .i64 0,.bool false,.string (⟨#[]⟩:ByteArray),.string (⟨#[]⟩:ByteArray),.int .i64 0]) (t:=94) fun g3 w3 S=>?_;clear HS hb0 hb1 hb2 hb3 hb4 ha0 ha1 ha2 ha3 ha4;have HS:=Aside0.mk S;obtain⟨hc0,hc1,hc2,hc3,hc4⟩:=S.cells5 0 rfl;obtain⟨fc0,fc1,fc2,fc3,fc4⟩:=S.frozen5 0 rfl;obtain⟨hb0,hb1,hb2,hb3,hb4⟩:=S.cells5 1 rfl;obtain⟨fb0,fb1,fb2,fb3,fb4⟩:=S.frozen5 1 rfl;obtain⟨ha0,ha1,ha2,ha3,ha4⟩:=S.cells5 2 rfl;have ncb:=S.at_ne 0 1 rfl rfl (by decide);have nca:=S.at_ne 0 2 rfl rfl (by decide);have nbc:=S.at_ne 1 0 rfl rfl (by decide);have nba:=S.at_ne 1 2 rfl rfl (by decide);have nac:=S.at_ne 2 0 rfl rfl (by decide);have nab:=S.at_ne 2 1 rfl rfl (by decide);clear S))
 have S:=HS.out;have S:=S.put (cs':=#[Value.int .i64 x.f0,Value.bool false,Value.string (⟨#[]⟩:ByteArray),Value.string (⟨#[]⟩:ByteArray),Value.int .i64 0]) 0 (Value.int .i64 x.f0) rfl
 have S:=S.put (cs':=#[Value.int .i64 x.f0,Value.bool x.f1,Value.string (⟨#[]⟩:ByteArray),Value.string (⟨#[]⟩:ByteArray),Value.int .i64 0]) 1 (Value.bool x.f1) rfl
 have S:=S.put (cs':=#[Value.int .i64 x.f0,Value.bool x.f1,Value.string x.f2,Value.string (⟨#[]⟩:ByteArray),Value.int .i64 0]) 2 (Value.string x.f2) rfl
 have S:=S.put (cs':=#[Value.int .i64 x.f0,Value.bool x.f1,Value.string x.f2,Value.string x.f3,Value.int .i64 0]) 3 (Value.string x.f3) rfl
 have S:=S.put (cs':=#[Value.int .i64 x.f0,Value.bool x.f1,Value.string x.f2,Value.string x.f3,Value.int .i64 x.f4]) 4 (Value.int .i64 x.f4) rfl
 have S:=S.swap;have S:=S.put (cs':=#[Value.int .i64 x.f0,Value.bool false,Value.string (⟨#[]⟩:ByteArray),Value.string (⟨#[]⟩:ByteArray),Value.int .i64 0]) 0 (Value.int .i64 x.f0) rfl
 have S:=S.put (cs':=#[Value.int .i64 x.f0,Value.bool x.f1,Value.string (⟨#[]⟩:ByteArray),Value.string (⟨#[]⟩:ByteArray),Value.int .i64 0]) 1 (Value.bool x.f1) rfl
 have S:=S.put (cs':=#[Value.int .i64 x.f0,Value.bool x.f1,Value.string x.f2,Value.string (⟨#[]⟩:ByteArray),Value.int .i64 0]) 2 (Value.string x.f2) rfl
 have S:=S.put (cs':=#[Value.int .i64 x.f0,Value.bool x.f1,Value.string x.f2,Value.string x.f3,Value.int .i64 0]) 3 (Value.string x.f3) rfl
 have S:=S.put (cs':=#[Value.int .i64 x.f0,Value.bool x.f1,Value.string x.f2,Value.string x.f3,Value.int .i64 x.f4]) 4 (Value.int .i64 x.f4) rfl
 refine bodyPost_ret (results_cell_row rfl _ _ g2 94 #[Value.int .i64 x.f0,Value.bool x.f1,Value.string x.f2,Value.string x.f3,Value.int .i64 x.f4] (0,0) _ rfl S.head.2 Tryz.underlying94 rfl (by kernel_rfl)) rfl ?_
 exact⟨rfl,S.below⟩
set_option maxHeartbeats 4000000 in
set_option maxRecDepth 100000 in
theorem toCellL (x:S198) (w:World):Calls Tryz.prog 189 #[.agg #[.string x.f0,.int .i64 x.f1]] w fun e w'=>e=.returned (.agg #[.string x.f0,.int .i64 x.f1])∧Below w.heap.size w w':=by
 have HS:=Aside0.mk (St.start w)
 go_enter Tryz.func189,Tryz.ntmps189
 go_wp2_with (first|((with_reducible refine gate_dst (N:=1) rfl ?_);refine boxS HS (N:=1) (cs:=#[.string x.f0,.int .i64 x.f1]) (t:=198) fun g1 w1 S=>?_;clear HS;have HS:=Aside0.mk S;obtain⟨ha0,ha1⟩:=S.cells2 0 rfl;clear S)|((with_reducible refine gate_dst (N:=2) rfl ?_);refine boxS HS (N:=2) (cs:=#[.string (⟨#[]⟩:ByteArray),.int .i64 0]) (t:=151) fun g2 w2 S=>?_;clear HS ha0 ha1;have HS:=Aside0.mk S;obtain⟨hb0,hb1⟩:=S.cells2 0 rfl;obtain⟨ha0,ha1⟩:=S.cells2 1 rfl;clear S)|((with_reducible refine gate_dst (N:=3) rfl ?_);refine boxS HS (N:=3) (cs:=#[.string (⟨#[]⟩:ByteArray),.int .i64 0]) (t:=151) fun g3 w3 S=>?_;clear HS hb0 hb1 ha0 ha1;have HS:=Aside0.mk S;obtain⟨hc0,hc1⟩:=S.cells2 0 rfl;obtain⟨fc0,fc1⟩:=S.frozen2 0 rfl;obtain⟨hb0,hb1⟩:=S.cells2 1 rfl;obtain⟨fb0,fb1⟩:=S.frozen2 1 rfl;obtain⟨ha0,ha1⟩:=S.cells2 2 rfl;have ncb:=S.at_ne 0 1 rfl rfl (by decide);have nca:=S.at_ne 0 2 rfl rfl (by decide);have nbc:=S.at_ne 1 0 rfl rfl (by decide);have nba:=S.at_ne 1 2 rfl rfl (by decide);have nac:=S.at_ne 2 0 rfl rfl (by decide);have nab:=S.at_ne 2 1 rfl rfl (by decide);clear S))
 have S:=HS.out;have S:=S.put2 (Value.string x.f0) (Value.int .i64 x.f1)
 have S:=S.swap;have S:=S.put2 (Value.string x.f0) (Value.int .i64 x.f1)
 refine bodyPost_ret (results_cell_row rfl _ _ g2 151 #[Value.string x.f0,Value.int .i64 x.f1] (0,0) _ rfl S.head.2 Tryz.underlying151 rfl (by kernel_rfl)) rfl ?_
 exact⟨rfl,S.below⟩
set_option maxHeartbeats 4000000 in
set_option maxRecDepth 100000 in
theorem toSlotSL {A:Option Addr} {c:Nat} (l:List S196) (hl:l.length≤1048576) (w:World) (hA:Kd.C k196 w A l.length l):Calls Tryz.prog 121 #[.slice A l.length c] w fun e w'=>∃ v,e=.returned v∧Kd.R k94 94 w' w.heap.size (fun _=>True) v (l.map cvSlot)∧Below w.heap.size w w':=by
 have hu1:=Tryz.underlying196;have hu2:=Tryz.underlying94;have HA:=Aside0.mk hA
 have HL:=Aside0.mk hl
 clear hA hl;have HS:=Aside0.mk (St.start w)
 go_enter Tryz.func121,Tryz.ntmps121
 go_wp2_with (first|((with_reducible refine gate_dst (N:=7) rfl ?_);refine Kd.R_make k94 _ 94 rfl (N:=7) rfl 40 _ _ rfl (l.length:Int) rfl rfl Tryz.underlying40 (.agg #[(.int .i64 0),(.bool false),(.string ⟨#[]⟩),(.string ⟨#[]⟩),(.int .i64 0)]) 56 info94 rfl (by decide) (by omega) z94 (ok:=fun _=>True) (okp:=fun _=>True) (k94_mkM _ _ _ z94 ) (fun _ hk=>hk) trivial (by omega) (by have:=HL.out;omega) (Below.refl _ _) (Nat.le_refl _) ?_;intro v3 w2 ho hb _ _;have S:=HS.out.new_row rfl hb ho;clear ho hb;rw[Int.toNat_natCast] at S;have HS2:=Aside0.mk S;clear S))
 clear HS;go_loopw [4] (fun v4 w'=>∃ (i:Nat) (y:List S94),v4=.int .i64 i∧Aside0 (i≤l.length)∧Aside0 (y.length=l.length∧y.take i=(l.take i).map cvSlot)∧Aside0 (St w w' [Part.row k94 94 v3 y])) (fun v4 _=>l.length - (intOf v4).toNat)
 case atStart=>exact⟨0,_,rfl,⟨Nat.zero_le _⟩,⟨List.length_replicate,by simp⟩,HS2⟩
 case round =>
  clear HS2;obtain⟨i,y,rfl,HI,HY,HS⟩:=hrel;by_cases c1:i < l.length
  ·have c1b:decide ((i:Int) < (l.length:Int))=true:=decide_eq_true (by omega)
   have p5:(0:Int)≤(i:Int):=by omega
   have q5:(i:Int) < (l.length:Int):=by omega
   obtain⟨ad,e5,hx0,hx1,hx2,hx3,hx4⟩:=at_T196 (Kd.C_below HA.out HS.out.below) (i:Int) p5 q5
   cases e5
   obtain⟨x,hx⟩:∃ x,x=rd_T196 l (i:Int):=⟨_,rfl⟩
   rw[← hx] at hx0 hx1 hx2 hx3 hx4
   rw[Int.toNat_natCast] at hx0 hx1 hx2 hx3 hx4
   have HX:=Aside0.mk (show l[i]? = some x by rw[hx];rw[rd_so l i c1];exact List.getElem?_eq_getElem c1)
   have hy:i < y.length:=by have:=HY.out.1;omega
   have HYI:=Aside0.mk (List.getElem?_eq_getElem hy)
   obtain⟨u,hu⟩:∃ u,u=y[i]:=⟨_,rfl⟩
   rw[← hu] at HYI;clear hu;obtain⟨go,co,eo,-,-,-,-⟩:=Kd.R_form (HS.out.at_R 0 rfl) (by omega)
   subst eo;have hyl:(i:Int) < (y.length:Int):=by omega
   clear c1 hx hy;have p6:i < 1048576:=by have:=HL.out;omega
   replace p5:=eq_true p5;replace q5:=eq_true q5;replace hyl:=eq_true hyl;go_wp2_with fail
   refine(toSlotL x _).mono ?_
   rintro e w3 ⟨rfl,hb⟩
   have HS3:=Aside0.mk (HS.out.step hb)
   clear hb HS hx0 hx1 hx2 hx3 hx4;have HS:=HS3;clear HS3;have hz0:=(HS.out.flat_cell F94 HYI.out (j:=0) rfl).1
   have hf0:=(HS.out.flat_cell F94 HYI.out (j:=0) rfl).2
   have hz1:=(HS.out.flat_cell F94 HYI.out (j:=1) rfl).1
   have hf1:=(HS.out.flat_cell F94 HYI.out (j:=1) rfl).2
   have hz2:=(HS.out.flat_cell F94 HYI.out (j:=2) rfl).1
   have hf2:=(HS.out.flat_cell F94 HYI.out (j:=2) rfl).2
   have hz3:=(HS.out.flat_cell F94 HYI.out (j:=3) rfl).1
   have hf3:=(HS.out.flat_cell F94 HYI.out (j:=3) rfl).2
   have hz4:=(HS.out.flat_cell F94 HYI.out (j:=4) rfl).1
   have hf4:=(HS.out.flat_cell F94 HYI.out (j:=4) rfl).2
   replace hz0:w3.cell? ⟨go,i * 5,none⟩=some _:=hz0
   replace hf0:w3.frozen? ⟨go,i * 5,none⟩=false:=hf0
   replace hz1:w3.cell? ⟨go,i * 5+1,none⟩=some _:=hz1
   replace hf1:w3.frozen? ⟨go,i * 5+1,none⟩=false:=hf1
   replace hz2:w3.cell? ⟨go,i * 5+2,none⟩=some _:=hz2
   replace hf2:w3.frozen? ⟨go,i * 5+2,none⟩=false:=hf2
   replace hz3:w3.cell? ⟨go,i * 5+3,none⟩=some _:=hz3
   replace hf3:w3.frozen? ⟨go,i * 5+3,none⟩=false:=hf3
   replace hz4:w3.cell? ⟨go,i * 5+4,none⟩=some _:=hz4
   replace hf4:w3.frozen? ⟨go,i * 5+4,none⟩=false:=hf4
   go_wp2_with fail
   go_roundw
   case rel=>exact⟨i+1,y.set i (cvSlot x),by go_num,⟨by have h_:=of_eq_true q5;omega⟩,⟨by rw[List.length_set];exact HY.out.1,by rw[set_take y i _ (by have:=HY.out.1;have h_:=of_eq_true q5;omega),HY.out.2,List.take_add_one,HX.out];simp⟩,⟨HS.out.slot5 HYI.out (cvSlot x)⟩⟩
   case measure=>have h_:=of_eq_true q5;simp only [intOf];omega
  ·have c1b:decide ((i:Int) < (l.length:Int))=false:=decide_eq_false (by omega)
   have c1c:decide (i < l.length)=false:=decide_eq_false c1
   have HE:=Aside0.mk (show y=l.map cvSlot by have h_:=HY.out;rw[List.take_of_length_le (by omega),List.take_of_length_le (by omega)] at h_;exact h_.2)
   clear c1;go_wp2_with fail
   go_ret
   exact⟨v3,rfl,by rw[← HE.out];exact Kd.R_mono (HS.out.at_R 0 rfl) (fun _ _=>trivial),HS.out.below⟩
set_option maxHeartbeats 4000000 in
set_option maxRecDepth 100000 in
theorem toCellSL {A:Option Addr} {c:Nat} (l:List S198) (hl:l.length≤1048576) (w:World) (hA:Kd.C k198 w A l.length l):Calls Tryz.prog 122 #[.slice A l.length c] w fun e w'=>∃ v,e=.returned v∧Kd.R k151 151 w' w.heap.size (fun _=>True) v (l.map cvCell)∧Below w.heap.size w w':=by
 have hu1:=Tryz.underlying198;have hu2:=Tryz.underlying151;have HA:=Aside0.mk hA
 have HL:=Aside0.mk hl
 clear hA hl;have HS:=Aside0.mk (St.start w)
 go_enter Tryz.func122,Tryz.ntmps122
 go_wp2_with (first|((with_reducible refine gate_dst (N:=7) rfl ?_);refine Kd.R_make k151 _ 151 rfl (N:=7) rfl 43 _ _ rfl (l.length:Int) rfl rfl Tryz.underlying43 (.agg #[(.string ⟨#[]⟩),(.int .i64 0)]) 24 info151 rfl (by decide) (by omega) z151 (ok:=fun _=>True) (okp:=fun _=>True) (k151_mkM _ _ _ z151 ) (fun _ hk=>hk) trivial (by omega) (by have:=HL.out;omega) (Below.refl _ _) (Nat.le_refl _) ?_;intro v3 w2 ho hb _ _;have S:=HS.out.new_row rfl hb ho;clear ho hb;rw[Int.toNat_natCast] at S;have HS2:=Aside0.mk S;clear S))
 clear HS;go_loopw [4] (fun v4 w'=>∃ (i:Nat) (y:List S151),v4=.int .i64 i∧Aside0 (i≤l.length)∧Aside0 (y.length=l.length∧y.take i=(l.take i).map cvCell)∧Aside0 (St w w' [Part.row k151 151 v3 y])) (fun v4 _=>l.length - (intOf v4).toNat)
 case atStart=>exact⟨0,_,rfl,⟨Nat.zero_le _⟩,⟨List.length_replicate,by simp⟩,HS2⟩
 case round =>
  clear HS2;obtain⟨i,y,rfl,HI,HY,HS⟩:=hrel;by_cases c1:i < l.length
  ·have c1b:decide ((i:Int) < (l.length:Int))=true:=decide_eq_true (by omega)
   have p5:(0:Int)≤(i:Int):=by omega
   have q5:(i:Int) < (l.length:Int):=by omega
   obtain⟨ad,e5,hx0,hx1⟩:=at_T198 (Kd.C_below HA.out HS.out.below) (i:Int) p5 q5
   cases e5
   obtain⟨x,hx⟩:∃ x,x=rd_T198 l (i:Int):=⟨_,rfl⟩
   rw[← hx] at hx0 hx1
   rw[Int.toNat_natCast] at hx0 hx1
   have HX:=Aside0.mk (show l[i]? = some x by rw[hx];rw[rd_co l i c1];exact List.getElem?_eq_getElem c1)
   have hy:i < y.length:=by have:=HY.out.1;omega
   have HYI:=Aside0.mk (List.getElem?_eq_getElem hy)
   obtain⟨u,hu⟩:∃ u,u=y[i]:=⟨_,rfl⟩
   rw[← hu] at HYI;clear hu;obtain⟨go,co,eo,-,-,-,-⟩:=Kd.R_form (HS.out.at_R 0 rfl) (by omega)
   subst eo;have hyl:(i:Int) < (y.length:Int):=by omega
   clear c1 hx hy;have p6:i < 1048576:=by have:=HL.out;omega
   replace p5:=eq_true p5;replace q5:=eq_true q5;replace hyl:=eq_true hyl;go_wp2_with fail
   refine(toCellL x _).mono ?_
   rintro e w3 ⟨rfl,hb⟩
   have HS3:=Aside0.mk (HS.out.step hb)
   clear hb HS hx0 hx1;have HS:=HS3;clear HS3;have hz0:=(HS.out.flat_cell F151 HYI.out (j:=0) rfl).1
   have hf0:=(HS.out.flat_cell F151 HYI.out (j:=0) rfl).2
   have hz1:=(HS.out.flat_cell F151 HYI.out (j:=1) rfl).1
   have hf1:=(HS.out.flat_cell F151 HYI.out (j:=1) rfl).2
   replace hz0:w3.cell? ⟨go,i * 2,none⟩=some _:=hz0
   replace hf0:w3.frozen? ⟨go,i * 2,none⟩=false:=hf0
   replace hz1:w3.cell? ⟨go,i * 2+1,none⟩=some _:=hz1
   replace hf1:w3.frozen? ⟨go,i * 2+1,none⟩=false:=hf1
   go_wp2_with fail
   go_roundw
   case rel=>exact⟨i+1,y.set i (cvCell x),by go_num,⟨by have h_:=of_eq_true q5;omega⟩,⟨by rw[List.length_set];exact HY.out.1,by rw[set_take y i _ (by have:=HY.out.1;have h_:=of_eq_true q5;omega),HY.out.2,List.take_add_one,HX.out];simp⟩,⟨HS.out.cell2 HYI.out (cvCell x)⟩⟩
   case measure=>have h_:=of_eq_true q5;simp only [intOf];omega
  ·have c1b:decide ((i:Int) < (l.length:Int))=false:=decide_eq_false (by omega)
   have c1c:decide (i < l.length)=false:=decide_eq_false c1
   have HE:=Aside0.mk (show y=l.map cvCell by have h_:=HY.out;rw[List.take_of_length_le (by omega),List.take_of_length_le (by omega)] at h_;exact h_.2)
   clear c1;go_wp2_with fail
   go_ret
   exact⟨v3,rfl,by rw[← HE.out];exact Kd.R_mono (HS.out.at_R 0 rfl) (fun _ _=>trivial),HS.out.below⟩
set_option maxHeartbeats 4000000 in
set_option maxRecDepth 100000 in
theorem toStringSL {A:Option Addr} {c:Nat} (l:List ByteArray) (hl:l.length≤1048576) (w:World) (hA:Kd.C Kd.string w A l.length l):Calls Tryz.prog 123 #[.slice A l.length c] w fun e w'=>∃ v,e=.returned v∧Kd.R Kd.string 9 w' w.heap.size (fun _=>True) v (l)∧Below w.heap.size w w':=by
 have HA:=Aside0.mk hA
 have HL:=Aside0.mk hl
 clear hA hl;have HS:=Aside0.mk (St.start w)
 go_enter Tryz.func123,Tryz.ntmps123
 go_wp2_with (first|((with_reducible refine gate_dst (N:=7) rfl ?_);refine Kd.R_make Kd.string _ 9 rfl (N:=7) rfl 28 _ _ rfl (l.length:Int) rfl rfl Tryz.underlying28 (.string ⟨#[]⟩) 16 info9 rfl (by decide) (by omega) (⟨#[]⟩:ByteArray) (ok:=fun _=>True) (okp:=fun _=>True) rfl (fun _ hk=>hk) trivial (by omega) (by have:=HL.out;omega) (Below.refl _ _) (Nat.le_refl _) ?_;intro v3 w2 ho hb _ _;have S:=HS.out.new_row rfl hb ho;clear ho hb;rw[Int.toNat_natCast] at S;have HS2:=Aside0.mk S;clear S))
 clear HS;go_loopw [4] (fun v4 w'=>∃ (i:Nat) (y:List ByteArray),v4=.int .i64 i∧Aside0 (i≤l.length)∧Aside0 (y.length=l.length∧y.take i=l.take i)∧Aside0 (St w w' [Part.row Kd.string 9 v3 y])) (fun v4 _=>l.length - (intOf v4).toNat)
 case atStart=>exact⟨0,_,rfl,⟨Nat.zero_le _⟩,⟨List.length_replicate,by simp⟩,HS2⟩
 case round =>
  clear HS2;obtain⟨i,y,rfl,HI,HY,HS⟩:=hrel;by_cases c1:i < l.length
  ·have c1b:decide ((i:Int) < (l.length:Int))=true:=decide_eq_true (by omega)
   have p5:(0:Int)≤(i:Int):=by omega
   have q5:(i:Int) < (l.length:Int):=by omega
   obtain⟨ad,e5,hx0⟩:=Kd.at_string (Kd.C_below HA.out HS.out.below) (i:Int) p5 q5
   cases e5
   obtain⟨x,hx⟩:∃ x,x=rdOf ByteArray.empty l (i:Int):=⟨_,rfl⟩
   rw[← hx] at hx0;rw[Int.toNat_natCast] at hx0;have HX:=Aside0.mk (show l[i]? = some x by rw[hx];rw[rdS_at l i c1];exact List.getElem?_eq_getElem c1)
   have hy:i < y.length:=by have:=HY.out.1;omega
   have HYI:=Aside0.mk (List.getElem?_eq_getElem hy)
   obtain⟨u,hu⟩:∃ u,u=y[i]:=⟨_,rfl⟩
   rw[← hu] at HYI;clear hu;obtain⟨go,co,eo,-,-,-,-⟩:=Kd.R_form (HS.out.at_R 0 rfl) (by omega)
   subst eo;have hyl:(i:Int) < (y.length:Int):=by omega
   clear c1 hx hy;have p6:i < 1048576:=by have:=HL.out;omega
   replace p5:=eq_true p5;replace q5:=eq_true q5;replace hyl:=eq_true hyl;have hz0:=(HS.out.flat_cell FS HYI.out (j:=0) rfl).1
   have hf0:=(HS.out.flat_cell FS HYI.out (j:=0) rfl).2
   replace hz0:wr.cell? ⟨go,i,none⟩=some (.string u):=by rw[← hz0,show Kd.string.sz=1 from rfl,Nat.mul_one];rfl
   replace hf0:wr.frozen? ⟨go,i,none⟩=false:=by rw[← hf0,show Kd.string.sz=1 from rfl,Nat.mul_one];rfl
   go_wp2_with fail
   go_roundw
   case rel=>exact⟨i+1,y.set i (x),by go_num,⟨by have h_:=of_eq_true q5;omega⟩,⟨by rw[List.length_set];exact HY.out.1,by rw[set_take y i _ (by have:=HY.out.1;have h_:=of_eq_true q5;omega),HY.out.2,List.take_add_one,HX.out];simp⟩,⟨HS.out.putS rfl i x⟩⟩
   case measure=>have h_:=of_eq_true q5;simp only [intOf];omega
  ·have c1b:decide ((i:Int) < (l.length:Int))=false:=decide_eq_false (by omega)
   have c1c:decide (i < l.length)=false:=decide_eq_false c1
   have HE:=Aside0.mk (show y=l by have h_:=HY.out;rw[List.take_of_length_le (by omega),List.take_of_length_le (by omega)] at h_;exact h_.2)
   clear c1;go_wp2_with fail
   go_ret
   exact⟨v3,rfl,by rw[← HE.out];exact Kd.R_mono (HS.out.at_R 0 rfl) (fun _ _=>trivial),HS.out.below⟩
set_option maxHeartbeats 4000000 in
set_option maxRecDepth 100000 in
theorem toIntSL {A:Option Addr} {c:Nat} (l:List Int) (hl:l.length≤1048576) (w:World) (hA:Kd.C (Kd.int .i64) w A l.length l):Calls Tryz.prog 124 #[.slice A l.length c] w fun e w'=>∃ v,e=.returned v∧Kd.R (Kd.int .i64) 3 w' w.heap.size (fun _=>True) v (l)∧Below w.heap.size w w':=by
 have HA:=Aside0.mk hA
 have HL:=Aside0.mk hl
 clear hA hl;have HS:=Aside0.mk (St.start w)
 go_enter Tryz.func124,Tryz.ntmps124
 go_wp2_with (first|((with_reducible refine gate_dst (N:=7) rfl ?_);refine Kd.R_make (Kd.int .i64) _ 3 rfl (N:=7) rfl 31 _ _ rfl (l.length:Int) rfl rfl Tryz.underlying31 (.int .i64 0) 8 info3 rfl (by decide) (by omega) 0 (ok:=fun _=>True) (okp:=fun _=>True) rfl (fun _ hk=>hk) trivial (by omega) (by have:=HL.out;omega) (Below.refl _ _) (Nat.le_refl _) ?_;intro v3 w2 ho hb _ _;have S:=HS.out.new_row rfl hb ho;clear ho hb;rw[Int.toNat_natCast] at S;have HS2:=Aside0.mk S;clear S))
 clear HS;go_loopw [4] (fun v4 w'=>∃ (i:Nat) (y:List Int),v4=.int .i64 i∧Aside0 (i≤l.length)∧Aside0 (y.length=l.length∧y.take i=l.take i)∧Aside0 (St w w' [Part.row (Kd.int .i64) 3 v3 y])) (fun v4 _=>l.length - (intOf v4).toNat)
 case atStart=>exact⟨0,_,rfl,⟨Nat.zero_le _⟩,⟨List.length_replicate,by simp⟩,HS2⟩
 case round =>
  clear HS2;obtain⟨i,y,rfl,HI,HY,HS⟩:=hrel;by_cases c1:i < l.length
  ·have c1b:decide ((i:Int) < (l.length:Int))=true:=decide_eq_true (by omega)
   have p5:(0:Int)≤(i:Int):=by omega
   have q5:(i:Int) < (l.length:Int):=by omega
   obtain⟨ad,e5,hx0⟩:=Kd.at_int (Kd.C_below HA.out HS.out.below) (i:Int) p5 q5
   cases e5
   obtain⟨x,hx⟩:∃ x,x=rd l (i:Int):=⟨_,rfl⟩
   rw[← hx] at hx0;rw[Int.toNat_natCast] at hx0;have HX:=Aside0.mk (show l[i]? = some x by rw[hx];rw[rd_at l i c1];exact List.getElem?_eq_getElem c1)
   have hy:i < y.length:=by have:=HY.out.1;omega
   have HYI:=Aside0.mk (List.getElem?_eq_getElem hy)
   obtain⟨u,hu⟩:∃ u,u=y[i]:=⟨_,rfl⟩
   rw[← hu] at HYI;clear hu;obtain⟨go,co,eo,-,-,-,-⟩:=Kd.R_form (HS.out.at_R 0 rfl) (by omega)
   subst eo;have hyl:(i:Int) < (y.length:Int):=by omega
   clear c1 hx hy;have p6:i < 1048576:=by have:=HL.out;omega
   replace p5:=eq_true p5;replace q5:=eq_true q5;replace hyl:=eq_true hyl;have hz0:=(HS.out.flat_cell FI HYI.out (j:=0) rfl).1
   have hf0:=(HS.out.flat_cell FI HYI.out (j:=0) rfl).2
   replace hz0:wr.cell? ⟨go,i,none⟩=some (.int .i64 u):=by rw[← hz0,show(Kd.int .i64).sz=1 from rfl,Nat.mul_one];rfl
   replace hf0:wr.frozen? ⟨go,i,none⟩=false:=by rw[← hf0,show(Kd.int .i64).sz=1 from rfl,Nat.mul_one];rfl
   go_wp2_with fail
   go_roundw
   case rel=>exact⟨i+1,y.set i (x),by go_num,⟨by have h_:=of_eq_true q5;omega⟩,⟨by rw[List.length_set];exact HY.out.1,by rw[set_take y i _ (by have:=HY.out.1;have h_:=of_eq_true q5;omega),HY.out.2,List.take_add_one,HX.out];simp⟩,⟨HS.out.putS rfl i x⟩⟩
   case measure=>have h_:=of_eq_true q5;simp only [intOf];omega
  ·have c1b:decide ((i:Int) < (l.length:Int))=false:=decide_eq_false (by omega)
   have c1c:decide (i < l.length)=false:=decide_eq_false c1
   have HE:=Aside0.mk (show y=l by have h_:=HY.out;rw[List.take_of_length_le (by omega),List.take_of_length_le (by omega)] at h_;exact h_.2)
   clear c1;go_wp2_with fail
   go_ret
   exact⟨v3,rfl,by rw[← HE.out];exact Kd.R_mono (HS.out.at_R 0 rfl) (fun _ _=>trivial),HS.out.below⟩
set_option maxHeartbeats 4000000 in
set_option maxRecDepth 100000 in
theorem toArenaL {A0:Option Addr} {c0:Nat} (l0:List S196) (s0:l0.length≤1048576) (a1:Int) (w:World) (hA0:Kd.C k196 w A0 l0.length l0):Calls Tryz.prog 46 #[.agg #[.slice A0 l0.length c0,.int .i64 a1]] w fun e w'=>∃ v0:Value,e=.returned (.agg #[v0,.int .i64 a1])∧Kd.R k94 94 w' w.heap.size (fun _=>True) v0 (l0.map cvSlot)∧Below w.heap.size w w':=by
 have HA0:=Aside0.mk hA0
 clear hA0;have HS:=Aside0.mk (St.start w)
 go_enter Tryz.func46,Tryz.ntmps46
 go_wp2_with (first|((with_reducible refine gate_dst (N:=1) rfl ?_);refine boxS HS (N:=1) (cs:=#[.slice A0 l0.length c0,.int .i64 a1]) (t:=24) fun g1 w1 S=>?_;clear HS;have HS:=Aside0.mk S;obtain⟨ha0,ha1⟩:=S.cells2 0 rfl;clear S)|((with_reducible refine gate_dst (N:=2) rfl ?_);refine boxS HS (N:=2) (cs:=#[.slice none 0 0,.int .i64 0]) (t:=42) fun g2 w2 S=>?_;clear HS ha0 ha1;have HS:=Aside0.mk S;obtain⟨hb0,hb1⟩:=S.cells2 0 rfl;obtain⟨ha0,ha1⟩:=S.cells2 1 rfl;clear S)|((with_reducible refine gate_dst (N:=3) rfl ?_);refine boxS HS (N:=3) (cs:=#[.slice none 0 0,.int .i64 0]) (t:=42) fun g3 w3 S=>?_;clear HS hb0 hb1 ha0 ha1;have HS:=Aside0.mk S;obtain⟨hc0,hc1⟩:=S.cells2 0 rfl;obtain⟨fc0,fc1⟩:=S.frozen2 0 rfl;obtain⟨hb0,hb1⟩:=S.cells2 1 rfl;obtain⟨fb0,fb1⟩:=S.frozen2 1 rfl;obtain⟨ha0,ha1⟩:=S.cells2 2 rfl;have ncb:=S.at_ne 0 1 rfl rfl (by decide);have nca:=S.at_ne 0 2 rfl rfl (by decide);have nbc:=S.at_ne 1 0 rfl rfl (by decide);have nba:=S.at_ne 1 2 rfl rfl (by decide);have nac:=S.at_ne 2 0 rfl rfl (by decide);have nab:=S.at_ne 2 1 rfl rfl (by decide);clear S))
 have S:=HS.out;clear HS;refine(toSlotSL l0 s0 _ (Kd.C_below HA0.out S.below)).mono ?_
 rintro e x0 ⟨u0,rfl,hr,hb⟩
 obtain⟨m0,hm⟩:∃ m,m=l0.map cvSlot:=⟨_,rfl⟩
 have HM0:=Aside0.mk hm
 rw[← hm] at hr;have S:=(S.new_row rfl hb hr).swap
 obtain⟨B0,d0,rfl⟩:=Kd.R_slice hr;clear hr hb hm ha0 ha1 hb0 hb1 hc0 hc1 fb0 fb1 fc0 fc1;have HS:=Aside0.mk S
 obtain⟨hc0,hc1⟩:=S.cells2 0 rfl
 obtain⟨fc0,fc1⟩:=S.frozen2 0 rfl
 obtain⟨hb0,hb1⟩:=S.cells2 2 rfl
 obtain⟨fb0,fb1⟩:=S.frozen2 2 rfl
 obtain⟨ha0,ha1⟩:=S.cells2 3 rfl
 clear S;go_wp2_with fail
 have S:=HS.out;have S:=S.put2 (Value.slice B0 m0.length d0) (Value.int .i64 a1)
 have S:=S.front 2 rfl rfl
 have S:=S.put2 (Value.slice B0 m0.length d0) (Value.int .i64 a1)
 refine bodyPost_ret (results_cell_row rfl _ _ g2 42 #[Value.slice B0 m0.length d0,Value.int .i64 a1] (0,0) _ rfl S.head.2 Tryz.underlying42 rfl (by kernel_rfl)) rfl ?_
 exact⟨Value.slice B0 m0.length d0,rfl,HM0.out ▸ Kd.R_mono (S.at_R 2 rfl) (fun _ _=>trivial),S.below⟩
set_option maxHeartbeats 4000000 in
set_option maxRecDepth 100000 in
theorem toTableL {A0:Option Addr} {c0:Nat} (l0:List S198) (s0:l0.length≤1048576) {A1:Option Addr} {c1:Nat} (l1:List S198) (s1:l1.length≤1048576) (a2:Int) (w:World) (hA0:Kd.C k198 w A0 l0.length l0) (hA1:Kd.C k198 w A1 l1.length l1):Calls Tryz.prog 47 #[.agg #[.slice A0 l0.length c0,.slice A1 l1.length c1,.int .i64 a2]] w fun e w'=>∃ v0 v1:Value,e=.returned (.agg #[v0,v1,.int .i64 a2])∧Kd.R k151 151 w' w.heap.size (fun k=>some k ≠ v1.ownBlock) v0 (l0.map cvCell)∧Kd.R k151 151 w' w.heap.size (fun k=>some k ≠ v0.ownBlock) v1 (l1.map cvCell)∧Below w.heap.size w w':=by
 have HA0:=Aside0.mk hA0
 clear hA0;have HA1:=Aside0.mk hA1
 clear hA1;have HS:=Aside0.mk (St.start w)
 go_enter Tryz.func47,Tryz.ntmps47
 go_wp2_with (first|((with_reducible refine gate_dst (N:=1) rfl ?_);refine boxS HS (N:=1) (cs:=#[.slice A0 l0.length c0,.slice A1 l1.length c1,.int .i64 a2]) (t:=27) fun g1 w1 S=>?_;clear HS;have HS:=Aside0.mk S;obtain⟨ha0,ha1,ha2⟩:=S.cells3 0 rfl;clear S)|((with_reducible refine gate_dst (N:=2) rfl ?_);refine boxS HS (N:=2) (cs:=#[.slice none 0 0,.slice none 0 0,.int .i64 0]) (t:=45) fun g2 w2 S=>?_;clear HS ha0 ha1 ha2;have HS:=Aside0.mk S;obtain⟨hb0,hb1,hb2⟩:=S.cells3 0 rfl;obtain⟨ha0,ha1,ha2⟩:=S.cells3 1 rfl;clear S)|((with_reducible refine gate_dst (N:=3) rfl ?_);refine boxS HS (N:=3) (cs:=#[.slice none 0 0,.slice none 0 0,.int .i64 0]) (t:=45) fun g3 w3 S=>?_;clear HS hb0 hb1 hb2 ha0 ha1 ha2;have HS:=Aside0.mk S;obtain⟨hc0,hc1,hc2⟩:=S.cells3 0 rfl;obtain⟨fc0,fc1,fc2⟩:=S.frozen3 0 rfl;obtain⟨hb0,hb1,hb2⟩:=S.cells3 1 rfl;obtain⟨fb0,fb1,fb2⟩:=S.frozen3 1 rfl;obtain⟨ha0,ha1,ha2⟩:=S.cells3 2 rfl;have ncb:=S.at_ne 0 1 rfl rfl (by decide);have nca:=S.at_ne 0 2 rfl rfl (by decide);have nbc:=S.at_ne 1 0 rfl rfl (by decide);have nba:=S.at_ne 1 2 rfl rfl (by decide);have nac:=S.at_ne 2 0 rfl rfl (by decide);have nab:=S.at_ne 2 1 rfl rfl (by decide);clear S))
 have S:=HS.out;clear HS;refine(toCellSL l0 s0 _ (Kd.C_below HA0.out S.below)).mono ?_
 rintro e x0 ⟨u0,rfl,hr,hb⟩
 obtain⟨m0,hm⟩:∃ m,m=l0.map cvCell:=⟨_,rfl⟩
 have HM0:=Aside0.mk hm
 rw[← hm] at hr;have S:=(S.new_row rfl hb hr).swap
 obtain⟨B0,d0,rfl⟩:=Kd.R_slice hr;clear hr hb hm ha0 ha1 ha2 hb0 hb1 hb2 hc0 hc1 hc2 fb0 fb1 fb2 fc0 fc1 fc2;have HS:=Aside0.mk S
 obtain⟨hc0,hc1,hc2⟩:=S.cells3 0 rfl
 obtain⟨fc0,fc1,fc2⟩:=S.frozen3 0 rfl
 obtain⟨hb0,hb1,hb2⟩:=S.cells3 2 rfl
 obtain⟨fb0,fb1,fb2⟩:=S.frozen3 2 rfl
 obtain⟨ha0,ha1,ha2⟩:=S.cells3 3 rfl
 clear S;go_wp2_with fail
 have S:=HS.out;have S:=S.put (cs':=#[Value.slice B0 m0.length d0,Value.slice none 0 0,Value.int .i64 0]) 0 (Value.slice B0 m0.length d0) rfl
 clear HS;refine(toCellSL l1 s1 _ (Kd.C_below HA1.out S.below)).mono ?_
 rintro e x1 ⟨u1,rfl,hr,hb⟩
 obtain⟨m1,hm⟩:∃ m,m=l1.map cvCell:=⟨_,rfl⟩
 have HM1:=Aside0.mk hm
 rw[← hm] at hr;have S:=(S.new_row rfl hb hr).swap
 obtain⟨B1,d1,rfl⟩:=Kd.R_slice hr;clear hr hb hm ha0 ha1 ha2 hb0 hb1 hb2 hc0 hc1 hc2 fb0 fb1 fb2 fc0 fc1 fc2;have HS:=Aside0.mk S
 obtain⟨hc0,hc1,hc2⟩:=S.cells3 0 rfl
 obtain⟨fc0,fc1,fc2⟩:=S.frozen3 0 rfl
 obtain⟨hb0,hb1,hb2⟩:=S.cells3 3 rfl
 obtain⟨fb0,fb1,fb2⟩:=S.frozen3 3 rfl
 obtain⟨ha0,ha1,ha2⟩:=S.cells3 4 rfl
 clear S;go_wp2_with fail
 have S:=HS.out;have S:=S.put (cs':=#[Value.slice B0 m0.length d0,Value.slice B1 m1.length d1,Value.int .i64 0]) 1 (Value.slice B1 m1.length d1) rfl
 have S:=S.put (cs':=#[Value.slice B0 m0.length d0,Value.slice B1 m1.length d1,Value.int .i64 a2]) 2 (Value.int .i64 a2) rfl
 have S:=S.front 3 rfl rfl
 have S:=S.put3 (Value.slice B0 m0.length d0) (Value.slice B1 m1.length d1) (Value.int .i64 a2)
 refine bodyPost_ret (results_cell_row rfl _ _ g2 45 #[Value.slice B0 m0.length d0,Value.slice B1 m1.length d1,Value.int .i64 a2] (0,0) _ rfl S.head.2 Tryz.underlying45 rfl (by kernel_rfl)) rfl ?_
 exact⟨Value.slice B0 m0.length d0,Value.slice B1 m1.length d1,rfl,HM0.out ▸ Kd.R_mono (S.at_R 3 rfl) (fun k hk e=>S.at_apart 3 2 rfl rfl (by decide) k hk.symm e.symm),HM1.out ▸ Kd.R_mono (S.at_R 2 rfl) (fun k hk e=>S.at_apart 2 3 rfl rfl (by decide) k hk.symm e.symm),S.below⟩
set_option maxHeartbeats 4000000 in
set_option maxRecDepth 100000 in
theorem toQueueL (a0:Int) {A1:Option Addr} {c1:Nat} (l1:List ByteArray) (s1:l1.length≤1048576) (w:World) (hA1:Kd.C Kd.string w A1 l1.length l1):Calls Tryz.prog 48 #[.agg #[.int .i64 a0,.slice A1 l1.length c1]] w fun e w'=>∃ v1:Value,e=.returned (.agg #[.int .i64 a0,v1])∧Kd.R Kd.string 9 w' w.heap.size (fun _=>True) v1 (l1)∧Below w.heap.size w w':=by
 have HA1:=Aside0.mk hA1
 clear hA1;have HS:=Aside0.mk (St.start w)
 go_enter Tryz.func48,Tryz.ntmps48
 go_wp2_with (first|((with_reducible refine gate_dst (N:=1) rfl ?_);refine boxS HS (N:=1) (cs:=#[.int .i64 a0,.slice A1 l1.length c1]) (t:=30) fun g1 w1 S=>?_;clear HS;have HS:=Aside0.mk S;obtain⟨ha0,ha1⟩:=S.cells2 0 rfl;clear S)|((with_reducible refine gate_dst (N:=2) rfl ?_);refine boxS HS (N:=2) (cs:=#[.int .i64 0,.slice none 0 0]) (t:=46) fun g2 w2 S=>?_;clear HS ha0 ha1;have HS:=Aside0.mk S;obtain⟨hb0,hb1⟩:=S.cells2 0 rfl;obtain⟨ha0,ha1⟩:=S.cells2 1 rfl;clear S)|((with_reducible refine gate_dst (N:=3) rfl ?_);refine boxS HS (N:=3) (cs:=#[.int .i64 0,.slice none 0 0]) (t:=46) fun g3 w3 S=>?_;clear HS hb0 hb1 ha0 ha1;have HS:=Aside0.mk S;obtain⟨hc0,hc1⟩:=S.cells2 0 rfl;obtain⟨fc0,fc1⟩:=S.frozen2 0 rfl;obtain⟨hb0,hb1⟩:=S.cells2 1 rfl;obtain⟨fb0,fb1⟩:=S.frozen2 1 rfl;obtain⟨ha0,ha1⟩:=S.cells2 2 rfl;have ncb:=S.at_ne 0 1 rfl rfl (by decide);have nca:=S.at_ne 0 2 rfl rfl (by decide);have nbc:=S.at_ne 1 0 rfl rfl (by decide);have nba:=S.at_ne 1 2 rfl rfl (by decide);have nac:=S.at_ne 2 0 rfl rfl (by decide);have nab:=S.at_ne 2 1 rfl rfl (by decide);clear S))
 have S:=HS.out;have S:=S.put (cs':=#[Value.int .i64 a0,Value.slice none 0 0]) 0 (Value.int .i64 a0) rfl
 clear HS;refine(toStringSL l1 s1 _ (Kd.C_below HA1.out S.below)).mono ?_
 rintro e x1 ⟨u1,rfl,hr,hb⟩
 obtain⟨m1,hm⟩:∃ m,m=l1:=⟨_,rfl⟩
 have HM1:=Aside0.mk hm
 rw[← hm] at hr;have S:=(S.new_row rfl hb hr).swap
 obtain⟨B1,d1,rfl⟩:=Kd.R_slice hr;clear hr hb hm ha0 ha1 hb0 hb1 hc0 hc1 fb0 fb1 fc0 fc1;have HS:=Aside0.mk S
 obtain⟨hc0,hc1⟩:=S.cells2 0 rfl
 obtain⟨fc0,fc1⟩:=S.frozen2 0 rfl
 obtain⟨hb0,hb1⟩:=S.cells2 2 rfl
 obtain⟨fb0,fb1⟩:=S.frozen2 2 rfl
 obtain⟨ha0,ha1⟩:=S.cells2 3 rfl
 clear S;go_wp2_with fail
 have S:=HS.out;have S:=S.put (cs':=#[Value.int .i64 a0,Value.slice B1 m1.length d1]) 1 (Value.slice B1 m1.length d1) rfl
 have S:=S.front 2 rfl rfl
 have S:=S.put2 (Value.int .i64 a0) (Value.slice B1 m1.length d1)
 refine bodyPost_ret (results_cell_row rfl _ _ g2 46 #[Value.int .i64 a0,Value.slice B1 m1.length d1] (0,0) _ rfl S.head.2 Tryz.underlying46 rfl (by kernel_rfl)) rfl ?_
 exact⟨Value.slice B1 m1.length d1,rfl,HM1.out ▸ Kd.R_mono (S.at_R 2 rfl) (fun _ _=>trivial),S.below⟩
set_option maxHeartbeats 4000000 in
set_option maxRecDepth 100000 in
theorem toSketchL {A0:Option Addr} {c0:Nat} (l0:List Int) (s0:l0.length≤1048576) (a1:Int) (w:World) (hA0:Kd.C (Kd.int .i64) w A0 l0.length l0):Calls Tryz.prog 49 #[.agg #[.slice A0 l0.length c0,.int .i64 a1]] w fun e w'=>∃ v0:Value,e=.returned (.agg #[v0,.int .i64 a1])∧Kd.R (Kd.int .i64) 3 w' w.heap.size (fun _=>True) v0 (l0)∧Below w.heap.size w w':=by
 have HA0:=Aside0.mk hA0
 clear hA0;have HS:=Aside0.mk (St.start w)
 go_enter Tryz.func49,Tryz.ntmps49
 go_wp2_with (first|((with_reducible refine gate_dst (N:=1) rfl ?_);refine boxS HS (N:=1) (cs:=#[.slice A0 l0.length c0,.int .i64 a1]) (t:=33) fun g1 w1 S=>?_;clear HS;have HS:=Aside0.mk S;obtain⟨ha0,ha1⟩:=S.cells2 0 rfl;clear S)|((with_reducible refine gate_dst (N:=2) rfl ?_);refine boxS HS (N:=2) (cs:=#[.slice none 0 0,.int .i64 0]) (t:=47) fun g2 w2 S=>?_;clear HS ha0 ha1;have HS:=Aside0.mk S;obtain⟨hb0,hb1⟩:=S.cells2 0 rfl;obtain⟨ha0,ha1⟩:=S.cells2 1 rfl;clear S)|((with_reducible refine gate_dst (N:=3) rfl ?_);refine boxS HS (N:=3) (cs:=#[.slice none 0 0,.int .i64 0]) (t:=47) fun g3 w3 S=>?_;clear HS hb0 hb1 ha0 ha1;have HS:=Aside0.mk S;obtain⟨hc0,hc1⟩:=S.cells2 0 rfl;obtain⟨fc0,fc1⟩:=S.frozen2 0 rfl;obtain⟨hb0,hb1⟩:=S.cells2 1 rfl;obtain⟨fb0,fb1⟩:=S.frozen2 1 rfl;obtain⟨ha0,ha1⟩:=S.cells2 2 rfl;have ncb:=S.at_ne 0 1 rfl rfl (by decide);have nca:=S.at_ne 0 2 rfl rfl (by decide);have nbc:=S.at_ne 1 0 rfl rfl (by decide);have nba:=S.at_ne 1 2 rfl rfl (by decide);have nac:=S.at_ne 2 0 rfl rfl (by decide);have nab:=S.at_ne 2 1 rfl rfl (by decide);clear S))
 have S:=HS.out;clear HS;refine(toIntSL l0 s0 _ (Kd.C_below HA0.out S.below)).mono ?_
 rintro e x0 ⟨u0,rfl,hr,hb⟩
 obtain⟨m0,hm⟩:∃ m,m=l0:=⟨_,rfl⟩
 have HM0:=Aside0.mk hm
 rw[← hm] at hr;have S:=(S.new_row rfl hb hr).swap
 obtain⟨B0,d0,rfl⟩:=Kd.R_slice hr;clear hr hb hm ha0 ha1 hb0 hb1 hc0 hc1 fb0 fb1 fc0 fc1;have HS:=Aside0.mk S
 obtain⟨hc0,hc1⟩:=S.cells2 0 rfl
 obtain⟨fc0,fc1⟩:=S.frozen2 0 rfl
 obtain⟨hb0,hb1⟩:=S.cells2 2 rfl
 obtain⟨fb0,fb1⟩:=S.frozen2 2 rfl
 obtain⟨ha0,ha1⟩:=S.cells2 3 rfl
 clear S;go_wp2_with fail
 have S:=HS.out;have S:=S.put2 (Value.slice B0 m0.length d0) (Value.int .i64 a1)
 have S:=S.front 2 rfl rfl
 have S:=S.put2 (Value.slice B0 m0.length d0) (Value.int .i64 a1)
 refine bodyPost_ret (results_cell_row rfl _ _ g2 47 #[Value.slice B0 m0.length d0,Value.int .i64 a1] (0,0) _ rfl S.head.2 Tryz.underlying47 rfl (by kernel_rfl)) rfl ?_
 exact⟨Value.slice B0 m0.length d0,rfl,HM0.out ▸ Kd.R_mono (S.at_R 2 rfl) (fun _ _=>trivial),S.below⟩
set_option maxHeartbeats 4000000 in
set_option maxRecDepth 100000 in
theorem toDoorL (a0:Int) (w:World) :Calls Tryz.prog 50 #[.agg #[.int .i64 a0]] w fun e w'=>e=.returned (.agg #[.int .i64 a0])∧Below w.heap.size w w':=by
 have HS:=Aside0.mk (St.start w)
 go_enter Tryz.func50,Tryz.ntmps50
 go_wp2_with (first|((with_reducible refine gate_dst (N:=1) rfl ?_);refine boxS HS (N:=1) (cs:=#[.int .i64 a0]) (t:=35) fun g1 w1 S=>?_;clear HS;have HS:=Aside0.mk S;have ha0:=S.at_cell 0 rfl 0 rfl;clear S)|((with_reducible refine gate_dst (N:=2) rfl ?_);refine boxS HS (N:=2) (cs:=#[.int .i64 0]) (t:=48) fun g2 w2 S=>?_;clear HS ha0;have HS:=Aside0.mk S;have hb0:=S.at_cell 0 rfl 0 rfl;have ha0:=S.at_cell 1 rfl 0 rfl;clear S)|((with_reducible refine gate_dst (N:=3) rfl ?_);refine boxS HS (N:=3) (cs:=#[.int .i64 0]) (t:=48) fun g3 w3 S=>?_;clear HS hb0 ha0;have HS:=Aside0.mk S;have hc0:=S.at_cell 0 rfl 0 rfl;have fc0:=S.at_frozen 0 rfl 0;have hb0:=S.at_cell 1 rfl 0 rfl;have fb0:=S.at_frozen 1 rfl 0;have ha0:=S.at_cell 2 rfl 0 rfl;have ncb:=S.at_ne 0 1 rfl rfl (by decide);have nca:=S.at_ne 0 2 rfl rfl (by decide);have nbc:=S.at_ne 1 0 rfl rfl (by decide);have nba:=S.at_ne 1 2 rfl rfl (by decide);have nac:=S.at_ne 2 0 rfl rfl (by decide);have nab:=S.at_ne 2 1 rfl rfl (by decide);clear S))
 have S:=HS.out;have S:=S.put (cs':=#[Value.int .i64 a0]) 0 (Value.int .i64 a0) rfl
 have S:=S.front 1 rfl rfl
 have S:=S.put (cs':=#[Value.int .i64 a0]) 0 (Value.int .i64 a0) rfl
 refine bodyPost_ret (results_cell_row rfl _ _ g2 48 #[Value.int .i64 a0] (0,0) _ rfl S.head.2 Tryz.underlying48 rfl (by kernel_rfl)) rfl ?_
 exact⟨rfl,S.below⟩
theorem St.new_two {w0 w w':World} {ps:List Part} {α β:Type} {d:Kd α} {d':Kd β} {e e':Nat} {ok ok':Nat→Prop} {v u:Value} {xs:List α} {ys:List β} (hE:d.E = []) (hE':d'.E = []) (h:St w0 w ps) (hb:Below w.heap.size w w')
  (hr:d.R e w' w.heap.size ok v xs) (hr':d'.R e' w' w.heap.size ok' u ys) (hne:∀ k,v.ownBlock=some k→some k ≠ u.ownBlock):St w0 w' (Part.row d e v xs :: Part.row d' e' u ys :: ps):=by
 have h1:=h.new_row hE hb hr
 have h2:=h.new_row hE' hb hr'
 refine⟨h1.below,fun q hq=>?_,List.pairwise_cons.2 ⟨fun q hq k hk hq'=>?_,h2.apart⟩⟩
 ·rcases List.mem_cons.1 hq with rfl|hq
  ·exact h1.head
  ·exact h2.all q hq
 ·rcases List.mem_cons.1 hq with rfl|hq
  ·exact hne k hk (Eq.symm hq')
  ·exact h1.away q hq k hk hq'
set_option maxHeartbeats 4000000 in
set_option maxRecDepth 100000 in
theorem toNearS (w:World) (v:NV) (n:Lr) (hn:n.few) (hC:LrC w v n) :
  Calls Tryz.prog 14 #[.agg (v.cellsL n)] w fun e w'=>∃ u:NV,e=.returned (.agg (u.cells n.to))∧St w w' (u.rows n.to):=by
 obtain⟨A0,c0,A2,c2,A3,c3,A6,c6,A8,c8,A10,c10,A11,c11,rfl,hF⟩:=hC.open_;have HF:=Aside0.mk hF
 clear hC hF;dsimp only [NV.cellsL]
 have HS:=Aside0.mk (St.start w)
 have HN:=Aside0.mk hn
 clear hn;have HS0:=HS;clear HS;go_enter Tryz.func14,Tryz.ntmps14
 go_wp2_with (first|((with_reducible refine gate_dst (N:=1) rfl ?_);refine box_event ?hg (N:=1) ?hd (cs:=#[Value.slice A0 n.sl.length c0,Value.int .i64 n.fr,Value.slice A2 n.ce.length c2,Value.slice A3 n.old.length c3,Value.int .i64 n.mv,Value.int .i64 n.wm,Value.slice A6 n.wk.length c6,Value.int .i64 n.tm,Value.slice A8 n.tk.length c8,Value.int .i64 n.sm,Value.slice A10 n.sk.length c10,Value.slice A11 n.ct.length c11,Value.int .i64 n.ad,Value.int .i64 n.db]) (t:=37) ?hr ?_;(case hd=>rfl);(case hg=>rfl);(case hr=>first|(go_simp;done)|(go_simp;rfl));intro g1 hg w1 hbox hb;have S:=HS0.out.new_blk hb (Nat.le_of_eq hg.symm) hbox;clear hb hbox hg;have HS1:=Aside0.mk S;clear S)|((with_reducible refine gate_dst (N:=2) rfl ?_);refine box_event ?hg (N:=2) ?hd (cs:=#[Value.slice none 0 0,Value.int .i64 0,Value.slice none 0 0,Value.slice none 0 0,Value.int .i64 0,Value.int .i64 0,Value.slice none 0 0,Value.int .i64 0,Value.slice none 0 0,Value.int .i64 0,Value.slice none 0 0,Value.slice none 0 0,Value.int .i64 0,Value.int .i64 0]) (t:=50) ?hr ?_;(case hd=>rfl);(case hg=>rfl);(case hr=>first|(go_simp;done)|(go_simp;rfl));intro g2 hg w2 hbox hb;have S:=HS1.out.new_blk hb (Nat.le_of_eq hg.symm) hbox;clear hb hbox hg;have HS2:=Aside0.mk S;clear S)|((with_reducible refine gate_dst (N:=3) rfl ?_);refine box_event ?hg (N:=3) ?hd (cs:=#[Value.slice none 0 0,Value.int .i64 0,Value.slice none 0 0,Value.slice none 0 0,Value.int .i64 0,Value.int .i64 0,Value.slice none 0 0,Value.int .i64 0,Value.slice none 0 0,Value.int .i64 0,Value.slice none 0 0,Value.slice none 0 0,Value.int .i64 0,Value.int .i64 0]) (t:=50) ?hr ?_;(case hd=>rfl);(case hg=>rfl);(case hr=>first|(go_simp;done)|(go_simp;rfl));intro g3 hg w3 hbox hb;have S:=HS2.out.new_blk hb (Nat.le_of_eq hg.symm) hbox;clear hb hbox hg;have HS3:=Aside0.mk S;obtain⟨hc0,hc1⟩:=S.cells2 2 rfl;have ne1:=S.at_ne 0 2 rfl rfl (by decide);have ne2:=S.at_ne 2 0 rfl rfl (by decide);have ne3:=S.at_ne 0 1 rfl rfl (by decide);have ne4:=S.at_ne 1 0 rfl rfl (by decide);clear S))
 obtain⟨s0,hs0⟩:∃ q,q=n.sl.map cvSlot:=⟨_,rfl⟩
 obtain⟨s2,hs2⟩:∃ q,q=n.ce.map cvCell:=⟨_,rfl⟩
 obtain⟨s3,hs3⟩:∃ q,q=n.old.map cvCell:=⟨_,rfl⟩
 have HT:=Aside0.mk (show n.to=⟨s0,n.fr,s2,s3,n.mv,n.wm,n.wk,n.tm,n.tk,n.sm,n.sk,n.ct,n.ad,n.db⟩ by rw[hs0,hs2,hs3];rfl)
 have HS:=HS3;clear HS3 HS2 HS1 HS0;have hbb:=HS.out.below;refine(toArenaL n.sl HN.out.s0 n.fr _ (HF.out.below hbb).h0).mono ?_
 rintro e x0 ⟨u0,rfl,hr,hb⟩
 rw[← hs0] at hr;clear hs0;have S:=HS.out.new_row rfl hb hr
 have S:=S.front 1 rfl rfl
 obtain⟨B0,d0,rfl⟩:=Kd.R_slice hr;clear HS hb hbb hr hc0 hc1;have HS:=Aside0.mk S
 have hc2:=S.at_cell 3 rfl 2 rfl
 have hc3:=S.at_cell 3 rfl 3 rfl
 have hc4:=S.at_cell 3 rfl 4 rfl
 obtain⟨hz0,hz1⟩:=S.cells2 0 rfl
 obtain⟨hf0,hf1⟩:=S.frozen2 0 rfl
 clear S;go_wp2_with fail
 have S:=((HS.out.put (cs':=#[Value.slice B0 s0.length d0,Value.int .i64 0,Value.slice none 0 0,Value.slice none 0 0,Value.int .i64 0,Value.int .i64 0,Value.slice none 0 0,Value.int .i64 0,Value.slice none 0 0,Value.int .i64 0,Value.slice none 0 0,Value.slice none 0 0,Value.int .i64 0,Value.int .i64 0]) 0 (Value.slice B0 s0.length d0) rfl).put (cs':=#[Value.slice B0 s0.length d0,Value.int .i64 n.fr,Value.slice none 0 0,Value.slice none 0 0,Value.int .i64 0,Value.int .i64 0,Value.slice none 0 0,Value.int .i64 0,Value.slice none 0 0,Value.int .i64 0,Value.slice none 0 0,Value.slice none 0 0,Value.int .i64 0,Value.int .i64 0]) 1 (Value.int .i64 n.fr) rfl)
 clear HS hf0 hz0 hf1 hz1;have HS:=Aside0.mk S
 clear S;have hbb:=HS.out.below;refine(toTableL n.ce HN.out.s2 n.old HN.out.s3 n.mv _ (HF.out.below hbb).h2 (HF.out.below hbb).h3).mono ?_
 rintro e x1 ⟨u2,u3,rfl,hr,hr2,hb⟩
 rw[← hs2] at hr;rw[← hs3] at hr2;clear hs2 hs3;have S:=HS.out.new_two rfl rfl hb hr2 hr (fun k hk=>hr2.1 k hk)
 have S:=S.front 2 rfl rfl
 obtain⟨B2,d2,rfl⟩:=Kd.R_slice hr;obtain⟨B3,d3,rfl⟩:=Kd.R_slice hr2;clear HS hb hbb hr hr2 hc2 hc3 hc4;have HS:=Aside0.mk S
 have hc5:=S.at_cell 5 rfl 5 rfl
 have hc6:=S.at_cell 5 rfl 6 rfl
 have hz2:=S.at_cell 0 rfl 2 rfl
 have hz3:=S.at_cell 0 rfl 3 rfl
 have hz4:=S.at_cell 0 rfl 4 rfl
 have hf2:=S.at_frozen 0 rfl 2
 have hf3:=S.at_frozen 0 rfl 3
 have hf4:=S.at_frozen 0 rfl 4
 clear S;go_wp2_with fail
 have S:=(((HS.out.put (cs':=#[Value.slice B0 s0.length d0,Value.int .i64 n.fr,Value.slice B2 s2.length d2,Value.slice none 0 0,Value.int .i64 0,Value.int .i64 0,Value.slice none 0 0,Value.int .i64 0,Value.slice none 0 0,Value.int .i64 0,Value.slice none 0 0,Value.slice none 0 0,Value.int .i64 0,Value.int .i64 0]) 2 (Value.slice B2 s2.length d2) rfl).put (cs':=#[Value.slice B0 s0.length d0,Value.int .i64 n.fr,Value.slice B2 s2.length d2,Value.slice B3 s3.length d3,Value.int .i64 0,Value.int .i64 0,Value.slice none 0 0,Value.int .i64 0,Value.slice none 0 0,Value.int .i64 0,Value.slice none 0 0,Value.slice none 0 0,Value.int .i64 0,Value.int .i64 0]) 3 (Value.slice B3 s3.length d3) rfl).put (cs':=#[Value.slice B0 s0.length d0,Value.int .i64 n.fr,Value.slice B2 s2.length d2,Value.slice B3 s3.length d3,Value.int .i64 n.mv,Value.int .i64 0,Value.slice none 0 0,Value.int .i64 0,Value.slice none 0 0,Value.int .i64 0,Value.slice none 0 0,Value.slice none 0 0,Value.int .i64 0,Value.int .i64 0]) 4 (Value.int .i64 n.mv) rfl)
 clear HS hf2 hz2 hf3 hz3 hf4 hz4;have HS:=Aside0.mk S
 clear S;have hbb:=HS.out.below;refine(toQueueL n.wm n.wk HN.out.s6 _ (HF.out.below hbb).h6).mono ?_
 rintro e x2 ⟨u6,rfl,hr,hb⟩
 have S:=HS.out.new_row rfl hb hr
 have S:=S.front 1 rfl rfl
 obtain⟨B6,d6,rfl⟩:=Kd.R_slice hr;clear HS hb hbb hr hc5 hc6;have HS:=Aside0.mk S
 have hc7:=S.at_cell 6 rfl 7 rfl
 have hc8:=S.at_cell 6 rfl 8 rfl
 have hz5:=S.at_cell 0 rfl 5 rfl
 have hz6:=S.at_cell 0 rfl 6 rfl
 have hf5:=S.at_frozen 0 rfl 5
 have hf6:=S.at_frozen 0 rfl 6
 clear S;go_wp2_with fail
 have S:=((HS.out.put (cs':=#[Value.slice B0 s0.length d0,Value.int .i64 n.fr,Value.slice B2 s2.length d2,Value.slice B3 s3.length d3,Value.int .i64 n.mv,Value.int .i64 n.wm,Value.slice none 0 0,Value.int .i64 0,Value.slice none 0 0,Value.int .i64 0,Value.slice none 0 0,Value.slice none 0 0,Value.int .i64 0,Value.int .i64 0]) 5 (Value.int .i64 n.wm) rfl).put (cs':=#[Value.slice B0 s0.length d0,Value.int .i64 n.fr,Value.slice B2 s2.length d2,Value.slice B3 s3.length d3,Value.int .i64 n.mv,Value.int .i64 n.wm,Value.slice B6 n.wk.length d6,Value.int .i64 0,Value.slice none 0 0,Value.int .i64 0,Value.slice none 0 0,Value.slice none 0 0,Value.int .i64 0,Value.int .i64 0]) 6 (Value.slice B6 n.wk.length d6) rfl)
 clear HS hf5 hz5 hf6 hz6;have HS:=Aside0.mk S
 clear S;have hbb:=HS.out.below;refine(toQueueL n.tm n.tk HN.out.s8 _ (HF.out.below hbb).h8).mono ?_
 rintro e x3 ⟨u8,rfl,hr,hb⟩
 have S:=HS.out.new_row rfl hb hr
 have S:=S.front 1 rfl rfl
 obtain⟨B8,d8,rfl⟩:=Kd.R_slice hr;clear HS hb hbb hr hc7 hc8;have HS:=Aside0.mk S
 have hc9:=S.at_cell 7 rfl 9 rfl
 have hc10:=S.at_cell 7 rfl 10 rfl
 have hz7:=S.at_cell 0 rfl 7 rfl
 have hz8:=S.at_cell 0 rfl 8 rfl
 have hf7:=S.at_frozen 0 rfl 7
 have hf8:=S.at_frozen 0 rfl 8
 clear S;go_wp2_with fail
 have S:=((HS.out.put (cs':=#[Value.slice B0 s0.length d0,Value.int .i64 n.fr,Value.slice B2 s2.length d2,Value.slice B3 s3.length d3,Value.int .i64 n.mv,Value.int .i64 n.wm,Value.slice B6 n.wk.length d6,Value.int .i64 n.tm,Value.slice none 0 0,Value.int .i64 0,Value.slice none 0 0,Value.slice none 0 0,Value.int .i64 0,Value.int .i64 0]) 7 (Value.int .i64 n.tm) rfl).put (cs':=#[Value.slice B0 s0.length d0,Value.int .i64 n.fr,Value.slice B2 s2.length d2,Value.slice B3 s3.length d3,Value.int .i64 n.mv,Value.int .i64 n.wm,Value.slice B6 n.wk.length d6,Value.int .i64 n.tm,Value.slice B8 n.tk.length d8,Value.int .i64 0,Value.slice none 0 0,Value.slice none 0 0,Value.int .i64 0,Value.int .i64 0]) 8 (Value.slice B8 n.tk.length d8) rfl)
 clear HS hf7 hz7 hf8 hz8;have HS:=Aside0.mk S
 clear S;have hbb:=HS.out.below;refine(toQueueL n.sm n.sk HN.out.s10 _ (HF.out.below hbb).h10).mono ?_
 rintro e x4 ⟨u10,rfl,hr,hb⟩
 have S:=HS.out.new_row rfl hb hr
 have S:=S.front 1 rfl rfl
 obtain⟨B10,d10,rfl⟩:=Kd.R_slice hr;clear HS hb hbb hr hc9 hc10;have HS:=Aside0.mk S
 have hc11:=S.at_cell 8 rfl 11 rfl
 have hc12:=S.at_cell 8 rfl 12 rfl
 have hz9:=S.at_cell 0 rfl 9 rfl
 have hz10:=S.at_cell 0 rfl 10 rfl
 have hf9:=S.at_frozen 0 rfl 9
 have hf10:=S.at_frozen 0 rfl 10
 clear S;go_wp2_with fail
 have S:=((HS.out.put (cs':=#[Value.slice B0 s0.length d0,Value.int .i64 n.fr,Value.slice B2 s2.length d2,Value.slice B3 s3.length d3,Value.int .i64 n.mv,Value.int .i64 n.wm,Value.slice B6 n.wk.length d6,Value.int .i64 n.tm,Value.slice B8 n.tk.length d8,Value.int .i64 n.sm,Value.slice none 0 0,Value.slice none 0 0,Value.int .i64 0,Value.int .i64 0]) 9 (Value.int .i64 n.sm) rfl).put (cs':=#[Value.slice B0 s0.length d0,Value.int .i64 n.fr,Value.slice B2 s2.length d2,Value.slice B3 s3.length d3,Value.int .i64 n.mv,Value.int .i64 n.wm,Value.slice B6 n.wk.length d6,Value.int .i64 n.tm,Value.slice B8 n.tk.length d8,Value.int .i64 n.sm,Value.slice B10 n.sk.length d10,Value.slice none 0 0,Value.int .i64 0,Value.int .i64 0]) 10 (Value.slice B10 n.sk.length d10) rfl)
 clear HS hf9 hz9 hf10 hz10;have HS:=Aside0.mk S
 clear S;have hbb:=HS.out.below;refine(toSketchL n.ct HN.out.s11 n.ad _ (HF.out.below hbb).h11).mono ?_
 rintro e x5 ⟨u11,rfl,hr,hb⟩
 have S:=HS.out.new_row rfl hb hr
 have S:=S.front 1 rfl rfl
 obtain⟨B11,d11,rfl⟩:=Kd.R_slice hr;clear HS hb hbb hr hc11 hc12;have HS:=Aside0.mk S
 have hc13:=S.at_cell 9 rfl 13 rfl
 have hz11:=S.at_cell 0 rfl 11 rfl
 have hz12:=S.at_cell 0 rfl 12 rfl
 have hf11:=S.at_frozen 0 rfl 11
 have hf12:=S.at_frozen 0 rfl 12
 clear S;go_wp2_with fail
 have S:=((HS.out.put (cs':=#[Value.slice B0 s0.length d0,Value.int .i64 n.fr,Value.slice B2 s2.length d2,Value.slice B3 s3.length d3,Value.int .i64 n.mv,Value.int .i64 n.wm,Value.slice B6 n.wk.length d6,Value.int .i64 n.tm,Value.slice B8 n.tk.length d8,Value.int .i64 n.sm,Value.slice B10 n.sk.length d10,Value.slice B11 n.ct.length d11,Value.int .i64 0,Value.int .i64 0]) 11 (Value.slice B11 n.ct.length d11) rfl).put (cs':=#[Value.slice B0 s0.length d0,Value.int .i64 n.fr,Value.slice B2 s2.length d2,Value.slice B3 s3.length d3,Value.int .i64 n.mv,Value.int .i64 n.wm,Value.slice B6 n.wk.length d6,Value.int .i64 n.tm,Value.slice B8 n.tk.length d8,Value.int .i64 n.sm,Value.slice B10 n.sk.length d10,Value.slice B11 n.ct.length d11,Value.int .i64 n.ad,Value.int .i64 0]) 12 (Value.int .i64 n.ad) rfl)
 clear HS hf11 hz11 hf12 hz12;have HS:=Aside0.mk S
 clear S;have hbb:=HS.out.below;refine(toDoorL n.db _).mono ?_
 rintro e x6 ⟨rfl,hb⟩
 have S:=HS.out.step hb
 clear HS hb hbb hc13;have HS:=Aside0.mk S
 obtain⟨hz0,hz1,hz2,hz3,hz4,hz5,hz6,hz7,hz8,hz9,hz10,hz11,hz12,hz13⟩:=S.cells14 0 rfl
 have hf13:=S.at_frozen 0 rfl 13
 obtain⟨hy0,hy1,hy2,hy3,hy4,hy5,hy6,hy7,hy8,hy9,hy10,hy11,hy12,hy13⟩:=S.cells14 8 rfl
 obtain⟨hg0,hg1,hg2,hg3,hg4,hg5,hg6,hg7,hg8,hg9,hg10,hg11,hg12,hg13⟩:=S.frozen14 8 rfl
 clear S;go_wp2_with fail
 have S:=HS.out.put (cs':=#[Value.slice B0 s0.length d0,Value.int .i64 n.fr,Value.slice B2 s2.length d2,Value.slice B3 s3.length d3,Value.int .i64 n.mv,Value.int .i64 n.wm,Value.slice B6 n.wk.length d6,Value.int .i64 n.tm,Value.slice B8 n.tk.length d8,Value.int .i64 n.sm,Value.slice B10 n.sk.length d10,Value.slice B11 n.ct.length d11,Value.int .i64 n.ad,Value.int .i64 n.db]) 13 (Value.int .i64 n.db) rfl
 have S:=S.front 8 rfl rfl
 have S:=S.put14 (Value.slice B0 s0.length d0) (Value.int .i64 n.fr) (Value.slice B2 s2.length d2) (Value.slice B3 s3.length d3) (Value.int .i64 n.mv) (Value.int .i64 n.wm) (Value.slice B6 n.wk.length d6) (Value.int .i64 n.tm) (Value.slice B8 n.tk.length d8) (Value.int .i64 n.sm) (Value.slice B10 n.sk.length d10) (Value.slice B11 n.ct.length d11) (Value.int .i64 n.ad) (Value.int .i64 n.db)
 refine bodyPost_ret (results_cell_row rfl _ _ g2 50 #[Value.slice B0 s0.length d0,Value.int .i64 n.fr,Value.slice B2 s2.length d2,Value.slice B3 s3.length d3,Value.int .i64 n.mv,Value.int .i64 n.wm,Value.slice B6 n.wk.length d6,Value.int .i64 n.tm,Value.slice B8 n.tk.length d8,Value.int .i64 n.sm,Value.slice B10 n.sk.length d10,Value.slice B11 n.ct.length d11,Value.int .i64 n.ad,Value.int .i64 n.db] (0,0) _ rfl S.head.2 Tryz.underlying50 rfl (by kernel_rfl)) rfl ?_
 have S:=S.tail;have S:=(S.front 0 rfl rfl).tail
 have S:=(S.front 7 rfl rfl).tail
 refine⟨⟨Value.slice B0 s0.length d0,Value.slice B2 s2.length d2,Value.slice B3 s3.length d3,Value.slice B6 n.wk.length d6,Value.slice B8 n.tk.length d8,Value.slice B10 n.sk.length d10,Value.slice B11 n.ct.length d11⟩,by rw[HT.out];rfl,?_⟩
 rw[HT.out]
 exact S.perm (List.reverse_perm [Part.row k94 94 (Value.slice B0 s0.length d0) s0,Part.row k151 151 (Value.slice B2 s2.length d2) s2,Part.row k151 151 (Value.slice B3 s3.length d3) s3,Part.row Kd.string 9 (Value.slice B6 n.wk.length d6) n.wk,Part.row Kd.string 9 (Value.slice B8 n.tk.length d8) n.tk,Part.row Kd.string 9 (Value.slice B10 n.sk.length d10) n.sk,Part.row (Kd.int .i64) 3 (Value.slice B11 n.ct.length d11) n.ct]).symm
set_option maxHeartbeats 4000000 in
set_option maxRecDepth 100000 in
theorem eqSlotL (x:S94) (w:World):Calls Tryz.prog 207 #[.agg #[.int .i64 x.f0,.bool x.f1,.string x.f2,.string x.f3,.int .i64 x.f4],.agg #[.int .i64 x.f0,.bool x.f1,.string x.f2,.string x.f3,.int .i64 x.f4]] w fun e w'=>e=.returned (.bool true)∧Below w.heap.size w w':=by
 have HS:=Aside0.mk (St.start w)
 go_enter Tryz.func207,Tryz.ntmps207
 go_wp2_with (first|((with_reducible refine gate_dst (N:=2) rfl ?_);refine boxS HS (N:=2) (cs:=#[.int .i64 x.f0,.bool x.f1,.string x.f2,.string x.f3,.int .i64 x.f4]) (t:=94) fun g2 w2 S=>?_;clear HS;have HS:=Aside0.mk S;obtain⟨hc2_0,hc2_1,hc2_2,hc2_3,hc2_4⟩:=S.cells5 0 rfl;clear S)|((with_reducible refine gate_dst (N:=3) rfl ?_);refine boxS HS (N:=3) (cs:=#[.int .i64 x.f0,.bool x.f1,.string x.f2,.string x.f3,.int .i64 x.f4]) (t:=94) fun g3 w3 S=>?_;clear HS hc2_0 hc2_1 hc2_2 hc2_3 hc2_4;have HS:=Aside0.mk S;obtain⟨hc3_0,hc3_1,hc3_2,hc3_3,hc3_4⟩:=S.cells5 0 rfl;obtain⟨hc2_0,hc2_1,hc2_2,hc2_3,hc2_4⟩:=S.cells5 1 rfl;clear S))
 go_ret
 exact⟨rfl,HS.out.below⟩
set_option maxHeartbeats 4000000 in
set_option maxRecDepth 100000 in
theorem eqCellL (x:S151) (w:World):Calls Tryz.prog 208 #[.agg #[.string x.f0,.int .i64 x.f1],.agg #[.string x.f0,.int .i64 x.f1]] w fun e w'=>e=.returned (.bool true)∧Below w.heap.size w w':=by
 have HS:=Aside0.mk (St.start w)
 go_enter Tryz.func208,Tryz.ntmps208
 go_wp2_with (first|((with_reducible refine gate_dst (N:=2) rfl ?_);refine boxS HS (N:=2) (cs:=#[.string x.f0,.int .i64 x.f1]) (t:=151) fun g2 w2 S=>?_;clear HS;have HS:=Aside0.mk S;obtain⟨hc2_0,hc2_1⟩:=S.cells2 0 rfl;clear S)|((with_reducible refine gate_dst (N:=3) rfl ?_);refine boxS HS (N:=3) (cs:=#[.string x.f0,.int .i64 x.f1]) (t:=151) fun g3 w3 S=>?_;clear HS hc2_0 hc2_1;have HS:=Aside0.mk S;obtain⟨hc3_0,hc3_1⟩:=S.cells2 0 rfl;obtain⟨hc2_0,hc2_1⟩:=S.cells2 1 rfl;clear S))
 go_ret
 exact⟨rfl,HS.out.below⟩
set_option maxHeartbeats 4000000 in
set_option maxRecDepth 100000 in
theorem eqSlotSL {A B:Option Addr} {c d:Nat} (l:List S94) (hl:l.length≤1048576) (w:World) (hA:Kd.C k94 w A l.length l) (hB:Kd.C k94 w B l.length l):Calls Tryz.prog 136 #[.slice A l.length c,.slice B l.length d] w fun e w'=>e=.returned (.bool true)∧Below w.heap.size w w':=by
 have hu:=Tryz.underlying94;have HA:=Aside0.mk hA
 have HB:=Aside0.mk hB
 have HL:=Aside0.mk hl
 clear hA hB hl;have HW:=Aside0.mk (Below.refl w.heap.size w)
 go_enter Tryz.func136,Tryz.ntmps136
 go_wp2_with fail
 go_loopw [5] (fun v5 w'=>∃ i:Nat,v5=.int .i64 i∧Aside0 (i≤l.length)∧Aside0 (Below w.heap.size w w')) (fun v5 _=>l.length - (intOf v5).toNat)
 case atStart=>exact⟨0,rfl,⟨Nat.zero_le _⟩,⟨by first|exact HW.out|exact HW.out.drew|exact(HW.out.drew).drew⟩⟩
 case round =>
  clear HW;obtain⟨i,rfl,HI,HW⟩:=hrel;by_cases c1:i < l.length
  ·have c1b:decide ((i:Int) < (l.length:Int))=true:=decide_eq_true (by omega)
   have p5:(0:Int)≤(i:Int):=by omega
   have q5:(i:Int) < (l.length:Int):=by omega
   obtain⟨ad,e5,hx0,hx1,hx2,hx3,hx4⟩:=at_T94 HA.out (i:Int) p5 q5
   cases e5
   obtain⟨bd,e5,hy0,hy1,hy2,hy3,hy4⟩:=at_T94 HB.out (i:Int) p5 q5
   cases e5
   generalize rd_T94 l (i:Int)=x at hx0 hy0 hx1 hy1 hx2 hy2 hx3 hy3 hx4 hy4
   rw[Int.toNat_natCast] at hx0 hy0 hx1 hy1 hx2 hy2 hx3 hy3 hx4 hy4
   replace hx0:=fun (p:WSt w [])=>p.old hx0
   replace hy0:=fun (p:WSt w [])=>p.old hy0
   replace hx1:=fun (p:WSt w [])=>p.old hx1
   replace hy1:=fun (p:WSt w [])=>p.old hy1
   replace hx2:=fun (p:WSt w [])=>p.old hx2
   replace hy2:=fun (p:WSt w [])=>p.old hy2
   replace hx3:=fun (p:WSt w [])=>p.old hx3
   replace hy3:=fun (p:WSt w [])=>p.old hy3
   replace hx4:=fun (p:WSt w [])=>p.old hx4
   replace hy4:=fun (p:WSt w [])=>p.old hy4
   have hne:Nonempty (WSt w []):=⟨⟨w,St.start w⟩⟩
   clear c1;replace p5:=eq_true p5;replace q5:=eq_true q5;have p6:i < 1048576:=by have:=HL.out;have h_:=of_eq_true q5;omega
   go_wp2_with fail
   refine wp_region_quietL (C:=fun w'=>∃ p:WSt w [],w'=p.w') (by kernel_rfl) (by kernel_rfl) ⟨⟨_,⟨HW.out.drew,by simp,List.Pairwise.nil⟩⟩,rfl⟩ ?_
   repeat(go_big_quiet_step ((go_at_call 207;refine(eqSlotL x _).mono ?_;rintro e w2 ⟨rfl,hb⟩;exact⟨rfl,WSt.on _ hb⟩)))
   refine wpQuiet_nil ?_
   rintro w9 ⟨⟨w9,S⟩,rfl⟩
   have HW2:=Aside0.mk S.below
   clear S HW hx0 hy0 hx1 hy1 hx2 hy2 hx3 hy3 hx4 hy4;go_wp2_with fail
   go_roundw
   case rel=>exact⟨i+1,by go_num,⟨by have h_:=of_eq_true q5;omega⟩,⟨by first|exact HW2.out|exact HW2.out.drew|exact(HW2.out.drew).drew⟩⟩
   case measure=>have h_:=of_eq_true q5;simp only [intOf];omega
  ·have c1b:decide ((i:Int) < (l.length:Int))=false:=decide_eq_false (by omega)
   have c1c:decide (i < l.length)=false:=decide_eq_false c1
   clear c1;go_wp2_with fail
   go_ret
   exact⟨rfl,by first|exact HW.out|exact HW.out.drew|exact(HW.out.drew).drew⟩
set_option maxHeartbeats 4000000 in
set_option maxRecDepth 100000 in
theorem eqCellSL {A B:Option Addr} {c d:Nat} (l:List S151) (hl:l.length≤1048576) (w:World) (hA:Kd.C k151 w A l.length l) (hB:Kd.C k151 w B l.length l):Calls Tryz.prog 137 #[.slice A l.length c,.slice B l.length d] w fun e w'=>e=.returned (.bool true)∧Below w.heap.size w w':=by
 have hu:=Tryz.underlying151;have HA:=Aside0.mk hA
 have HB:=Aside0.mk hB
 have HL:=Aside0.mk hl
 clear hA hB hl;have HW:=Aside0.mk (Below.refl w.heap.size w)
 go_enter Tryz.func137,Tryz.ntmps137
 go_wp2_with fail
 go_loopw [5] (fun v5 w'=>∃ i:Nat,v5=.int .i64 i∧Aside0 (i≤l.length)∧Aside0 (Below w.heap.size w w')) (fun v5 _=>l.length - (intOf v5).toNat)
 case atStart=>exact⟨0,rfl,⟨Nat.zero_le _⟩,⟨by first|exact HW.out|exact HW.out.drew|exact(HW.out.drew).drew⟩⟩
 case round =>
  clear HW;obtain⟨i,rfl,HI,HW⟩:=hrel;by_cases c1:i < l.length
  ·have c1b:decide ((i:Int) < (l.length:Int))=true:=decide_eq_true (by omega)
   have p5:(0:Int)≤(i:Int):=by omega
   have q5:(i:Int) < (l.length:Int):=by omega
   obtain⟨ad,e5,hx0,hx1⟩:=at_T151 HA.out (i:Int) p5 q5
   cases e5
   obtain⟨bd,e5,hy0,hy1⟩:=at_T151 HB.out (i:Int) p5 q5
   cases e5
   generalize rd_T151 l (i:Int)=x at hx0 hy0 hx1 hy1
   rw[Int.toNat_natCast] at hx0 hy0 hx1 hy1
   replace hx0:=fun (p:WSt w [])=>p.old hx0
   replace hy0:=fun (p:WSt w [])=>p.old hy0
   replace hx1:=fun (p:WSt w [])=>p.old hx1
   replace hy1:=fun (p:WSt w [])=>p.old hy1
   have hne:Nonempty (WSt w []):=⟨⟨w,St.start w⟩⟩
   clear c1;replace p5:=eq_true p5;replace q5:=eq_true q5;have p6:i < 1048576:=by have:=HL.out;have h_:=of_eq_true q5;omega
   go_wp2_with fail
   refine wp_region_quietL (C:=fun w'=>∃ p:WSt w [],w'=p.w') (by kernel_rfl) (by kernel_rfl) ⟨⟨_,⟨HW.out.drew,by simp,List.Pairwise.nil⟩⟩,rfl⟩ ?_
   repeat(go_big_quiet_step ((go_at_call 208;refine(eqCellL x _).mono ?_;rintro e w2 ⟨rfl,hb⟩;exact⟨rfl,WSt.on _ hb⟩)))
   refine wpQuiet_nil ?_
   rintro w9 ⟨⟨w9,S⟩,rfl⟩
   have HW2:=Aside0.mk S.below
   clear S HW hx0 hy0 hx1 hy1;go_wp2_with fail
   go_roundw
   case rel=>exact⟨i+1,by go_num,⟨by have h_:=of_eq_true q5;omega⟩,⟨by first|exact HW2.out|exact HW2.out.drew|exact(HW2.out.drew).drew⟩⟩
   case measure=>have h_:=of_eq_true q5;simp only [intOf];omega
  ·have c1b:decide ((i:Int) < (l.length:Int))=false:=decide_eq_false (by omega)
   have c1c:decide (i < l.length)=false:=decide_eq_false c1
   clear c1;go_wp2_with fail
   go_ret
   exact⟨rfl,by first|exact HW.out|exact HW.out.drew|exact(HW.out.drew).drew⟩
set_option maxHeartbeats 4000000 in
set_option maxRecDepth 100000 in
theorem eqStringSL {A B:Option Addr} {c d:Nat} (l:List ByteArray) (hl:l.length≤1048576) (w:World) (hA:Kd.C Kd.string w A l.length l) (hB:Kd.C Kd.string w B l.length l):Calls Tryz.prog 138 #[.slice A l.length c,.slice B l.length d] w fun e w'=>e=.returned (.bool true)∧Below w.heap.size w w':=by
 have HA:=Aside0.mk hA
 have HB:=Aside0.mk hB
 have HL:=Aside0.mk hl
 clear hA hB hl;have HW:=Aside0.mk (Below.refl w.heap.size w)
 go_enter Tryz.func138,Tryz.ntmps138
 go_wp2_with fail
 go_loopw [5] (fun v5 w'=>∃ i:Nat,v5=.int .i64 i∧Aside0 (i≤l.length)∧Aside0 (Below w.heap.size w w')) (fun v5 _=>l.length - (intOf v5).toNat)
 case atStart=>exact⟨0,rfl,⟨Nat.zero_le _⟩,⟨by first|exact HW.out|exact HW.out.drew|exact(HW.out.drew).drew⟩⟩
 case round =>
  clear HW;obtain⟨i,rfl,HI,HW⟩:=hrel;by_cases c1:i < l.length
  ·have c1b:decide ((i:Int) < (l.length:Int))=true:=decide_eq_true (by omega)
   have p5:(0:Int)≤(i:Int):=by omega
   have q5:(i:Int) < (l.length:Int):=by omega
   obtain⟨ad,e5,hx0⟩:=Kd.at_string HA.out (i:Int) p5 q5
   cases e5
   obtain⟨bd,e5,hy0⟩:=Kd.at_string HB.out (i:Int) p5 q5
   cases e5
   generalize rdOf ByteArray.empty l (i:Int)=x at hx0 hy0
   rw[Int.toNat_natCast] at hx0 hy0
   replace hx0:=fun (p:WSt w [])=>p.old hx0
   replace hy0:=fun (p:WSt w [])=>p.old hy0
   have hne:Nonempty (WSt w []):=⟨⟨w,St.start w⟩⟩
   clear c1;replace p5:=eq_true p5;replace q5:=eq_true q5;have p6:i < 1048576:=by have:=HL.out;have h_:=of_eq_true q5;omega
   go_wp2_with fail
   refine wp_region_quietL (C:=fun w'=>∃ p:WSt w [],w'=p.w') (by kernel_rfl) (by kernel_rfl) ⟨⟨_,⟨HW.out.drew,by simp,List.Pairwise.nil⟩⟩,rfl⟩ ?_
   repeat(go_big_quiet_step ((fail)))
   refine wpQuiet_nil ?_
   rintro w9 ⟨⟨w9,S⟩,rfl⟩
   have HW2:=Aside0.mk S.below
   clear S HW hx0 hy0;go_wp2_with fail
   go_roundw
   case rel=>exact⟨i+1,by go_num,⟨by have h_:=of_eq_true q5;omega⟩,⟨by first|exact HW2.out|exact HW2.out.drew|exact(HW2.out.drew).drew⟩⟩
   case measure=>have h_:=of_eq_true q5;simp only [intOf];omega
  ·have c1b:decide ((i:Int) < (l.length:Int))=false:=decide_eq_false (by omega)
   have c1c:decide (i < l.length)=false:=decide_eq_false c1
   clear c1;go_wp2_with fail
   go_ret
   exact⟨rfl,by first|exact HW.out|exact HW.out.drew|exact(HW.out.drew).drew⟩
set_option maxHeartbeats 4000000 in
set_option maxRecDepth 100000 in
theorem eqIntSL {A B:Option Addr} {c d:Nat} (l:List Int) (hl:l.length≤1048576) (w:World) (hA:Kd.C (Kd.int .i64) w A l.length l) (hB:Kd.C (Kd.int .i64) w B l.length l):Calls Tryz.prog 139 #[.slice A l.length c,.slice B l.length d] w fun e w'=>e=.returned (.bool true)∧Below w.heap.size w w':=by
 have HA:=Aside0.mk hA
 have HB:=Aside0.mk hB
 have HL:=Aside0.mk hl
 clear hA hB hl;have HW:=Aside0.mk (Below.refl w.heap.size w)
 go_enter Tryz.func139,Tryz.ntmps139
 go_wp2_with fail
 go_loopw [5] (fun v5 w'=>∃ i:Nat,v5=.int .i64 i∧Aside0 (i≤l.length)∧Aside0 (Below w.heap.size w w')) (fun v5 _=>l.length - (intOf v5).toNat)
 case atStart=>exact⟨0,rfl,⟨Nat.zero_le _⟩,⟨by first|exact HW.out|exact HW.out.drew|exact(HW.out.drew).drew⟩⟩
 case round =>
  clear HW;obtain⟨i,rfl,HI,HW⟩:=hrel;by_cases c1:i < l.length
  ·have c1b:decide ((i:Int) < (l.length:Int))=true:=decide_eq_true (by omega)
   have p5:(0:Int)≤(i:Int):=by omega
   have q5:(i:Int) < (l.length:Int):=by omega
   obtain⟨ad,e5,hx0⟩:=Kd.at_int HA.out (i:Int) p5 q5
   cases e5
   obtain⟨bd,e5,hy0⟩:=Kd.at_int HB.out (i:Int) p5 q5
   cases e5
   generalize rd l (i:Int)=x at hx0 hy0
   rw[Int.toNat_natCast] at hx0 hy0
   replace hx0:=fun (p:WSt w [])=>p.old hx0
   replace hy0:=fun (p:WSt w [])=>p.old hy0
   have hne:Nonempty (WSt w []):=⟨⟨w,St.start w⟩⟩
   clear c1;replace p5:=eq_true p5;replace q5:=eq_true q5;have p6:i < 1048576:=by have:=HL.out;have h_:=of_eq_true q5;omega
   go_wp2_with fail
   refine wp_region_quietL (C:=fun w'=>∃ p:WSt w [],w'=p.w') (by kernel_rfl) (by kernel_rfl) ⟨⟨_,⟨HW.out.drew,by simp,List.Pairwise.nil⟩⟩,rfl⟩ ?_
   repeat(go_big_quiet_step ((fail)))
   refine wpQuiet_nil ?_
   rintro w9 ⟨⟨w9,S⟩,rfl⟩
   have HW2:=Aside0.mk S.below
   clear S HW hx0 hy0;go_wp2_with fail
   go_roundw
   case rel=>exact⟨i+1,by go_num,⟨by have h_:=of_eq_true q5;omega⟩,⟨by first|exact HW2.out|exact HW2.out.drew|exact(HW2.out.drew).drew⟩⟩
   case measure=>have h_:=of_eq_true q5;simp only [intOf];omega
  ·have c1b:decide ((i:Int) < (l.length:Int))=false:=decide_eq_false (by omega)
   have c1c:decide (i < l.length)=false:=decide_eq_false c1
   clear c1;go_wp2_with fail
   go_ret
   exact⟨rfl,by first|exact HW.out|exact HW.out.drew|exact(HW.out.drew).drew⟩
set_option maxHeartbeats 4000000 in
set_option maxRecDepth 100000 in
theorem eqArenaL {A0 B0:Option Addr} {c0 d0:Nat} (l0:List S94) (s0:l0.length≤1048576) (a1:Int) (w:World) (hA0:Kd.C k94 w A0 l0.length l0) (hB0:Kd.C k94 w B0 l0.length l0):Calls Tryz.prog 59 #[.agg #[.slice A0 l0.length c0,.int .i64 a1],.agg #[.slice B0 l0.length d0,.int .i64 a1]] w fun e w'=>e=.returned (.bool true)∧Below w.heap.size w w':=by
 have HA0:=Aside0.mk hA0
 have HB0:=Aside0.mk hB0
 clear hA0 hB0;have HS:=Aside0.mk (St.start w)
 go_enter Tryz.func59,Tryz.ntmps59
 go_wp2_with (first|((with_reducible refine gate_dst (N:=2) rfl ?_);refine boxS HS (N:=2) (cs:=#[.slice A0 l0.length c0,.int .i64 a1]) (t:=42) fun g2 w2 S=>?_;clear HS;have HS:=Aside0.mk S;obtain⟨hc2_0,hc2_1⟩:=S.cells2 0 rfl;clear S)|((with_reducible refine gate_dst (N:=3) rfl ?_);refine boxS HS (N:=3) (cs:=#[.slice B0 l0.length d0,.int .i64 a1]) (t:=42) fun g3 w3 S=>?_;clear HS hc2_0 hc2_1;have HS:=Aside0.mk S;obtain⟨hc3_0,hc3_1⟩:=S.cells2 0 rfl;obtain⟨hc2_0,hc2_1⟩:=S.cells2 1 rfl;clear S))
 have hb:=HS.out.below;refine(eqSlotSL l0 s0 _ (Kd.C_below HA0.out hb) (Kd.C_below HB0.out hb)).mono ?_
 clear hb;rintro e w5 ⟨rfl,hb⟩
 have S:=HS.out.step hb
 clear hb HS hc2_0 hc3_0 hc2_1 hc3_1;have HS:=Aside0.mk S
 obtain⟨hc3_0,hc3_1⟩:=S.cells2 0 rfl
 obtain⟨hc2_0,hc2_1⟩:=S.cells2 1 rfl
 clear S;go_wp2_with fail
 go_ret
 exact⟨rfl,HS.out.below⟩
set_option maxHeartbeats 4000000 in
set_option maxRecDepth 100000 in
theorem eqTableL {A0 B0:Option Addr} {c0 d0:Nat} (l0:List S151) (s0:l0.length≤1048576) {A1 B1:Option Addr} {c1 d1:Nat} (l1:List S151) (s1:l1.length≤1048576) (a2:Int) (w:World) (hA0:Kd.C k151 w A0 l0.length l0) (hB0:Kd.C k151 w B0 l0.length l0) (hA1:Kd.C k151 w A1 l1.length l1) (hB1:Kd.C k151 w B1 l1.length l1):Calls Tryz.prog 60 #[.agg #[.slice A0 l0.length c0,.slice A1 l1.length c1,.int .i64 a2],.agg #[.slice B0 l0.length d0,.slice B1 l1.length d1,.int .i64 a2]] w fun e w'=>e=.returned (.bool true)∧Below w.heap.size w w':=by
 have HA0:=Aside0.mk hA0
 have HB0:=Aside0.mk hB0
 clear hA0 hB0;have HA1:=Aside0.mk hA1
 have HB1:=Aside0.mk hB1
 clear hA1 hB1;have HS:=Aside0.mk (St.start w)
 go_enter Tryz.func60,Tryz.ntmps60
 go_wp2_with (first|((with_reducible refine gate_dst (N:=2) rfl ?_);refine boxS HS (N:=2) (cs:=#[.slice A0 l0.length c0,.slice A1 l1.length c1,.int .i64 a2]) (t:=45) fun g2 w2 S=>?_;clear HS;have HS:=Aside0.mk S;obtain⟨hc2_0,hc2_1,hc2_2⟩:=S.cells3 0 rfl;clear S)|((with_reducible refine gate_dst (N:=3) rfl ?_);refine boxS HS (N:=3) (cs:=#[.slice B0 l0.length d0,.slice B1 l1.length d1,.int .i64 a2]) (t:=45) fun g3 w3 S=>?_;clear HS hc2_0 hc2_1 hc2_2;have HS:=Aside0.mk S;obtain⟨hc3_0,hc3_1,hc3_2⟩:=S.cells3 0 rfl;obtain⟨hc2_0,hc2_1,hc2_2⟩:=S.cells3 1 rfl;clear S))
 have hb:=HS.out.below;refine(eqCellSL l0 s0 _ (Kd.C_below HA0.out hb) (Kd.C_below HB0.out hb)).mono ?_
 clear hb;rintro e w5 ⟨rfl,hb⟩
 have S:=HS.out.step hb
 clear hb HS hc2_0 hc3_0 hc2_1 hc3_1 hc2_2 hc3_2;have HS:=Aside0.mk S
 obtain⟨hc3_0,hc3_1,hc3_2⟩:=S.cells3 0 rfl
 obtain⟨hc2_0,hc2_1,hc2_2⟩:=S.cells3 1 rfl
 clear S;go_wp2_with fail
 have hb:=HS.out.below;refine(eqCellSL l1 s1 _ (Kd.C_below HA1.out hb) (Kd.C_below HB1.out hb)).mono ?_
 clear hb;rintro e w6 ⟨rfl,hb⟩
 have S:=HS.out.step hb
 clear hb HS hc2_0 hc3_0 hc2_1 hc3_1 hc2_2 hc3_2;have HS:=Aside0.mk S
 obtain⟨hc3_0,hc3_1,hc3_2⟩:=S.cells3 0 rfl
 obtain⟨hc2_0,hc2_1,hc2_2⟩:=S.cells3 1 rfl
 clear S;go_wp2_with fail
 go_ret
 exact⟨rfl,HS.out.below⟩
set_option maxHeartbeats 4000000 in
set_option maxRecDepth 100000 in
theorem eqQueueL (a0:Int) {A1 B1:Option Addr} {c1 d1:Nat} (l1:List ByteArray) (s1:l1.length≤1048576) (w:World) (hA1:Kd.C Kd.string w A1 l1.length l1) (hB1:Kd.C Kd.string w B1 l1.length l1):Calls Tryz.prog 61 #[.agg #[.int .i64 a0,.slice A1 l1.length c1],.agg #[.int .i64 a0,.slice B1 l1.length d1]] w fun e w'=>e=.returned (.bool true)∧Below w.heap.size w w':=by
 have HA1:=Aside0.mk hA1
 have HB1:=Aside0.mk hB1
 clear hA1 hB1;have HS:=Aside0.mk (St.start w)
 go_enter Tryz.func61,Tryz.ntmps61
 go_wp2_with (first|((with_reducible refine gate_dst (N:=2) rfl ?_);refine boxS HS (N:=2) (cs:=#[.int .i64 a0,.slice A1 l1.length c1]) (t:=46) fun g2 w2 S=>?_;clear HS;have HS:=Aside0.mk S;obtain⟨hc2_0,hc2_1⟩:=S.cells2 0 rfl;clear S)|((with_reducible refine gate_dst (N:=3) rfl ?_);refine boxS HS (N:=3) (cs:=#[.int .i64 a0,.slice B1 l1.length d1]) (t:=46) fun g3 w3 S=>?_;clear HS hc2_0 hc2_1;have HS:=Aside0.mk S;obtain⟨hc3_0,hc3_1⟩:=S.cells2 0 rfl;obtain⟨hc2_0,hc2_1⟩:=S.cells2 1 rfl;clear S))
 have hb:=HS.out.below;refine(eqStringSL l1 s1 _ (Kd.C_below HA1.out hb) (Kd.C_below HB1.out hb)).mono ?_
 clear hb;rintro e w6 ⟨rfl,hb⟩
 have S:=HS.out.step hb
 clear hb HS hc2_0 hc3_0 hc2_1 hc3_1;have HS:=Aside0.mk S
 obtain⟨hc3_0,hc3_1⟩:=S.cells2 0 rfl
 obtain⟨hc2_0,hc2_1⟩:=S.cells2 1 rfl
 clear S;go_wp2_with fail
 go_ret
 exact⟨rfl,HS.out.below⟩
set_option maxHeartbeats 4000000 in
set_option maxRecDepth 100000 in
theorem eqSketchL {A0 B0:Option Addr} {c0 d0:Nat} (l0:List Int) (s0:l0.length≤1048576) (a1:Int) (w:World) (hA0:Kd.C (Kd.int .i64) w A0 l0.length l0) (hB0:Kd.C (Kd.int .i64) w B0 l0.length l0):Calls Tryz.prog 62 #[.agg #[.slice A0 l0.length c0,.int .i64 a1],.agg #[.slice B0 l0.length d0,.int .i64 a1]] w fun e w'=>e=.returned (.bool true)∧Below w.heap.size w w':=by
 have HA0:=Aside0.mk hA0
 have HB0:=Aside0.mk hB0
 clear hA0 hB0;have HS:=Aside0.mk (St.start w)
 go_enter Tryz.func62,Tryz.ntmps62
 go_wp2_with (first|((with_reducible refine gate_dst (N:=2) rfl ?_);refine boxS HS (N:=2) (cs:=#[.slice A0 l0.length c0,.int .i64 a1]) (t:=47) fun g2 w2 S=>?_;clear HS;have HS:=Aside0.mk S;obtain⟨hc2_0,hc2_1⟩:=S.cells2 0 rfl;clear S)|((with_reducible refine gate_dst (N:=3) rfl ?_);refine boxS HS (N:=3) (cs:=#[.slice B0 l0.length d0,.int .i64 a1]) (t:=47) fun g3 w3 S=>?_;clear HS hc2_0 hc2_1;have HS:=Aside0.mk S;obtain⟨hc3_0,hc3_1⟩:=S.cells2 0 rfl;obtain⟨hc2_0,hc2_1⟩:=S.cells2 1 rfl;clear S))
 have hb:=HS.out.below;refine(eqIntSL l0 s0 _ (Kd.C_below HA0.out hb) (Kd.C_below HB0.out hb)).mono ?_
 clear hb;rintro e w5 ⟨rfl,hb⟩
 have S:=HS.out.step hb
 clear hb HS hc2_0 hc3_0 hc2_1 hc3_1;have HS:=Aside0.mk S
 obtain⟨hc3_0,hc3_1⟩:=S.cells2 0 rfl
 obtain⟨hc2_0,hc2_1⟩:=S.cells2 1 rfl
 clear S;go_wp2_with fail
 go_ret
 exact⟨rfl,HS.out.below⟩
set_option maxHeartbeats 4000000 in
set_option maxRecDepth 100000 in
theorem eqDoorL (a0:Int) (w:World) :Calls Tryz.prog 63 #[.agg #[.int .i64 a0],.agg #[.int .i64 a0]] w fun e w'=>e=.returned (.bool true)∧Below w.heap.size w w':=by
 have HS:=Aside0.mk (St.start w)
 go_enter Tryz.func63,Tryz.ntmps63
 go_wp2_with (first|((with_reducible refine gate_dst (N:=2) rfl ?_);refine boxS HS (N:=2) (cs:=#[.int .i64 a0]) (t:=48) fun g2 w2 S=>?_;clear HS;have HS:=Aside0.mk S;have hc2_0:=S.at_cell 0 rfl 0 rfl;clear S)|((with_reducible refine gate_dst (N:=3) rfl ?_);refine boxS HS (N:=3) (cs:=#[.int .i64 a0]) (t:=48) fun g3 w3 S=>?_;clear HS hc2_0;have HS:=Aside0.mk S;have hc3_0:=S.at_cell 0 rfl 0 rfl;have hc2_0:=S.at_cell 1 rfl 0 rfl;clear S))
 go_ret
 exact⟨rfl,HS.out.below⟩
set_option maxHeartbeats 4000000 in
set_option maxRecDepth 100000 in
theorem eqNearS (w:World) (v u:NV) (n:Nr) (hn:n.small) (hC:NearC w v n) (hD:NearC w u n) :
  Calls Tryz.prog 16 #[.agg (v.cells n),.agg (u.cells n)] w fun e w'=>e=.returned (.bool true)∧Below w.heap.size w w':=by
 obtain⟨A0,c0,A2,c2,A3,c3,A6,c6,A8,c8,A10,c10,A11,c11,rfl,hF⟩:=hC.open_;have HF:=Aside0.mk hF
 clear hC hF;dsimp only [NV.cells]
 obtain⟨E0,e0,E2,e2,E3,e3,E6,e6,E8,e8,E10,e10,E11,e11,rfl,hG⟩:=hD.open_;have HG:=Aside0.mk hG
 clear hD hG;dsimp only [NV.cells]
 have HS:=Aside0.mk (St.start w)
 have HN:=Aside0.mk hn
 clear hn;have HS0:=HS;clear HS;go_enter Tryz.func16,Tryz.ntmps16
 go_wp2_with (first|((with_reducible refine gate_dst (N:=2) rfl ?_);refine box_event ?hg (N:=2) ?hd (cs:=#[Value.slice A0 n.sl.length c0,Value.int .i64 n.fr,Value.slice A2 n.ce.length c2,Value.slice A3 n.old.length c3,Value.int .i64 n.mv,Value.int .i64 n.wm,Value.slice A6 n.wk.length c6,Value.int .i64 n.tm,Value.slice A8 n.tk.length c8,Value.int .i64 n.sm,Value.slice A10 n.sk.length c10,Value.slice A11 n.ct.length c11,Value.int .i64 n.ad,Value.int .i64 n.db]) (t:=50) ?hr ?_;(case hd=>rfl);(case hg=>rfl);(case hr=>first|(go_simp;done)|(go_simp;rfl));intro g1 hg w1 hbox hb;have S:=HS0.out.new_blk hb (Nat.le_of_eq hg.symm) hbox;clear hb hbox hg;have HS1:=Aside0.mk S;clear S)|((with_reducible refine gate_dst (N:=3) rfl ?_);refine box_event ?hg (N:=3) ?hd (cs:=#[Value.slice E0 n.sl.length e0,Value.int .i64 n.fr,Value.slice E2 n.ce.length e2,Value.slice E3 n.old.length e3,Value.int .i64 n.mv,Value.int .i64 n.wm,Value.slice E6 n.wk.length e6,Value.int .i64 n.tm,Value.slice E8 n.tk.length e8,Value.int .i64 n.sm,Value.slice E10 n.sk.length e10,Value.slice E11 n.ct.length e11,Value.int .i64 n.ad,Value.int .i64 n.db]) (t:=50) ?hr ?_;(case hd=>rfl);(case hg=>rfl);(case hr=>first|(go_simp;done)|(go_simp;rfl));intro g2 hg w2 hbox hb;have S:=HS1.out.new_blk hb (Nat.le_of_eq hg.symm) hbox;clear hb hbox hg;have HS2:=Aside0.mk S;obtain⟨hc0,hc1⟩:=S.cells2 1 rfl;obtain⟨he0,he1⟩:=S.cells2 0 rfl;clear S))
 have HS:=HS2;clear HS2 HS1 HS0;have hbb:=HS.out.below;refine(eqArenaL n.sl HN.out.s0 n.fr _ (HF.out.below hbb).h0 (HG.out.below hbb).h0).mono ?_
 rintro e x0 ⟨rfl,hb⟩
 have S:=HS.out.step hb
 clear HS hb hbb hc0 he0 hc1 he1;have HS:=Aside0.mk S
 have hc2:=S.at_cell 1 rfl 2 rfl
 have hc3:=S.at_cell 1 rfl 3 rfl
 have hc4:=S.at_cell 1 rfl 4 rfl
 have he2:=S.at_cell 0 rfl 2 rfl
 have he3:=S.at_cell 0 rfl 3 rfl
 have he4:=S.at_cell 0 rfl 4 rfl
 clear S;go_wp2_with fail
 have hbb:=HS.out.below;refine(eqTableL n.ce HN.out.s2 n.old HN.out.s3 n.mv _ (HF.out.below hbb).h2 (HG.out.below hbb).h2 (HF.out.below hbb).h3 (HG.out.below hbb).h3).mono ?_
 rintro e x1 ⟨rfl,hb⟩
 have S:=HS.out.step hb
 clear HS hb hbb hc2 he2 hc3 he3 hc4 he4;have HS:=Aside0.mk S
 have hc5:=S.at_cell 1 rfl 5 rfl
 have hc6:=S.at_cell 1 rfl 6 rfl
 have he5:=S.at_cell 0 rfl 5 rfl
 have he6:=S.at_cell 0 rfl 6 rfl
 clear S;go_wp2_with fail
 have hbb:=HS.out.below;refine(eqQueueL n.wm n.wk HN.out.s6 _ (HF.out.below hbb).h6 (HG.out.below hbb).h6).mono ?_
 rintro e x2 ⟨rfl,hb⟩
 have S:=HS.out.step hb
 clear HS hb hbb hc5 he5 hc6 he6;have HS:=Aside0.mk S
 have hc7:=S.at_cell 1 rfl 7 rfl
 have hc8:=S.at_cell 1 rfl 8 rfl
 have he7:=S.at_cell 0 rfl 7 rfl
 have he8:=S.at_cell 0 rfl 8 rfl
 clear S;go_wp2_with fail
 have hbb:=HS.out.below;refine(eqQueueL n.tm n.tk HN.out.s8 _ (HF.out.below hbb).h8 (HG.out.below hbb).h8).mono ?_
 rintro e x3 ⟨rfl,hb⟩
 have S:=HS.out.step hb
 clear HS hb hbb hc7 he7 hc8 he8;have HS:=Aside0.mk S
 have hc9:=S.at_cell 1 rfl 9 rfl
 have hc10:=S.at_cell 1 rfl 10 rfl
 have he9:=S.at_cell 0 rfl 9 rfl
 have he10:=S.at_cell 0 rfl 10 rfl
 clear S;go_wp2_with fail
 have hbb:=HS.out.below;refine(eqQueueL n.sm n.sk HN.out.s10 _ (HF.out.below hbb).h10 (HG.out.below hbb).h10).mono ?_
 rintro e x4 ⟨rfl,hb⟩
 have S:=HS.out.step hb
 clear HS hb hbb hc9 he9 hc10 he10;have HS:=Aside0.mk S
 have hc11:=S.at_cell 1 rfl 11 rfl
 have hc12:=S.at_cell 1 rfl 12 rfl
 have he11:=S.at_cell 0 rfl 11 rfl
 have he12:=S.at_cell 0 rfl 12 rfl
 clear S;go_wp2_with fail
 have hbb:=HS.out.below;refine(eqSketchL n.ct HN.out.s11 n.ad _ (HF.out.below hbb).h11 (HG.out.below hbb).h11).mono ?_
 rintro e x5 ⟨rfl,hb⟩
 have S:=HS.out.step hb
 clear HS hb hbb hc11 he11 hc12 he12;have HS:=Aside0.mk S
 have hc13:=S.at_cell 1 rfl 13 rfl
 have he13:=S.at_cell 0 rfl 13 rfl
 clear S;go_wp2_with fail
 have hbb:=HS.out.below;refine(eqDoorL n.db _).mono ?_
 rintro e x6 ⟨rfl,hb⟩
 have S:=HS.out.step hb
 clear HS hb hbb hc13 he13;have HS:=Aside0.mk S
 clear S;go_wp2_with fail
 go_ret
 exact⟨rfl,HS.out.below⟩
theorem LrC.below {w w':World} {v:NV} {n:Lr} (h:LrC w v n) (hb:Below w.heap.size w w'):LrC w' v n:=⟨h.r0.below hb,h.r2.below hb,h.r3.below hb,h.r6.below hb,h.r8.below hb,h.r10.below hb,h.r11.below hb⟩
theorem St.join {w0 w1 w2:World} {ps qs:List Part} (h:St w0 w1 ps) (h':St w1 w2 qs):St w0 w2 (qs ++ ps):=by
 have h1:=h.step h'.below
 refine⟨h1.below,fun p hp=>?_,List.pairwise_append.2 ⟨h'.apart,h1.apart,fun q hq p hp k hk hk'=>?_⟩⟩
 ·rcases List.mem_append.1 hp with hp|hp
  ·exact p.lower h.below.size (h'.all p hp)
  ·exact h1.all p hp
 ·have a:=(q.bound (h'.all q hq) k hk).1
  have b:=(p.bound (h.all p hp) k hk').2
  omega
theorem NV.shape {w0 w:World} {u:NV} {m:Nr} {ps:List Part} (h:St w0 w (u.rows m ++ ps)):∃ B0 d0 B2 d2 B3 d3 B6 d6 B8 d8 B10 d10 B11 d11,u=⟨.slice B0 m.sl.length d0,.slice B2 m.ce.length d2,.slice B3 m.old.length d3,.slice B6 m.wk.length d6,.slice B8 m.tk.length d8,.slice B10 m.sk.length d10,.slice B11 m.ct.length d11⟩:=by
 obtain⟨v0,v2,v3,v6,v8,v10,v11⟩:=u;obtain⟨B0,d0,rfl⟩:=Kd.R_slice (h.at_R 0 rfl)
 obtain⟨B2,d2,rfl⟩:=Kd.R_slice (h.at_R 1 rfl)
 obtain⟨B3,d3,rfl⟩:=Kd.R_slice (h.at_R 2 rfl)
 obtain⟨B6,d6,rfl⟩:=Kd.R_slice (h.at_R 3 rfl)
 obtain⟨B8,d8,rfl⟩:=Kd.R_slice (h.at_R 4 rfl)
 obtain⟨B10,d10,rfl⟩:=Kd.R_slice (h.at_R 5 rfl)
 obtain⟨B11,d11,rfl⟩:=Kd.R_slice (h.at_R 6 rfl)
 exact⟨_,_,_,_,_,_,_,_,_,_,_,_,_,_,rfl⟩
end Go.Proofs.YtediiolcoilepaaGreat.Nb
