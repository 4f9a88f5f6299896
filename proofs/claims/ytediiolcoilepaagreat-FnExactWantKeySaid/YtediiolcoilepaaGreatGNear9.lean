/- Walks of callees. -/
import Derived.Test.YtediiolcoilepaaGreatGNear0
import Derived.Test.YtediiolcoilepaaGreatGNear8
import Derived.Test.YtediiolcoilepaaGreatNbA
import Derived.BigQuiet
import Derived.BigRegion
namespace Go.Proofs.YtediiolcoilepaaGreat.GNear
set_option maxHeartbeats 8000000
set_option maxRecDepth 100000
open Go.RowKit Go.Proofs.YtediiolcoilepaaGreatW.PrintWords Go.Proofs.YtediiolcoilepaaGreatW.PrintLast Go.Proofs.YtediiolcoilepaaGreatW.PrintMore
attribute [local go_sem] max2_int min2_int max_two min_two max_three min_three max_four min_four
open Nb
set_option linter.unusedVariables false
set_option linter.unusedSimpArgs false
mutual
def spec_ArenaOk.l0:Nat→Int→List Bool→Int→List (S94)→Int→Option (Bool)
|0,_,_,_,_,_=>none
|k+1,x3,x4,x5,x667000,x667001=>if x5=(-1) then (spec_ArenaOk.l1 k x3 x4 0 x667000 x667001) else ((spec_l01In.f x5 0 (wrap64 (x3 - 1))).bind fun t671=>(if t671=true then (if 0≤x5 then (if x5 < (x4.length:Int) then (if rdOf false x4 x5=true then (some false) else (if x5 < (x667000.length:Int) then (if (rd_T94 x667000 x5).f1=true then (some false) else (spec_ArenaOk.l0 k x3 (x4.set (x5:Int).toNat true) ((rd_T94 x667000 x5).f4) x667000 x667001)) else (none))) else (none)) else (none)) else (some false)))
def spec_ArenaOk.l1:Nat→Int→List Bool→Int→List (S94)→Int→Option (Bool)
|0,_,_,_,_,_=>none
|k+1,x3,x4,x6,x667000,x667001=>if x6 < x3 then (if 0≤x6 then (if x6 < (x667000.length:Int) then ((spec_l01In.f ((rd_T94 x667000 x6).f0) 0 41666665).bind fun t678=>(if t678=true then (if x6 < (x4.length:Int) then (spec_ArenaOk.j2 k x3 x4 x6 (((rd_T94 x667000 x6).f1) == (rdOf false x4 x6)) x667000 x667001 ((rd_T94 x667000 x6).f0) ((rd_T94 x667000 x6).f1) ((rd_T94 x667000 x6).f2) ((rd_T94 x667000 x6).f3) ((rd_T94 x667000 x6).f4)) else (none)) else (spec_ArenaOk.j2 k x3 x4 x6 true x667000 x667001 ((rd_T94 x667000 x6).f0) ((rd_T94 x667000 x6).f1) ((rd_T94 x667000 x6).f2) ((rd_T94 x667000 x6).f3) ((rd_T94 x667000 x6).f4)))) else (none)) else (none)) else (some true)
def spec_ArenaOk.j2:Nat→Int→List Bool→Int→Bool→List (S94)→Int→Int→Bool→ByteArray→ByteArray→Int→Option (Bool)
|0,_,_,_,_,_,_,_,_,_,_,_=>none
|k+1,x3,x4,x6,x70,x667000,x667001,x678000,x678001,x678002,x678003,x678004=>if x70=true then (some false) else (if x678001=true then ((spec_l01In.f (x678002.size:Int) 1 12).bind fun t680=>(if t680=true then (if (x678003.size:Int) > 20 then (some false) else (if x678004=0 then (spec_ArenaOk.l1 k x3 x4 (wrap64 (x6+1)) x667000 x667001) else (some false))) else (some false))) else (if x678002.toList=([]:List UInt8) then (if x678003.toList=([]:List UInt8) then (spec_ArenaOk.l1 k x3 x4 (wrap64 (x6+1)) x667000 x667001) else (some false)) else (some false)))
end
def spec_ArenaOk.f (k:Nat) (l0_0:List (S94)) (a0_1:Int):Option (Bool):=(spec_l01In.f (l0_0.length:Int) 1 24).bind fun t667=>(if t667=true then (if 0≤(l0_0.length:Int) then (if ((l0_0.length:Int):Int).toNat≤281474976710656 then (spec_ArenaOk.l0 k (l0_0.length:Int) (List.replicate ((l0_0.length:Int):Int).toNat false) a0_1 l0_0 a0_1) else (none)) else (none)) else (some false))
theorem l01_is (x a b:Int):spec_l01In.f x a b=some (decide (a≤x∧x≤b)):=by
 unfold spec_l01In.f
 by_cases h:x ≥ a
 ·rw[if_pos h];congr 1;rw[Bool.eq_iff_iff];simp;omega
 ·rw[if_neg h];congr 1;simp;omega
theorem l01_in {x a b:Int} (h:spec_l01In.f x a b=some true):a≤x∧x≤b:=by rw[l01_is] at h;exact of_decide_eq_true (Option.some.inj h)
theorem St.putB {w0 w:World} {ps:List Part} {g n c:Nat} {xs:List Bool} (h:St w0 w (Part.row Kd.bool 4 (.slice (some ⟨g,0,none⟩) n c) xs :: ps)) (i:Int) (x:Bool):St w0 (w.setCell ⟨g,i.toNat,none⟩ (.bool x)) (Part.row Kd.bool 4 (.slice (some ⟨g,0,none⟩) n c) (xs.set i.toNat x) :: ps) :=
 have q:=Kd.R_putg (h1:=fun _=>rfl) h.head i x
 h.over rfl q.2 q.1
theorem spec_ArenaOk.calls (k:Nat) (A:Option Addr) (c:Nat) (l:List S94) (a:Int) (r:Bool) (w:World) (hr:Kd.C k94 w A l.length l) (hc:l.length≤c) (h:spec_ArenaOk.f k l a=some r) :
  Calls Tryz.prog 113 #[.agg #[.slice A l.length c,.int .i64 a]] w fun e w'=>e=.returned (.bool r)∧Below w.heap.size w w':=by
 have hu42:=Tryz.underlying42;have hu94:=Tryz.underlying94;have HR:=Aside0.mk hr;clear hr hc;unfold spec_ArenaOk.f at h;obtain⟨b,A1,h⟩:=Option.bind_eq_some_iff.mp h;have H:=Aside0.mk h;clear h;have HS:=Aside0.mk (St.start w);go_enter Tryz.func113,Tryz.ntmps113;go_wp2_with fail;have S:=HS.out.alloc #[Value.slice A l.length c,Value.int .i64 a] 42;clear HS;have HS:=Aside0.mk S;have hc0:=S.at_cell 0 rfl 0 rfl;clear S;go_wp2_with fail;refine(spec_l01In.calls (l.length:Int) 1 24 b _ A1).mono ?_;rintro e w1 ⟨rfl,hd⟩;have S:=HS.out.step hd.below;clear HS hd hc0;have HS:=Aside0.mk S;have hc1:=S.at_cell 0 rfl 1 rfl;clear S;have HI:=Aside0.mk (fun e:b=true=>l01_in (e ▸ A1));clear A1;cases b with
 |false =>
  obtain rfl:false=r:=by have h:=H.out;rw[if_neg (by simp)] at h;exact Option.some.inj h
  go_wp2_with fail;go_ret;exact⟨rfl,HS.out.below⟩
 |true =>
 have HL:=Aside0.mk (HI.out rfl);have h1:(0:Int)≤(l.length:Int):=by omega
 have h2:(l.length:Int).toNat≤281474976710656:=by have:=HL.out;omega
 have h:=H.out;rw[if_pos rfl,if_pos h1,if_pos h2,Int.toNat_natCast] at h;clear H HI;have H:=Aside0.mk h;clear h h2;go_wp2_with (first|((with_reducible refine gate_dst (N:=15) rfl ?_);refine Kd.R_make Kd.bool _ 4 rfl (N:=15) rfl 199 _ _ rfl (l.length:Int) rfl rfl Tryz.underlying199 (.bool false) 1 info4 rfl (by decide) (by omega) false (ok:=fun _=>True) (okp:=fun _=>True) rfl (fun _ hk=>hk) trivial (by omega) (by have:=HL.out;omega) (Below.refl _ _) (Nat.le_refl _) ?_;intro v15 w2 ho hb _ _;have S:=HS.out.new_row rfl hb ho;clear ho hb hc1;rw[Int.toNat_natCast] at S;have HS2:=Aside0.mk S;have hc1:=S.at_cell 1 rfl 1 rfl;clear S));clear HS hc1;have HS:=HS2;clear HS2;go_loopg [5] k (fun kq v5 w'=>∃ (fl:List Bool) (p:Int),v5=.int .i64 p∧Aside0 (spec_ArenaOk.l0 kq (l.length:Int) fl p l a=some r)∧Aside0 (kq≤k)∧Aside0 (fl.length=l.length)∧Aside0 (St w w' [Part.row Kd.bool 4 v15 fl,Part.blk w.heap.size 42 #[Value.slice A l.length c,Value.int .i64 a]]))
 case atStart=>exact⟨_,a,rfl,H,⟨Nat.le_refl _⟩,⟨List.length_replicate⟩,HS⟩
 case round =>
  clear H HS h1;obtain⟨fl,p,rfl,HA,HK,HF,HS⟩:=hrel;have h:=HA.out;clear HA;cases gk with
  |zero=>exact absurd h (by simp[spec_ArenaOk.l0])
  |succ k1 =>
  simp only [spec_ArenaOk.l0] at h;by_cases c1:p = -1
  ·rw[if_pos c1] at h
   have H:=Aside0.mk h;clear h;have t1:(p != (-1))=false:=bne_eq_false_iff_eq.mpr c1;have t2:(p == (-1))=true:=beq_iff_eq.mpr c1;clear c1;go_wp2_with fail;clear t1 t2;go_loopg [6] k1 (fun kq v6 w'=>∃ (i:Int),v6=.int .i64 i∧Aside0 (spec_ArenaOk.l1 kq (l.length:Int) fl i l a=some r)∧Aside0 (kq≤k1)∧Aside0 (St w w' [Part.row Kd.bool 4 v15 fl,Part.blk w.heap.size 42 #[Value.slice A l.length c,Value.int .i64 a]]))
   case atStart=>exact⟨0,rfl,H,⟨Nat.le_refl _⟩,HS⟩
   case round =>
    clear H HS;obtain⟨i,rfl,HA,HK2,HS⟩:=hrel;have h:=HA.out;clear HA;cases gk with
    |zero=>exact absurd h (by simp[spec_ArenaOk.l1])
    |succ k2 =>
    simp only [spec_ArenaOk.l1] at h;by_cases c2:i < (l.length:Int)
    case neg =>
     rw[if_neg c2] at h;obtain rfl:true=r:=Option.some.inj h;have c2b:decide (i < (l.length:Int))=false:=decide_eq_false c2;clear h c2;go_wp2_with fail;go_ret;exact⟨rfl,HS.out.below⟩
    rw[if_pos c2] at h;by_cases c3:0≤i
    case neg=>rw[if_neg c3] at h;cases h
    rw[if_pos c3,if_pos c2] at h;obtain⟨b,A1,h⟩:=Option.bind_eq_some_iff.mp h;have c2b:decide (i < (l.length:Int))=true:=decide_eq_true c2;obtain⟨ad,e5,hy0,hy1,hy2,hy3,hy4⟩:=at_T94 (Kd.C_below HR.out HS.out.below) i c3 c2;cases e5;obtain⟨⟨x0,x1,x2,x3,x4⟩,hx⟩:∃ x,x=rd_T94 l i:=⟨_,rfl⟩;rw[← hx] at hy0 hy1 hy2 hy3 hy4 h A1;dsimp only at hy0 hy1 hy2 hy3 hy4 h A1;obtain⟨go,co,eo,-,-,-,-⟩:=Kd.R_form (HS.out.at_R 0 rfl) (by have:=HF.out;omega);subst eo;obtain⟨u,hu⟩:∃ u,u=rdOf false fl i:=⟨_,rfl⟩;rw[← hu] at h;have cf:i < (fl.length:Int):=by have:=HF.out;omega
    rw[if_pos cf] at h;have HU:=Aside0.mk hu;have H:=Aside0.mk h;have HP:=Aside0.mk A1;clear h A1 hx hu;have C2:=Aside0.mk c2;have C3:=Aside0.mk c3;have CF:=Aside0.mk cf;have cf1:=eq_true cf;replace c2:=eq_true c2;replace c3:=eq_true c3;clear cf;have hc0:=HS.out.at_cell 1 rfl 0 rfl;have hc1:=HS.out.at_cell 1 rfl 1 rfl;go_upto_region 15 with (first|((with_reducible refine gate_dst (N:=7) rfl ?_);refine yE (N:=7) (cs:=#[.int .i64 0,.bool false,.string (⟨#[]⟩:ByteArray),.string (⟨#[]⟩:ByteArray),.int .i64 0]) (t:=94) fun g7 hg w7 hbox hb=>?_;have S:=HS.out.new_blk hb (Nat.le_of_eq hg.symm) hbox;clear hb hbox hg HS;have HS:=Aside0.mk S;have hz0:=S.at_cell 0 rfl 0 rfl;have fz0:=S.at_frozen 0 rfl 0;have hz1:=S.at_cell 0 rfl 1 rfl;have fz1:=S.at_frozen 0 rfl 1;have hz2:=S.at_cell 0 rfl 2 rfl;have fz2:=S.at_frozen 0 rfl 2;have hz3:=S.at_cell 0 rfl 3 rfl;have fz3:=S.at_frozen 0 rfl 3;have hz4:=S.at_cell 0 rfl 4 rfl;have fz4:=S.at_frozen 0 rfl 4;have hc0:=S.at_cell 2 rfl 0 rfl;have hc1:=S.at_cell 2 rfl 1 rfl;clear S));have S:=HS.out;clear HS hc0 hc1 hy0 hy1 hy2 hy3 hy4 hz0 hz1 hz2 hz3 hz4 fz0 fz1 fz2 fz3 fz4;have S:=S.put (cs':=#[Value.int .i64 x0,Value.bool false,Value.string (⟨#[]⟩:ByteArray),Value.string (⟨#[]⟩:ByteArray),Value.int .i64 0]) 0 (Value.int .i64 x0) rfl;have S:=S.put (cs':=#[Value.int .i64 x0,Value.bool x1,Value.string (⟨#[]⟩:ByteArray),Value.string (⟨#[]⟩:ByteArray),Value.int .i64 0]) 1 (Value.bool x1) rfl;have S:=S.put (cs':=#[Value.int .i64 x0,Value.bool x1,Value.string x2,Value.string (⟨#[]⟩:ByteArray),Value.int .i64 0]) 2 (Value.string x2) rfl;have S:=S.put (cs':=#[Value.int .i64 x0,Value.bool x1,Value.string x2,Value.string x3,Value.int .i64 0]) 3 (Value.string x3) rfl;have S:=S.put (cs':=#[Value.int .i64 x0,Value.bool x1,Value.string x2,Value.string x3,Value.int .i64 x4]) 4 (Value.int .i64 x4) rfl;have hq0:=fun (p:WSt w [Part.blk g7 94 #[Value.int .i64 x0,Value.bool x1,Value.string x2,Value.string x3,Value.int .i64 x4],Part.row Kd.bool 4 (.slice (some ⟨go,0,none⟩) fl.length co) fl,Part.blk w.heap.size 42 #[Value.slice (some ad) l.length c,Value.int .i64 a]])=>p.st.at_cell 0 rfl 0 rfl;have hq1:=fun (p:WSt w [Part.blk g7 94 #[Value.int .i64 x0,Value.bool x1,Value.string x2,Value.string x3,Value.int .i64 x4],Part.row Kd.bool 4 (.slice (some ⟨go,0,none⟩) fl.length co) fl,Part.blk w.heap.size 42 #[Value.slice (some ad) l.length c,Value.int .i64 a]])=>p.st.at_cell 0 rfl 1 rfl;have hq2:=fun (p:WSt w [Part.blk g7 94 #[Value.int .i64 x0,Value.bool x1,Value.string x2,Value.string x3,Value.int .i64 x4],Part.row Kd.bool 4 (.slice (some ⟨go,0,none⟩) fl.length co) fl,Part.blk w.heap.size 42 #[Value.slice (some ad) l.length c,Value.int .i64 a]])=>p.st.at_cell 0 rfl 2 rfl;have hq3:=fun (p:WSt w [Part.blk g7 94 #[Value.int .i64 x0,Value.bool x1,Value.string x2,Value.string x3,Value.int .i64 x4],Part.row Kd.bool 4 (.slice (some ⟨go,0,none⟩) fl.length co) fl,Part.blk w.heap.size 42 #[Value.slice (some ad) l.length c,Value.int .i64 a]])=>p.st.at_cell 0 rfl 3 rfl;have hq4:=fun (p:WSt w [Part.blk g7 94 #[Value.int .i64 x0,Value.bool x1,Value.string x2,Value.string x3,Value.int .i64 x4],Part.row Kd.bool 4 (.slice (some ⟨go,0,none⟩) fl.length co) fl,Part.blk w.heap.size 42 #[Value.slice (some ad) l.length c,Value.int .i64 a]])=>p.st.at_cell 0 rfl 4 rfl;have hqr:=fun (p:WSt w [Part.blk g7 94 #[Value.int .i64 x0,Value.bool x1,Value.string x2,Value.string x3,Value.int .i64 x4],Part.row Kd.bool 4 (.slice (some ⟨go,0,none⟩) fl.length co) fl,Part.blk w.heap.size 42 #[Value.slice (some ad) l.length c,Value.int .i64 a]])=>HU.out ▸ (Kd.R_celln false (p.st.at_R 1 rfl) i C3.out CF.out).1;have hne:Nonempty (WSt w [Part.blk g7 94 #[Value.int .i64 x0,Value.bool x1,Value.string x2,Value.string x3,Value.int .i64 x4],Part.row Kd.bool 4 (.slice (some ⟨go,0,none⟩) fl.length co) fl,Part.blk w.heap.size 42 #[Value.slice (some ad) l.length c,Value.int .i64 a]]):=⟨⟨_,S⟩⟩;have h:=H.out;clear H;cases k2 with
    | zero=>exfalso;cases b <;> simp[spec_ArenaOk.j2] at h
    |succ k3 =>
    simp only [spec_ArenaOk.j2] at h;cases b with
    |false =>
     obtain rfl:false=r:=by rw[if_neg (by simp),if_pos trivial] at h;exact Option.some.inj h
     refine wp_region_quietL (C:=fun w'=>∃ p:WSt w [Part.blk g7 94 #[Value.int .i64 x0,Value.bool x1,Value.string x2,Value.string x3,Value.int .i64 x4],Part.row Kd.bool 4 (.slice (some ⟨go,0,none⟩) fl.length co) fl,Part.blk w.heap.size 42 #[Value.slice (some ad) l.length c,Value.int .i64 a]],w'=p.w') (by kernel_rfl) (by kernel_rfl) ⟨⟨_,S.drew⟩,rfl⟩ ?_
     repeat(go_big_quiet_step ((go_at_call 93;refine(spec_l01In.calls x0 0 41666665 false _ HP.out).mono ?_;rintro e w2 ⟨rfl,hd⟩;exact⟨rfl,WSt.on _ hd.below⟩)))
     refine wpQuiet_nil ?_;rintro w9 ⟨⟨w9,S⟩,rfl⟩;go_wp2_with fail;go_ret;exact⟨rfl,S.below⟩
    |true =>
    rw[if_pos rfl] at h;cases hb:(x1 == u) with
    |true =>
     obtain rfl:false=r:=by rw[hb,if_pos rfl] at h;exact Option.some.inj h
     refine wp_region_quietL (C:=fun w'=>∃ p:WSt w [Part.blk g7 94 #[Value.int .i64 x0,Value.bool x1,Value.string x2,Value.string x3,Value.int .i64 x4],Part.row Kd.bool 4 (.slice (some ⟨go,0,none⟩) fl.length co) fl,Part.blk w.heap.size 42 #[Value.slice (some ad) l.length c,Value.int .i64 a]],w'=p.w') (by kernel_rfl) (by kernel_rfl) ⟨⟨_,S.drew⟩,rfl⟩ ?_
     repeat(go_big_quiet_step ((go_at_call 93;refine(spec_l01In.calls x0 0 41666665 true _ HP.out).mono ?_;rintro e w2 ⟨rfl,hd⟩;exact⟨rfl,WSt.on _ hd.below⟩)))
     refine wpQuiet_nil ?_;rintro w9 ⟨⟨w9,S⟩,rfl⟩;go_wp2_with fail;go_ret;exact⟨rfl,S.below⟩
    |false =>
    rw[hb,if_neg (by simp)] at h;cases x1 with
    |true =>
     rw[if_pos rfl] at h;obtain⟨b2,A2,h⟩:=Option.bind_eq_some_iff.mp h;refine wp_region_quietL (C:=fun w'=>∃ p:WSt w [Part.blk g7 94 #[Value.int .i64 x0,Value.bool true,Value.string x2,Value.string x3,Value.int .i64 x4],Part.row Kd.bool 4 (.slice (some ⟨go,0,none⟩) fl.length co) fl,Part.blk w.heap.size 42 #[Value.slice (some ad) l.length c,Value.int .i64 a]],w'=p.w') (by kernel_rfl) (by kernel_rfl) ⟨⟨_,S.drew⟩,rfl⟩ ?_
     repeat(go_big_quiet_step ((go_at_call 93;refine(spec_l01In.calls x0 0 41666665 true _ HP.out).mono ?_;rintro e w2 ⟨rfl,hd⟩;exact⟨rfl,WSt.on _ hd.below⟩)))
     refine wpQuiet_nil ?_;rintro w9 ⟨⟨w9,S⟩,rfl⟩;have hz0:=S.at_cell 0 rfl 0 rfl;have hz1:=S.at_cell 0 rfl 1 rfl;have hz2:=S.at_cell 0 rfl 2 rfl;have hz3:=S.at_cell 0 rfl 3 rfl;have hz4:=S.at_cell 0 rfl 4 rfl;have HS:=Aside0.mk S;clear S hq0 hq1 hq2 hq3 hq4 hqr;go_wp2_with fail;refine(spec_l01In.calls (x2.size:Int) 1 12 b2 _ A2).mono ?_;rintro e w10 ⟨rfl,hd⟩;have S:=HS.out.step hd.below;clear hd HS hz0 hz1 hz2 hz3 hz4 A2;have hz0:=S.at_cell 0 rfl 0 rfl;have hz1:=S.at_cell 0 rfl 1 rfl;have hz2:=S.at_cell 0 rfl 2 rfl;have hz3:=S.at_cell 0 rfl 3 rfl;have hz4:=S.at_cell 0 rfl 4 rfl;have HS:=Aside0.mk S;clear S;cases b2 with
     |false =>
      obtain rfl:false=r:=by rw[if_neg (by simp)] at h;exact Option.some.inj h
      go_wp2_with fail;go_ret;exact⟨rfl,HS.out.below⟩
     |true =>
     rw[if_pos rfl] at h;by_cases c4:(x3.size:Int) > 20
     ·obtain rfl:false=r:=by rw[if_pos c4] at h;exact Option.some.inj h
      have d1:decide (20 < (x3.size:Int))=true:=decide_eq_true c4;have d2:decide (20 < x3.size)=true:=decide_eq_true (by omega);go_wp2_with fail;go_ret;exact⟨rfl,HS.out.below⟩
     rw[if_neg c4] at h;have d1:decide (20 < (x3.size:Int))=false:=decide_eq_false c4;have d2:decide (20 < x3.size)=false:=decide_eq_false (by omega)
     by_cases c5:x4=0
     ·rw[if_pos c5] at h
      have d3:(x4 != 0)=false:=bne_eq_false_iff_eq.mpr c5;have d4:(x4 == 0)=true:=beq_iff_eq.mpr c5;go_wp2_with fail
      go_roundg k3
      case measure=>have:=HK2.out;omega
      case rel=>exact⟨_,rfl,⟨h⟩,⟨by have:=HK2.out;omega⟩,⟨HS.out.tail⟩⟩
     ·obtain rfl:false=r:=by rw[if_neg c5] at h;exact Option.some.inj h
      have d3:(x4 != 0)=true:=bne_iff_ne.mpr c5;have d4:(x4 == 0)=false:=beq_eq_false_iff_ne.mpr c5;go_wp2_with fail;go_ret;exact⟨rfl,HS.out.below⟩
    |false =>
     rw[if_neg (by simp)] at h;refine wp_region_quietL (C:=fun w'=>∃ p:WSt w [Part.blk g7 94 #[Value.int .i64 x0,Value.bool false,Value.string x2,Value.string x3,Value.int .i64 x4],Part.row Kd.bool 4 (.slice (some ⟨go,0,none⟩) fl.length co) fl,Part.blk w.heap.size 42 #[Value.slice (some ad) l.length c,Value.int .i64 a]],w'=p.w') (by kernel_rfl) (by kernel_rfl) ⟨⟨_,S.drew⟩,rfl⟩ ?_
     repeat(go_big_quiet_step ((go_at_call 93;refine(spec_l01In.calls x0 0 41666665 true _ HP.out).mono ?_;rintro e w2 ⟨rfl,hd⟩;exact⟨rfl,WSt.on _ hd.below⟩)))
     refine wpQuiet_nil ?_;rintro w9 ⟨⟨w9,S⟩,rfl⟩;have hz0:=S.at_cell 0 rfl 0 rfl;have hz1:=S.at_cell 0 rfl 1 rfl;have hz2:=S.at_cell 0 rfl 2 rfl;have hz3:=S.at_cell 0 rfl 3 rfl;have hz4:=S.at_cell 0 rfl 4 rfl;have HS:=Aside0.mk S;clear S hq0 hq1 hq2 hq3 hq4 hqr;by_cases c4:x2.toList=([]:List UInt8)
     case neg =>
      obtain rfl:false=r:=by rw[if_neg c4] at h;exact Option.some.inj h
      have d1:(x2.toList != ([]:List UInt8))=true:=bne_iff_ne.mpr c4;have d2:(x2.toList == ([]:List UInt8))=false:=beq_eq_false_iff_ne.mpr c4;go_wp2_with fail;go_ret;exact⟨rfl,HS.out.below⟩
     rw[if_pos c4] at h;have d1:(x2.toList != ([]:List UInt8))=false:=bne_eq_false_iff_eq.mpr c4;have d2:(x2.toList == ([]:List UInt8))=true:=beq_iff_eq.mpr c4
     by_cases c5:x3.toList=([]:List UInt8)
     ·rw[if_pos c5] at h
      have d3:(x3.toList != ([]:List UInt8))=false:=bne_eq_false_iff_eq.mpr c5;have d4:(x3.toList == ([]:List UInt8))=true:=beq_iff_eq.mpr c5;go_wp2_with fail
      go_roundg k3
      case measure=>have:=HK2.out;omega
      case rel=>exact⟨_,rfl,⟨h⟩,⟨by have:=HK2.out;omega⟩,⟨HS.out.tail⟩⟩
     ·obtain rfl:false=r:=by rw[if_neg c5] at h;exact Option.some.inj h
      have d3:(x3.toList != ([]:List UInt8))=true:=bne_iff_ne.mpr c5;have d4:(x3.toList == ([]:List UInt8))=false:=beq_eq_false_iff_ne.mpr c5;go_wp2_with fail;go_ret;exact⟨rfl,HS.out.below⟩
  ·rw[if_neg c1] at h
   obtain⟨b,A1,h⟩:=Option.bind_eq_some_iff.mp h;have H:=Aside0.mk h;clear h;have t1:(p != (-1))=true:=bne_iff_ne.mpr c1;have t2:(p == (-1))=false:=beq_eq_false_iff_ne.mpr c1;clear c1;have HI:=Aside0.mk (fun e:b=true=>l01_in (e ▸ A1));have HP:=Aside0.mk A1;clear A1;go_wp2_with fail;refine(spec_l01In.calls p 0 (wrap64 ((l.length:Int) - 1)) b _ HP.out).mono ?_;rintro e w3 ⟨rfl,hd⟩;have S:=HS.out.step hd.below;clear HS hd HP t1 t2;have HS:=Aside0.mk S
   cases b with
   |false =>
    obtain rfl:false=r:=by have h:=H.out;rw[if_neg (by simp)] at h;exact Option.some.inj h
    clear S;go_wp2_with fail;go_ret;exact⟨rfl,HS.out.below⟩
   |true =>
   have h0:0≤p:=(HI.out rfl).1;have e:wrap64 ((l.length:Int) - 1)=(l.length:Int) - 1:=by have:=HL.out;unfold wrap64;omega
   have h1:p < (l.length:Int):=by have h1:=(HI.out rfl).2;omega
   clear e;have h2:p < (fl.length:Int):=by have:=HF.out;omega
   have h:=H.out;rw[if_pos rfl,if_pos h0,if_pos h2,if_pos h1] at h;clear H HI;obtain⟨go,co,eo,-,-,-,-⟩:=Kd.R_form (S.at_R 0 rfl) (by omega);subst eo;obtain⟨hx0,hz0⟩:=Kd.R_celln false (S.at_R 0 rfl) p h0 h2;obtain⟨ad,e5,hy0,hy1,hy2,hy3,hy4⟩:=at_T94 (Kd.C_below HR.out S.below) p h0 h1;cases e5;obtain⟨u,hu⟩:∃ u,u=rdOf false fl p:=⟨_,rfl⟩;obtain⟨x,hx⟩:∃ x,x=rd_T94 l p:=⟨_,rfl⟩;rw[← hu] at hx0 h;rw[← hx] at hy0 hy1 hy2 hy3 hy4 h;have hc0:=S.at_cell 1 rfl 0 rfl;clear S hu;have H:=Aside0.mk h;have HX:=Aside0.mk hx;clear h hx;have P0:=Aside0.mk h0;have P1:=Aside0.mk h1;replace h0:=eq_true h0;replace h1:=eq_true h1;replace h2:=eq_true h2;cases u with
   |true =>
    obtain rfl:false=r:=by have h:=H.out;rw[if_pos rfl] at h;exact Option.some.inj h
    go_wp2_with fail;go_ret;exact⟨rfl,HS.out.below⟩
   |false =>
   cases hu:x.f1 with
   |true =>
    obtain rfl:false=r:=by have h:=H.out;rw[if_neg (by simp),if_pos hu] at h;exact Option.some.inj h
    rw[hu] at hy1;clear hu;go_wp2_with fail;go_ret;exact⟨rfl,HS.out.below⟩
   |false =>
   have h:=H.out;rw[if_neg (by simp),if_neg (by simp[hu])] at h;rw[hu] at hy1;clear H hu;have H:=Aside0.mk h;clear h;have m1:¬ go=w.heap.size:=fun e=>HS.out.at_own 1 0 rfl rfl (by decide) (by rw[e];rfl);have m2:¬ w.heap.size=go:=fun e=>m1 e.symm;have m3:¬ (ad.add (p.toNat * 5)).block=go:=fun e=>by
    have h1:w.heap.size≤go:=Kd.R_base (HS.out.at_R 0 rfl) go rfl;obtain⟨_,e5,h5,-⟩:=at_T94 HR.out p P0.out P1.out;cases e5;have h2:=World.block_lt_of_cell? w (ad.add (p.toNat * 5)) h5;omega
   have m4:¬ go=(ad.add (p.toNat * 5)).block:=fun e=>m3 e.symm;go_wp2_with fail
   go_roundg k1
   case measure=>have:=HK.out;omega
   case rel=>exact⟨_,_,rfl,H,⟨by have:=HK.out;omega⟩,⟨by rw[List.length_set];exact HF.out⟩,⟨St.putB HS.out p true⟩⟩
def spec_l04Xor.l0:Nat→Int→Int→Int→Int→Int→Option (Int)
|0,_,_,_,_,_=>none
|k+1,x0,x1,x5,x6,x7=>if x7 < 32 then (if (Int.tmod x0 2)=(Int.tmod x1 2) then (spec_l04Xor.l0 k (wrap64 (Int.tdiv x0 2)) (wrap64 (Int.tdiv x1 2)) x5 (wrap64 (2 * x6)) (wrap64 (x7+1))) else (spec_l04Xor.l0 k (wrap64 (Int.tdiv x0 2)) (wrap64 (Int.tdiv x1 2)) (wrap64 (x5+x6)) (wrap64 (2 * x6)) (wrap64 (x7+1)))) else (some x5)
def spec_l04Xor.f (k:Nat) (a0:Int) (a1:Int):Option (Int):=spec_l04Xor.l0 k a0 a1 0 1 0
theorem spec_l04Xor.calls (k:Nat) (a0:Int) (a1:Int) (r:Int) (w:World) (h:spec_l04Xor.f k a0 a1=some r) :
  Calls Tryz.prog 226 #[.int .i64 a0,.int .i64 a1] w fun e w'=>e=.returned (.int .i64 r)∧Drawn0 w w':=by
 unfold spec_l04Xor.f at h;have H:=h;clear h;have H':=Aside0.mk H;clear H;go_enter Tryz.func226,Tryz.ntmps226
 go_wp2
 go_loopg [0,1,5,6,7] k (fun kq v0 v1 v5 v6 v7 w'=>∃ (x0_1:Int) (x1_1:Int) (x5_1:Int) (x6_1:Int) (x7_1:Int),v0=.int .i64 x0_1∧v1=.int .i64 x1_1∧v5=.int .i64 x5_1∧v6=.int .i64 x6_1∧v7=.int .i64 x7_1∧Aside0 (spec_l04Xor.l0 kq x0_1 x1_1 x5_1 x6_1 x7_1=some r)∧Aside0 (kq≤k)∧Drawn0 w w')
 case atStart=>exact⟨(a0),(a1),(0),(1),(0),mt,mt,mt,mt,mt,H',⟨Nat.le_refl _⟩,md⟩
 case round =>
  clear H';obtain⟨x0_1,x1_1,x5_1,x6_1,x7_1,rfl,rfl,rfl,rfl,rfl,HA,HK1,⟨m1,rfl⟩⟩:=hrel;cases gk with
 |zero=>exact absurd HA.out (by simp[spec_l04Xor.l0])
 |succ k1 =>
   have H:=HA.out;clear HA;simp only [spec_l04Xor.l0] at H;by_cases c3:x7_1 < 32
   ·rw[if_pos c3] at H
    have c3b0:decide (x7_1 < 32)=true:=decide_eq_true c3;clear c3;by_cases c4:(Int.tmod x0_1 2)=(Int.tmod x1_1 2)
    ·rw[if_pos c4] at H
     have c4b0:((Int.tmod x0_1 2) == (Int.tmod x1_1 2))=true:=beq_iff_eq.mpr c4;have c4b1:((Int.tmod x0_1 2) != (Int.tmod x1_1 2))=false:=bne_eq_false_iff_eq.mpr c4;clear c4;have H':=Aside0.mk H;clear H;go_wp2
     go_roundg k1
     case measure=>have:=HK1.out;omega
     case rel=>exact⟨(wrap64 (Int.tdiv x0_1 2)),(wrap64 (Int.tdiv x1_1 2)),(x5_1),(wrap64 (2 * x6_1)),(wrap64 (x7_1+1)),mt,mt,mt,mt,mt,H',⟨by have:=HK1.out;omega⟩,md⟩
    ·rw[if_neg c4] at H
     have c4b0:((Int.tmod x0_1 2) == (Int.tmod x1_1 2))=false:=beq_eq_false_iff_ne.mpr c4;have c4b1:((Int.tmod x0_1 2) != (Int.tmod x1_1 2))=true:=bne_iff_ne.mpr c4;have H':=Aside0.mk H;clear H;go_wp2
     go_roundg k1
     case measure=>have:=HK1.out;omega
     case rel=>exact⟨(wrap64 (Int.tdiv x0_1 2)),(wrap64 (Int.tdiv x1_1 2)),(wrap64 (x5_1+x6_1)),(wrap64 (2 * x6_1)),(wrap64 (x7_1+1)),mt,mt,mt,mt,mt,H',⟨by have:=HK1.out;omega⟩,md⟩
   ·rw[if_neg c3] at H
    have c3b0:decide (x7_1 < 32)=false:=decide_eq_false c3;clear c3;obtain rfl:=Option.some.inj H;go_wp2
    go_ret;exact⟨by first|rfl|(simp;done)|(simp[*];done),md⟩
mutual
def spec_HashOf.j0:Nat→ByteArray→Int→Option (Int)
|0,_,_=>none
|k+1,x0,x1=>if x1 > 1000000000 then (spec_HashOf.j1 k x0 1000000000) else (spec_HashOf.j1 k x0 x1)
def spec_HashOf.j1:Nat→ByteArray→Int→Option (Int)
|0,_,_=>none
|k+1,x0,x1=>spec_HashOf.l0 k x0 (Int.tmod (wrap64 (2166136261+x1)) 4294967296) 0
def spec_HashOf.l0:Nat→ByteArray→Int→Int→Option (Int)
|0,_,_,_=>none
|k+1,x0,x5,x6=>if x6 < (x0.size:Int) then (if 0≤x6 then ((spec_l04Xor.f k x5 (wrap64 (bt x0 x6))).bind fun t681=>(spec_HashOf.l0 k x0 (Int.tmod (wrap64 (t681 * 16777619)) 4294967296) (wrap64 (x6+1)))) else (none)) else ((spec_l04Xor.f k x5 (wrap64 (Int.tdiv x5 65536))).bind fun t682=>(some t682))
end
def spec_HashOf.f (k:Nat) (a0:ByteArray) (a1:Int):Option (Int):=if a1 < 0 then (spec_HashOf.j0 k a0 0) else (spec_HashOf.j0 k a0 a1)
theorem spec_HashOf.calls (k:Nat) (a0:ByteArray) (a1:Int) (r:Int) (w:World) (h:spec_HashOf.f k a0 a1=some r) :
  Calls Tryz.prog 187 #[.string a0,.int .i64 a1] w fun e w'=>e=.returned (.int .i64 r)∧Drawn0 w w':=by
 unfold spec_HashOf.f at h;have H:=h;clear h;have HC3:=Aside0.mk H;clear H;go_enter Tryz.func187,Tryz.ntmps187
 go_upto_if 8 with (fail)
 go_cut [1] (fun v1 wc=>∃ (kq:Nat) (x1_2:Int),v1=.int .i64 x1_2∧Aside0 (spec_HashOf.j0 kq a0 x1_2=some r)∧Aside0 (kq≤k)∧Drawn0 w wc)
 case first =>
  have H:=HC3.out;clear HC3;by_cases c4:a1 < 0
  ·rw[if_pos c4] at H
   have c4b0:decide (a1 < 0)=true:=decide_eq_true c4;clear c4;(first|rw[c4b0]|(simp only [i64_w,i32_w];rw[c4b0])|skip)
   have H':=Aside0.mk H;clear H;go_wp2
   go_meet
   case rel=>exact⟨_,(0),mt,H',⟨by first|omega|exact Nat.le_refl _⟩,md⟩
  ·rw[if_neg c4] at H
   have c4b0:decide (a1 < 0)=false:=decide_eq_false c4;clear c4;(first|rw[c4b0]|(simp only [i64_w,i32_w];rw[c4b0])|skip)
   have H':=Aside0.mk H;clear H;go_wp2
   go_meet
   case rel=>exact⟨_,(a1),mt,H',⟨by first|omega|exact Nat.le_refl _⟩,md⟩
 case rest =>
  clear HC3;obtain⟨kq,x1_2,rfl,HA,HJ2,⟨mc2,rfl⟩⟩:=hcut;cases kq with
 |zero=>exact absurd HA.out (by simp[spec_HashOf.j0])
 |succ kj2 =>
   have H:=HA.out;clear HA;simp only [spec_HashOf.j0] at H;have HC5:=Aside0.mk H;clear H;go_upto_if 10 with (fail)
   go_cut [1] (fun v1 wc=>∃ (kq:Nat) (x1_4:Int),v1=.int .i64 x1_4∧Aside0 (spec_HashOf.j1 kq a0 x1_4=some r)∧Aside0 (kq≤kj2)∧Drawn0 w wc)
   case first =>
    have H:=HC5.out;clear HC5;by_cases c6:x1_2 > 1000000000
    ·rw[if_pos c6] at H
     have c6b0:decide (1000000000 < x1_2)=true:=decide_eq_true c6;clear c6;(first|rw[c6b0]|(simp only [i64_w,i32_w];rw[c6b0])|skip)
     have H':=Aside0.mk H;clear H;go_wp2
     go_meet
     case rel=>exact⟨_,(1000000000),mt,H',⟨by have:=HJ2.out;first|omega|exact Nat.le_refl _⟩,md⟩
    ·rw[if_neg c6] at H
     have c6b0:decide (1000000000 < x1_2)=false:=decide_eq_false c6;clear c6;(first|rw[c6b0]|(simp only [i64_w,i32_w];rw[c6b0])|skip)
     have H':=Aside0.mk H;clear H;go_wp2
     go_meet
     case rel=>exact⟨_,(x1_2),mt,H',⟨by have:=HJ2.out;first|omega|exact Nat.le_refl _⟩,md⟩
   case rest =>
    clear HC5;obtain⟨kq,x1_4,rfl,HA,HJ4,⟨mc4,rfl⟩⟩:=hcut;cases kq with
   |zero=>exact absurd HA.out (by simp[spec_HashOf.j1])
   |succ kj4 =>
     have H:=HA.out;clear HA;simp only [spec_HashOf.j1] at H;have H':=Aside0.mk H;clear H;go_wp2
     go_loopg [5,6] kj4 (fun kq v5 v6 w'=>∃ (x5_3:Int) (x6_3:Int),v5=.int .i64 x5_3∧v6=.int .i64 x6_3∧Aside0 (spec_HashOf.l0 kq a0 x5_3 x6_3=some r)∧Aside0 (kq≤kj4)∧Drawn0 w w')
     case atStart=>exact⟨(Int.tmod (wrap64 (2166136261+x1_4)) 4294967296),(0),mt,mt,H',⟨Nat.le_refl _⟩,md⟩
     case round =>
      clear H';obtain⟨x5_3,x6_3,rfl,rfl,HA,HK3,⟨m3,rfl⟩⟩:=hrel;cases gk with
     |zero=>exact absurd HA.out (by simp[spec_HashOf.l0])
     |succ k3 =>
       have H:=HA.out;clear HA;simp only [spec_HashOf.l0] at H;by_cases c7:x6_3 < (a0.size:Int)
       ·rw[if_pos c7] at H
        have c7b0:decide (x6_3 < (a0.size:Int))=true:=decide_eq_true c7;clear c7;by_cases c8:0≤x6_3
        ·rw[if_pos c8] at H
         have c8b0:decide (0≤x6_3)=true:=decide_eq_true c8;clear c8;replace H:=Option.bind_eq_some_iff.mp H;obtain⟨t681,A100,H⟩:=H;(try dsimp only at H)
         have A10:=Aside0.mk A100;clear A100;have H':=Aside0.mk H;clear H;have p9:0≤(x6_3:Int):=mo;have q9:x6_3 < (a0.size:Int):=mo;have hx9:=bt_at a0 x6_3;replace p9:=eq_true p9;replace q9:=eq_true q9;go_wp2_with (first|((with_reducible refine gate_callee (f:=226) rfl ?_);refine goesL_ (some 25) rfl rfl Tryz.func226 (by kernel_rfl) rfl #[.int .i64 x5_3,.int .i64 (wrap64 (bt a0 x6_3))] rfl ml ?_;(with_reducible refine(spec_l04Xor.calls k3 x5_3 (wrap64 (bt a0 x6_3)) t681 _ A10.out).mono ?_);rintro e w' ⟨rfl,⟨nd,rfl⟩⟩;refine⟨_,rfl,?_⟩))
         go_roundg k3
         case measure=>have:=HJ2.out;have:=HJ4.out;have:=HK3.out;omega
         case rel=>exact⟨(Int.tmod (wrap64 (t681 * 16777619)) 4294967296),(wrap64 (x6_3+1)),mt,mt,H',⟨by have:=HJ2.out;have:=HJ4.out;have:=HK3.out;omega⟩,md⟩
        ·rw[if_neg c8] at H
         exact absurd H (by simp)
       ·rw[if_neg c7] at H
        have c7b0:decide (x6_3 < (a0.size:Int))=false:=decide_eq_false c7;clear c7;replace H:=Option.bind_eq_some_iff.mp H;obtain⟨t682,A110,H⟩:=H;(try dsimp only at H)
        have A11:=Aside0.mk A110;clear A110;obtain rfl:=Option.some.inj H;go_wp2_with (first|((with_reducible refine gate_callee (f:=226) rfl ?_);refine goesL_ (some 31) rfl rfl Tryz.func226 (by kernel_rfl) rfl #[.int .i64 x5_3,.int .i64 (wrap64 (Int.tdiv x5_3 65536))] rfl ml ?_;(with_reducible refine(spec_l04Xor.calls k3 x5_3 (wrap64 (Int.tdiv x5_3 65536)) t682 _ A11.out).mono ?_);rintro e w' ⟨rfl,⟨nd,rfl⟩⟩;refine⟨_,rfl,?_⟩));go_ret;exact⟨by first|rfl|(simp;done)|(simp[*];done),md⟩
end Go.Proofs.YtediiolcoilepaaGreat.GNear
