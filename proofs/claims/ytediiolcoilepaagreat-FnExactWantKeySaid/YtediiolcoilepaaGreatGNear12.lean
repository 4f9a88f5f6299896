/- Walks of callees. -/
import Derived.Test.YtediiolcoilepaaGreatGNear0
import Derived.Test.YtediiolcoilepaaGreatGNear9
import Derived.Test.YtediiolcoilepaaGreatGNear10
namespace Go.Proofs.YtediiolcoilepaaGreat.GNear
set_option maxHeartbeats 8000000
set_option maxRecDepth 100000
open Go.RowKit Go.Proofs.YtediiolcoilepaaGreatW.PrintWords Go.Proofs.YtediiolcoilepaaGreatW.PrintLast Go.Proofs.YtediiolcoilepaaGreatW.PrintMore
attribute [local go_sem] max2_int min2_int max_two min_two max_three min_three max_four min_four
set_option linter.unusedVariables false
set_option linter.unusedSimpArgs false
theorem zc12 {w w1:World} {a:Addr} {v:Value} (hb:Below w.heap.size w w1) (h:w.cell? a=some v):w1.cell? a=some v:=(hb.cell (World.block_lt_of_cell? w _ h)).trans h
def spec_SeekKey.j0:Nat→ByteArray→Bool→List (S151)→List (S151)→Int→Option (Int × Bool)
|0,_,_,_,_,_=>none
|k+1,x1,x13,x775000,x775001,x775002=>if x13=true then (some (0,false)) else ((spec_l04Seek.f k x775000 x1).bind fun t776=>(if t776 ≥ 0 then (if 0≤t776 then (if t776 < (x775000.length:Int) then (some ((rd_T151 x775000 t776).f1,true)) else (none)) else (none)) else ((spec_l04Seek.f k x775001 x1).bind fun t778=>(if t778 ≥ 0 then (if 0≤t778 then (if t778 < (x775001.length:Int) then (some ((rd_T151 x775001 t778).f1,true)) else (none)) else (none)) else (some (0,false))))))
def spec_SeekKey.f (k:Nat) (l0_0:List (S151)) (l0_1:List (S151)) (a0_2:Int) (a1:ByteArray):Option (Int × Bool):=(spec_TableOk.f k l0_0 l0_1 a0_2).bind fun t775=>(if t775=true then (spec_SeekKey.j0 k a1 (a1.toList == ([]:List UInt8)) l0_0 l0_1 a0_2) else (spec_SeekKey.j0 k a1 true l0_0 l0_1 a0_2))
theorem spec_SeekKey.calls (k:Nat) (A0_0:Option Addr) (c0_0:Nat) (l0_0:List (S151)) (A0_1:Option Addr) (c0_1:Nat) (l0_1:List (S151)) (a0_2:Int) (a1:ByteArray) (r1:Int) (r2:Bool) (w:World) (hr0_0:Kd.C k151 w A0_0 l0_0.length l0_0) (hc0_0:l0_0.length≤c0_0) (hr0_1:Kd.C k151 w A0_1 l0_1.length l0_1) (hc0_1:l0_1.length≤c0_1) (h:spec_SeekKey.f k l0_0 l0_1 a0_2 a1=some (r1,r2)) :
  Calls Tryz.prog 44 #[.agg #[.slice A0_0 l0_0.length c0_0,.slice A0_1 l0_1.length c0_1,.int .i64 a0_2],.string a1] w fun e w'=>e=.returned (.tuple #[.int .i64 r1,.bool r2])∧Below w.heap.size w w':=by
 have hu45:=Tryz.underlying45;have HR0_0:=Aside0.mk hr0_0;have HC0_0:=Aside0.mk hc0_0;clear hr0_0 hc0_0;have HR0_1:=Aside0.mk hr0_1;have HC0_1:=Aside0.mk hc0_1;clear hr0_1 hc0_1;have HB:=Aside0.mk (Below.refl w.heap.size w);unfold spec_SeekKey.f at h;have H:=h;clear h;have HC3:=Aside0.mk H;clear H;go_enter Tryz.func44,Tryz.ntmps44;go_upto_region 1 with (first|((with_reducible refine gate_dst (N:=2) rfl ?_);refine yE (N:=2) (cs:=#[.slice A0_0 l0_0.length c0_0,.slice A0_1 l0_1.length c0_1,.int .i64 a0_2]) (t:=45) fun gb774 hg w4 hbox hb=>?_;obtain⟨n0_,n2_⟩:=yX (w:=w) hg hb mq;have n1_:=Aside0.mk (hbox);have n3_:=n2_;clear HB;have HB:=n0_;have BK774:=n1_;have GW774:=n2_;have GE774:=n3_;clear n0_ n1_ n2_ n3_;clear hb hbox hg))
 (try simp only [Act.put,List.setIfInBounds_toArray,List.set_cons_zero,List.set_cons_succ])
 go_cut [13] (fun v13 wc=>∃ (kq:Nat) (x13_2:Bool),v13=.bool x13_2∧Aside0 (spec_SeekKey.j0 kq a1 x13_2 l0_0 l0_1 a0_2=some (r1,r2))∧Aside0 (kq≤k)∧Aside0 (wc.heap[gb774]? = some (.cells #[(.slice A0_0 l0_0.length c0_0),(.slice A0_1 l0_1.length c0_1),.int .i64 a0_2] 45 (0,0)))∧Aside0 (Below w.heap.size w wc))
 case first =>
  have H:=HC3.out;clear HC3;replace H:=Option.bind_eq_some_iff.mp H;obtain⟨t775,A50,H⟩:=H;(try dsimp only at H)
  have A5:=Aside0.mk A50;clear A50;obtain⟨hcz7_0,hcz7_1,hcz7_2,hfz7_0,hfz7_1,hfz7_2⟩:=zb3 BK774.out;go_wp2_with (first|((with_reducible refine gate_callee (f:=114) rfl ?_);refine goesL_ (some 8) rfl rfl Tryz.func114 (by kernel_rfl) rfl #[.agg #[.slice A0_0 l0_0.length c0_0,.slice A0_1 l0_1.length c0_1,.int .i64 a0_2]] rfl ml ?_;(with_reducible refine(spec_TableOk.calls k _ _ l0_0 _ _ l0_1 a0_2 t775 _ ?side1 ?side2 ?side3 ?side4 A5.out).mono ?_);(case side1=>exact mc HR0_0.out);(case side2=>exact HC0_0.out);(case side3=>exact mc HR0_1.out);(case side4=>exact HC0_1.out);rintro e w8 ⟨rfl,hb⟩;refine⟨_,rfl,?_⟩;have n0_:=Aside0.mk (zK (mz BK774.out) hb);have n1_:=Aside0.mk (zN mq hb);clear BK774;clear HB;have BK774:=n0_;have HB:=n1_;clear n0_ n1_;(try clear hb);(try clear hb2);(try clear hk);(try clear hi);(refine Classical.byCases (p:=(t775=true)) (fun c6=>?zp74) (fun c6=>?zn74);(case' zn74=>(replace c6:=Bool.eq_false_iff.mpr c6);(subst c6);(have H1:(spec_SeekKey.j0 k a1 true l0_0 l0_1 a0_2)=some (r1,r2):=by rw[if_neg (show ¬ (false=true) by decide)] at H;exact H);(clear H);(have H:=H1);(clear H1);(have H':=Aside0.mk H);(clear H);(obtain⟨hcz9_0,hcz9_1,hcz9_2,hfz9_0,hfz9_1,hfz9_2⟩:=zb3 BK774.out));(case' zp74=>(subst c6);(have H1:(spec_SeekKey.j0 k a1 (a1.toList == ([]:List UInt8)) l0_0 l0_1 a0_2)=some (r1,r2):=by rw[if_pos rfl] at H;exact H);(clear H);(have H:=H1);(clear H1);(have H':=Aside0.mk H);(clear H);(obtain⟨hcz7_0,hcz7_1,hcz7_2,hfz7_0,hfz7_1,hfz7_2⟩:=zb3 BK774.out)))))
  ·go_meet
   case rel=>exact⟨_,((a1.toList == ([]:List UInt8))),mt,H',⟨by first|omega|exact Nat.le_refl _⟩,⟨mz BK774.out⟩,⟨mq⟩⟩
  ·go_meet
   case rel=>exact⟨_,(true),mt,H',⟨by first|omega|exact Nat.le_refl _⟩,⟨mz BK774.out⟩,⟨mq⟩⟩
 case rest =>
  clear HC3;obtain⟨kq,x13_2,rfl,HA,HJ2,BK774,HB⟩:=hcut;cases kq with
 |zero=>exact absurd HA.out (by simp[spec_SeekKey.j0])
 |succ kj2 =>
   have H:=HA.out;clear HA;simp only [spec_SeekKey.j0] at H;by_cases c11:x13_2=true
   ·subst c11
    rw[if_pos rfl] at H;simp only [Option.some.injEq,Prod.mk.injEq] at H;obtain⟨rfl,rfl⟩:=H;go_wp2
    go_ret2
    exact⟨mr,mq⟩
   ·replace c11:=Bool.eq_false_iff.mpr c11
    subst c11;rw[if_neg (show ¬ (false=true) by decide)] at H;replace H:=Option.bind_eq_some_iff.mp H;obtain⟨t776,A120,H⟩:=H;(try dsimp only at H)
    have A12:=Aside0.mk A120;clear A120;by_cases c13:t776 ≥ 0
    ·rw[if_pos c13] at H
     have c13b0:decide (0≤t776)=true:=decide_eq_true c13;clear c13;by_cases c14:0≤t776
     ·rw[if_pos c14] at H
      have c14b0:decide (0≤t776)=true:=decide_eq_true c14;clear c14;by_cases c15:t776 < (l0_0.length:Int)
      ·rw[if_pos c15] at H
       have c15b0:decide (t776 < (l0_0.length:Int))=true:=decide_eq_true c15;clear c15;simp only [Option.some.injEq,Prod.mk.injEq] at H;obtain⟨rfl,rfl⟩:=H;obtain⟨hcz16_0,hcz16_1,hcz16_2,hfz16_0,hfz16_1,hfz16_2⟩:=zb3 BK774.out;go_wp2_with (first|((with_reducible refine gate_callee (f:=119) rfl ?_);refine goesL_ (some 17) rfl rfl Tryz.func119 (by kernel_rfl) rfl #[.slice A0_0 l0_0.length c0_0,.string a1] rfl ml ?_;(with_reducible refine(spec_l04Seek.calls kj2 _ _ l0_0 a1 t776 _ ?side1 ?side2 A12.out).mono ?_);(case side1=>exact mc HR0_0.out);(case side2=>exact HC0_0.out);rintro e w17 ⟨rfl,hb⟩;refine⟨_,rfl,?_⟩;have n0_:=Aside0.mk (zK (mz BK774.out) hb);have n1_:=Aside0.mk (zN mq hb);clear BK774;clear HB;have BK774:=n0_;have HB:=n1_;clear n0_ n1_;(try clear hb);(try clear hb2);(try clear hk);(try clear hi);obtain⟨hcz18_0,hcz18_1,hcz18_2,hfz18_0,hfz18_1,hfz18_2⟩:=zb3 BK774.out;have p777:0≤(t776:Int):=mo;have q777:t776 < (l0_0.length:Int):=mo;obtain⟨ad777,e777,hx777_0,hx777_1⟩:=at_T151 (Kd.C_below HR0_0.out HB.out) t776 p777 q777;cases e777;replace p777:=eq_true p777;replace q777:=eq_true q777))
       go_ret2
       exact⟨mr,mq⟩
      ·rw[if_neg c15] at H
       exact absurd H (by simp)
     ·rw[if_neg c14] at H
      exact absurd H (by simp)
    ·rw[if_neg c13] at H
     have c13b0:decide (0≤t776)=false:=decide_eq_false c13;clear c13;replace H:=Option.bind_eq_some_iff.mp H;obtain⟨t778,A190,H⟩:=H;(try dsimp only at H)
     have A19:=Aside0.mk A190;clear A190;by_cases c20:t778 ≥ 0
     ·rw[if_pos c20] at H
      have c20b0:decide (0≤t778)=true:=decide_eq_true c20;clear c20;by_cases c21:0≤t778
      ·rw[if_pos c21] at H
       have c21b0:decide (0≤t778)=true:=decide_eq_true c21;clear c21;by_cases c22:t778 < (l0_1.length:Int)
       ·rw[if_pos c22] at H
        have c22b0:decide (t778 < (l0_1.length:Int))=true:=decide_eq_true c22;clear c22;simp only [Option.some.injEq,Prod.mk.injEq] at H;obtain⟨rfl,rfl⟩:=H;obtain⟨hcz23_0,hcz23_1,hcz23_2,hfz23_0,hfz23_1,hfz23_2⟩:=zb3 BK774.out;go_wp2_with (first|((with_reducible refine gate_callee (f:=119) rfl ?_);refine goesL_ (some 17) rfl rfl Tryz.func119 (by kernel_rfl) rfl #[.slice A0_0 l0_0.length c0_0,.string a1] rfl ml ?_;(with_reducible refine(spec_l04Seek.calls kj2 _ _ l0_0 a1 t776 _ ?side1 ?side2 A12.out).mono ?_);(case side1=>exact mc HR0_0.out);(case side2=>exact HC0_0.out);rintro e w24 ⟨rfl,hb⟩;refine⟨_,rfl,?_⟩;have n0_:=Aside0.mk (zK (mz BK774.out) hb);have n1_:=Aside0.mk (zN mq hb);clear BK774;clear HB;have BK774:=n0_;have HB:=n1_;clear n0_ n1_;(try clear hb);(try clear hb2);(try clear hk);(try clear hi);obtain⟨hcz25_0,hcz25_1,hcz25_2,hfz25_0,hfz25_1,hfz25_2⟩:=zb3 BK774.out)|((with_reducible refine gate_callee (f:=119) rfl ?_);refine goesL_ (some 29) rfl rfl Tryz.func119 (by kernel_rfl) rfl #[.slice A0_1 l0_1.length c0_1,.string a1] rfl ml ?_;(with_reducible refine(spec_l04Seek.calls kj2 _ _ l0_1 a1 t778 _ ?side1 ?side2 A19.out).mono ?_);(case side1=>exact mc HR0_1.out);(case side2=>exact HC0_1.out);rintro e w26 ⟨rfl,hb⟩;refine⟨_,rfl,?_⟩;have n0_:=Aside0.mk (zK (mz BK774.out) hb);have n1_:=Aside0.mk (zN mq hb);clear BK774;clear HB;have BK774:=n0_;have HB:=n1_;clear n0_ n1_;(try clear hb);(try clear hb2);(try clear hk);(try clear hi);obtain⟨hcz27_0,hcz27_1,hcz27_2,hfz27_0,hfz27_1,hfz27_2⟩:=zb3 BK774.out;have p779:0≤(t778:Int):=mo;have q779:t778 < (l0_1.length:Int):=mo;obtain⟨ad779,e779,hx779_0,hx779_1⟩:=at_T151 (Kd.C_below HR0_1.out HB.out) t778 p779 q779;cases e779;replace p779:=eq_true p779;replace q779:=eq_true q779))
        go_ret2
        exact⟨mr,mq⟩
       ·rw[if_neg c22] at H
        exact absurd H (by simp)
      ·rw[if_neg c21] at H
       exact absurd H (by simp)
     ·rw[if_neg c20] at H
      have c20b0:decide (0≤t778)=false:=decide_eq_false c20;clear c20;simp only [Option.some.injEq,Prod.mk.injEq] at H;obtain⟨rfl,rfl⟩:=H;obtain⟨hcz28_0,hcz28_1,hcz28_2,hfz28_0,hfz28_1,hfz28_2⟩:=zb3 BK774.out;go_wp2_with (first|((with_reducible refine gate_callee (f:=119) rfl ?_);refine goesL_ (some 17) rfl rfl Tryz.func119 (by kernel_rfl) rfl #[.slice A0_0 l0_0.length c0_0,.string a1] rfl ml ?_;(with_reducible refine(spec_l04Seek.calls kj2 _ _ l0_0 a1 t776 _ ?side1 ?side2 A12.out).mono ?_);(case side1=>exact mc HR0_0.out);(case side2=>exact HC0_0.out);rintro e w29 ⟨rfl,hb⟩;refine⟨_,rfl,?_⟩;have n0_:=Aside0.mk (zK (mz BK774.out) hb);have n1_:=Aside0.mk (zN mq hb);clear BK774;clear HB;have BK774:=n0_;have HB:=n1_;clear n0_ n1_;(try clear hb);(try clear hb2);(try clear hk);(try clear hi);obtain⟨hcz30_0,hcz30_1,hcz30_2,hfz30_0,hfz30_1,hfz30_2⟩:=zb3 BK774.out)|((with_reducible refine gate_callee (f:=119) rfl ?_);refine goesL_ (some 29) rfl rfl Tryz.func119 (by kernel_rfl) rfl #[.slice A0_1 l0_1.length c0_1,.string a1] rfl ml ?_;(with_reducible refine(spec_l04Seek.calls kj2 _ _ l0_1 a1 t778 _ ?side1 ?side2 A19.out).mono ?_);(case side1=>exact mc HR0_1.out);(case side2=>exact HC0_1.out);rintro e w31 ⟨rfl,hb⟩;refine⟨_,rfl,?_⟩;have n0_:=Aside0.mk (zK (mz BK774.out) hb);have n1_:=Aside0.mk (zN mq hb);clear BK774;clear HB;have BK774:=n0_;have HB:=n1_;clear n0_ n1_;(try clear hb);(try clear hb2);(try clear hk);(try clear hi)))
      go_ret2
      exact⟨mr,mq⟩
def spec_l03At.j0:Nat→Int→Bool→List (S94)→Int→Option (Int)
|0,_,_,_,_=>none
|k+1,x1,x20,x781000,x781001=>if x20=true then (some (-1)) else (if 0≤(Int.tmod x1 24) then (if (Int.tmod x1 24) < (x781000.length:Int) then (if ((rd_T94 x781000 (Int.tmod x1 24)).f1=true) then (if ((rd_T94 x781000 (Int.tmod x1 24)).f0)=(wrap64 (Int.tdiv x1 24)) then (some (Int.tmod x1 24)) else (some (-1))) else (some (-1))) else (none)) else (none))
def spec_l03At.f (k:Nat) (l0_0:List (S94)) (a0_1:Int) (a1:Int):Option (Int):=(spec_ArenaOk.f k l0_0 a0_1).bind fun t781=>(if t781=true then (if a1 < 0 then (spec_l03At.j0 k a1 true l0_0 a0_1) else (spec_l03At.j0 k a1 (decide ((Int.tmod a1 24) ≥ (l0_0.length:Int))) l0_0 a0_1)) else (spec_l03At.j0 k a1 true l0_0 a0_1))
theorem spec_l03At.calls (k:Nat) (A0_0:Option Addr) (c0_0:Nat) (l0_0:List (S94)) (a0_1:Int) (a1:Int) (r:Int) (w:World) (hr0_0:Kd.C k94 w A0_0 l0_0.length l0_0) (hc0_0:l0_0.length≤c0_0) (h:spec_l03At.f k l0_0 a0_1 a1=some r) :
  Calls Tryz.prog 120 #[.agg #[.slice A0_0 l0_0.length c0_0,.int .i64 a0_1],.int .i64 a1] w fun e w'=>e=.returned (.int .i64 r)∧Below w.heap.size w w':=by
 have hu42:=Tryz.underlying42;have HR0_0:=Aside0.mk hr0_0;have HC0_0:=Aside0.mk hc0_0;clear hr0_0 hc0_0;have HB:=Aside0.mk (Below.refl w.heap.size w);unfold spec_l03At.f at h;have H:=h;clear h;have HC3:=Aside0.mk H;clear H;go_enter Tryz.func120,Tryz.ntmps120;go_upto_region 1 with (first|((with_reducible refine gate_dst (N:=2) rfl ?_);(try(refine gate_guard (by rfl) ?_;dsimp only));refine yE (N:=2) (cs:=#[.slice A0_0 l0_0.length c0_0,.int .i64 a0_1]) (t:=42) fun gb780 hg w4 hbox hb=>?_;obtain⟨n0_,n2_⟩:=yX (w:=w) hg hb mq;have n1_:=Aside0.mk (hbox);have n3_:=n2_;clear HB;have HB:=n0_;have BK780:=n1_;have GW780:=n2_;have GE780:=n3_;clear n0_ n1_ n2_ n3_;clear hb hbox hg))
 (try simp only [Act.put,List.setIfInBounds_toArray,List.set_cons_zero,List.set_cons_succ])
 go_cut [20] (fun v20 wc=>∃ (kq:Nat) (x20_2:Bool),v20=.bool x20_2∧Aside0 (spec_l03At.j0 kq a1 x20_2 l0_0 a0_1=some r)∧Aside0 (kq≤k)∧Aside0 (wc.heap[gb780]? = some (.cells #[(.slice A0_0 l0_0.length c0_0),.int .i64 a0_1] 42 (0,0)))∧Aside0 (Below w.heap.size w wc))
 case first =>
  have H:=HC3.out;clear HC3;replace H:=Option.bind_eq_some_iff.mp H;obtain⟨t781,A50,H⟩:=H;(try dsimp only at H)
  have A5:=Aside0.mk A50;clear A50;obtain⟨hcz8_0,hcz8_1,hfz8_0,hfz8_1⟩:=zb2 BK780.out;go_wp2_with (first|((with_reducible refine gate_callee (f:=113) rfl ?_);refine goesL_ (some 7) rfl rfl Tryz.func113 (by kernel_rfl) rfl #[.agg #[.slice A0_0 l0_0.length c0_0,.int .i64 a0_1]] rfl ml ?_;(with_reducible refine(spec_ArenaOk.calls k _ _ l0_0 a0_1 t781 _ ?side1 ?side2 A5.out).mono ?_);(case side1=>exact mc HR0_0.out);(case side2=>exact HC0_0.out);rintro e w9 ⟨rfl,hb⟩;refine⟨_,rfl,?_⟩;have n0_:=Aside0.mk (zK (mz BK780.out) hb);have n1_:=Aside0.mk (zN mq hb);clear BK780;clear HB;have BK780:=n0_;have HB:=n1_;clear n0_ n1_;(try clear hb);(try clear hb2);(try clear hk);(try clear hi);obtain⟨hcz12_0,hcz12_1,hfz12_0,hfz12_1⟩:=zb2 BK780.out;(refine Classical.byCases (p:=(t781=true)) (fun c6=>?zp76) (fun c6=>?zn76);(case' zn76=>(replace c6:=Bool.eq_false_iff.mpr c6);(subst c6);(have H1:(spec_l03At.j0 k a1 true l0_0 a0_1)=some r:=by rw[if_neg (show ¬ (false=true) by decide)] at H;exact H);(clear H);(have H:=H1);(clear H1);(have H':=Aside0.mk H);(clear H);(obtain⟨hcz13_0,hcz13_1,hfz13_0,hfz13_1⟩:=zb2 BK780.out));(case' zp76=>(subst c6);(have H1:(if a1 < 0 then (spec_l03At.j0 k a1 true l0_0 a0_1) else (spec_l03At.j0 k a1 (decide ((Int.tmod a1 24) ≥ (l0_0.length:Int))) l0_0 a0_1))=some r:=by rw[if_pos rfl] at H;exact H);(clear H);(have H:=H1);(clear H1);(refine Classical.byCases (p:=(a1 < 0)) (fun c7=>?zp75) (fun c7=>?zn75);(case' zn75=>(rw[if_neg c7] at H);(have c7b0:decide (a1 < 0)=false:=decide_eq_false c7);(clear c7);((first|rw[c7b0]|(simp only [i64_w,i32_w];rw[c7b0])|skip));(have H':=Aside0.mk H);(clear H);(obtain⟨hcz10_0,hcz10_1,hfz10_0,hfz10_1⟩:=zb2 BK780.out));(case' zp75=>(rw[if_pos c7] at H);(have c7b0:decide (a1 < 0)=true:=decide_eq_true c7);(clear c7);((first|rw[c7b0]|(simp only [i64_w,i32_w];rw[c7b0])|skip));(have H':=Aside0.mk H);(clear H);(obtain⟨hcz8_0,hcz8_1,hfz8_0,hfz8_1⟩:=zb2 BK780.out)))))))
  ·go_meet
   case rel=>exact⟨_,(true),mt,H',⟨by first|omega|exact Nat.le_refl _⟩,⟨mz BK780.out⟩,⟨mq⟩⟩
  ·go_meet
   case rel=>exact⟨_,(decide ((Int.tmod a1 24) ≥ (l0_0.length:Int))),mt,H',⟨by first|omega|exact Nat.le_refl _⟩,⟨mz BK780.out⟩,⟨mq⟩⟩
  ·go_meet
   case rel=>exact⟨_,(true),mt,H',⟨by first|omega|exact Nat.le_refl _⟩,⟨mz BK780.out⟩,⟨mq⟩⟩
 case rest =>
  clear HC3;obtain⟨kq,x20_2,rfl,HA,HJ2,BK780,HB⟩:=hcut;cases kq with
 |zero=>exact absurd HA.out (by simp[spec_l03At.j0])
 |succ kj2 =>
   have H:=HA.out;clear HA;simp only [spec_l03At.j0] at H;by_cases c15:x20_2=true
   ·subst c15
    rw[if_pos rfl] at H;obtain rfl:=Option.some.inj H;go_wp2
    go_ret;exact⟨mr,mq⟩
   ·replace c15:=Bool.eq_false_iff.mpr c15
    subst c15;rw[if_neg (show ¬ (false=true) by decide)] at H;obtain⟨ji16,hji16⟩:∃ j_:Int,(Int.tmod a1 24)=j_:=⟨_,rfl⟩;replace H:(if 0≤(ji16) then (if (ji16) < (l0_0.length:Int) then (if ((rd_T94 l0_0 (ji16)).f1=true) then (if ((rd_T94 l0_0 (ji16)).f0)=(wrap64 (Int.tdiv a1 24)) then (some ji16) else (some (-1))) else (some (-1))) else (none)) else (none))=some r:=by first|(rw[hji16] at H;exact H)|(simp only [hji16] at H ⊢;exact H)
    by_cases c17:0≤(ji16)
    ·rw[if_pos c17] at H
     have c17b0:decide (0≤(ji16))=true:=decide_eq_true c17;clear c17;by_cases c18:(ji16) < (l0_0.length:Int)
     ·rw[if_pos c18] at H
      have c18b0:decide ((ji16) < (l0_0.length:Int))=true:=decide_eq_true c18;clear c18;obtain⟨bq19,hbq19⟩:∃ b_:Bool,b_=((rd_T94 l0_0 (ji16)).f1):=⟨_,rfl⟩;rw[← hbq19] at H;have Nbq19:=Aside0.mk hbq19;clear hbq19;by_cases c20:(bq19=true)
      ·subst c20
       rw[if_pos rfl] at H;by_cases c21:((rd_T94 l0_0 (ji16)).f0)=(wrap64 (Int.tdiv a1 24))
       ·rw[if_pos c21] at H
        have c21b0:(((rd_T94 l0_0 (ji16)).f0) == (wrap64 (Int.tdiv a1 24)))=true:=beq_iff_eq.mpr c21;have c21b1:(((rd_T94 l0_0 (ji16)).f0) != (wrap64 (Int.tdiv a1 24)))=false:=bne_eq_false_iff_eq.mpr c21;clear c21;obtain rfl:=Option.some.inj H;obtain⟨hcz22_0,hcz22_1,hfz22_0,hfz22_1⟩:=zb2 BK780.out;have p782:0≤((ji16):Int):=mo;have q782:(ji16) < (l0_0.length:Int):=mo;obtain⟨ad782,e782,hx782_0,hx782_1,hx782_2,hx782_3,hx782_4⟩:=at_T94 HR0_0.out (ji16) p782 q782
        (try rw[← Nbq19.out] at hx782_1)
        cases e782;replace hx782_0:=zc12 HB.out hx782_0;replace hx782_1:=zc12 HB.out hx782_1;replace hx782_2:=zc12 HB.out hx782_2;replace hx782_3:=zc12 HB.out hx782_3;replace hx782_4:=zc12 HB.out hx782_4;replace p782:=eq_true p782;replace q782:=eq_true q782;have p783:0≤((ji16):Int):=mo
        have q783:(ji16) < (l0_0.length:Int):=mo;obtain⟨ad783,e783,hx783_0,hx783_1,hx783_2,hx783_3,hx783_4⟩:=at_T94 HR0_0.out (ji16) p783 q783
        (try rw[← Nbq19.out] at hx783_1)
        obtain rfl:ad782=ad783:=(by injection e783);replace hx783_0:=zc12 HB.out hx783_0;replace hx783_1:=zc12 HB.out hx783_1;replace hx783_2:=zc12 HB.out hx783_2;replace hx783_3:=zc12 HB.out hx783_3;replace hx783_4:=zc12 HB.out hx783_4;replace p783:=eq_true p783;replace q783:=eq_true q783;go_wp2
        go_ret;exact⟨by first|rfl|(simp[] <;> rfl)|(simp only [← hji16];first|rfl|(simp[] <;> rfl))|(simp[*] <;> rfl),mq⟩
       ·rw[if_neg c21] at H
        have c21b0:(((rd_T94 l0_0 (ji16)).f0) == (wrap64 (Int.tdiv a1 24)))=false:=beq_eq_false_iff_ne.mpr c21;have c21b1:(((rd_T94 l0_0 (ji16)).f0) != (wrap64 (Int.tdiv a1 24)))=true:=bne_iff_ne.mpr c21;obtain rfl:=Option.some.inj H;obtain⟨hcz23_0,hcz23_1,hfz23_0,hfz23_1⟩:=zb2 BK780.out;have p782:0≤((ji16):Int):=mo;have q782:(ji16) < (l0_0.length:Int):=mo;obtain⟨ad782,e782,hx782_0,hx782_1,hx782_2,hx782_3,hx782_4⟩:=at_T94 HR0_0.out (ji16) p782 q782
        (try rw[← Nbq19.out] at hx782_1)
        cases e782;replace hx782_0:=zc12 HB.out hx782_0;replace hx782_1:=zc12 HB.out hx782_1;replace hx782_2:=zc12 HB.out hx782_2;replace hx782_3:=zc12 HB.out hx782_3;replace hx782_4:=zc12 HB.out hx782_4;replace p782:=eq_true p782;replace q782:=eq_true q782;have p783:0≤((ji16):Int):=mo
        have q783:(ji16) < (l0_0.length:Int):=mo;obtain⟨ad783,e783,hx783_0,hx783_1,hx783_2,hx783_3,hx783_4⟩:=at_T94 HR0_0.out (ji16) p783 q783
        (try rw[← Nbq19.out] at hx783_1)
        obtain rfl:ad782=ad783:=(by injection e783);replace hx783_0:=zc12 HB.out hx783_0;replace hx783_1:=zc12 HB.out hx783_1;replace hx783_2:=zc12 HB.out hx783_2;replace hx783_3:=zc12 HB.out hx783_3;replace hx783_4:=zc12 HB.out hx783_4;replace p783:=eq_true p783;replace q783:=eq_true q783;go_wp2
        go_ret;exact⟨by first|rfl|(simp[] <;> rfl)|(simp only [← hji16];first|rfl|(simp[] <;> rfl))|(simp[*] <;> rfl),mq⟩
      ·replace c20:=Bool.eq_false_iff.mpr c20
       subst c20;rw[if_neg (show ¬ (false=true) by decide)] at H;obtain rfl:=Option.some.inj H;obtain⟨hcz24_0,hcz24_1,hfz24_0,hfz24_1⟩:=zb2 BK780.out;have p782:0≤((ji16):Int):=mo;have q782:(ji16) < (l0_0.length:Int):=mo;obtain⟨ad782,e782,hx782_0,hx782_1,hx782_2,hx782_3,hx782_4⟩:=at_T94 HR0_0.out (ji16) p782 q782
       (try rw[← Nbq19.out] at hx782_1)
       cases e782;replace hx782_0:=zc12 HB.out hx782_0;replace hx782_1:=zc12 HB.out hx782_1;replace hx782_2:=zc12 HB.out hx782_2;replace hx782_3:=zc12 HB.out hx782_3;replace hx782_4:=zc12 HB.out hx782_4;replace p782:=eq_true p782;replace q782:=eq_true q782;go_wp2
       go_ret;exact⟨by first|rfl|(simp[] <;> rfl)|(simp only [← hji16];first|rfl|(simp[] <;> rfl))|(simp[*] <;> rfl),mq⟩
     ·rw[if_neg c18] at H
      exact absurd H (by simp)
    ·rw[if_neg c17] at H
     exact absurd H (by simp)
def spec_Look.f (k:Nat) (l0_0:List (S94)) (a0_1:Int) (a1:Int):Option (ByteArray × ByteArray × Bool):=(spec_l03At.f k l0_0 a0_1 a1).bind fun t785=>(if t785 < 0 then (some ((⟨#[]⟩:ByteArray),(⟨#[]⟩:ByteArray),false)) else (if 0≤t785 then (if t785 < (l0_0.length:Int) then (some ((rd_T94 l0_0 t785).f2,(rd_T94 l0_0 t785).f3,true)) else (none)) else (none)))
theorem spec_Look.calls (k:Nat) (A0_0:Option Addr) (c0_0:Nat) (l0_0:List (S94)) (a0_1:Int) (a1:Int) (r1:ByteArray) (r2:ByteArray) (r3:Bool) (w:World) (hr0_0:Kd.C k94 w A0_0 l0_0.length l0_0) (hc0_0:l0_0.length≤c0_0) (h:spec_Look.f k l0_0 a0_1 a1=some (r1,r2,r3)) :
  Calls Tryz.prog 45 #[.agg #[.slice A0_0 l0_0.length c0_0,.int .i64 a0_1],.int .i64 a1] w fun e w'=>e=.returned (.tuple #[.string r1,.string r2,.bool r3])∧Below w.heap.size w w':=by
 have hu42:=Tryz.underlying42;have HR0_0:=Aside0.mk hr0_0;have HC0_0:=Aside0.mk hc0_0;clear hr0_0 hc0_0;have HB:=Aside0.mk (Below.refl w.heap.size w);unfold spec_Look.f at h;have H:=h;clear h;replace H:=Option.bind_eq_some_iff.mp H;obtain⟨t785,A30,H⟩:=H;(try dsimp only at H)
 have A3:=Aside0.mk A30;clear A30;by_cases c4:t785 < 0
 ·rw[if_pos c4] at H
  have c4b0:decide (t785 < 0)=true:=decide_eq_true c4;clear c4;simp only [Option.some.injEq,Prod.mk.injEq] at H;obtain⟨rfl,rfl,rfl⟩:=H;go_enter Tryz.func45,Tryz.ntmps45;go_wp2_with (first|((with_reducible refine gate_dst (N:=2) rfl ?_);refine yE (N:=2) (cs:=#[.slice A0_0 l0_0.length c0_0,.int .i64 a0_1]) (t:=42) fun gb784 hg w5 hbox hb=>?_;obtain⟨n0_,n2_⟩:=yX (w:=w) hg hb mq;have n1_:=Aside0.mk (hbox);have n3_:=n2_;clear HB;have HB:=n0_;have BK784:=n1_;have GW784:=n2_;have GE784:=n3_;clear n0_ n1_ n2_ n3_;clear hb hbox hg;obtain⟨hcz6_0,hcz6_1,hfz6_0,hfz6_1⟩:=zb2 BK784.out)|(go_at_call 120;(with_reducible refine(spec_l03At.calls k _ _ l0_0 a0_1 a1 t785 _ ?side1 ?side2 A3.out).mono ?_);(case side1=>exact mc HR0_0.out);(case side2=>exact HC0_0.out);rintro e w7 ⟨rfl,hb⟩;have n0_:=Aside0.mk (zK (mz BK784.out) hb);have n1_:=Aside0.mk (zN mq hb);clear BK784;clear HB;have BK784:=n0_;have HB:=n1_;clear n0_ n1_;(try clear hb);(try clear hb2);(try clear hk);(try clear hi)))
  repeat(go_quiet (first|(go_at_call 120;(with_reducible refine(spec_l03At.calls k _ _ l0_0 a0_1 a1 t785 _ ?side1 ?side2 A3.out).mono ?_);(case side1=>exact mc HR0_0.out);(case side2=>exact HC0_0.out);rintro e w7 ⟨rfl,hb⟩;have n0_:=Aside0.mk (zK (mz BK784.out) hb);have n1_:=Aside0.mk (zN mq hb);clear BK784;clear HB;have BK784:=n0_;have HB:=n1_;clear n0_ n1_;(try clear hb);(try clear hb2);(try clear hk);(try clear hi)));try go_wp2_with (first|(go_at_call 120;(with_reducible refine(spec_l03At.calls k _ _ l0_0 a0_1 a1 t785 _ ?side1 ?side2 A3.out).mono ?_);(case side1=>exact mc HR0_0.out);(case side2=>exact HC0_0.out);rintro e w7 ⟨rfl,hb⟩;have n0_:=Aside0.mk (zK (mz BK784.out) hb);have n1_:=Aside0.mk (zN mq hb);clear BK784;clear HB;have BK784:=n0_;have HB:=n1_;clear n0_ n1_;(try clear hb);(try clear hb2);(try clear hk);(try clear hi))))
  go_ret3
  exact⟨mr,mq⟩
 ·rw[if_neg c4] at H
  have c4b0:decide (t785 < 0)=false:=decide_eq_false c4;clear c4;by_cases c8:0≤t785
  ·rw[if_pos c8] at H
   have c8b0:decide (0≤t785)=true:=decide_eq_true c8;clear c8;by_cases c9:t785 < (l0_0.length:Int)
   ·rw[if_pos c9] at H
    have c9b0:decide (t785 < (l0_0.length:Int))=true:=decide_eq_true c9;clear c9;simp only [Option.some.injEq,Prod.mk.injEq] at H;obtain⟨rfl,rfl,rfl⟩:=H;go_enter Tryz.func45,Tryz.ntmps45;go_wp2_with (first|((with_reducible refine gate_dst (N:=2) rfl ?_);refine yE (N:=2) (cs:=#[.slice A0_0 l0_0.length c0_0,.int .i64 a0_1]) (t:=42) fun gb784 hg w10 hbox hb=>?_;obtain⟨n0_,n2_⟩:=yX (w:=w) hg hb mq;have n1_:=Aside0.mk (hbox);have n3_:=n2_;clear HB;have HB:=n0_;have BK784:=n1_;have GW784:=n2_;have GE784:=n3_;clear n0_ n1_ n2_ n3_;clear hb hbox hg;obtain⟨hcz11_0,hcz11_1,hfz11_0,hfz11_1⟩:=zb2 BK784.out)|(go_at_call 120;(with_reducible refine(spec_l03At.calls k _ _ l0_0 a0_1 a1 t785 _ ?side1 ?side2 A3.out).mono ?_);(case side1=>exact mc HR0_0.out);(case side2=>exact HC0_0.out);rintro e w12 ⟨rfl,hb⟩;have n0_:=Aside0.mk (zK (mz BK784.out) hb);have n1_:=Aside0.mk (zN mq hb);clear BK784;clear HB;have BK784:=n0_;have HB:=n1_;clear n0_ n1_;(try clear hb);(try clear hb2);(try clear hk);(try clear hi);obtain⟨hcz13_0,hcz13_1,hfz13_0,hfz13_1⟩:=zb2 BK784.out;have p786:0≤(t785:Int):=mo;have q786:t785 < (l0_0.length:Int):=mo;obtain⟨ad786,e786,hx786_0,hx786_1,hx786_2,hx786_3,hx786_4⟩:=at_T94 (Kd.C_below HR0_0.out HB.out) t785 p786 q786;cases e786;replace p786:=eq_true p786;replace q786:=eq_true q786;have p787:0≤(t785:Int):=mo;have q787:t785 < (l0_0.length:Int):=mo;obtain⟨ad787,e787,hx787_0,hx787_1,hx787_2,hx787_3,hx787_4⟩:=at_T94 HR0_0.out t785 p787 q787;obtain rfl:ad786=ad787:=(by injection e787);replace hx787_0:=zc12 HB.out hx787_0;replace hx787_1:=zc12 HB.out hx787_1;replace hx787_2:=zc12 HB.out hx787_2;replace hx787_3:=zc12 HB.out hx787_3;replace hx787_4:=zc12 HB.out hx787_4;replace p787:=eq_true p787;replace q787:=eq_true q787))
    repeat(go_quiet (first|(go_at_call 120;(with_reducible refine(spec_l03At.calls k _ _ l0_0 a0_1 a1 t785 _ ?side1 ?side2 A3.out).mono ?_);(case side1=>exact mc HR0_0.out);(case side2=>exact HC0_0.out);rintro e w12 ⟨rfl,hb⟩;have n0_:=Aside0.mk (zK (mz BK784.out) hb);have n1_:=Aside0.mk (zN mq hb);clear BK784;clear HB;have BK784:=n0_;have HB:=n1_;clear n0_ n1_;(try clear hb);(try clear hb2);(try clear hk);(try clear hi);obtain⟨hcz13_0,hcz13_1,hfz13_0,hfz13_1⟩:=zb2 BK784.out;have p786:0≤(t785:Int):=mo;have q786:t785 < (l0_0.length:Int):=mo;obtain⟨ad786,e786,hx786_0,hx786_1,hx786_2,hx786_3,hx786_4⟩:=at_T94 (Kd.C_below HR0_0.out HB.out) t785 p786 q786;cases e786;replace p786:=eq_true p786;replace q786:=eq_true q786;have p787:0≤(t785:Int):=mo;have q787:t785 < (l0_0.length:Int):=mo;obtain⟨ad787,e787,hx787_0,hx787_1,hx787_2,hx787_3,hx787_4⟩:=at_T94 HR0_0.out t785 p787 q787;obtain rfl:ad786=ad787:=(by injection e787);replace hx787_0:=zc12 HB.out hx787_0;replace hx787_1:=zc12 HB.out hx787_1;replace hx787_2:=zc12 HB.out hx787_2;replace hx787_3:=zc12 HB.out hx787_3;replace hx787_4:=zc12 HB.out hx787_4;replace p787:=eq_true p787;replace q787:=eq_true q787));try go_wp2_with (first|(go_at_call 120;(with_reducible refine(spec_l03At.calls k _ _ l0_0 a0_1 a1 t785 _ ?side1 ?side2 A3.out).mono ?_);(case side1=>exact mc HR0_0.out);(case side2=>exact HC0_0.out);rintro e w12 ⟨rfl,hb⟩;have n0_:=Aside0.mk (zK (mz BK784.out) hb);have n1_:=Aside0.mk (zN mq hb);clear BK784;clear HB;have BK784:=n0_;have HB:=n1_;clear n0_ n1_;(try clear hb);(try clear hb2);(try clear hk);(try clear hi);obtain⟨hcz13_0,hcz13_1,hfz13_0,hfz13_1⟩:=zb2 BK784.out;have p786:0≤(t785:Int):=mo;have q786:t785 < (l0_0.length:Int):=mo;obtain⟨ad786,e786,hx786_0,hx786_1,hx786_2,hx786_3,hx786_4⟩:=at_T94 (Kd.C_below HR0_0.out HB.out) t785 p786 q786;cases e786;replace p786:=eq_true p786;replace q786:=eq_true q786;have p787:0≤(t785:Int):=mo;have q787:t785 < (l0_0.length:Int):=mo;obtain⟨ad787,e787,hx787_0,hx787_1,hx787_2,hx787_3,hx787_4⟩:=at_T94 HR0_0.out t785 p787 q787;obtain rfl:ad786=ad787:=(by injection e787);replace hx787_0:=zc12 HB.out hx787_0;replace hx787_1:=zc12 HB.out hx787_1;replace hx787_2:=zc12 HB.out hx787_2;replace hx787_3:=zc12 HB.out hx787_3;replace hx787_4:=zc12 HB.out hx787_4;replace p787:=eq_true p787;replace q787:=eq_true q787)))
    go_ret3
    exact⟨mr,mq⟩
   ·rw[if_neg c9] at H
    exact absurd H (by simp)
  ·rw[if_neg c8] at H
   exact absurd H (by simp)
end Go.Proofs.YtediiolcoilepaaGreat.GNear
