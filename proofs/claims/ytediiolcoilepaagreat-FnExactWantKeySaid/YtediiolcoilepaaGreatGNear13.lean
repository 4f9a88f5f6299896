/- Walks of callees. -/
import Derived.Test.YtediiolcoilepaaGreatGNear0
import Derived.Test.YtediiolcoilepaaGreatGNear1
import Derived.Test.YtediiolcoilepaaGreatGNear2
import Derived.Test.YtediiolcoilepaaGreatGNear3
import Derived.Test.YtediiolcoilepaaGreatGNear4
import Derived.Test.YtediiolcoilepaaGreatGNear5
import Derived.Test.YtediiolcoilepaaGreatGNear6
import Derived.Test.YtediiolcoilepaaGreatGNear7
import Derived.Test.YtediiolcoilepaaGreatGNear8
import Derived.Test.YtediiolcoilepaaGreatGNear9
import Derived.Test.YtediiolcoilepaaGreatGNear10
import Derived.Test.YtediiolcoilepaaGreatGNear11
import Derived.Test.YtediiolcoilepaaGreatGNear12
namespace Go.Proofs.YtediiolcoilepaaGreat.GNear
set_option maxHeartbeats 8000000
set_option maxRecDepth 100000
open Go.RowKit Go.Proofs.YtediiolcoilepaaGreatW.PrintWords Go.Proofs.YtediiolcoilepaaGreatW.PrintLast Go.Proofs.YtediiolcoilepaaGreatW.PrintMore
attribute [local go_sem] max2_int min2_int max_two min_two max_three min_three max_four min_four
set_option linter.unusedVariables false
set_option linter.unusedSimpArgs false
theorem zc13 {w w1:World} {a:Addr} {v:Value} (hb:Below w.heap.size w w1) (h:w.cell? a=some v):w1.cell? a=some v:=(hb.cell (World.block_lt_of_cell? w _ h)).trans h
def impl_bitsOf.f (k:Nat) (a0:ByteArray):Option (Int):=(impl_HashOf.f k a0 7).bind fun t574=>((impl_HashOf.f k a0 8).bind fun t575=>(if 0≤(IntKind.u64.wrap (Int.tmod t574 32)) then (if 0≤(IntKind.u64.wrap (Int.tmod t575 32)) then (some (Go.bits .or .i64 (shl .i64 1 (IntKind.u64.wrap (Int.tmod t574 32))) (shl .i64 1 (IntKind.u64.wrap (Int.tmod t575 32))))) else (none)) else (none)))
theorem impl_bitsOf.calls (k:Nat) (a0:ByteArray) (r:Int) (w:World) (h:impl_bitsOf.f k a0=some r) :
  Calls Tryz.prog 214 #[.string a0] w fun e w'=>e=.returned (.int .i64 r)∧Below w.heap.size w w':=by
 have HB:=Aside0.mk (Below.refl w.heap.size w);have H:((impl_HashOf.f k a0 7).bind fun t574=>((impl_HashOf.f k a0 8).bind fun t575=>(if 0≤(IntKind.u64.wrap (Int.tmod t574 32)) then (if 0≤(IntKind.u64.wrap (Int.tmod t575 32)) then (some (Go.bits .or .i64 (shl .i64 1 (IntKind.u64.wrap (Int.tmod t574 32))) (shl .i64 1 (IntKind.u64.wrap (Int.tmod t575 32))))) else (none)) else (none))))=some r:=h;clear h;replace H:=Option.bind_eq_some_iff.mp H;obtain⟨t574,A20,H⟩:=H;replace H:((impl_HashOf.f k a0 8).bind fun t575=>(if 0≤(IntKind.u64.wrap (Int.tmod t574 32)) then (if 0≤(IntKind.u64.wrap (Int.tmod t575 32)) then (some (Go.bits .or .i64 (shl .i64 1 (IntKind.u64.wrap (Int.tmod t574 32))) (shl .i64 1 (IntKind.u64.wrap (Int.tmod t575 32))))) else (none)) else (none)))=some r:=H;have A2:=Aside0.mk A20;clear A20;replace H:=Option.bind_eq_some_iff.mp H;obtain⟨t575,A30,H⟩:=H;replace H:(if 0≤(IntKind.u64.wrap (Int.tmod t574 32)) then (if 0≤(IntKind.u64.wrap (Int.tmod t575 32)) then (some (Go.bits .or .i64 (shl .i64 1 (IntKind.u64.wrap (Int.tmod t574 32))) (shl .i64 1 (IntKind.u64.wrap (Int.tmod t575 32))))) else (none)) else (none))=some r:=H;have A3:=Aside0.mk A30;clear A30;obtain⟨ji4,hji4⟩:∃ j_:Int,(IntKind.u64.wrap (Int.tmod t574 32))=j_:=⟨_,rfl⟩;replace H:(if 0≤(ji4) then (if 0≤(IntKind.u64.wrap (Int.tmod t575 32)) then (some (Go.bits .or .i64 (shl .i64 1 (ji4)) (shl .i64 1 (IntKind.u64.wrap (Int.tmod t575 32))))) else (none)) else (none))=some r:=by first|(rw[hji4] at H;exact H)|(simp only [hji4] at H ⊢;exact H)
 (try rw[hji4] at A2)
 (try rw[hji4] at A3)
 go_enter Tryz.func214,Tryz.ntmps214;go_wp2_with (first|((with_reducible refine gate_callee (f:=206) rfl ?_);refine goesL_ (some 6) rfl rfl Tryz.func206 (by kernel_rfl) rfl #[.string a0,.int .i64 7] rfl ml ?_;(with_reducible refine(impl_HashOf.calls k a0 7 t574 _ A2.out).mono ?_);rintro e w10 ⟨rfl,hb⟩;refine⟨_,rfl,?_⟩;have n0_:=Aside0.mk (zN mq hb);clear HB;have HB:=n0_;clear n0_;(try clear hb);(try clear hb2);(try clear hk);(try clear hi))|((with_reducible refine gate_callee (f:=206) rfl ?_);refine goesL_ (some 9) rfl rfl Tryz.func206 (by kernel_rfl) rfl #[.string a0,.int .i64 8] rfl ml ?_;(with_reducible refine(impl_HashOf.calls k a0 8 t575 _ A3.out).mono ?_);rintro e w11 ⟨rfl,hb⟩;refine⟨_,rfl,?_⟩;have n0_:=Aside0.mk (zN mq hb);clear HB;have HB:=n0_;clear n0_;(try clear hb);(try clear hb2);(try clear hk);(try clear hi);(refine Classical.byCases (p:=(0≤(ji4))) (fun c5=>?zp64) (fun c5=>?zn64);(case' zn64=>(rw[if_neg c5] at H);(exact absurd H (by simp)));(case' zp64=>(rw[if_pos c5] at H);(have c5b0:=eq_true c5);(have c5b1:decide (0≤(ji4))=true:=decide_eq_true c5);(clear c5);(obtain⟨ji6,hji6⟩:∃ j_:Int,(shl .i64 1 (ji4))=j_:=⟨_,rfl⟩);(replace H:(if 0≤(IntKind.u64.wrap (Int.tmod t575 32)) then (some (Go.bits .or .i64 (ji6) (shl .i64 1 (IntKind.u64.wrap (Int.tmod t575 32))))) else (none))=some r:=by first|(rw[hji6] at H;exact H)|(simp only [hji6] at H ⊢;exact H));((try rw[hji6] at A2));((try rw[hji6] at A3));(have hji6_:(IntKind.i64.wrap (1 * 2 ^ min (ji4).toNat 64))=ji6:=hji6);(have hji6z:(ji4)≤64→(IntKind.i64.wrap (1 * 2 ^ (ji4).toNat))=ji6:=shl_small hji6);(have hji6u:(IntKind.i64.wrap (2 ^ min (ji4).toNat 64))=ji6:=by have h_:=hji6_;rw[Int.one_mul] at h_;exact h_);(have hji6v:(ji4)≤64→(IntKind.i64.wrap (2 ^ (ji4).toNat))=ji6:=fun hle_=>by have h_:=hji6z hle_;rw[Int.one_mul] at h_;exact h_);(have hji6y:(wrap64 (1 * 2 ^ min (ji4).toNat 64))=ji6:=(i64_w _).symm.trans hji6_);(have hji6x:(ji4)≤64→(wrap64 (1 * 2 ^ (ji4).toNat))=ji6:=fun h_=>(i64_w _).symm.trans (hji6z h_));(obtain⟨ji7,hji7⟩:∃ j_:Int,(IntKind.u64.wrap (Int.tmod t575 32))=j_:=⟨_,rfl⟩);(replace H:(if 0≤(ji7) then (some (Go.bits .or .i64 (ji6) (shl .i64 1 (ji7)))) else (none))=some r:=by first|(rw[hji7] at H;exact H)|(simp only [hji7] at H ⊢;exact H));((try rw[hji7] at A2));((try rw[hji7] at A3));(refine Classical.byCases (p:=(0≤(ji7))) (fun c8=>?zp63) (fun c8=>?zn63);(case' zn63=>(rw[if_neg c8] at H);(exact absurd H (by simp)));(case' zp63=>(rw[if_pos c8] at H);(have c8b0:=eq_true c8);(have c8b1:decide (0≤(ji7))=true:=decide_eq_true c8);(clear c8);(obtain⟨ji9,hji9⟩:∃ j_:Int,(shl .i64 1 (ji7))=j_:=⟨_,rfl⟩);(replace H:(some (Go.bits .or .i64 (ji6) (ji9)))=some r:=by first|(rw[hji9] at H;exact H)|(simp only [hji9] at H ⊢;exact H));((try rw[hji9] at A2));((try rw[hji9] at A3));(have hji9_:(IntKind.i64.wrap (1 * 2 ^ min (ji7).toNat 64))=ji9:=hji9);(have hji9z:(ji7)≤64→(IntKind.i64.wrap (1 * 2 ^ (ji7).toNat))=ji9:=shl_small hji9);(have hji9u:(IntKind.i64.wrap (2 ^ min (ji7).toNat 64))=ji9:=by have h_:=hji9_;rw[Int.one_mul] at h_;exact h_);(have hji9v:(ji7)≤64→(IntKind.i64.wrap (2 ^ (ji7).toNat))=ji9:=fun hle_=>by have h_:=hji9z hle_;rw[Int.one_mul] at h_;exact h_);(have hji9y:(wrap64 (1 * 2 ^ min (ji7).toNat 64))=ji9:=(i64_w _).symm.trans hji9_);(have hji9x:(ji7)≤64→(wrap64 (1 * 2 ^ (ji7).toNat))=ji9:=fun h_=>(i64_w _).symm.trans (hji9z h_));(obtain rfl:=Option.some.inj H)))))))
 ·go_ret
  exact⟨by first|rfl|(simp[] <;> rfl)|(simp only [← hji4,← hji6,← hji7,← hji9];first|rfl|(simp[] <;> rfl))|(simp[*] <;> rfl),mq⟩
def impl_SeenKey.f (k:Nat) (a0_0:Int) (a1:ByteArray):Option (Bool):=(impl_bitsOf.f k a1).bind fun t577=>((impl_DoorOk.f a0_0).bind fun t578=>(if t578=true then (some ((Go.bits .and .i64 a0_0 t577) == t577)) else (some false)))
theorem impl_SeenKey.calls (k:Nat) (a0_0:Int) (a1:ByteArray) (r:Bool) (w:World) (h:impl_SeenKey.f k a0_0 a1=some r) :
  Calls Tryz.prog 162 #[.agg #[.int .i64 a0_0],.string a1] w fun e w'=>e=.returned (.bool r)∧Below w.heap.size w w':=by
 have hu48:=Tryz.underlying48;have HB:=Aside0.mk (Below.refl w.heap.size w);have H:((impl_bitsOf.f k a1).bind fun t577=>((impl_DoorOk.f a0_0).bind fun t578=>(if t578=true then (some ((Go.bits .and .i64 a0_0 t577) == t577)) else (some false))))=some r:=h;clear h;replace H:=Option.bind_eq_some_iff.mp H;obtain⟨t577,A30,H⟩:=H;replace H:((impl_DoorOk.f a0_0).bind fun t578=>(if t578=true then (some ((Go.bits .and .i64 a0_0 t577) == t577)) else (some false)))=some r:=H;have A3:=Aside0.mk A30;clear A30;replace H:=Option.bind_eq_some_iff.mp H;obtain⟨t578,A40,H⟩:=H;replace H:(if t578=true then (some ((Go.bits .and .i64 a0_0 t577) == t577)) else (some false))=some r:=H;have A4:=Aside0.mk A40;clear A40;go_enter Tryz.func162,Tryz.ntmps162;go_wp2_with (first|((with_reducible refine gate_dst (N:=2) rfl ?_);refine yE (N:=2) (cs:=#[.int .i64 a0_0]) (t:=48) fun gb576 hg w6 hbox hb=>?_;obtain⟨n0_,n2_⟩:=yX (w:=w) hg hb mq;have n1_:=Aside0.mk (hbox);have n3_:=n2_;clear HB;have HB:=n0_;have BK576:=n1_;have GW576:=n2_;have GE576:=n3_;clear n0_ n1_ n2_ n3_;clear hb hbox hg)|((with_reducible refine gate_callee (f:=214) rfl ?_);refine goesL_ (some 7) rfl rfl Tryz.func214 (by kernel_rfl) rfl #[.string a1] rfl ml ?_;(with_reducible refine(impl_bitsOf.calls k a1 t577 _ A3.out).mono ?_);rintro e w7 ⟨rfl,hb⟩;refine⟨_,rfl,?_⟩;have n0_:=Aside0.mk (zK (mz BK576.out) hb);have n1_:=Aside0.mk (zN mq hb);clear BK576;clear HB;have BK576:=n0_;have HB:=n1_;clear n0_ n1_;(try clear hb);(try clear hb2);(try clear hk);(try clear hi);have hcz8_0:w7.cell? ⟨gb576,0,none⟩=some (.int .i64 a0_0):=(zO BK576.out 0).trans rfl;have hfz8_0:=zP BK576.out 0)|((with_reducible refine gate_callee (f:=129) rfl ?_);refine goesL_ (some 9) rfl rfl Tryz.func129 (by kernel_rfl) rfl #[.agg #[.int .i64 a0_0]] rfl ml ?_;(with_reducible refine(impl_DoorOk.calls a0_0 t578 _ A4.out).mono ?_);rintro e w9 ⟨rfl,hb⟩;refine⟨_,rfl,?_⟩;have n0_:=Aside0.mk (zK (mz BK576.out) hb);have n1_:=Aside0.mk (zN mq hb);clear BK576;clear HB;have BK576:=n0_;have HB:=n1_;clear n0_ n1_;(try clear hb);(try clear hb2);(try clear hk);(try clear hi);have hcz10_0:w9.cell? ⟨gb576,0,none⟩=some (.int .i64 a0_0):=(zO BK576.out 0).trans rfl;have hfz10_0:=zP BK576.out 0;(refine Classical.byCases (p:=(t578=true)) (fun c5=>?zp65) (fun c5=>?zn65);(case' zn65=>(replace c5:=Bool.eq_false_iff.mpr c5);(subst c5);(have H1:(some false)=some r:=by rw[if_neg (show ¬ (false=true) by decide)] at H;exact H);(clear H);(have H:=H1);(clear H1);(obtain rfl:=Option.some.inj H));(case' zp65=>(subst c5);(have H1:(some ((Go.bits .and .i64 a0_0 t577) == t577))=some r:=by rw[if_pos rfl] at H;exact H);(clear H);(have H:=H1);(clear H1);(obtain rfl:=Option.some.inj H)))))
 ·go_ret
  exact⟨mr,mq⟩
 ·go_ret
  exact⟨mr,mq⟩
def impl_MarkKey.f (k:Nat) (a0_0:Int) (a1:ByteArray):Option (Int):=(impl_DoorOk.f a0_0).bind fun t581=>(if t581=true then ((impl_bitsOf.f k a1).bind fun t582=>(some (Go.bits .or .i64 a0_0 t582))) else (some a0_0))
theorem impl_MarkKey.calls (k:Nat) (a0_0:Int) (a1:ByteArray) (r:Int) (w:World) (h:impl_MarkKey.f k a0_0 a1=some r) :
  Calls Tryz.prog 163 #[.agg #[.int .i64 a0_0],.string a1] w fun e w'=>e=.returned (.agg #[.int .i64 r])∧Below w.heap.size w w':=by
 have hu48:=Tryz.underlying48;have HB:=Aside0.mk (Below.refl w.heap.size w);have H:((impl_DoorOk.f a0_0).bind fun t581=>(if t581=true then ((impl_bitsOf.f k a1).bind fun t582=>(some (Go.bits .or .i64 a0_0 t582))) else (some a0_0)))=some r:=h;clear h;replace H:=Option.bind_eq_some_iff.mp H;obtain⟨t581,A30,H⟩:=H;replace H:(if t581=true then ((impl_bitsOf.f k a1).bind fun t582=>(some (Go.bits .or .i64 a0_0 t582))) else (some a0_0))=some r:=H;have A3:=Aside0.mk A30;clear A30;by_cases c4:t581=true
 ·subst c4
  have H1:((impl_bitsOf.f k a1).bind fun t582=>(some (Go.bits .or .i64 a0_0 t582)))=some r:=by rw[if_pos rfl] at H;exact H
  clear H;have H:=H1;clear H1;replace H:=Option.bind_eq_some_iff.mp H;obtain⟨t582,A50,H⟩:=H;replace H:(some (Go.bits .or .i64 a0_0 t582))=some r:=H;have A5:=Aside0.mk A50;clear A50;obtain rfl:=Option.some.inj H;go_enter Tryz.func163,Tryz.ntmps163
  try go_wp2_with (first|((with_reducible refine gate_dst (N:=2) rfl ?_);refine yE (N:=2) (cs:=#[.int .i64 a0_0]) (t:=48) fun gb579 hg w6 hbox hb=>?_;obtain⟨n0_,n2_⟩:=yX (w:=w) hg hb mq;have n1_:=Aside0.mk (hbox);have n3_:=n2_;clear HB;have HB:=n0_;have BK579:=n1_;have GW579:=n2_;have GE579:=n3_;clear n0_ n1_ n2_ n3_;clear hb hbox hg)|((with_reducible refine gate_dst (N:=4) rfl ?_);refine yE (N:=4) (cs:=#[.int .i64 0]) (t:=48) fun gb580 hg w7 hbox hb=>?_;obtain⟨n0_,n5_,n6_⟩:=yY hg hb (mz BK579.out);obtain⟨n1_,n3_⟩:=yX (w:=w) hg hb mq;have n2_:=Aside0.mk (hbox);have n4_:=n3_;clear BK579;clear HB;have BK579:=n0_;have HB:=n1_;have BK580:=n2_;have GW580:=n3_;have GE580:=n4_;have NB579_580:=n5_;have NB580_579:=n6_;clear n0_ n1_ n2_ n3_ n4_ n5_ n6_;clear hb hbox hg;have hnb8:=NB579_580.out;have hnc8:=NB580_579.out;have hcz9_0:w7.cell? ⟨gb579,0,none⟩=some (.int .i64 a0_0):=(zO BK579.out 0).trans rfl;have hfz9_0:=zP BK579.out 0)|((with_reducible refine gate_callee (f:=129) rfl ?_);refine goesL_ (some 6) rfl rfl Tryz.func129 (by kernel_rfl) rfl #[.agg #[.int .i64 a0_0]] rfl ml ?_;(with_reducible refine(impl_DoorOk.calls a0_0 true _ A3.out).mono ?_);rintro e w10 ⟨rfl,hb⟩;refine⟨_,rfl,?_⟩;have n0_:=Aside0.mk (zK (mz BK579.out) hb);have n1_:=Aside0.mk (zK (mz BK580.out) hb);have n2_:=Aside0.mk (zN mq hb);clear BK579;clear BK580;clear HB;have BK579:=n0_;have BK580:=n1_;have HB:=n2_;clear n0_ n1_ n2_;(try clear hb);(try clear hb2);(try clear hk);(try clear hi)))
  have n0_:=Aside0.mk (zC BK579.out);have n1_:=Aside0.mk (zC BK580.out);have n2_:=Aside0.mk (zH HB.out);clear BK579;clear BK580;clear HB;have BK579:=n0_;have BK580:=n1_;have HB:=n2_;clear n0_ n1_ n2_;refine start_ (n:=7) (S:=fun w'=>w'.cell? ⟨gb579,0,none⟩=some (.int .i64 a0_0)) (ds:=[6]) #[false,false,false,false,false,false,false] (by kernel_rfl) rfl rfl ((zO BK579.out 0).trans rfl) (fun hHeld=>?_);generalize w10.drew=w11 at BK579 BK580 HB hHeld ⊢;refine pure_ (i:=0) (N:=some 7) (v:=?_) (a':=?_) #[true,false,false,false,false,false,false] rfl rfl (by kernel_rfl) (fun _ _ _ h=>h) (Or.inl ⟨by rfl,?_⟩) ?_ ?_;rotate_left
  ·intro w'
   go_simp
   with_reducible rfl
  rotate_left
  ·simp only [Act.put,List.setIfInBounds_toArray,List.set_cons_zero,List.set_cons_succ,i64_w,i32_w]
   rfl
  refine pure_ (i:=2) (N:=some 9) (v:=?_) (a':=?_) #[true,false,true,false,false,false,false] rfl rfl (by kernel_rfl) (fun _ _ _ h=>h) (Or.inl ⟨by rfl,?_⟩) ?_ ?_;rotate_left
  ·intro w'
   go_simp
   with_reducible rfl
  rotate_left
  ·simp only [Act.put,List.setIfInBounds_toArray,List.set_cons_zero,List.set_cons_succ,i64_w,i32_w]
   rfl
  refine take_ (i:=1) (N:=some 8) (v:=?_) (a':=?_) #[true,true,true,false,false,false,false] rfl rfl (by kernel_rfl) (fun _ _ _ h=>h) (Or.inl ⟨by rfl,?_⟩) hHeld ?_ ?_;rotate_left
  ·intro w' s0
   go_simp
   with_reducible rfl
  rotate_left
  ·simp only [Act.put,List.setIfInBounds_toArray,List.set_cons_zero,List.set_cons_succ,i64_w,i32_w]
   rfl
  refine one_ (i:=3) (N:=some 10) #[true,true,true,true,false,false,false] rfl rfl (by kernel_rfl) (by decide) (fun K hK=>?_);refine goes_ Tryz.func214 (by kernel_rfl) rfl #[.string a1] (by rfl) rfl rfl ml ?_
  with_reducible refine(impl_bitsOf.calls k a1 t582 _ A5.out).mono ?_
  rintro e w12 ⟨rfl,hb⟩;refine⟨_,rfl,?_⟩;have n0_:=Aside0.mk (zK (mz BK579.out) hb);have n1_:=Aside0.mk (zK (mz BK580.out) hb);have n2_:=Aside0.mk (zN mq hb);clear BK579;clear BK580;clear HB;have BK579:=n0_;have BK580:=n1_;have HB:=n2_;clear n0_ n1_ n2_;(try clear hb)
  (try clear hb2)
  (try clear hk)
  (try clear hi)
  refine hK.out _ _ ((zO BK579.out 0).trans rfl) (fun hHeld=>?_);clear hK K;refine norm_ (a':=?_) ?_ ?_;rotate_left
  ·show Act.put _ (some 10) _=_
   simp only [Act.put,List.setIfInBounds_toArray,List.set_cons_zero,List.set_cons_succ,i64_w,i32_w];rfl
  refine pure_ (i:=4) (N:=some 11) (v:=?_) (a':=?_) #[true,true,true,true,true,false,false] rfl rfl (by kernel_rfl) (fun _ _ _ h=>h) (Or.inl ⟨by rfl,?_⟩) ?_ ?_;rotate_left
  ·intro w'
   go_simp
   with_reducible rfl
  rotate_left
  ·simp only [Act.put,List.setIfInBounds_toArray,List.set_cons_zero,List.set_cons_succ,i64_w,i32_w]
   rfl
  refine pure_ (i:=5) (N:=some 12) (v:=?_) (a':=?_) #[true,true,true,true,true,true,false] rfl rfl (by kernel_rfl) (fun _ _ _ h=>h) (Or.inl ⟨by rfl,?_⟩) ?_ ?_;rotate_left
  ·intro w'
   go_simp
   with_reducible rfl
  rotate_left
  ·simp only [Act.put,List.setIfInBounds_toArray,List.set_cons_zero,List.set_cons_succ,i64_w,i32_w]
   rfl
  refine last_ (i:=6) (N:=none) #[true,true,true,true,true,true,true] rfl rfl (by kernel_rfl) (by decide) (fun K hK=>?_);have hs13:w12.cell? ⟨gb579,0,none⟩=some (.int .i64 a0_0):=(zO BK579.out 0).trans rfl;have hfs13:=zP BK579.out 0;have hns13_1:=NB580_579.out;have hms13_1:=NB579_580.out;refine skip_ (w1:=?_) (by rfl) rfl ?_ ?_;rotate_left
  ·go_simp
   rfl
  refine hK.out _ _ ?_;clear hK K;refine done_ (by kernel_rfl) ?_;have hcz14_0:w12.cell? ⟨gb579,0,none⟩=some (.int .i64 a0_0):=(zO BK579.out 0).trans rfl;have hfz14_0:=zP BK579.out 0;have hcz15_0:w12.cell? ⟨gb580,0,none⟩=some (.int .i64 0):=(zO BK580.out 0).trans rfl;have hfz15_0:=zP BK580.out 0
  try go_wp2
  refine bodyPost_ret (results_cell_row rfl _ _ gb580 48 #[.int .i64 (Go.bits .or .i64 a0_0 t582)] (0,0) _ rfl (by(with_reducible repeat(first|apply zA|apply zC|apply zB));refine blk_put (cs:=#[.int .i64 0]) ?_ 0 _ rfl;(with_reducible repeat(first|apply zA|apply zC|apply zB));refine zT ?_ NB580_579.out _;(with_reducible repeat(first|apply zA|apply zC|apply zB));exact BK580.out) Tryz.underlying48 rfl (by kernel_rfl)) rfl ?_;exact⟨mr,mq⟩
 ·replace c4:=Bool.eq_false_iff.mpr c4
  subst c4;have H1:(some a0_0)=some r:=by rw[if_neg (show ¬ (false=true) by decide)] at H;exact H
  clear H;have H:=H1;clear H1;obtain rfl:=Option.some.inj H;go_enter Tryz.func163,Tryz.ntmps163;go_wp2_with (first|((with_reducible refine gate_dst (N:=2) rfl ?_);refine yE (N:=2) (cs:=#[.int .i64 a0_0]) (t:=48) fun gb579 hg w16 hbox hb=>?_;obtain⟨n0_,n2_⟩:=yX (w:=w) hg hb mq;have n1_:=Aside0.mk (hbox);have n3_:=n2_;clear HB;have HB:=n0_;have BK579:=n1_;have GW579:=n2_;have GE579:=n3_;clear n0_ n1_ n2_ n3_;clear hb hbox hg)|((with_reducible refine gate_dst (N:=4) rfl ?_);refine yE (N:=4) (cs:=#[.int .i64 0]) (t:=48) fun gb580 hg w17 hbox hb=>?_;obtain⟨n0_,n5_,n6_⟩:=yY hg hb (mz BK579.out);obtain⟨n1_,n3_⟩:=yX (w:=w) hg hb mq;have n2_:=Aside0.mk (hbox);have n4_:=n3_;clear BK579;clear HB;have BK579:=n0_;have HB:=n1_;have BK580:=n2_;have GW580:=n3_;have GE580:=n4_;have NB579_580:=n5_;have NB580_579:=n6_;clear n0_ n1_ n2_ n3_ n4_ n5_ n6_;clear hb hbox hg;have hnb18:=NB579_580.out;have hnc18:=NB580_579.out;have hcz19_0:w17.cell? ⟨gb579,0,none⟩=some (.int .i64 a0_0):=(zO BK579.out 0).trans rfl;have hfz19_0:=zP BK579.out 0)|((with_reducible refine gate_callee (f:=129) rfl ?_);refine goesL_ (some 6) rfl rfl Tryz.func129 (by kernel_rfl) rfl #[.agg #[.int .i64 a0_0]] rfl ml ?_;(with_reducible refine(impl_DoorOk.calls a0_0 false _ A3.out).mono ?_);rintro e w20 ⟨rfl,hb⟩;refine⟨_,rfl,?_⟩;have n0_:=Aside0.mk (zK (mz BK579.out) hb);have n1_:=Aside0.mk (zK (mz BK580.out) hb);have n2_:=Aside0.mk (zN mq hb);clear BK579;clear BK580;clear HB;have BK579:=n0_;have BK580:=n1_;have HB:=n2_;clear n0_ n1_ n2_;(try clear hb);(try clear hb2);(try clear hk);(try clear hi);have hcz21_0:w20.cell? ⟨gb579,0,none⟩=some (.int .i64 a0_0):=(zO BK579.out 0).trans rfl;have hfz21_0:=zP BK579.out 0;have hcz22_0:w20.cell? ⟨gb580,0,none⟩=some (.int .i64 0):=(zO BK580.out 0).trans rfl;have hfz22_0:=zP BK580.out 0));refine bodyPost_ret (results_cell_row rfl _ _ gb580 48 #[.int .i64 a0_0] (0,0) _ rfl (by(with_reducible repeat(first|apply zA|apply zC|apply zB));refine blk_put (cs:=#[.int .i64 0]) ?_ 0 _ rfl;(with_reducible repeat(first|apply zA|apply zC|apply zB));exact BK580.out) Tryz.underlying48 rfl (by kernel_rfl)) rfl ?_;exact⟨mr,mq⟩
def impl_countAt.f (k:Nat) (a0:ByteArray) (a1:Int):Option (Int):=(impl_HashOf.f k a0 a1).bind fun t583=>(some (wrap64 ((wrap64 (a1 * 16))+(Int.tmod t583 16))))
theorem impl_countAt.calls (k:Nat) (a0:ByteArray) (a1:Int) (r:Int) (w:World) (h:impl_countAt.f k a0 a1=some r) :
  Calls Tryz.prog 215 #[.string a0,.int .i64 a1] w fun e w'=>e=.returned (.int .i64 r)∧Below w.heap.size w w':=by
 have HB:=Aside0.mk (Below.refl w.heap.size w);have H:((impl_HashOf.f k a0 a1).bind fun t583=>(some (wrap64 ((wrap64 (a1 * 16))+(Int.tmod t583 16)))))=some r:=h;clear h;replace H:=Option.bind_eq_some_iff.mp H;obtain⟨t583,A30,H⟩:=H;replace H:(some (wrap64 ((wrap64 (a1 * 16))+(Int.tmod t583 16))))=some r:=H;have A3:=Aside0.mk A30;clear A30;obtain rfl:=Option.some.inj H;go_enter Tryz.func215,Tryz.ntmps215;go_wp2_with (first|((with_reducible refine gate_callee (f:=206) rfl ?_);refine goesL_ (some 9) rfl rfl Tryz.func206 (by kernel_rfl) rfl #[.string a0,.int .i64 a1] rfl ml ?_;(with_reducible refine(impl_HashOf.calls k a0 a1 t583 _ A3.out).mono ?_);rintro e w4 ⟨rfl,hb⟩;refine⟨_,rfl,?_⟩;have n0_:=Aside0.mk (zN mq hb);clear HB;have HB:=n0_;clear n0_;(try clear hb);(try clear hb2);(try clear hk);(try clear hi)));go_ret;exact⟨mr,mq⟩
def spec_l06Has.f (a0:Int) (a1:Int):Option (Bool):=if a1=0 then (none) else (some ((Int.tmod (wrap64 (Int.tdiv a0 a1)) 2) == 1))
theorem spec_l06Has.calls (a0:Int) (a1:Int) (r:Bool) (w:World) (h:spec_l06Has.f a0 a1=some r) :
  Calls Tryz.prog 219 #[.int .i64 a0,.int .i64 a1] w fun e w'=>e=.returned (.bool r)∧Drawn0 w w':=by
 have H:(if a1=0 then (none) else (some ((Int.tmod (wrap64 (Int.tdiv a0 a1)) 2) == 1)))=some r:=h;clear h;by_cases c3:a1=0
 ·rw[if_pos c3] at H
  exact absurd H (by simp)
 ·rw[if_neg c3] at H
  have c3b0:(a1 == 0)=false:=beq_eq_false_iff_ne.mpr c3;have c3b1:(a1 != 0)=true:=bne_iff_ne.mpr c3;obtain rfl:=Option.some.inj H;go_enter Tryz.func219,Tryz.ntmps219
  go_wp2
  go_ret;exact⟨by first|rfl|(simp;done)|(simp[*];done),md⟩
def spec_l06Bit.l0:Nat→ByteArray→Int→Int→Int→Option (Int)
|0,_,_,_,_=>none
|k+1,x0,x1,x5,x6=>(spec_HashOf.f k x0 x1).bind fun t901=>(if x6 < (Int.tmod t901 32) then (spec_l06Bit.l0 k x0 x1 (wrap64 (2 * x5)) (wrap64 (x6+1))) else (some x5))
def spec_l06Bit.f (k:Nat) (a0:ByteArray) (a1:Int):Option (Int):=spec_l06Bit.l0 k a0 a1 1 0
theorem spec_l06Bit.calls (k:Nat) (a0:ByteArray) (a1:Int) (r:Int) (w:World) (h:spec_l06Bit.f k a0 a1=some r) :
  Calls Tryz.prog 220 #[.string a0,.int .i64 a1] w fun e w'=>e=.returned (.int .i64 r)∧Drawn0 w w':=by
 have H:(spec_l06Bit.l0 k a0 a1 1 0)=some r:=h;clear h;have H':=Aside0.mk H;clear H;go_enter Tryz.func220,Tryz.ntmps220
 go_wp2
 go_loopg [5,6] k (fun kq v5 v6 w'=>∃ (x5_1:Int) (x6_1:Int),v5=.int .i64 x5_1∧v6=.int .i64 x6_1∧Aside0 (spec_l06Bit.l0 kq a0 a1 x5_1 x6_1=some r)∧Aside0 (kq≤k)∧Drawn0 w w')
 case atStart=>exact⟨(1),(0),mt,mt,H',⟨Nat.le_refl _⟩,md⟩
 case round =>
  clear H';obtain⟨x5_1,x6_1,rfl,rfl,HA,HK1,⟨m1,rfl⟩⟩:=hrel;cases gk with
 |zero=>exact absurd HA.out (by simp[spec_l06Bit.l0])
 |succ k1 =>
   have H:=HA.out;clear HA;simp only [spec_l06Bit.l0] at H;replace H:=Option.bind_eq_some_iff.mp H;obtain⟨t901,A30,H⟩:=H;replace H:(if x6_1 < (Int.tmod t901 32) then (spec_l06Bit.l0 k1 a0 a1 (wrap64 (2 * x5_1)) (wrap64 (x6_1+1))) else (some x5_1))=some r:=H;have A3:=Aside0.mk A30;clear A30;by_cases c4:x6_1 < (Int.tmod t901 32)
   ·rw[if_pos c4] at H
    have c4b0:decide (x6_1 < (Int.tmod t901 32))=true:=decide_eq_true c4;clear c4;have H':=Aside0.mk H;clear H;go_wp2_with (first|((with_reducible refine gate_callee (f:=187) rfl ?_);refine goesL_ (some 10) rfl rfl Tryz.func187 (by kernel_rfl) rfl #[.string a0,.int .i64 a1] rfl ml ?_;(with_reducible refine(spec_HashOf.calls k1 a0 a1 t901 _ A3.out).mono ?_);rintro e w' ⟨rfl,⟨nd,rfl⟩⟩;refine⟨_,rfl,?_⟩))
    go_roundg k1
    case measure=>have:=HK1.out;omega
    case rel=>exact⟨(wrap64 (2 * x5_1)),(wrap64 (x6_1+1)),mt,mt,H',⟨by have:=HK1.out;omega⟩,md⟩
   ·rw[if_neg c4] at H
    have c4b0:decide (x6_1 < (Int.tmod t901 32))=false:=decide_eq_false c4;clear c4;obtain rfl:=Option.some.inj H;go_wp2_with (first|((with_reducible refine gate_callee (f:=187) rfl ?_);refine goesL_ (some 10) rfl rfl Tryz.func187 (by kernel_rfl) rfl #[.string a0,.int .i64 a1] rfl ml ?_;(with_reducible refine(spec_HashOf.calls k1 a0 a1 t901 _ A3.out).mono ?_);rintro e w' ⟨rfl,⟨nd,rfl⟩⟩;refine⟨_,rfl,?_⟩));go_ret;exact⟨by first|rfl|(simp;done)|(simp[*];done),md⟩
def spec_l05At.f (k:Nat) (a0:ByteArray) (a1:Int):Option (Int):=(spec_HashOf.f k a0 a1).bind fun t913=>(some (wrap64 ((wrap64 (a1 * 16))+(Int.tmod t913 16))))
theorem spec_l05At.calls (k:Nat) (a0:ByteArray) (a1:Int) (r:Int) (w:World) (h:spec_l05At.f k a0 a1=some r) :
  Calls Tryz.prog 221 #[.string a0,.int .i64 a1] w fun e w'=>e=.returned (.int .i64 r)∧Drawn0 w w':=by
 have H:((spec_HashOf.f k a0 a1).bind fun t913=>(some (wrap64 ((wrap64 (a1 * 16))+(Int.tmod t913 16)))))=some r:=h;clear h;replace H:=Option.bind_eq_some_iff.mp H;obtain⟨t913,A30,H⟩:=H;replace H:(some (wrap64 ((wrap64 (a1 * 16))+(Int.tmod t913 16))))=some r:=H;have A3:=Aside0.mk A30;clear A30;obtain rfl:=Option.some.inj H;go_enter Tryz.func221,Tryz.ntmps221;go_wp2_with (first|((with_reducible refine gate_callee (f:=187) rfl ?_);refine goesL_ (some 9) rfl rfl Tryz.func187 (by kernel_rfl) rfl #[.string a0,.int .i64 a1] rfl ml ?_;(with_reducible refine(spec_HashOf.calls k a0 a1 t913 _ A3.out).mono ?_);rintro e w' ⟨rfl,⟨nd,rfl⟩⟩;refine⟨_,rfl,?_⟩));go_ret;exact⟨by first|rfl|(simp;done)|(simp[*];done),md⟩
def spec_HasKey.l0:Nat→ByteArray→Int→Int→List ByteArray→Option (Bool)
|0,_,_,_,_=>none
|k+1,x1,x5,x934000,x934001=>if x5 < (x934001.length:Int) then (if 0≤x5 then (if (rdOf ByteArray.empty x934001 x5).toList=x1.toList then (some true) else (spec_HasKey.l0 k x1 (wrap64 (x5+1)) x934000 x934001)) else (none)) else (some false)
def spec_HasKey.f (k:Nat) (a0_0:Int) (l0_1:List ByteArray) (a1:ByteArray):Option (Bool):=spec_HasKey.l0 k a1 0 a0_0 l0_1
theorem spec_HasKey.calls (k:Nat) (a0_0:Int) (A0_1:Option Addr) (c0_1:Nat) (l0_1:List ByteArray) (a1:ByteArray) (r:Bool) (w:World) (hr0_1:Kd.C Kd.string w A0_1 l0_1.length l0_1) (hc0_1:l0_1.length≤c0_1) (h:spec_HasKey.f k a0_0 l0_1 a1=some r) :
  Calls Tryz.prog 181 #[.agg #[.int .i64 a0_0,.slice A0_1 l0_1.length c0_1],.string a1] w fun e w'=>e=.returned (.bool r)∧Below w.heap.size w w':=by
 have hu46:=Tryz.underlying46;have HR0_1:=Aside0.mk hr0_1;have HC0_1:=Aside0.mk hc0_1;clear hr0_1 hc0_1;have HB:=Aside0.mk (Below.refl w.heap.size w);have H:(spec_HasKey.l0 k a1 0 a0_0 l0_1)=some r:=h;clear h;have H':=Aside0.mk H;clear H;go_enter Tryz.func181,Tryz.ntmps181;go_wp2_with (first|((with_reducible refine gate_dst (N:=2) rfl ?_);refine yE (N:=2) (cs:=#[.int .i64 a0_0,.slice A0_1 l0_1.length c0_1]) (t:=46) fun gb933 hg w3 hbox hb=>?_;obtain⟨n0_,n2_⟩:=yX (w:=w) hg hb mq;have n1_:=Aside0.mk (hbox);have n3_:=n2_;clear HB;have HB:=n0_;have BK933:=n1_;have GW933:=n2_;have GE933:=n3_;clear n0_ n1_ n2_ n3_;clear hb hbox hg))
 go_loopg [5] k (fun kq v5 w'=>∃ (x5_1:Int),v5=.int .i64 x5_1∧Aside0 (spec_HasKey.l0 kq a1 x5_1 a0_0 l0_1=some r)∧Aside0 (kq≤k)∧Aside0 (w'.heap[gb933]? = some (.cells #[.int .i64 a0_0,(.slice A0_1 l0_1.length c0_1)] 46 (0,0)))∧Aside0 (Below w.heap.size w w'))
 case atStart=>exact⟨(0),mt,H',⟨Nat.le_refl _⟩,⟨mz BK933.out⟩,⟨mq⟩⟩
 case round =>
  clear H';obtain⟨x5_1,rfl,HA,HK1,BK933,HB⟩:=hrel;cases gk with
 |zero=>exact absurd HA.out (by simp[spec_HasKey.l0])
 |succ k1 =>
   have H:=HA.out;clear HA;simp only [spec_HasKey.l0] at H;by_cases c4:x5_1 < (l0_1.length:Int)
   ·rw[if_pos c4] at H
    have c4b0:decide (x5_1 < (l0_1.length:Int))=true:=decide_eq_true c4;clear c4;by_cases c5:0≤x5_1
    ·rw[if_pos c5] at H
     have c5b0:decide (0≤x5_1)=true:=decide_eq_true c5;clear c5;by_cases c6:(rdOf ByteArray.empty l0_1 x5_1).toList=a1.toList
     ·rw[if_pos c6] at H
      have c6b0:((rdOf ByteArray.empty l0_1 x5_1).toList == a1.toList)=true:=beq_iff_eq.mpr c6;have c6b1:((rdOf ByteArray.empty l0_1 x5_1).toList != a1.toList)=false:=bne_eq_false_iff_eq.mpr c6;clear c6;obtain rfl:=Option.some.inj H;obtain⟨hcz7_0,hcz7_1,hfz7_0,hfz7_1⟩:=zb2 BK933.out;have p934:0≤(x5_1:Int):=mo;have q934:x5_1 < (l0_1.length:Int):=mo;obtain⟨ad934,e934,hx934_0⟩:=Kd.at_string HR0_1.out x5_1 p934 q934;cases e934;replace hx934_0:=zc13 HB.out hx934_0;replace p934:=eq_true p934;replace q934:=eq_true q934;go_wp2
      go_ret;exact⟨mr,mq⟩
     ·rw[if_neg c6] at H
      have c6b0:((rdOf ByteArray.empty l0_1 x5_1).toList == a1.toList)=false:=beq_eq_false_iff_ne.mpr c6;have c6b1:((rdOf ByteArray.empty l0_1 x5_1).toList != a1.toList)=true:=bne_iff_ne.mpr c6;have H':=Aside0.mk H;clear H;obtain⟨hcz8_0,hcz8_1,hfz8_0,hfz8_1⟩:=zb2 BK933.out;have p934:0≤(x5_1:Int):=mo;have q934:x5_1 < (l0_1.length:Int):=mo;obtain⟨ad934,e934,hx934_0⟩:=Kd.at_string HR0_1.out x5_1 p934 q934;cases e934;replace hx934_0:=zc13 HB.out hx934_0;replace p934:=eq_true p934;replace q934:=eq_true q934;go_wp2
      go_roundg k1
      case measure=>have:=HK1.out;omega
      case rel=>exact⟨(wrap64 (x5_1+1)),mt,H',⟨by have:=HK1.out;omega⟩,⟨mz BK933.out⟩,⟨mq⟩⟩
    ·rw[if_neg c5] at H
     exact absurd H (by simp)
   ·rw[if_neg c4] at H
    have c4b0:decide (x5_1 < (l0_1.length:Int))=false:=decide_eq_false c4;clear c4;obtain rfl:=Option.some.inj H;obtain⟨hcz9_0,hcz9_1,hfz9_0,hfz9_1⟩:=zb2 BK933.out;go_wp2
    go_ret;exact⟨mr,mq⟩
end Go.Proofs.YtediiolcoilepaaGreat.GNear
