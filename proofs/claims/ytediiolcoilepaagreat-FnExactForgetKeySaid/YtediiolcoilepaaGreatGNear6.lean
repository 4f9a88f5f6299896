/- Parts of the proof: walks of callees, plain laws about what they compute. -/
import Derived.Test.YtediiolcoilepaaGreatGNear0
import Derived.Test.YtediiolcoilepaaGreatGNear1
import Derived.Test.YtediiolcoilepaaGreatGNear3
import Derived.Test.YtediiolcoilepaaGreatGNear4
import Derived.Test.YtediiolcoilepaaGreatGNear5
namespace Go.Proofs.YtediiolcoilepaaGreat.GNear
open Go.RowKit Go.Proofs.YtediiolcoilepaaGreatW.PrintWords Go.Proofs.YtediiolcoilepaaGreatW.PrintLast Go.Proofs.YtediiolcoilepaaGreatW.PrintMore
attribute [local go_sem] max2_int min2_int max_two min_two max_three min_three max_four min_four
set_option linter.unusedVariables false
set_option linter.unusedSimpArgs false
theorem zc6 {w w1:World} {a:Addr} {v:Value} (hb:Below w.heap.size w w1) (h:w.cell? a=some v):w1.cell? a=some v:=(hb.cell (World.block_lt_of_cell? w _ h)).trans h
attribute [local go_sem high] eqA151
mutual
def impl_TableOk.j0:Nat→Bool→List (S151)→List (S151)→Int→Option (Bool)
|0,_,_,_,_=>none
|k+1,x36,x370000,x370001,x370002=>if x36=true then (some false) else (if 0≤x370002 then (if x370002≤(x370001.length:Int) then ((some (x370001.take (x370002:Int).toNat:List (S151))).bind fun y373=>(impl_TableOk.l0 k y373 (y373.length:Int) 0 x370000 x370001 x370002)) else (none)) else (none))
def impl_TableOk.l0:Nat→List (S151)→Int→Int→List (S151)→List (S151)→Int→Option (Bool)
|0,_,_,_,_,_,_=>none
|k+1,x41,x42,x43,x370000,x370001,x370002=>if x43 < x42 then (if 0≤x43 then (if x43 < (x41.length:Int) then (if (!((((rd_T151 x41 x43).f0).toList) == ([]:List UInt8))||(!(((rd_T151 x41 x43).f1) == (-2))))=true then (some false) else (impl_TableOk.l0 k x41 x42 (wrap64 (x43+1)) x370000 x370001 x370002)) else (none)) else (none)) else ((impl_Table_keys.f k x370000 x370001 x370002).bind fun t379=>(impl_TableOk.l1 k t379 1 x370000 x370001 x370002))
def impl_TableOk.l1:Nat→List ByteArray→Int→List (S151)→List (S151)→Int→Option (Bool)
|0,_,_,_,_,_=>none
|k+1,x5,x6,x370000,x370001,x370002=>if x6 < (x5.length:Int) then (if 0≤x6 then (if 0≤(wrap64 (x6 - 1)) then (if (wrap64 (x6 - 1)) < (x5.length:Int) then (if (rdOf ByteArray.empty x5 x6).toList=(rdOf ByteArray.empty x5 (wrap64 (x6 - 1))).toList then (some false) else (impl_TableOk.l1 k x5 (wrap64 (x6+1)) x370000 x370001 x370002)) else (none)) else (none)) else (none)) else ((impl_cellsOk.f k x370000).bind fun t384=>(if t384=true then ((impl_cellsOk.f k x370001).bind fun t385=>(if t385=true then ((impl_nones.f k x370000).bind fun t386=>(some (decide (t386 > 0)))) else (some false))) else (some false)))
end
def impl_TableOk.f (k:Nat) (l0_0:List (S151)) (l0_1:List (S151)) (a0_2:Int):Option (Bool):=(impl_isSize.f (l0_0.length:Int)).bind fun t370=>(if t370=true then (if (l0_1.length:Int)=0 then ((impl_inRange.f a0_2 0 (l0_1.length:Int)).bind fun t371=>(impl_TableOk.j0 k (!t371) l0_0 l0_1 a0_2)) else (if (wrap64 (2 * (l0_1.length:Int)))=(l0_0.length:Int) then ((impl_inRange.f a0_2 0 (l0_1.length:Int)).bind fun t372=>(impl_TableOk.j0 k (!t372) l0_0 l0_1 a0_2)) else (impl_TableOk.j0 k true l0_0 l0_1 a0_2))) else (impl_TableOk.j0 k true l0_0 l0_1 a0_2))
set_option maxHeartbeats 8000000 in
set_option maxRecDepth 100000 in
theorem impl_TableOk.calls (k:Nat) (A0_0:Option Addr) (c0_0:Nat) (l0_0:List (S151)) (A0_1:Option Addr) (c0_1:Nat) (l0_1:List (S151)) (a0_2:Int) (r:Bool) (w:World) (hr0_0:Kd.C k151 w A0_0 l0_0.length l0_0) (hc0_0:l0_0.length≤c0_0) (hr0_1:Kd.C k151 w A0_1 l0_1.length l0_1) (hc0_1:l0_1.length≤c0_1) (h:impl_TableOk.f k l0_0 l0_1 a0_2=some r) :
  Calls Tryz.prog 126 #[.agg #[.slice A0_0 l0_0.length c0_0,.slice A0_1 l0_1.length c0_1,.int .i64 a0_2]] w fun e w'=>e=.returned (.bool r)∧Below w.heap.size w w':=by
 have hu45:=Tryz.underlying45;have hu151:=Tryz.underlying151;have HR0_0:=Aside0.mk hr0_0
 have HC0_0:=Aside0.mk hc0_0
 clear hr0_0 hc0_0;have HR0_1:=Aside0.mk hr0_1
 have HC0_1:=Aside0.mk hc0_1
 clear hr0_1 hc0_1;have HB:=Aside0.mk (Below.refl w.heap.size w)
 have H:((impl_isSize.f (l0_0.length:Int)).bind fun t370=>(if t370=true then (if (l0_1.length:Int)=0 then ((impl_inRange.f a0_2 0 (l0_1.length:Int)).bind fun t371=>(impl_TableOk.j0 k (!t371) l0_0 l0_1 a0_2)) else (if (wrap64 (2 * (l0_1.length:Int)))=(l0_0.length:Int) then ((impl_inRange.f a0_2 0 (l0_1.length:Int)).bind fun t372=>(impl_TableOk.j0 k (!t372) l0_0 l0_1 a0_2)) else (impl_TableOk.j0 k true l0_0 l0_1 a0_2))) else (impl_TableOk.j0 k true l0_0 l0_1 a0_2)))=some r:=h
 clear h;have HC2:=Aside0.mk H
 clear H;go_enter Tryz.func126,Tryz.ntmps126
 go_upto_region 1 with (first|((with_reducible refine gate_dst (N:=1) rfl ?_);(try(refine gate_guard (by rfl) ?_;dsimp only));refine yE (N:=1) (cs:=#[.slice A0_0 l0_0.length c0_0,.slice A0_1 l0_1.length c0_1,.int .i64 a0_2]) (t:=45) fun gb369 hg w3 hbox hb=>?_;obtain⟨n0_,n2_⟩:=yX (w:=w) hg hb (by repeat(with_reducible first|exact HB.out|apply zI|apply zG|apply zH));have n1_:=Aside0.mk (hbox);have n3_:=n2_;clear HB;have HB:=n0_;have BK369:=n1_;have GW369:=n2_;have GE369:=n3_;clear n0_ n1_ n2_ n3_;clear hb hbox hg))
 repeat(go_quiet (first|((with_reducible refine gate_dst (N:=1) rfl ?_);(try(refine gate_guard (by rfl) ?_;dsimp only));refine yE (N:=1) (cs:=#[.slice A0_0 l0_0.length c0_0,.slice A0_1 l0_1.length c0_1,.int .i64 a0_2]) (t:=45) fun gb369 hg w3 hbox hb=>?_;obtain⟨n0_,n2_⟩:=yX (w:=w) hg hb (by repeat(with_reducible first|exact HB.out|apply zI|apply zG|apply zH));have n1_:=Aside0.mk (hbox);have n3_:=n2_;clear HB;have HB:=n0_;have BK369:=n1_;have GW369:=n2_;have GE369:=n3_;clear n0_ n1_ n2_ n3_;clear hb hbox hg));go_upto_region 1 with (first|((with_reducible refine gate_dst (N:=1) rfl ?_);(try(refine gate_guard (by rfl) ?_;dsimp only));refine yE (N:=1) (cs:=#[.slice A0_0 l0_0.length c0_0,.slice A0_1 l0_1.length c0_1,.int .i64 a0_2]) (t:=45) fun gb369 hg w3 hbox hb=>?_;obtain⟨n0_,n2_⟩:=yX (w:=w) hg hb (by repeat(with_reducible first|exact HB.out|apply zI|apply zG|apply zH));have n1_:=Aside0.mk (hbox);have n3_:=n2_;clear HB;have HB:=n0_;have BK369:=n1_;have GW369:=n2_;have GE369:=n3_;clear n0_ n1_ n2_ n3_;clear hb hbox hg)))
 (try simp only [Act.put,List.setIfInBounds_toArray,List.set_cons_zero,List.set_cons_succ])
 go_cut [36] (fun v36 wc=>∃ (kq:Nat) (x36_1:Bool),v36=.bool x36_1∧Aside0 (impl_TableOk.j0 kq x36_1 l0_0 l0_1 a0_2=some r)∧Aside0 (kq≤k)∧Aside0 (wc.heap[gb369]? = some (.cells #[(.slice A0_0 l0_0.length c0_0),(.slice A0_1 l0_1.length c0_1),.int .i64 a0_2] 45 (0,0)))∧Aside0 (Below w.heap.size w wc))
 case first =>
  have H:=HC2.out;clear HC2;replace H:=Option.bind_eq_some_iff.mp H;obtain⟨t370,A40,H⟩:=H;replace H:(if t370=true then (if (l0_1.length:Int)=0 then ((impl_inRange.f a0_2 0 (l0_1.length:Int)).bind fun t371=>(impl_TableOk.j0 k (!t371) l0_0 l0_1 a0_2)) else (if (wrap64 (2 * (l0_1.length:Int)))=(l0_0.length:Int) then ((impl_inRange.f a0_2 0 (l0_1.length:Int)).bind fun t372=>(impl_TableOk.j0 k (!t372) l0_0 l0_1 a0_2)) else (impl_TableOk.j0 k true l0_0 l0_1 a0_2))) else (impl_TableOk.j0 k true l0_0 l0_1 a0_2))=some r:=H
  have A4:=Aside0.mk A40
  clear A40;by_cases c5:t370=true
  ·subst c5
   have H1:(if (l0_1.length:Int)=0 then ((impl_inRange.f a0_2 0 (l0_1.length:Int)).bind fun t371=>(impl_TableOk.j0 k (!t371) l0_0 l0_1 a0_2)) else (if (wrap64 (2 * (l0_1.length:Int)))=(l0_0.length:Int) then ((impl_inRange.f a0_2 0 (l0_1.length:Int)).bind fun t372=>(impl_TableOk.j0 k (!t372) l0_0 l0_1 a0_2)) else (impl_TableOk.j0 k true l0_0 l0_1 a0_2)))=some r:=by rw[if_pos rfl] at H;exact H
   clear H;have H:=H1;clear H1;by_cases c6:(l0_1.length:Int)=0
   ·rw[if_pos c6] at H
    have c6b0:((l0_1.length:Int) == 0)=true:=beq_iff_eq.mpr c6
    have c6b1:((l0_1.length:Int) != 0)=false:=bne_eq_false_iff_eq.mpr c6
    clear c6;(first|rw[c6b0]|(simp only [i64_w,i32_w];rw[c6b0])|skip)
    replace H:=Option.bind_eq_some_iff.mp H;obtain⟨t371,A70,H⟩:=H;replace H:(impl_TableOk.j0 k (!t371) l0_0 l0_1 a0_2)=some r:=H
    have A7:=Aside0.mk A70
    clear A70;have H':=Aside0.mk H
    clear H;obtain⟨hcz8_0,hcz8_1,hcz8_2,hfz8_0,hfz8_1,hfz8_2⟩:=zb3 BK369.out;go_wp2_with (first|(go_at_call 167;(with_reducible refine(impl_isSize.calls (l0_0.length:Int) true _ A4.out).mono ?_);rintro e w' ⟨rfl,⟨nd,rfl⟩⟩;(try first|exact⟨rfl,_,World.drewN_drewN _ _ _⟩|exact⟨rfl,_,Eq.trans (World.drewN_drewN _ _ _) (congrArg (World.drewN _) (Nat.add_assoc _ _ _))⟩))|(go_at_call 89;(with_reducible refine(impl_inRange.calls a0_2 0 (l0_1.length:Int) t371 _ A7.out).mono ?_);rintro e w' ⟨rfl,⟨nd,rfl⟩⟩;(try first|exact⟨rfl,_,World.drewN_drewN _ _ _⟩|exact⟨rfl,_,Eq.trans (World.drewN_drewN _ _ _) (congrArg (World.drewN _) (Nat.add_assoc _ _ _))⟩)))
    repeat(go_quiet (first|(go_at_call 167;(with_reducible refine(impl_isSize.calls (l0_0.length:Int) true _ A4.out).mono ?_);rintro e w' ⟨rfl,⟨nd,rfl⟩⟩;(try first|exact⟨rfl,_,World.drewN_drewN _ _ _⟩|exact⟨rfl,_,Eq.trans (World.drewN_drewN _ _ _) (congrArg (World.drewN _) (Nat.add_assoc _ _ _))⟩))|(go_at_call 89;(with_reducible refine(impl_inRange.calls a0_2 0 (l0_1.length:Int) t371 _ A7.out).mono ?_);rintro e w' ⟨rfl,⟨nd,rfl⟩⟩;(try first|exact⟨rfl,_,World.drewN_drewN _ _ _⟩|exact⟨rfl,_,Eq.trans (World.drewN_drewN _ _ _) (congrArg (World.drewN _) (Nat.add_assoc _ _ _))⟩)));try go_wp2_with (first|(go_at_call 167;(with_reducible refine(impl_isSize.calls (l0_0.length:Int) true _ A4.out).mono ?_);rintro e w' ⟨rfl,⟨nd,rfl⟩⟩;(try first|exact⟨rfl,_,World.drewN_drewN _ _ _⟩|exact⟨rfl,_,Eq.trans (World.drewN_drewN _ _ _) (congrArg (World.drewN _) (Nat.add_assoc _ _ _))⟩))|(go_at_call 89;(with_reducible refine(impl_inRange.calls a0_2 0 (l0_1.length:Int) t371 _ A7.out).mono ?_);rintro e w' ⟨rfl,⟨nd,rfl⟩⟩;(try first|exact⟨rfl,_,World.drewN_drewN _ _ _⟩|exact⟨rfl,_,Eq.trans (World.drewN_drewN _ _ _) (congrArg (World.drewN _) (Nat.add_assoc _ _ _))⟩))))
    go_meet
    case rel=>exact⟨_,(!t371),(by first|rfl|simp[*]),H',⟨by first|omega|exact Nat.le_refl _⟩,⟨by(with_reducible repeat(first|apply zA|apply zC|apply zB));exact BK369.out⟩,⟨by repeat(with_reducible first|exact HB.out|apply zI|apply zG|apply zH|refine zJ ?_ GE369.out)⟩⟩
   ·rw[if_neg c6] at H
    have c6b0:((l0_1.length:Int) == 0)=false:=beq_eq_false_iff_ne.mpr c6
    have c6b1:((l0_1.length:Int) != 0)=true:=bne_iff_ne.mpr c6
    have c6b2:¬ (l0_1 = []):=fun h_=>c6 (by rw[h_];rfl)
    (first|rw[c6b0]|(simp only [i64_w,i32_w];rw[c6b0])|skip)
    by_cases c9:(wrap64 (2 * (l0_1.length:Int)))=(l0_0.length:Int)
    ·rw[if_pos c9] at H
     have c9b0:((wrap64 (2 * (l0_1.length:Int))) == (l0_0.length:Int))=true:=beq_iff_eq.mpr c9
     have c9b1:((wrap64 (2 * (l0_1.length:Int))) != (l0_0.length:Int))=false:=bne_eq_false_iff_eq.mpr c9
     clear c9;replace H:=Option.bind_eq_some_iff.mp H;obtain⟨t372,A100,H⟩:=H;replace H:(impl_TableOk.j0 k (!t372) l0_0 l0_1 a0_2)=some r:=H
     have A10:=Aside0.mk A100
     clear A100;have H':=Aside0.mk H
     clear H;obtain⟨hcz11_0,hcz11_1,hcz11_2,hfz11_0,hfz11_1,hfz11_2⟩:=zb3 BK369.out;go_wp2_with (first|(go_at_call 167;(with_reducible refine(impl_isSize.calls (l0_0.length:Int) true _ A4.out).mono ?_);rintro e w' ⟨rfl,⟨nd,rfl⟩⟩;(try first|exact⟨rfl,_,World.drewN_drewN _ _ _⟩|exact⟨rfl,_,Eq.trans (World.drewN_drewN _ _ _) (congrArg (World.drewN _) (Nat.add_assoc _ _ _))⟩))|(go_at_call 89;(with_reducible refine(impl_inRange.calls a0_2 0 (l0_1.length:Int) t372 _ A10.out).mono ?_);rintro e w' ⟨rfl,⟨nd,rfl⟩⟩;(try first|exact⟨rfl,_,World.drewN_drewN _ _ _⟩|exact⟨rfl,_,Eq.trans (World.drewN_drewN _ _ _) (congrArg (World.drewN _) (Nat.add_assoc _ _ _))⟩)))
     repeat(go_quiet (first|(go_at_call 167;(with_reducible refine(impl_isSize.calls (l0_0.length:Int) true _ A4.out).mono ?_);rintro e w' ⟨rfl,⟨nd,rfl⟩⟩;(try first|exact⟨rfl,_,World.drewN_drewN _ _ _⟩|exact⟨rfl,_,Eq.trans (World.drewN_drewN _ _ _) (congrArg (World.drewN _) (Nat.add_assoc _ _ _))⟩))|(go_at_call 89;(with_reducible refine(impl_inRange.calls a0_2 0 (l0_1.length:Int) t372 _ A10.out).mono ?_);rintro e w' ⟨rfl,⟨nd,rfl⟩⟩;(try first|exact⟨rfl,_,World.drewN_drewN _ _ _⟩|exact⟨rfl,_,Eq.trans (World.drewN_drewN _ _ _) (congrArg (World.drewN _) (Nat.add_assoc _ _ _))⟩)));try go_wp2_with (first|(go_at_call 167;(with_reducible refine(impl_isSize.calls (l0_0.length:Int) true _ A4.out).mono ?_);rintro e w' ⟨rfl,⟨nd,rfl⟩⟩;(try first|exact⟨rfl,_,World.drewN_drewN _ _ _⟩|exact⟨rfl,_,Eq.trans (World.drewN_drewN _ _ _) (congrArg (World.drewN _) (Nat.add_assoc _ _ _))⟩))|(go_at_call 89;(with_reducible refine(impl_inRange.calls a0_2 0 (l0_1.length:Int) t372 _ A10.out).mono ?_);rintro e w' ⟨rfl,⟨nd,rfl⟩⟩;(try first|exact⟨rfl,_,World.drewN_drewN _ _ _⟩|exact⟨rfl,_,Eq.trans (World.drewN_drewN _ _ _) (congrArg (World.drewN _) (Nat.add_assoc _ _ _))⟩))))
     go_meet
     case rel=>exact⟨_,(!t372),(by first|rfl|simp[*]),H',⟨by first|omega|exact Nat.le_refl _⟩,⟨by(with_reducible repeat(first|apply zA|apply zC|apply zB));exact BK369.out⟩,⟨by repeat(with_reducible first|exact HB.out|apply zI|apply zG|apply zH|refine zJ ?_ GE369.out)⟩⟩
    ·rw[if_neg c9] at H
     have c9b0:((wrap64 (2 * (l0_1.length:Int))) == (l0_0.length:Int))=false:=beq_eq_false_iff_ne.mpr c9
     have c9b1:((wrap64 (2 * (l0_1.length:Int))) != (l0_0.length:Int))=true:=bne_iff_ne.mpr c9
     have H':=Aside0.mk H
     clear H;obtain⟨hcz12_0,hcz12_1,hcz12_2,hfz12_0,hfz12_1,hfz12_2⟩:=zb3 BK369.out;go_wp2_with (first|(go_at_call 167;(with_reducible refine(impl_isSize.calls (l0_0.length:Int) true _ A4.out).mono ?_);rintro e w' ⟨rfl,⟨nd,rfl⟩⟩;(try first|exact⟨rfl,_,World.drewN_drewN _ _ _⟩|exact⟨rfl,_,Eq.trans (World.drewN_drewN _ _ _) (congrArg (World.drewN _) (Nat.add_assoc _ _ _))⟩)))
     repeat(go_quiet (first|(go_at_call 167;(with_reducible refine(impl_isSize.calls (l0_0.length:Int) true _ A4.out).mono ?_);rintro e w' ⟨rfl,⟨nd,rfl⟩⟩;(try first|exact⟨rfl,_,World.drewN_drewN _ _ _⟩|exact⟨rfl,_,Eq.trans (World.drewN_drewN _ _ _) (congrArg (World.drewN _) (Nat.add_assoc _ _ _))⟩)));try go_wp2_with (first|(go_at_call 167;(with_reducible refine(impl_isSize.calls (l0_0.length:Int) true _ A4.out).mono ?_);rintro e w' ⟨rfl,⟨nd,rfl⟩⟩;(try first|exact⟨rfl,_,World.drewN_drewN _ _ _⟩|exact⟨rfl,_,Eq.trans (World.drewN_drewN _ _ _) (congrArg (World.drewN _) (Nat.add_assoc _ _ _))⟩))))
     go_meet
     case rel=>exact⟨_,(true),(by first|rfl|simp[*]),H',⟨by first|omega|exact Nat.le_refl _⟩,⟨by(with_reducible repeat(first|apply zA|apply zC|apply zB));exact BK369.out⟩,⟨by repeat(with_reducible first|exact HB.out|apply zI|apply zG|apply zH|refine zJ ?_ GE369.out)⟩⟩
  ·replace c5:=Bool.eq_false_iff.mpr c5
   subst c5;have H1:(impl_TableOk.j0 k true l0_0 l0_1 a0_2)=some r:=by rw[if_neg (show ¬ (false=true) by decide)] at H;exact H
   clear H;have H:=H1;clear H1;have H':=Aside0.mk H
   clear H;obtain⟨hcz13_0,hcz13_1,hcz13_2,hfz13_0,hfz13_1,hfz13_2⟩:=zb3 BK369.out;go_wp2_with (first|(go_at_call 167;(with_reducible refine(impl_isSize.calls (l0_0.length:Int) false _ A4.out).mono ?_);rintro e w' ⟨rfl,⟨nd,rfl⟩⟩;(try first|exact⟨rfl,_,World.drewN_drewN _ _ _⟩|exact⟨rfl,_,Eq.trans (World.drewN_drewN _ _ _) (congrArg (World.drewN _) (Nat.add_assoc _ _ _))⟩)))
   repeat(go_quiet (first|(go_at_call 167;(with_reducible refine(impl_isSize.calls (l0_0.length:Int) false _ A4.out).mono ?_);rintro e w' ⟨rfl,⟨nd,rfl⟩⟩;(try first|exact⟨rfl,_,World.drewN_drewN _ _ _⟩|exact⟨rfl,_,Eq.trans (World.drewN_drewN _ _ _) (congrArg (World.drewN _) (Nat.add_assoc _ _ _))⟩)));try go_wp2_with (first|(go_at_call 167;(with_reducible refine(impl_isSize.calls (l0_0.length:Int) false _ A4.out).mono ?_);rintro e w' ⟨rfl,⟨nd,rfl⟩⟩;(try first|exact⟨rfl,_,World.drewN_drewN _ _ _⟩|exact⟨rfl,_,Eq.trans (World.drewN_drewN _ _ _) (congrArg (World.drewN _) (Nat.add_assoc _ _ _))⟩))))
   go_meet
   case rel=>exact⟨_,(true),(by first|rfl|simp[*]),H',⟨by first|omega|exact Nat.le_refl _⟩,⟨by(with_reducible repeat(first|apply zA|apply zC|apply zB));exact BK369.out⟩,⟨by repeat(with_reducible first|exact HB.out|apply zI|apply zG|apply zH|refine zJ ?_ GE369.out)⟩⟩
 case rest =>
  clear HC2;obtain⟨kq,x36_1,rfl,HA,HJ1,BK369,HB⟩:=hcut;cases kq with
 |zero=>exact absurd HA.out (by simp[impl_TableOk.j0])
 |succ kj1 =>
   have H:=HA.out;clear HA;simp only [impl_TableOk.j0] at H;by_cases c14:x36_1=true
   ·subst c14
    have H1:(some false)=some r:=by rw[if_pos rfl] at H;exact H
    clear H;have H:=H1;clear H1;obtain rfl:=Option.some.inj H;go_wp2
    repeat(go_quiet (fail);try go_wp2)
    go_ret
    exact⟨by first|rfl|(simp[] <;> rfl)|(simp[*] <;> rfl),by repeat(with_reducible first|exact HB.out|apply zI|apply zG|apply zH|refine zJ ?_ GE369.out)⟩
   ·replace c14:=Bool.eq_false_iff.mpr c14
    subst c14;have H1:(if 0≤a0_2 then (if a0_2≤(l0_1.length:Int) then ((some (l0_1.take (a0_2:Int).toNat:List (S151))).bind fun y373=>(impl_TableOk.l0 kj1 y373 (y373.length:Int) 0 l0_0 l0_1 a0_2)) else (none)) else (none))=some r:=by rw[if_neg (show ¬ (false=true) by decide)] at H;exact H
    clear H;have H:=H1;clear H1;by_cases c15:0≤a0_2
    ·rw[if_pos c15] at H
     have c15b0:=eq_true c15
     have c15b1:decide (0≤a0_2)=true:=decide_eq_true c15
     clear c15;by_cases c16:a0_2≤(l0_1.length:Int)
     ·rw[if_pos c16] at H
      have c16b0:=eq_true c16
      have c16b1:decide (a0_2≤(l0_1.length:Int))=true:=decide_eq_true c16
      clear c16;obtain⟨y373,hy373⟩:∃ y_:List (S151),y_=(l0_1.take (a0_2:Int).toNat):=⟨_,rfl⟩
      replace H:(impl_TableOk.l0 kj1 y373 (y373.length:Int) 0 l0_0 l0_1 a0_2)=some r:=by first|(rw[hy373];with_reducible exact H)|(have H2_:=(Option.bind_some _ _).symm.trans H;rw[hy373];with_reducible exact H2_)|(have H2_:=(Option.bind_some _ _).symm.trans H;with_reducible exact H2_)|with_reducible exact H|(rw[hy373];exact H)|exact H
      have Ny373:=Aside0.mk hy373
      clear hy373;have H':=Aside0.mk H
      clear H;obtain⟨hcz17_0,hcz17_1,hcz17_2,hfz17_0,hfz17_1,hfz17_2⟩:=zb3 BK369.out;have q18:(a0_2:Int)≤((l0_1.length:Int):Int):=of_decide_eq_true (by assumption)
      obtain⟨i018,hi018,_,hsz18,_⟩:=info_parts info151;have hroom18:l0_1.length≤c0_1:=HC0_1.out
      have hC18:Kd.C k151 _ A0_1 l0_1.length l0_1:=HR0_1.out
      have hcut18:=cut_to (P:=Tryz.prog) 43 151 .i64 Tryz.underlying43 hi018 A0_1 l0_1.length c0_1 a0_2 (of_decide_eq_true (by assumption)) q18 hroom18
      have hr18:=Kd.C_take (m:=(a0_2:Int).toNat) hC18 (by omega)
      have hy18:y373.length=(a0_2:Int).toNat:=(by rw[Ny373.out,List.length_take];omega)
      rw[← Ny373.out] at hr18;rw[← hy18] at hcut18;have HR376:=Aside0.mk hr18
      have HC376:=Aside0.mk (show y373.length≤c0_1 from by omega)
      clear hr18 hC18 hroom18 hi018 hsz18;have KY18:=Aside0.mk hy18
      clear hy18;replace q18:=eq_true q18;go_wp2
      repeat(go_quiet (fail);try go_wp2)
      go_loopg [43] kj1 (fun kq v43 w'=>∃ (x43_2:Int),v43=.int .i64 x43_2∧Aside0 (impl_TableOk.l0 kq y373 (y373.length:Int) x43_2 l0_0 l0_1 a0_2=some r)∧Aside0 (kq≤kj1)∧Aside0 (w'.heap[gb369]? = some (.cells #[(.slice A0_0 l0_0.length c0_0),(.slice A0_1 l0_1.length c0_1),.int .i64 a0_2] 45 (0,0)))∧Aside0 (Below w.heap.size w w'))
      case atStart=>exact⟨(0),(by first|rfl|simp[*]),H',⟨Nat.le_refl _⟩,⟨by(with_reducible repeat(first|apply zA|apply zC|apply zB));exact BK369.out⟩,⟨by repeat(with_reducible first|exact HB.out|apply zI|apply zG|apply zH|refine zJ ?_ GE369.out)⟩⟩
      case round =>
       clear H';obtain⟨x43_2,rfl,HA,HK2,BK369,HB⟩:=hrel;cases gk with
      |zero=>exact absurd HA.out (by simp[impl_TableOk.l0])
      |succ k2 =>
        have H:=HA.out;clear HA;simp only [impl_TableOk.l0] at H;by_cases c19:x43_2 < (y373.length:Int)
        ·rw[if_pos c19] at H
         have c19b0:decide (x43_2 < (y373.length:Int))=true:=decide_eq_true c19
         clear c19;by_cases c20:0≤x43_2
         ·rw[if_pos c20] at H
          have c20b0:decide (0≤x43_2)=true:=decide_eq_true c20
          clear c20;by_cases c21:x43_2 < (y373.length:Int)
          ·rw[if_pos c21] at H
           have c21b0:decide (x43_2 < (y373.length:Int))=true:=decide_eq_true c21
           clear c21;by_cases c22:(!((((rd_T151 y373 x43_2).f0).toList) == ([]:List UInt8))||(!(((rd_T151 y373 x43_2).f1) == (-2))))=true
           ·rw[if_pos c22] at H
            have c22b0:(!((((rd_T151 y373 x43_2).f0).toList) == ([]:List UInt8))||(!(((rd_T151 y373 x43_2).f1) == (-2))))=true:=c22
            have c22x:((!(((rd_T151 y373 x43_2).f0).toList.isEmpty))=false∧(!(((rd_T151 y373 x43_2).f1) == (-2)))=false)=False:=by rw[eq_iff_iff,iff_false];rintro ⟨h1_,h2_⟩;rw[h2_,Bool.or_false] at c22b0;generalize ByteArray.toList _=l_ at *;cases l_ <;> simp_all
            clear c22;obtain rfl:=Option.some.inj H;have p377:0≤(x43_2:Int):=of_decide_eq_true (by assumption)
            have q377:x43_2 < (y373.length:Int):=of_decide_eq_true (by assumption)
            obtain⟨ad377,e377,hx377_0,hx377_1⟩:=at_T151 HR376.out x43_2 p377 q377;cases e377
            replace hx377_0:=zc6 HB.out hx377_0;replace hx377_1:=zc6 HB.out hx377_1;replace p377:=eq_true p377;replace q377:=eq_true q377;go_wp2_with (first|((with_reducible refine gate_dst (N:=4) rfl ?_);(try(refine gate_guard (by rfl) ?_;dsimp only));refine yE (N:=4) (cs:=#[.string (⟨#[]⟩:ByteArray),.int .i64 0]) (t:=151) fun gb378 hg w23 hbox hb=>?_;obtain⟨n0_,n5_,n6_⟩:=yY (g:=gb369) (o:=.cells #[.slice A0_0 l0_0.length c0_0,.slice (some ad377) l0_1.length c0_1,.int .i64 a0_2] 45 (0,0)) hg hb (by(with_reducible repeat(first|apply zA|apply zC|apply zB));exact BK369.out);obtain⟨n1_,n3_⟩:=yX (w:=w) hg hb (by repeat(with_reducible first|exact HB.out|apply zI|apply zG|apply zH|refine zJ ?_ GE369.out));have n2_:=Aside0.mk (hbox);have n4_:=n3_;clear BK369;clear HB;have BK369:=n0_;have HB:=n1_;have BK378:=n2_;have GW378:=n3_;have GE378:=n4_;have NB369_378:=n5_;have NB378_369:=n6_;clear n0_ n1_ n2_ n3_ n4_ n5_ n6_;clear hb hbox hg;have hnb24:=NB378_369.out;have hnc24:=NB369_378.out;obtain⟨hcz25_0,hcz25_1,hfz25_0,hfz25_1⟩:=zb2 BK378.out))
            repeat(go_quiet (first|((with_reducible refine gate_dst (N:=4) rfl ?_);(try(refine gate_guard (by rfl) ?_;dsimp only));refine yE (N:=4) (cs:=#[.string (⟨#[]⟩:ByteArray),.int .i64 0]) (t:=151) fun gb378 hg w23 hbox hb=>?_;obtain⟨n0_,n5_,n6_⟩:=yY (g:=gb369) (o:=.cells #[.slice A0_0 l0_0.length c0_0,.slice (some ad377) l0_1.length c0_1,.int .i64 a0_2] 45 (0,0)) hg hb (by(with_reducible repeat(first|apply zA|apply zC|apply zB));exact BK369.out);obtain⟨n1_,n3_⟩:=yX (w:=w) hg hb (by repeat(with_reducible first|exact HB.out|apply zI|apply zG|apply zH|refine zJ ?_ GE369.out));have n2_:=Aside0.mk (hbox);have n4_:=n3_;clear BK369;clear HB;have BK369:=n0_;have HB:=n1_;have BK378:=n2_;have GW378:=n3_;have GE378:=n4_;have NB369_378:=n5_;have NB378_369:=n6_;clear n0_ n1_ n2_ n3_ n4_ n5_ n6_;clear hb hbox hg;have hnb24:=NB378_369.out;have hnc24:=NB369_378.out;obtain⟨hcz25_0,hcz25_1,hfz25_0,hfz25_1⟩:=zb2 BK378.out));try go_wp2_with (first|((with_reducible refine gate_dst (N:=4) rfl ?_);(try(refine gate_guard (by rfl) ?_;dsimp only));refine yE (N:=4) (cs:=#[.string (⟨#[]⟩:ByteArray),.int .i64 0]) (t:=151) fun gb378 hg w23 hbox hb=>?_;obtain⟨n0_,n5_,n6_⟩:=yY (g:=gb369) (o:=.cells #[.slice A0_0 l0_0.length c0_0,.slice (some ad377) l0_1.length c0_1,.int .i64 a0_2] 45 (0,0)) hg hb (by(with_reducible repeat(first|apply zA|apply zC|apply zB));exact BK369.out);obtain⟨n1_,n3_⟩:=yX (w:=w) hg hb (by repeat(with_reducible first|exact HB.out|apply zI|apply zG|apply zH|refine zJ ?_ GE369.out));have n2_:=Aside0.mk (hbox);have n4_:=n3_;clear BK369;clear HB;have BK369:=n0_;have HB:=n1_;have BK378:=n2_;have GW378:=n3_;have GE378:=n4_;have NB369_378:=n5_;have NB378_369:=n6_;clear n0_ n1_ n2_ n3_ n4_ n5_ n6_;clear hb hbox hg;have hnb24:=NB378_369.out;have hnc24:=NB369_378.out;obtain⟨hcz25_0,hcz25_1,hfz25_0,hfz25_1⟩:=zb2 BK378.out)))
            go_ret
            exact⟨by first|rfl|(simp[] <;> rfl)|(simp[*] <;> rfl),by repeat(with_reducible first|exact HB.out|apply zI|apply zG|apply zH|refine zJ ?_ GE369.out|refine zJ ?_ GE378.out)⟩
            all_goals (rename_i h_;exact absurd h_ (by intro h1_;obtain⟨h1_,h2_⟩:=h1_;revert c22b0;rw[h2_,Bool.or_false];generalize ByteArray.toList _=l_ at *;cases l_ <;> simp_all))
           ·rw[if_neg c22] at H
            have c22b0:(!((((rd_T151 y373 x43_2).f0).toList) == ([]:List UInt8))||(!(((rd_T151 y373 x43_2).f1) == (-2))))=false:=by simpa using c22
            have c22x:(!(((rd_T151 y373 x43_2).f0).toList.isEmpty))=false:=by have h1_:=(Bool.or_eq_false_iff.mp c22b0).1;generalize ByteArray.toList _=l_ at *;cases l_ <;> simp_all
            have c22y:(!(((rd_T151 y373 x43_2).f1) == (-2)))=false:=(Bool.or_eq_false_iff.mp c22b0).2
            clear c22;have H':=Aside0.mk H
            clear H;have p377:0≤(x43_2:Int):=of_decide_eq_true (by assumption)
            have q377:x43_2 < (y373.length:Int):=of_decide_eq_true (by assumption)
            obtain⟨ad377,e377,hx377_0,hx377_1⟩:=at_T151 HR376.out x43_2 p377 q377;cases e377
            replace hx377_0:=zc6 HB.out hx377_0;replace hx377_1:=zc6 HB.out hx377_1;replace p377:=eq_true p377;replace q377:=eq_true q377;go_wp2_with (first|((with_reducible refine gate_dst (N:=4) rfl ?_);(try(refine gate_guard (by rfl) ?_;dsimp only));refine yE (N:=4) (cs:=#[.string (⟨#[]⟩:ByteArray),.int .i64 0]) (t:=151) fun gb378 hg w26 hbox hb=>?_;obtain⟨n0_,n5_,n6_⟩:=yY (g:=gb369) (o:=.cells #[.slice A0_0 l0_0.length c0_0,.slice (some ad377) l0_1.length c0_1,.int .i64 a0_2] 45 (0,0)) hg hb (by(with_reducible repeat(first|apply zA|apply zC|apply zB));exact BK369.out);obtain⟨n1_,n3_⟩:=yX (w:=w) hg hb (by repeat(with_reducible first|exact HB.out|apply zI|apply zG|apply zH|refine zJ ?_ GE369.out));have n2_:=Aside0.mk (hbox);have n4_:=n3_;clear BK369;clear HB;have BK369:=n0_;have HB:=n1_;have BK378:=n2_;have GW378:=n3_;have GE378:=n4_;have NB369_378:=n5_;have NB378_369:=n6_;clear n0_ n1_ n2_ n3_ n4_ n5_ n6_;clear hb hbox hg;have hnb27:=NB378_369.out;have hnc27:=NB369_378.out;obtain⟨hcz28_0,hcz28_1,hfz28_0,hfz28_1⟩:=zb2 BK378.out))
            repeat(go_quiet (first|((with_reducible refine gate_dst (N:=4) rfl ?_);(try(refine gate_guard (by rfl) ?_;dsimp only));refine yE (N:=4) (cs:=#[.string (⟨#[]⟩:ByteArray),.int .i64 0]) (t:=151) fun gb378 hg w26 hbox hb=>?_;obtain⟨n0_,n5_,n6_⟩:=yY (g:=gb369) (o:=.cells #[.slice A0_0 l0_0.length c0_0,.slice (some ad377) l0_1.length c0_1,.int .i64 a0_2] 45 (0,0)) hg hb (by(with_reducible repeat(first|apply zA|apply zC|apply zB));exact BK369.out);obtain⟨n1_,n3_⟩:=yX (w:=w) hg hb (by repeat(with_reducible first|exact HB.out|apply zI|apply zG|apply zH|refine zJ ?_ GE369.out));have n2_:=Aside0.mk (hbox);have n4_:=n3_;clear BK369;clear HB;have BK369:=n0_;have HB:=n1_;have BK378:=n2_;have GW378:=n3_;have GE378:=n4_;have NB369_378:=n5_;have NB378_369:=n6_;clear n0_ n1_ n2_ n3_ n4_ n5_ n6_;clear hb hbox hg;have hnb27:=NB378_369.out;have hnc27:=NB369_378.out;obtain⟨hcz28_0,hcz28_1,hfz28_0,hfz28_1⟩:=zb2 BK378.out));try go_wp2_with (first|((with_reducible refine gate_dst (N:=4) rfl ?_);(try(refine gate_guard (by rfl) ?_;dsimp only));refine yE (N:=4) (cs:=#[.string (⟨#[]⟩:ByteArray),.int .i64 0]) (t:=151) fun gb378 hg w26 hbox hb=>?_;obtain⟨n0_,n5_,n6_⟩:=yY (g:=gb369) (o:=.cells #[.slice A0_0 l0_0.length c0_0,.slice (some ad377) l0_1.length c0_1,.int .i64 a0_2] 45 (0,0)) hg hb (by(with_reducible repeat(first|apply zA|apply zC|apply zB));exact BK369.out);obtain⟨n1_,n3_⟩:=yX (w:=w) hg hb (by repeat(with_reducible first|exact HB.out|apply zI|apply zG|apply zH|refine zJ ?_ GE369.out));have n2_:=Aside0.mk (hbox);have n4_:=n3_;clear BK369;clear HB;have BK369:=n0_;have HB:=n1_;have BK378:=n2_;have GW378:=n3_;have GE378:=n4_;have NB369_378:=n5_;have NB378_369:=n6_;clear n0_ n1_ n2_ n3_ n4_ n5_ n6_;clear hb hbox hg;have hnb27:=NB378_369.out;have hnc27:=NB369_378.out;obtain⟨hcz28_0,hcz28_1,hfz28_0,hfz28_1⟩:=zb2 BK378.out)))
            go_roundg k2
            case measure=>have:=HJ1.out;have:=HK2.out;omega
            case rel=>exact⟨(wrap64 (x43_2+1)),(by first|rfl|simp[*]),H',⟨by have:=HJ1.out;have:=HK2.out;omega⟩,⟨by(with_reducible repeat(first|apply zA|apply zC|apply zB));refine zT ?_ NB369_378.out _;(with_reducible repeat(first|apply zA|apply zC|apply zB));refine zT ?_ NB369_378.out _;(with_reducible repeat(first|apply zA|apply zC|apply zB));exact BK369.out⟩,⟨by repeat(with_reducible first|exact HB.out|apply zI|apply zG|apply zH|refine zJ ?_ GE369.out|refine zJ ?_ GE378.out)⟩⟩
          ·rw[if_neg c21] at H
           exact absurd H (by simp)
         ·rw[if_neg c20] at H
          exact absurd H (by simp)
        ·rw[if_neg c19] at H
         have c19b0:decide (x43_2 < (y373.length:Int))=false:=decide_eq_false c19
         clear c19;replace H:=Option.bind_eq_some_iff.mp H;obtain⟨t379,A290,H⟩:=H;replace H:(impl_TableOk.l1 k2 t379 1 l0_0 l0_1 a0_2)=some r:=H
         have A29:=Aside0.mk A290
         clear A290;have H':=Aside0.mk H
         clear H;obtain⟨hcz30_0,hcz30_1,hcz30_2,hfz30_0,hfz30_1,hfz30_2⟩:=zb3 BK369.out;go_wp2_with (first|(go_at_call 55;(with_reducible refine(impl_Table_keys.calls k2 (fun k_=>k_ < w.heap.size) _ _ l0_0 (fun k_=>k_ < w.heap.size) _ _ l0_1 a0_2 t379 _ ?side1 ?side2 A29.out).mono ?_);(case side1=>exact Kd.V_mk HC0_0.out (Kd.F_below (Kd.C_F k151_heap HR0_0.out) (by repeat(with_reducible first|exact HB.out|apply zI|apply zG|apply zH|refine zJ ?_ GE369.out))));(case side2=>exact Kd.V_mk HC0_1.out (Kd.F_below (Kd.C_F k151_heap HR0_1.out) (by repeat(with_reducible first|exact HB.out|apply zI|apply zG|apply zH|refine zJ ?_ GE369.out))));rintro e w31 ⟨v380,rfl,ho0,hb⟩;have n0_:=Aside0.mk (Kd.R_lower (zR (ok':=fun k_=>True) ho0 (fun _ hk_=>trivial)) (below_size (by repeat(with_reducible first|exact HB.out|apply zI|apply zG|apply zH|refine zJ ?_ GE369.out))));have n1_:=Aside0.mk (zK (g:=gb369) (o:=.cells #[.slice A0_0 l0_0.length c0_0,.slice A0_1 l0_1.length c0_1,.int .i64 a0_2] 45 (0,0)) (by(with_reducible repeat(first|apply zA|apply zC|apply zB));exact BK369.out) hb);have n2_:=Aside0.mk (zN (by repeat(with_reducible first|exact HB.out|apply zI|apply zG|apply zH|refine zJ ?_ GE369.out)) hb);clear BK369;clear HB;have HO381:=n0_;have BK369:=n1_;have HB:=n2_;clear n0_ n1_ n2_;(try clear hb);(try clear hb2);(try clear hk);(try clear hi);(try clear ho0)))
         repeat(go_quiet (first|(go_at_call 55;(with_reducible refine(impl_Table_keys.calls k2 (fun k_=>k_ < w.heap.size) _ _ l0_0 (fun k_=>k_ < w.heap.size) _ _ l0_1 a0_2 t379 _ ?side1 ?side2 A29.out).mono ?_);(case side1=>exact Kd.V_mk HC0_0.out (Kd.F_below (Kd.C_F k151_heap HR0_0.out) (by repeat(with_reducible first|exact HB.out|apply zI|apply zG|apply zH|refine zJ ?_ GE369.out))));(case side2=>exact Kd.V_mk HC0_1.out (Kd.F_below (Kd.C_F k151_heap HR0_1.out) (by repeat(with_reducible first|exact HB.out|apply zI|apply zG|apply zH|refine zJ ?_ GE369.out))));rintro e w31 ⟨v380,rfl,ho0,hb⟩;have n0_:=Aside0.mk (Kd.R_lower (zR (ok':=fun k_=>True) ho0 (fun _ hk_=>trivial)) (below_size (by repeat(with_reducible first|exact HB.out|apply zI|apply zG|apply zH|refine zJ ?_ GE369.out))));have n1_:=Aside0.mk (zK (g:=gb369) (o:=.cells #[.slice A0_0 l0_0.length c0_0,.slice A0_1 l0_1.length c0_1,.int .i64 a0_2] 45 (0,0)) (by(with_reducible repeat(first|apply zA|apply zC|apply zB));exact BK369.out) hb);have n2_:=Aside0.mk (zN (by repeat(with_reducible first|exact HB.out|apply zI|apply zG|apply zH|refine zJ ?_ GE369.out)) hb);clear BK369;clear HB;have HO381:=n0_;have BK369:=n1_;have HB:=n2_;clear n0_ n1_ n2_;(try clear hb);(try clear hb2);(try clear hk);(try clear hi);(try clear ho0)));try go_wp2_with (first|(go_at_call 55;(with_reducible refine(impl_Table_keys.calls k2 (fun k_=>k_ < w.heap.size) _ _ l0_0 (fun k_=>k_ < w.heap.size) _ _ l0_1 a0_2 t379 _ ?side1 ?side2 A29.out).mono ?_);(case side1=>exact Kd.V_mk HC0_0.out (Kd.F_below (Kd.C_F k151_heap HR0_0.out) (by repeat(with_reducible first|exact HB.out|apply zI|apply zG|apply zH|refine zJ ?_ GE369.out))));(case side2=>exact Kd.V_mk HC0_1.out (Kd.F_below (Kd.C_F k151_heap HR0_1.out) (by repeat(with_reducible first|exact HB.out|apply zI|apply zG|apply zH|refine zJ ?_ GE369.out))));rintro e w31 ⟨v380,rfl,ho0,hb⟩;have n0_:=Aside0.mk (Kd.R_lower (zR (ok':=fun k_=>True) ho0 (fun _ hk_=>trivial)) (below_size (by repeat(with_reducible first|exact HB.out|apply zI|apply zG|apply zH|refine zJ ?_ GE369.out))));have n1_:=Aside0.mk (zK (g:=gb369) (o:=.cells #[.slice A0_0 l0_0.length c0_0,.slice A0_1 l0_1.length c0_1,.int .i64 a0_2] 45 (0,0)) (by(with_reducible repeat(first|apply zA|apply zC|apply zB));exact BK369.out) hb);have n2_:=Aside0.mk (zN (by repeat(with_reducible first|exact HB.out|apply zI|apply zG|apply zH|refine zJ ?_ GE369.out)) hb);clear BK369;clear HB;have HO381:=n0_;have BK369:=n1_;have HB:=n2_;clear n0_ n1_ n2_;(try clear hb);(try clear hb2);(try clear hk);(try clear hi);(try clear ho0))))
         go_loopg [6] k2 (fun kq v6 w'=>∃ (x6_3:Int),v6=.int .i64 x6_3∧Aside0 (impl_TableOk.l1 kq t379 x6_3 l0_0 l0_1 a0_2=some r)∧Aside0 (kq≤k2)∧Aside0 (Kd.R Kd.string 9 w' w.heap.size (fun _=>True) v380 t379)∧Aside0 (w'.heap[gb369]? = some (.cells #[(.slice A0_0 l0_0.length c0_0),(.slice A0_1 l0_1.length c0_1),.int .i64 a0_2] 45 (0,0)))∧Aside0 (Below w.heap.size w w'))
         case atStart=>exact⟨(1),(by first|rfl|simp[*]),H',⟨Nat.le_refl _⟩,⟨by(with_reducible repeat(first|apply zE|apply zD|apply zF));exact HO381.out⟩,⟨by(with_reducible repeat(first|apply zA|apply zC|apply zB));exact BK369.out⟩,⟨by repeat(with_reducible first|exact HB.out|apply zI|apply zG|apply zH|refine zJ ?_ GE369.out)⟩⟩
         case round =>
          clear H';obtain⟨x6_3,rfl,HA,HK3,HO_5,BK369,HB⟩:=hrel;cases gk with
         |zero=>exact absurd HA.out (by simp[impl_TableOk.l1])
         |succ k3 =>
           have H:=HA.out;clear HA;simp only [impl_TableOk.l1] at H;by_cases c32:x6_3 < (t379.length:Int)
           ·rw[if_pos c32] at H
            have c32b0:decide (x6_3 < (t379.length:Int))=true:=decide_eq_true c32
            clear c32;by_cases c33:0≤x6_3
            ·rw[if_pos c33] at H
             have c33b0:decide (0≤x6_3)=true:=decide_eq_true c33
             clear c33;obtain⟨ji34,hji34⟩:∃ j_:Int,(wrap64 (x6_3 - 1))=j_:=⟨_,rfl⟩
             replace H:(if 0≤(ji34) then (if (ji34) < (t379.length:Int) then (if (rdOf ByteArray.empty t379 x6_3).toList=(rdOf ByteArray.empty t379 (ji34)).toList then (some false) else (impl_TableOk.l1 k3 t379 (wrap64 (x6_3+1)) l0_0 l0_1 a0_2)) else (none)) else (none))=some r:=by first|(rw[hji34] at H;exact H)|(simp only [hji34] at H ⊢;exact H)
             have hji34w:(IntKind.i64.wrap (x6_3 - 1))=ji34:=(i64_w _).trans hji34
             by_cases c35:0≤(ji34)
             ·rw[if_pos c35] at H
              have c35b0:decide (0≤(ji34))=true:=decide_eq_true c35
              clear c35;by_cases c36:(ji34) < (t379.length:Int)
              ·rw[if_pos c36] at H
               have c36b0:decide ((ji34) < (t379.length:Int))=true:=decide_eq_true c36
               clear c36;by_cases c37:(rdOf ByteArray.empty t379 x6_3).toList=(rdOf ByteArray.empty t379 (ji34)).toList
               ·rw[if_pos c37] at H
                have c37b0:((rdOf ByteArray.empty t379 x6_3).toList == (rdOf ByteArray.empty t379 (ji34)).toList)=true:=beq_iff_eq.mpr c37
                have c37b1:((rdOf ByteArray.empty t379 x6_3).toList != (rdOf ByteArray.empty t379 (ji34)).toList)=false:=bne_eq_false_iff_eq.mpr c37
                clear c37;obtain rfl:=Option.some.inj H;obtain⟨Ao38,co38,eo38⟩:=Kd.R_slice HO_5.out;subst eo38;have p382:0≤(x6_3:Int):=of_decide_eq_true (by assumption)
                have q382:x6_3 < (t379.length:Int):=of_decide_eq_true (by assumption)
                obtain⟨ad382,e382,hx382_0⟩:=Kd.at_string (Kd.R_reads' HO_5.out).2.2 x6_3 p382 q382
                cases e382
                replace p382:=eq_true p382;replace q382:=eq_true q382;have p383:0≤((ji34):Int):=of_decide_eq_true (by assumption)
                have q383:(ji34) < (t379.length:Int):=of_decide_eq_true (by assumption)
                obtain⟨ad383,e383,hx383_0⟩:=Kd.at_string (Kd.R_reads' HO_5.out).2.2 (ji34) p383 q383
                obtain rfl:ad382=ad383:=(by injection e383)
                replace p383:=eq_true p383;replace q383:=eq_true q383;go_wp2
                repeat(go_quiet (fail);try go_wp2)
                go_ret
                exact⟨by first|rfl|(simp[] <;> rfl)|(simp only [← hji34];first|rfl|(simp[] <;> rfl))|(simp[*] <;> rfl),by repeat(with_reducible first|exact HB.out|apply zI|apply zG|apply zH|refine zJ ?_ GE369.out)⟩
               ·rw[if_neg c37] at H
                have c37b0:((rdOf ByteArray.empty t379 x6_3).toList == (rdOf ByteArray.empty t379 (ji34)).toList)=false:=beq_eq_false_iff_ne.mpr c37
                have c37b1:((rdOf ByteArray.empty t379 x6_3).toList != (rdOf ByteArray.empty t379 (ji34)).toList)=true:=bne_iff_ne.mpr c37
                have H':=Aside0.mk H
                clear H;obtain⟨Ao39,co39,eo39⟩:=Kd.R_slice HO_5.out;subst eo39;have p382:0≤(x6_3:Int):=of_decide_eq_true (by assumption)
                have q382:x6_3 < (t379.length:Int):=of_decide_eq_true (by assumption)
                obtain⟨ad382,e382,hx382_0⟩:=Kd.at_string (Kd.R_reads' HO_5.out).2.2 x6_3 p382 q382
                cases e382
                replace p382:=eq_true p382;replace q382:=eq_true q382;have p383:0≤((ji34):Int):=of_decide_eq_true (by assumption)
                have q383:(ji34) < (t379.length:Int):=of_decide_eq_true (by assumption)
                obtain⟨ad383,e383,hx383_0⟩:=Kd.at_string (Kd.R_reads' HO_5.out).2.2 (ji34) p383 q383
                obtain rfl:ad382=ad383:=(by injection e383)
                replace p383:=eq_true p383;replace q383:=eq_true q383;go_wp2
                repeat(go_quiet (fail);try go_wp2)
                go_roundg k3
                case measure=>have:=HJ1.out;have:=HK2.out;have:=HK3.out;omega
                case rel=>exact⟨(wrap64 (x6_3+1)),(by first|rfl|simp[*]),H',⟨by have:=HJ1.out;have:=HK2.out;have:=HK3.out;omega⟩,⟨by(with_reducible repeat(first|apply zE|apply zD|apply zF));exact HO_5.out⟩,⟨by(with_reducible repeat(first|apply zA|apply zC|apply zB));exact BK369.out⟩,⟨by repeat(with_reducible first|exact HB.out|apply zI|apply zG|apply zH|refine zJ ?_ GE369.out)⟩⟩
              ·rw[if_neg c36] at H
               exact absurd H (by simp)
             ·rw[if_neg c35] at H
              exact absurd H (by simp)
            ·rw[if_neg c33] at H
             exact absurd H (by simp)
           ·rw[if_neg c32] at H
            have c32b0:decide (x6_3 < (t379.length:Int))=false:=decide_eq_false c32
            clear c32;replace H:=Option.bind_eq_some_iff.mp H;obtain⟨t384,A400,H⟩:=H;replace H:(if t384=true then ((impl_cellsOk.f k3 l0_1).bind fun t385=>(if t385=true then ((impl_nones.f k3 l0_0).bind fun t386=>(some (decide (t386 > 0)))) else (some false))) else (some false))=some r:=H
            have A40:=Aside0.mk A400
            clear A400;by_cases c41:t384=true
            ·subst c41
             have H1:((impl_cellsOk.f k3 l0_1).bind fun t385=>(if t385=true then ((impl_nones.f k3 l0_0).bind fun t386=>(some (decide (t386 > 0)))) else (some false)))=some r:=by rw[if_pos rfl] at H;exact H
             clear H;have H:=H1;clear H1;replace H:=Option.bind_eq_some_iff.mp H;obtain⟨t385,A420,H⟩:=H;replace H:(if t385=true then ((impl_nones.f k3 l0_0).bind fun t386=>(some (decide (t386 > 0)))) else (some false))=some r:=H
             have A42:=Aside0.mk A420
             clear A420;by_cases c43:t385=true
             ·subst c43
              have H1:((impl_nones.f k3 l0_0).bind fun t386=>(some (decide (t386 > 0))))=some r:=by rw[if_pos rfl] at H;exact H
              clear H;have H:=H1;clear H1;replace H:=Option.bind_eq_some_iff.mp H;obtain⟨t386,A440,H⟩:=H;replace H:(some (decide (t386 > 0)))=some r:=H
              have A44:=Aside0.mk A440
              clear A440;obtain rfl:=Option.some.inj H;obtain⟨Ao45,co45,eo45⟩:=Kd.R_slice HO_5.out;subst eo45;obtain⟨hcz46_0,hcz46_1,hcz46_2,hfz46_0,hfz46_1,hfz46_2⟩:=zb3 BK369.out;go_wp2_with (first|(go_at_call 192;(with_reducible refine(impl_cellsOk.calls k3 _ _ l0_0 true _ ?side1 ?side2 A40.out).mono ?_);(case side1=>repeat(first|exact(Kd.C_below HR0_0.out HB.out)|(with_reducible refine Kd.C_alloc ?_ _)|(with_reducible refine Kd.C_drewN ?_ _)|(with_reducible refine Kd.C_drew ?_)));(case side2=>exact HC0_0.out);rintro e w47 ⟨rfl,hb⟩;have n0_:=Aside0.mk (zM (by(with_reducible repeat(first|apply zE|apply zD|apply zF));exact HO_5.out) hb);have n1_:=Aside0.mk (zK (g:=gb369) (o:=.cells #[.slice A0_0 l0_0.length c0_0,.slice A0_1 l0_1.length c0_1,.int .i64 a0_2] 45 (0,0)) (by(with_reducible repeat(first|apply zA|apply zC|apply zB));exact BK369.out) hb);have n2_:=Aside0.mk (zN (by repeat(with_reducible first|exact HB.out|apply zI|apply zG|apply zH|refine zJ ?_ GE369.out)) hb);clear HO_5;clear BK369;clear HB;have HO_5:=n0_;have BK369:=n1_;have HB:=n2_;clear n0_ n1_ n2_;(try clear hb);(try clear hb2);(try clear hk);(try clear hi);obtain⟨hcz48_0,hcz48_1,hcz48_2,hfz48_0,hfz48_1,hfz48_2⟩:=zb3 BK369.out)|(go_at_call 192;(with_reducible refine(impl_cellsOk.calls k3 _ _ l0_1 true _ ?side1 ?side2 A42.out).mono ?_);(case side1=>repeat(first|exact(Kd.C_below HR0_1.out HB.out)|(with_reducible refine Kd.C_alloc ?_ _)|(with_reducible refine Kd.C_drewN ?_ _)|(with_reducible refine Kd.C_drew ?_)));(case side2=>exact HC0_1.out);rintro e w49 ⟨rfl,hb⟩;have n0_:=Aside0.mk (zM (by(with_reducible repeat(first|apply zE|apply zD|apply zF));exact HO_5.out) hb);have n1_:=Aside0.mk (zK (g:=gb369) (o:=.cells #[.slice A0_0 l0_0.length c0_0,.slice A0_1 l0_1.length c0_1,.int .i64 a0_2] 45 (0,0)) (by(with_reducible repeat(first|apply zA|apply zC|apply zB));exact BK369.out) hb);have n2_:=Aside0.mk (zN (by repeat(with_reducible first|exact HB.out|apply zI|apply zG|apply zH|refine zJ ?_ GE369.out)) hb);clear HO_5;clear BK369;clear HB;have HO_5:=n0_;have BK369:=n1_;have HB:=n2_;clear n0_ n1_ n2_;(try clear hb);(try clear hb2);(try clear hk);(try clear hi);obtain⟨hcz50_0,hcz50_1,hcz50_2,hfz50_0,hfz50_1,hfz50_2⟩:=zb3 BK369.out)|(go_at_call 193;(with_reducible refine(impl_nones.calls k3 _ _ l0_0 t386 _ ?side1 ?side2 A44.out).mono ?_);(case side1=>repeat(first|exact(Kd.C_below HR0_0.out HB.out)|(with_reducible refine Kd.C_alloc ?_ _)|(with_reducible refine Kd.C_drewN ?_ _)|(with_reducible refine Kd.C_drew ?_)));(case side2=>exact HC0_0.out);rintro e w51 ⟨rfl,hb⟩;have n0_:=Aside0.mk (zM (by(with_reducible repeat(first|apply zE|apply zD|apply zF));exact HO_5.out) hb);have n1_:=Aside0.mk (zK (g:=gb369) (o:=.cells #[.slice A0_0 l0_0.length c0_0,.slice A0_1 l0_1.length c0_1,.int .i64 a0_2] 45 (0,0)) (by(with_reducible repeat(first|apply zA|apply zC|apply zB));exact BK369.out) hb);have n2_:=Aside0.mk (zN (by repeat(with_reducible first|exact HB.out|apply zI|apply zG|apply zH|refine zJ ?_ GE369.out)) hb);clear HO_5;clear BK369;clear HB;have HO_5:=n0_;have BK369:=n1_;have HB:=n2_;clear n0_ n1_ n2_;(try clear hb);(try clear hb2);(try clear hk);(try clear hi)))
              repeat(go_quiet (first|(go_at_call 192;(with_reducible refine(impl_cellsOk.calls k3 _ _ l0_0 true _ ?side1 ?side2 A40.out).mono ?_);(case side1=>repeat(first|exact(Kd.C_below HR0_0.out HB.out)|(with_reducible refine Kd.C_alloc ?_ _)|(with_reducible refine Kd.C_drewN ?_ _)|(with_reducible refine Kd.C_drew ?_)));(case side2=>exact HC0_0.out);rintro e w47 ⟨rfl,hb⟩;have n0_:=Aside0.mk (zM (by(with_reducible repeat(first|apply zE|apply zD|apply zF));exact HO_5.out) hb);have n1_:=Aside0.mk (zK (g:=gb369) (o:=.cells #[.slice A0_0 l0_0.length c0_0,.slice A0_1 l0_1.length c0_1,.int .i64 a0_2] 45 (0,0)) (by(with_reducible repeat(first|apply zA|apply zC|apply zB));exact BK369.out) hb);have n2_:=Aside0.mk (zN (by repeat(with_reducible first|exact HB.out|apply zI|apply zG|apply zH|refine zJ ?_ GE369.out)) hb);clear HO_5;clear BK369;clear HB;have HO_5:=n0_;have BK369:=n1_;have HB:=n2_;clear n0_ n1_ n2_;(try clear hb);(try clear hb2);(try clear hk);(try clear hi);obtain⟨hcz48_0,hcz48_1,hcz48_2,hfz48_0,hfz48_1,hfz48_2⟩:=zb3 BK369.out)|(go_at_call 192;(with_reducible refine(impl_cellsOk.calls k3 _ _ l0_1 true _ ?side1 ?side2 A42.out).mono ?_);(case side1=>repeat(first|exact(Kd.C_below HR0_1.out HB.out)|(with_reducible refine Kd.C_alloc ?_ _)|(with_reducible refine Kd.C_drewN ?_ _)|(with_reducible refine Kd.C_drew ?_)));(case side2=>exact HC0_1.out);rintro e w49 ⟨rfl,hb⟩;have n0_:=Aside0.mk (zM (by(with_reducible repeat(first|apply zE|apply zD|apply zF));exact HO_5.out) hb);have n1_:=Aside0.mk (zK (g:=gb369) (o:=.cells #[.slice A0_0 l0_0.length c0_0,.slice A0_1 l0_1.length c0_1,.int .i64 a0_2] 45 (0,0)) (by(with_reducible repeat(first|apply zA|apply zC|apply zB));exact BK369.out) hb);have n2_:=Aside0.mk (zN (by repeat(with_reducible first|exact HB.out|apply zI|apply zG|apply zH|refine zJ ?_ GE369.out)) hb);clear HO_5;clear BK369;clear HB;have HO_5:=n0_;have BK369:=n1_;have HB:=n2_;clear n0_ n1_ n2_;(try clear hb);(try clear hb2);(try clear hk);(try clear hi);obtain⟨hcz50_0,hcz50_1,hcz50_2,hfz50_0,hfz50_1,hfz50_2⟩:=zb3 BK369.out)|(go_at_call 193;(with_reducible refine(impl_nones.calls k3 _ _ l0_0 t386 _ ?side1 ?side2 A44.out).mono ?_);(case side1=>repeat(first|exact(Kd.C_below HR0_0.out HB.out)|(with_reducible refine Kd.C_alloc ?_ _)|(with_reducible refine Kd.C_drewN ?_ _)|(with_reducible refine Kd.C_drew ?_)));(case side2=>exact HC0_0.out);rintro e w51 ⟨rfl,hb⟩;have n0_:=Aside0.mk (zM (by(with_reducible repeat(first|apply zE|apply zD|apply zF));exact HO_5.out) hb);have n1_:=Aside0.mk (zK (g:=gb369) (o:=.cells #[.slice A0_0 l0_0.length c0_0,.slice A0_1 l0_1.length c0_1,.int .i64 a0_2] 45 (0,0)) (by(with_reducible repeat(first|apply zA|apply zC|apply zB));exact BK369.out) hb);have n2_:=Aside0.mk (zN (by repeat(with_reducible first|exact HB.out|apply zI|apply zG|apply zH|refine zJ ?_ GE369.out)) hb);clear HO_5;clear BK369;clear HB;have HO_5:=n0_;have BK369:=n1_;have HB:=n2_;clear n0_ n1_ n2_;(try clear hb);(try clear hb2);(try clear hk);(try clear hi)));try go_wp2_with (first|(go_at_call 192;(with_reducible refine(impl_cellsOk.calls k3 _ _ l0_0 true _ ?side1 ?side2 A40.out).mono ?_);(case side1=>repeat(first|exact(Kd.C_below HR0_0.out HB.out)|(with_reducible refine Kd.C_alloc ?_ _)|(with_reducible refine Kd.C_drewN ?_ _)|(with_reducible refine Kd.C_drew ?_)));(case side2=>exact HC0_0.out);rintro e w47 ⟨rfl,hb⟩;have n0_:=Aside0.mk (zM (by(with_reducible repeat(first|apply zE|apply zD|apply zF));exact HO_5.out) hb);have n1_:=Aside0.mk (zK (g:=gb369) (o:=.cells #[.slice A0_0 l0_0.length c0_0,.slice A0_1 l0_1.length c0_1,.int .i64 a0_2] 45 (0,0)) (by(with_reducible repeat(first|apply zA|apply zC|apply zB));exact BK369.out) hb);have n2_:=Aside0.mk (zN (by repeat(with_reducible first|exact HB.out|apply zI|apply zG|apply zH|refine zJ ?_ GE369.out)) hb);clear HO_5;clear BK369;clear HB;have HO_5:=n0_;have BK369:=n1_;have HB:=n2_;clear n0_ n1_ n2_;(try clear hb);(try clear hb2);(try clear hk);(try clear hi);obtain⟨hcz48_0,hcz48_1,hcz48_2,hfz48_0,hfz48_1,hfz48_2⟩:=zb3 BK369.out)|(go_at_call 192;(with_reducible refine(impl_cellsOk.calls k3 _ _ l0_1 true _ ?side1 ?side2 A42.out).mono ?_);(case side1=>repeat(first|exact(Kd.C_below HR0_1.out HB.out)|(with_reducible refine Kd.C_alloc ?_ _)|(with_reducible refine Kd.C_drewN ?_ _)|(with_reducible refine Kd.C_drew ?_)));(case side2=>exact HC0_1.out);rintro e w49 ⟨rfl,hb⟩;have n0_:=Aside0.mk (zM (by(with_reducible repeat(first|apply zE|apply zD|apply zF));exact HO_5.out) hb);have n1_:=Aside0.mk (zK (g:=gb369) (o:=.cells #[.slice A0_0 l0_0.length c0_0,.slice A0_1 l0_1.length c0_1,.int .i64 a0_2] 45 (0,0)) (by(with_reducible repeat(first|apply zA|apply zC|apply zB));exact BK369.out) hb);have n2_:=Aside0.mk (zN (by repeat(with_reducible first|exact HB.out|apply zI|apply zG|apply zH|refine zJ ?_ GE369.out)) hb);clear HO_5;clear BK369;clear HB;have HO_5:=n0_;have BK369:=n1_;have HB:=n2_;clear n0_ n1_ n2_;(try clear hb);(try clear hb2);(try clear hk);(try clear hi);obtain⟨hcz50_0,hcz50_1,hcz50_2,hfz50_0,hfz50_1,hfz50_2⟩:=zb3 BK369.out)|(go_at_call 193;(with_reducible refine(impl_nones.calls k3 _ _ l0_0 t386 _ ?side1 ?side2 A44.out).mono ?_);(case side1=>repeat(first|exact(Kd.C_below HR0_0.out HB.out)|(with_reducible refine Kd.C_alloc ?_ _)|(with_reducible refine Kd.C_drewN ?_ _)|(with_reducible refine Kd.C_drew ?_)));(case side2=>exact HC0_0.out);rintro e w51 ⟨rfl,hb⟩;have n0_:=Aside0.mk (zM (by(with_reducible repeat(first|apply zE|apply zD|apply zF));exact HO_5.out) hb);have n1_:=Aside0.mk (zK (g:=gb369) (o:=.cells #[.slice A0_0 l0_0.length c0_0,.slice A0_1 l0_1.length c0_1,.int .i64 a0_2] 45 (0,0)) (by(with_reducible repeat(first|apply zA|apply zC|apply zB));exact BK369.out) hb);have n2_:=Aside0.mk (zN (by repeat(with_reducible first|exact HB.out|apply zI|apply zG|apply zH|refine zJ ?_ GE369.out)) hb);clear HO_5;clear BK369;clear HB;have HO_5:=n0_;have BK369:=n1_;have HB:=n2_;clear n0_ n1_ n2_;(try clear hb);(try clear hb2);(try clear hk);(try clear hi))))
              go_ret
              exact⟨by first|rfl|(simp[] <;> rfl)|(simp[*] <;> rfl),by repeat(with_reducible first|exact HB.out|apply zI|apply zG|apply zH|refine zJ ?_ GE369.out)⟩
             ·replace c43:=Bool.eq_false_iff.mpr c43
              subst c43;have H1:(some false)=some r:=by rw[if_neg (show ¬ (false=true) by decide)] at H;exact H
              clear H;have H:=H1;clear H1;obtain rfl:=Option.some.inj H;obtain⟨Ao52,co52,eo52⟩:=Kd.R_slice HO_5.out;subst eo52;obtain⟨hcz53_0,hcz53_1,hcz53_2,hfz53_0,hfz53_1,hfz53_2⟩:=zb3 BK369.out;go_wp2_with (first|(go_at_call 192;(with_reducible refine(impl_cellsOk.calls k3 _ _ l0_0 true _ ?side1 ?side2 A40.out).mono ?_);(case side1=>repeat(first|exact(Kd.C_below HR0_0.out HB.out)|(with_reducible refine Kd.C_alloc ?_ _)|(with_reducible refine Kd.C_drewN ?_ _)|(with_reducible refine Kd.C_drew ?_)));(case side2=>exact HC0_0.out);rintro e w54 ⟨rfl,hb⟩;have n0_:=Aside0.mk (zM (by(with_reducible repeat(first|apply zE|apply zD|apply zF));exact HO_5.out) hb);have n1_:=Aside0.mk (zK (g:=gb369) (o:=.cells #[.slice A0_0 l0_0.length c0_0,.slice A0_1 l0_1.length c0_1,.int .i64 a0_2] 45 (0,0)) (by(with_reducible repeat(first|apply zA|apply zC|apply zB));exact BK369.out) hb);have n2_:=Aside0.mk (zN (by repeat(with_reducible first|exact HB.out|apply zI|apply zG|apply zH|refine zJ ?_ GE369.out)) hb);clear HO_5;clear BK369;clear HB;have HO_5:=n0_;have BK369:=n1_;have HB:=n2_;clear n0_ n1_ n2_;(try clear hb);(try clear hb2);(try clear hk);(try clear hi);obtain⟨hcz55_0,hcz55_1,hcz55_2,hfz55_0,hfz55_1,hfz55_2⟩:=zb3 BK369.out)|(go_at_call 192;(with_reducible refine(impl_cellsOk.calls k3 _ _ l0_1 false _ ?side1 ?side2 A42.out).mono ?_);(case side1=>repeat(first|exact(Kd.C_below HR0_1.out HB.out)|(with_reducible refine Kd.C_alloc ?_ _)|(with_reducible refine Kd.C_drewN ?_ _)|(with_reducible refine Kd.C_drew ?_)));(case side2=>exact HC0_1.out);rintro e w56 ⟨rfl,hb⟩;have n0_:=Aside0.mk (zM (by(with_reducible repeat(first|apply zE|apply zD|apply zF));exact HO_5.out) hb);have n1_:=Aside0.mk (zK (g:=gb369) (o:=.cells #[.slice A0_0 l0_0.length c0_0,.slice A0_1 l0_1.length c0_1,.int .i64 a0_2] 45 (0,0)) (by(with_reducible repeat(first|apply zA|apply zC|apply zB));exact BK369.out) hb);have n2_:=Aside0.mk (zN (by repeat(with_reducible first|exact HB.out|apply zI|apply zG|apply zH|refine zJ ?_ GE369.out)) hb);clear HO_5;clear BK369;clear HB;have HO_5:=n0_;have BK369:=n1_;have HB:=n2_;clear n0_ n1_ n2_;(try clear hb);(try clear hb2);(try clear hk);(try clear hi)))
              repeat(go_quiet (first|(go_at_call 192;(with_reducible refine(impl_cellsOk.calls k3 _ _ l0_0 true _ ?side1 ?side2 A40.out).mono ?_);(case side1=>repeat(first|exact(Kd.C_below HR0_0.out HB.out)|(with_reducible refine Kd.C_alloc ?_ _)|(with_reducible refine Kd.C_drewN ?_ _)|(with_reducible refine Kd.C_drew ?_)));(case side2=>exact HC0_0.out);rintro e w54 ⟨rfl,hb⟩;have n0_:=Aside0.mk (zM (by(with_reducible repeat(first|apply zE|apply zD|apply zF));exact HO_5.out) hb);have n1_:=Aside0.mk (zK (g:=gb369) (o:=.cells #[.slice A0_0 l0_0.length c0_0,.slice A0_1 l0_1.length c0_1,.int .i64 a0_2] 45 (0,0)) (by(with_reducible repeat(first|apply zA|apply zC|apply zB));exact BK369.out) hb);have n2_:=Aside0.mk (zN (by repeat(with_reducible first|exact HB.out|apply zI|apply zG|apply zH|refine zJ ?_ GE369.out)) hb);clear HO_5;clear BK369;clear HB;have HO_5:=n0_;have BK369:=n1_;have HB:=n2_;clear n0_ n1_ n2_;(try clear hb);(try clear hb2);(try clear hk);(try clear hi);obtain⟨hcz55_0,hcz55_1,hcz55_2,hfz55_0,hfz55_1,hfz55_2⟩:=zb3 BK369.out)|(go_at_call 192;(with_reducible refine(impl_cellsOk.calls k3 _ _ l0_1 false _ ?side1 ?side2 A42.out).mono ?_);(case side1=>repeat(first|exact(Kd.C_below HR0_1.out HB.out)|(with_reducible refine Kd.C_alloc ?_ _)|(with_reducible refine Kd.C_drewN ?_ _)|(with_reducible refine Kd.C_drew ?_)));(case side2=>exact HC0_1.out);rintro e w56 ⟨rfl,hb⟩;have n0_:=Aside0.mk (zM (by(with_reducible repeat(first|apply zE|apply zD|apply zF));exact HO_5.out) hb);have n1_:=Aside0.mk (zK (g:=gb369) (o:=.cells #[.slice A0_0 l0_0.length c0_0,.slice A0_1 l0_1.length c0_1,.int .i64 a0_2] 45 (0,0)) (by(with_reducible repeat(first|apply zA|apply zC|apply zB));exact BK369.out) hb);have n2_:=Aside0.mk (zN (by repeat(with_reducible first|exact HB.out|apply zI|apply zG|apply zH|refine zJ ?_ GE369.out)) hb);clear HO_5;clear BK369;clear HB;have HO_5:=n0_;have BK369:=n1_;have HB:=n2_;clear n0_ n1_ n2_;(try clear hb);(try clear hb2);(try clear hk);(try clear hi)));try go_wp2_with (first|(go_at_call 192;(with_reducible refine(impl_cellsOk.calls k3 _ _ l0_0 true _ ?side1 ?side2 A40.out).mono ?_);(case side1=>repeat(first|exact(Kd.C_below HR0_0.out HB.out)|(with_reducible refine Kd.C_alloc ?_ _)|(with_reducible refine Kd.C_drewN ?_ _)|(with_reducible refine Kd.C_drew ?_)));(case side2=>exact HC0_0.out);rintro e w54 ⟨rfl,hb⟩;have n0_:=Aside0.mk (zM (by(with_reducible repeat(first|apply zE|apply zD|apply zF));exact HO_5.out) hb);have n1_:=Aside0.mk (zK (g:=gb369) (o:=.cells #[.slice A0_0 l0_0.length c0_0,.slice A0_1 l0_1.length c0_1,.int .i64 a0_2] 45 (0,0)) (by(with_reducible repeat(first|apply zA|apply zC|apply zB));exact BK369.out) hb);have n2_:=Aside0.mk (zN (by repeat(with_reducible first|exact HB.out|apply zI|apply zG|apply zH|refine zJ ?_ GE369.out)) hb);clear HO_5;clear BK369;clear HB;have HO_5:=n0_;have BK369:=n1_;have HB:=n2_;clear n0_ n1_ n2_;(try clear hb);(try clear hb2);(try clear hk);(try clear hi);obtain⟨hcz55_0,hcz55_1,hcz55_2,hfz55_0,hfz55_1,hfz55_2⟩:=zb3 BK369.out)|(go_at_call 192;(with_reducible refine(impl_cellsOk.calls k3 _ _ l0_1 false _ ?side1 ?side2 A42.out).mono ?_);(case side1=>repeat(first|exact(Kd.C_below HR0_1.out HB.out)|(with_reducible refine Kd.C_alloc ?_ _)|(with_reducible refine Kd.C_drewN ?_ _)|(with_reducible refine Kd.C_drew ?_)));(case side2=>exact HC0_1.out);rintro e w56 ⟨rfl,hb⟩;have n0_:=Aside0.mk (zM (by(with_reducible repeat(first|apply zE|apply zD|apply zF));exact HO_5.out) hb);have n1_:=Aside0.mk (zK (g:=gb369) (o:=.cells #[.slice A0_0 l0_0.length c0_0,.slice A0_1 l0_1.length c0_1,.int .i64 a0_2] 45 (0,0)) (by(with_reducible repeat(first|apply zA|apply zC|apply zB));exact BK369.out) hb);have n2_:=Aside0.mk (zN (by repeat(with_reducible first|exact HB.out|apply zI|apply zG|apply zH|refine zJ ?_ GE369.out)) hb);clear HO_5;clear BK369;clear HB;have HO_5:=n0_;have BK369:=n1_;have HB:=n2_;clear n0_ n1_ n2_;(try clear hb);(try clear hb2);(try clear hk);(try clear hi))))
              go_ret
              exact⟨by first|rfl|(simp[] <;> rfl)|(simp[*] <;> rfl),by repeat(with_reducible first|exact HB.out|apply zI|apply zG|apply zH|refine zJ ?_ GE369.out)⟩
            ·replace c41:=Bool.eq_false_iff.mpr c41
             subst c41;have H1:(some false)=some r:=by rw[if_neg (show ¬ (false=true) by decide)] at H;exact H
             clear H;have H:=H1;clear H1;obtain rfl:=Option.some.inj H;obtain⟨Ao57,co57,eo57⟩:=Kd.R_slice HO_5.out;subst eo57;obtain⟨hcz58_0,hcz58_1,hcz58_2,hfz58_0,hfz58_1,hfz58_2⟩:=zb3 BK369.out;go_wp2_with (first|(go_at_call 192;(with_reducible refine(impl_cellsOk.calls k3 _ _ l0_0 false _ ?side1 ?side2 A40.out).mono ?_);(case side1=>repeat(first|exact(Kd.C_below HR0_0.out HB.out)|(with_reducible refine Kd.C_alloc ?_ _)|(with_reducible refine Kd.C_drewN ?_ _)|(with_reducible refine Kd.C_drew ?_)));(case side2=>exact HC0_0.out);rintro e w59 ⟨rfl,hb⟩;have n0_:=Aside0.mk (zM (by(with_reducible repeat(first|apply zE|apply zD|apply zF));exact HO_5.out) hb);have n1_:=Aside0.mk (zK (g:=gb369) (o:=.cells #[.slice A0_0 l0_0.length c0_0,.slice A0_1 l0_1.length c0_1,.int .i64 a0_2] 45 (0,0)) (by(with_reducible repeat(first|apply zA|apply zC|apply zB));exact BK369.out) hb);have n2_:=Aside0.mk (zN (by repeat(with_reducible first|exact HB.out|apply zI|apply zG|apply zH|refine zJ ?_ GE369.out)) hb);clear HO_5;clear BK369;clear HB;have HO_5:=n0_;have BK369:=n1_;have HB:=n2_;clear n0_ n1_ n2_;(try clear hb);(try clear hb2);(try clear hk);(try clear hi)))
             repeat(go_quiet (first|(go_at_call 192;(with_reducible refine(impl_cellsOk.calls k3 _ _ l0_0 false _ ?side1 ?side2 A40.out).mono ?_);(case side1=>repeat(first|exact(Kd.C_below HR0_0.out HB.out)|(with_reducible refine Kd.C_alloc ?_ _)|(with_reducible refine Kd.C_drewN ?_ _)|(with_reducible refine Kd.C_drew ?_)));(case side2=>exact HC0_0.out);rintro e w59 ⟨rfl,hb⟩;have n0_:=Aside0.mk (zM (by(with_reducible repeat(first|apply zE|apply zD|apply zF));exact HO_5.out) hb);have n1_:=Aside0.mk (zK (g:=gb369) (o:=.cells #[.slice A0_0 l0_0.length c0_0,.slice A0_1 l0_1.length c0_1,.int .i64 a0_2] 45 (0,0)) (by(with_reducible repeat(first|apply zA|apply zC|apply zB));exact BK369.out) hb);have n2_:=Aside0.mk (zN (by repeat(with_reducible first|exact HB.out|apply zI|apply zG|apply zH|refine zJ ?_ GE369.out)) hb);clear HO_5;clear BK369;clear HB;have HO_5:=n0_;have BK369:=n1_;have HB:=n2_;clear n0_ n1_ n2_;(try clear hb);(try clear hb2);(try clear hk);(try clear hi)));try go_wp2_with (first|(go_at_call 192;(with_reducible refine(impl_cellsOk.calls k3 _ _ l0_0 false _ ?side1 ?side2 A40.out).mono ?_);(case side1=>repeat(first|exact(Kd.C_below HR0_0.out HB.out)|(with_reducible refine Kd.C_alloc ?_ _)|(with_reducible refine Kd.C_drewN ?_ _)|(with_reducible refine Kd.C_drew ?_)));(case side2=>exact HC0_0.out);rintro e w59 ⟨rfl,hb⟩;have n0_:=Aside0.mk (zM (by(with_reducible repeat(first|apply zE|apply zD|apply zF));exact HO_5.out) hb);have n1_:=Aside0.mk (zK (g:=gb369) (o:=.cells #[.slice A0_0 l0_0.length c0_0,.slice A0_1 l0_1.length c0_1,.int .i64 a0_2] 45 (0,0)) (by(with_reducible repeat(first|apply zA|apply zC|apply zB));exact BK369.out) hb);have n2_:=Aside0.mk (zN (by repeat(with_reducible first|exact HB.out|apply zI|apply zG|apply zH|refine zJ ?_ GE369.out)) hb);clear HO_5;clear BK369;clear HB;have HO_5:=n0_;have BK369:=n1_;have HB:=n2_;clear n0_ n1_ n2_;(try clear hb);(try clear hb2);(try clear hk);(try clear hi))))
             go_ret
             exact⟨by first|rfl|(simp[] <;> rfl)|(simp[*] <;> rfl),by repeat(with_reducible first|exact HB.out|apply zI|apply zG|apply zH|refine zJ ?_ GE369.out)⟩
     ·rw[if_neg c16] at H
      exact absurd H (by simp)
    ·rw[if_neg c15] at H
     exact absurd H (by simp)
def slices_Index_string_string.l0:Nat→List ByteArray→ByteArray→Int→Int→Option (Int)
|0,_,_,_,_=>none
|k+1,x0,x1,x7,x8=>if x8 < x7 then (if 0≤x8 then (if x8 < (x0.length:Int) then (if x1.toList=(rdOf ByteArray.empty x0 x8).toList then (some x8) else (slices_Index_string_string.l0 k x0 x1 x7 (wrap64 (x8+1)))) else (none)) else (none)) else (some (-1))
def slices_Index_string_string.f (k:Nat) (l0:List ByteArray) (a1:ByteArray):Option (Int):=slices_Index_string_string.l0 k l0 a1 (l0.length:Int) 0
set_option maxHeartbeats 8000000 in
set_option maxRecDepth 100000 in
theorem slices_Index_string_string.calls (k:Nat) (A0:Option Addr) (c0:Nat) (l0:List ByteArray) (a1:ByteArray) (r:Int) (w:World) (hr0:Kd.C Kd.string w A0 l0.length l0) (hc0:l0.length≤c0) (h:slices_Index_string_string.f k l0 a1=some r) :
  Calls Tryz.prog 148 #[.slice A0 l0.length c0,.string a1] w fun e w'=>e=.returned (.int .i64 r)∧Drawn0 w w':=by
 have HR0:=Aside0.mk hr0
 have HC0:=Aside0.mk hc0
 clear hr0 hc0;have H:(slices_Index_string_string.l0 k l0 a1 (l0.length:Int) 0)=some r:=h
 clear h;have H':=Aside0.mk H
 clear H;go_enter Tryz.func148,Tryz.ntmps148
 go_wp2
 go_loopg [8] k (fun kq v8 w'=>∃ (x8_1:Int),v8=.int .i64 x8_1∧Aside0 (slices_Index_string_string.l0 kq l0 a1 (l0.length:Int) x8_1=some r)∧Aside0 (kq≤k)∧Drawn0 w w')
 case atStart=>exact⟨(0),(by first|rfl|simp[*]),H',⟨Nat.le_refl _⟩,by repeat(first|exact Drawn0.refl _|apply Drawn0.step)⟩
 case round =>
  clear H';obtain⟨x8_1,rfl,HA,HK1,⟨m1,rfl⟩⟩:=hrel;cases gk with
 |zero=>exact absurd HA.out (by simp[slices_Index_string_string.l0])
 |succ k1 =>
   have H:=HA.out;clear HA;simp only [slices_Index_string_string.l0] at H;by_cases c3:x8_1 < (l0.length:Int)
   ·rw[if_pos c3] at H
    have c3b0:decide (x8_1 < (l0.length:Int))=true:=decide_eq_true c3
    clear c3;by_cases c4:0≤x8_1
    ·rw[if_pos c4] at H
     have c4b0:decide (0≤x8_1)=true:=decide_eq_true c4
     clear c4;by_cases c5:x8_1 < (l0.length:Int)
     ·rw[if_pos c5] at H
      have c5b0:decide (x8_1 < (l0.length:Int))=true:=decide_eq_true c5
      clear c5;by_cases c6:a1.toList=(rdOf ByteArray.empty l0 x8_1).toList
      ·rw[if_pos c6] at H
       have c6b0:(a1.toList == (rdOf ByteArray.empty l0 x8_1).toList)=true:=beq_iff_eq.mpr c6
       have c6b1:(a1.toList != (rdOf ByteArray.empty l0 x8_1).toList)=false:=bne_eq_false_iff_eq.mpr c6
       clear c6;obtain rfl:=Option.some.inj H;have p387:0≤(x8_1:Int):=of_decide_eq_true (by assumption)
       have q387:x8_1 < (l0.length:Int):=of_decide_eq_true (by assumption)
       obtain⟨ad387,e387,hx387_0⟩:=Kd.at_string HR0.out x8_1 p387 q387;cases e387
       replace p387:=eq_true p387;replace q387:=eq_true q387;go_wp2
       go_ret
       exact⟨by first|rfl|(simp;done)|(simp[*];done),by repeat(first|exact Drawn0.refl _|apply Drawn0.step)⟩
      ·rw[if_neg c6] at H
       have c6b0:(a1.toList == (rdOf ByteArray.empty l0 x8_1).toList)=false:=beq_eq_false_iff_ne.mpr c6
       have c6b1:(a1.toList != (rdOf ByteArray.empty l0 x8_1).toList)=true:=bne_iff_ne.mpr c6
       have H':=Aside0.mk H
       clear H;have p387:0≤(x8_1:Int):=of_decide_eq_true (by assumption)
       have q387:x8_1 < (l0.length:Int):=of_decide_eq_true (by assumption)
       obtain⟨ad387,e387,hx387_0⟩:=Kd.at_string HR0.out x8_1 p387 q387;cases e387
       replace p387:=eq_true p387;replace q387:=eq_true q387;go_wp2
       go_roundg k1
       case measure=>have:=HK1.out;omega
       case rel=>exact⟨(wrap64 (x8_1+1)),(by first|rfl|simp[*]),H',⟨by have:=HK1.out;omega⟩,by repeat(first|exact Drawn0.refl _|apply Drawn0.step)⟩
     ·rw[if_neg c5] at H
      exact absurd H (by simp)
    ·rw[if_neg c4] at H
     exact absurd H (by simp)
   ·rw[if_neg c3] at H
    have c3b0:decide (x8_1 < (l0.length:Int))=false:=decide_eq_false c3
    clear c3;obtain rfl:=Option.some.inj H;go_wp2
    go_ret
    exact⟨by first|rfl|(simp;done)|(simp[*];done),by repeat(first|exact Drawn0.refl _|apply Drawn0.step)⟩
def impl_QueueOk.l0:Nat→List ByteArray→Int→Int→Int→List ByteArray→Option (Bool)
|0,_,_,_,_,_=>none
|k+1,x6,x7,x8,x389000,x389001=>if x8 < x7 then (if 0≤x8 then (if x8 < (x6.length:Int) then ((impl_isKey.f (rdOf ByteArray.empty x6 x8)).bind fun t391=>(if t391=true then ((slices_Index_string_string.f k x389001 (rdOf ByteArray.empty x6 x8)).bind fun t392=>(if t392=x8 then (impl_QueueOk.l0 k x6 x7 (wrap64 (x8+1)) x389000 x389001) else (some false))) else (some false))) else (none)) else (none)) else ((impl_inRange.f x389000 0 24).bind fun t389=>(if t389=true then (some (decide ((x389001.length:Int)≤x389000))) else (some false)))
def impl_QueueOk.f (k:Nat) (a0_0:Int) (l0_1:List ByteArray):Option (Bool):=impl_QueueOk.l0 k l0_1 (l0_1.length:Int) 0 a0_0 l0_1
set_option maxHeartbeats 8000000 in
set_option maxRecDepth 100000 in
theorem impl_QueueOk.calls (k:Nat) (a0_0:Int) (A0_1:Option Addr) (c0_1:Nat) (l0_1:List ByteArray) (r:Bool) (w:World) (hr0_1:Kd.C Kd.string w A0_1 l0_1.length l0_1) (hc0_1:l0_1.length≤c0_1) (h:impl_QueueOk.f k a0_0 l0_1=some r) :
  Calls Tryz.prog 127 #[.agg #[.int .i64 a0_0,.slice A0_1 l0_1.length c0_1]] w fun e w'=>e=.returned (.bool r)∧Below w.heap.size w w':=by
 have hu46:=Tryz.underlying46;have HR0_1:=Aside0.mk hr0_1
 have HC0_1:=Aside0.mk hc0_1
 clear hr0_1 hc0_1;have HB:=Aside0.mk (Below.refl w.heap.size w)
 have H:(impl_QueueOk.l0 k l0_1 (l0_1.length:Int) 0 a0_0 l0_1)=some r:=h
 clear h;have H':=Aside0.mk H
 clear H;go_enter Tryz.func127,Tryz.ntmps127
 go_wp2_with (first|((with_reducible refine gate_dst (N:=1) rfl ?_);(try(refine gate_guard (by rfl) ?_;dsimp only));refine yE (N:=1) (cs:=#[.int .i64 a0_0,.slice A0_1 l0_1.length c0_1]) (t:=46) fun gb388 hg w2 hbox hb=>?_;obtain⟨n0_,n2_⟩:=yX (w:=w) hg hb (by repeat(with_reducible first|exact HB.out|apply zI|apply zG|apply zH));have n1_:=Aside0.mk (hbox);have n3_:=n2_;clear HB;have HB:=n0_;have BK388:=n1_;have GW388:=n2_;have GE388:=n3_;clear n0_ n1_ n2_ n3_;clear hb hbox hg;obtain⟨hcz3_0,hcz3_1,hfz3_0,hfz3_1⟩:=zb2 BK388.out))
 go_loopg [8] k (fun kq v8 w'=>∃ (x8_1:Int),v8=.int .i64 x8_1∧Aside0 (impl_QueueOk.l0 kq l0_1 (l0_1.length:Int) x8_1 a0_0 l0_1=some r)∧Aside0 (kq≤k)∧Aside0 (w'.heap[gb388]? = some (.cells #[.int .i64 a0_0,(.slice A0_1 l0_1.length c0_1)] 46 (0,0)))∧Aside0 (Below w.heap.size w w'))
 case atStart=>exact⟨(0),(by first|rfl|simp[*]),H',⟨Nat.le_refl _⟩,⟨by(with_reducible repeat(first|apply zA|apply zC|apply zB));exact BK388.out⟩,⟨by repeat(with_reducible first|exact HB.out|apply zI|apply zG|apply zH|refine zJ ?_ GE388.out)⟩⟩
 case round =>
  clear H';obtain⟨x8_1,rfl,HA,HK1,BK388,HB⟩:=hrel;cases gk with
 |zero=>exact absurd HA.out (by simp[impl_QueueOk.l0])
 |succ k1 =>
   have H:=HA.out;clear HA;simp only [impl_QueueOk.l0] at H;by_cases c4:x8_1 < (l0_1.length:Int)
   ·rw[if_pos c4] at H
    have c4b0:decide (x8_1 < (l0_1.length:Int))=true:=decide_eq_true c4
    clear c4;by_cases c5:0≤x8_1
    ·rw[if_pos c5] at H
     have c5b0:decide (0≤x8_1)=true:=decide_eq_true c5
     clear c5;by_cases c6:x8_1 < (l0_1.length:Int)
     ·rw[if_pos c6] at H
      have c6b0:decide (x8_1 < (l0_1.length:Int))=true:=decide_eq_true c6
      clear c6;replace H:=Option.bind_eq_some_iff.mp H;obtain⟨t391,A70,H⟩:=H;replace H:(if t391=true then ((slices_Index_string_string.f k1 l0_1 (rdOf ByteArray.empty l0_1 x8_1)).bind fun t392=>(if t392=x8_1 then (impl_QueueOk.l0 k1 l0_1 (l0_1.length:Int) (wrap64 (x8_1+1)) a0_0 l0_1) else (some false))) else (some false))=some r:=H
      have A7:=Aside0.mk A70
      clear A70;by_cases c8:t391=true
      ·subst c8
       have H1:((slices_Index_string_string.f k1 l0_1 (rdOf ByteArray.empty l0_1 x8_1)).bind fun t392=>(if t392=x8_1 then (impl_QueueOk.l0 k1 l0_1 (l0_1.length:Int) (wrap64 (x8_1+1)) a0_0 l0_1) else (some false)))=some r:=by rw[if_pos rfl] at H;exact H
       clear H;have H:=H1;clear H1;replace H:=Option.bind_eq_some_iff.mp H;obtain⟨t392,A90,H⟩:=H;replace H:(if t392=x8_1 then (impl_QueueOk.l0 k1 l0_1 (l0_1.length:Int) (wrap64 (x8_1+1)) a0_0 l0_1) else (some false))=some r:=H
       have A9:=Aside0.mk A90
       clear A90;by_cases c10:t392=x8_1
       ·rw[if_pos c10] at H
        have c10b0:(t392 == x8_1)=true:=beq_iff_eq.mpr c10
        have c10b1:(t392 != x8_1)=false:=bne_eq_false_iff_eq.mpr c10
        clear c10;have H':=Aside0.mk H
        clear H;have p390:0≤(x8_1:Int):=of_decide_eq_true (by assumption)
        have q390:x8_1 < (l0_1.length:Int):=of_decide_eq_true (by assumption)
        obtain⟨ad390,e390,hx390_0⟩:=Kd.at_string HR0_1.out x8_1 p390 q390;cases e390
        replace hx390_0:=zc6 HB.out hx390_0;replace p390:=eq_true p390;replace q390:=eq_true q390;go_wp2_with (first|((with_reducible refine gate_callee (f:=85) rfl ?_);refine goesL_ (some 14) rfl rfl Tryz.func85 (by kernel_rfl) rfl #[.string (rdOf ByteArray.empty l0_1 x8_1)] rfl (by(try simp only [List.map_toArray,List.map_cons,List.map_nil]);first|done|rfl|(simp only [List.length_drop,List.length_take];rfl)) ?_;(with_reducible refine(impl_isKey.calls (rdOf ByteArray.empty l0_1 x8_1) true _ A7.out).mono ?_);rintro e w' ⟨rfl,⟨nd,rfl⟩⟩;refine⟨_,rfl,?_⟩;obtain⟨hcz11_0,hcz11_1,hfz11_0,hfz11_1⟩:=zb2 BK388.out)|(go_at_call 148;(with_reducible refine(slices_Index_string_string.calls k1 _ _ l0_1 (rdOf ByteArray.empty l0_1 x8_1) t392 _ ?side1 ?side2 A9.out).mono ?_);(case side1=>repeat(first|exact(Kd.C_below HR0_1.out (by repeat(with_reducible first|exact HB.out|apply zI|apply zG|apply zH|refine zJ ?_ GE388.out)))|(with_reducible refine Kd.C_alloc ?_ _)|(with_reducible refine Kd.C_drewN ?_ _)|(with_reducible refine Kd.C_drew ?_)));(case side2=>exact HC0_1.out);rintro e w' ⟨rfl,⟨nd,rfl⟩⟩))
        go_roundg k1
        case measure=>have:=HK1.out;omega
        case rel=>exact⟨(wrap64 (x8_1+1)),(by first|rfl|simp[*]),H',⟨by have:=HK1.out;omega⟩,⟨by(with_reducible repeat(first|apply zA|apply zC|apply zB));exact BK388.out⟩,⟨by repeat(with_reducible first|exact HB.out|apply zI|apply zG|apply zH|refine zJ ?_ GE388.out)⟩⟩
       ·rw[if_neg c10] at H
        have c10b0:(t392 == x8_1)=false:=beq_eq_false_iff_ne.mpr c10
        have c10b1:(t392 != x8_1)=true:=bne_iff_ne.mpr c10
        obtain rfl:=Option.some.inj H;have p390:0≤(x8_1:Int):=of_decide_eq_true (by assumption)
        have q390:x8_1 < (l0_1.length:Int):=of_decide_eq_true (by assumption)
        obtain⟨ad390,e390,hx390_0⟩:=Kd.at_string HR0_1.out x8_1 p390 q390;cases e390
        replace hx390_0:=zc6 HB.out hx390_0;replace p390:=eq_true p390;replace q390:=eq_true q390;go_wp2_with (first|((with_reducible refine gate_callee (f:=85) rfl ?_);refine goesL_ (some 14) rfl rfl Tryz.func85 (by kernel_rfl) rfl #[.string (rdOf ByteArray.empty l0_1 x8_1)] rfl (by(try simp only [List.map_toArray,List.map_cons,List.map_nil]);first|done|rfl|(simp only [List.length_drop,List.length_take];rfl)) ?_;(with_reducible refine(impl_isKey.calls (rdOf ByteArray.empty l0_1 x8_1) true _ A7.out).mono ?_);rintro e w' ⟨rfl,⟨nd,rfl⟩⟩;refine⟨_,rfl,?_⟩;obtain⟨hcz12_0,hcz12_1,hfz12_0,hfz12_1⟩:=zb2 BK388.out)|(go_at_call 148;(with_reducible refine(slices_Index_string_string.calls k1 _ _ l0_1 (rdOf ByteArray.empty l0_1 x8_1) t392 _ ?side1 ?side2 A9.out).mono ?_);(case side1=>repeat(first|exact(Kd.C_below HR0_1.out (by repeat(with_reducible first|exact HB.out|apply zI|apply zG|apply zH|refine zJ ?_ GE388.out)))|(with_reducible refine Kd.C_alloc ?_ _)|(with_reducible refine Kd.C_drewN ?_ _)|(with_reducible refine Kd.C_drew ?_)));(case side2=>exact HC0_1.out);rintro e w' ⟨rfl,⟨nd,rfl⟩⟩))
        go_ret
        exact⟨by first|rfl|(simp[] <;> rfl)|(simp[*] <;> rfl),by repeat(with_reducible first|exact HB.out|apply zI|apply zG|apply zH|refine zJ ?_ GE388.out)⟩
      ·replace c8:=Bool.eq_false_iff.mpr c8
       subst c8;have H1:(some false)=some r:=by rw[if_neg (show ¬ (false=true) by decide)] at H;exact H
       clear H;have H:=H1;clear H1;obtain rfl:=Option.some.inj H;have p390:0≤(x8_1:Int):=of_decide_eq_true (by assumption)
       have q390:x8_1 < (l0_1.length:Int):=of_decide_eq_true (by assumption)
       obtain⟨ad390,e390,hx390_0⟩:=Kd.at_string HR0_1.out x8_1 p390 q390;cases e390
       replace hx390_0:=zc6 HB.out hx390_0;replace p390:=eq_true p390;replace q390:=eq_true q390;go_wp2_with (first|((with_reducible refine gate_callee (f:=85) rfl ?_);refine goesL_ (some 14) rfl rfl Tryz.func85 (by kernel_rfl) rfl #[.string (rdOf ByteArray.empty l0_1 x8_1)] rfl (by(try simp only [List.map_toArray,List.map_cons,List.map_nil]);first|done|rfl|(simp only [List.length_drop,List.length_take];rfl)) ?_;(with_reducible refine(impl_isKey.calls (rdOf ByteArray.empty l0_1 x8_1) false _ A7.out).mono ?_);rintro e w' ⟨rfl,⟨nd,rfl⟩⟩;refine⟨_,rfl,?_⟩))
       go_ret
       exact⟨by first|rfl|(simp[] <;> rfl)|(simp[*] <;> rfl),by repeat(with_reducible first|exact HB.out|apply zI|apply zG|apply zH|refine zJ ?_ GE388.out)⟩
     ·rw[if_neg c6] at H
      exact absurd H (by simp)
    ·rw[if_neg c5] at H
     exact absurd H (by simp)
   ·rw[if_neg c4] at H
    have c4b0:decide (x8_1 < (l0_1.length:Int))=false:=decide_eq_false c4
    clear c4;replace H:=Option.bind_eq_some_iff.mp H;obtain⟨t389,A130,H⟩:=H;replace H:(if t389=true then (some (decide ((l0_1.length:Int)≤a0_0))) else (some false))=some r:=H
    have A13:=Aside0.mk A130
    clear A130;by_cases c14:t389=true
    ·subst c14
     have H1:(some (decide ((l0_1.length:Int)≤a0_0)))=some r:=by rw[if_pos rfl] at H;exact H
     clear H;have H:=H1;clear H1;obtain rfl:=Option.some.inj H;obtain⟨hcz15_0,hcz15_1,hfz15_0,hfz15_1⟩:=zb2 BK388.out;go_wp2_with (first|((with_reducible refine gate_callee (f:=89) rfl ?_);refine goesL_ (some 27) rfl rfl Tryz.func89 (by kernel_rfl) rfl #[.int .i64 a0_0,.int .i64 0,.int .i64 24] rfl (by(try simp only [List.map_toArray,List.map_cons,List.map_nil]);first|done|rfl|(simp only [List.length_drop,List.length_take];rfl)) ?_;(with_reducible refine(impl_inRange.calls a0_0 0 24 true _ A13.out).mono ?_);rintro e w' ⟨rfl,⟨nd,rfl⟩⟩;refine⟨_,rfl,?_⟩))
     go_ret
     exact⟨by first|rfl|(simp[] <;> rfl)|(simp[*] <;> rfl),by repeat(with_reducible first|exact HB.out|apply zI|apply zG|apply zH|refine zJ ?_ GE388.out)⟩
    ·replace c14:=Bool.eq_false_iff.mpr c14
     subst c14;have H1:(some false)=some r:=by rw[if_neg (show ¬ (false=true) by decide)] at H;exact H
     clear H;have H:=H1;clear H1;obtain rfl:=Option.some.inj H;obtain⟨hcz16_0,hcz16_1,hfz16_0,hfz16_1⟩:=zb2 BK388.out;go_wp2_with (first|((with_reducible refine gate_callee (f:=89) rfl ?_);refine goesL_ (some 27) rfl rfl Tryz.func89 (by kernel_rfl) rfl #[.int .i64 a0_0,.int .i64 0,.int .i64 24] rfl (by(try simp only [List.map_toArray,List.map_cons,List.map_nil]);first|done|rfl|(simp only [List.length_drop,List.length_take];rfl)) ?_;(with_reducible refine(impl_inRange.calls a0_0 0 24 false _ A13.out).mono ?_);rintro e w' ⟨rfl,⟨nd,rfl⟩⟩;refine⟨_,rfl,?_⟩))
     go_ret
     exact⟨by first|rfl|(simp[] <;> rfl)|(simp[*] <;> rfl),by repeat(with_reducible first|exact HB.out|apply zI|apply zG|apply zH|refine zJ ?_ GE388.out)⟩
def impl_SketchOk.l0:Nat→List Int→Int→Int→List Int→Int→Option (Bool)
|0,_,_,_,_,_=>none
|k+1,x6,x7,x8,x394000,x394001=>if x8 < x7 then (if 0≤x8 then (if x8 < (x6.length:Int) then ((impl_inRange.f (rd x6 x8) 0 15).bind fun t395=>(if t395=true then (impl_SketchOk.l0 k x6 x7 (wrap64 (x8+1)) x394000 x394001) else (some false))) else (none)) else (none)) else (if (x394000.length:Int)=48 then ((impl_inRange.f x394001 0 99).bind fun t396=>(some t396)) else (some false))
def impl_SketchOk.f (k:Nat) (l0_0:List Int) (a0_1:Int):Option (Bool):=impl_SketchOk.l0 k l0_0 (l0_0.length:Int) 0 l0_0 a0_1
set_option maxHeartbeats 8000000 in
set_option maxRecDepth 100000 in
theorem impl_SketchOk.calls (k:Nat) (A0_0:Option Addr) (c0_0:Nat) (l0_0:List Int) (a0_1:Int) (r:Bool) (w:World) (hr0_0:Kd.C (Kd.int .i64) w A0_0 l0_0.length l0_0) (hc0_0:l0_0.length≤c0_0) (h:impl_SketchOk.f k l0_0 a0_1=some r) :
  Calls Tryz.prog 128 #[.agg #[.slice A0_0 l0_0.length c0_0,.int .i64 a0_1]] w fun e w'=>e=.returned (.bool r)∧Below w.heap.size w w':=by
 have hu47:=Tryz.underlying47;have HR0_0:=Aside0.mk hr0_0
 have HC0_0:=Aside0.mk hc0_0
 clear hr0_0 hc0_0;have HB:=Aside0.mk (Below.refl w.heap.size w)
 have H:(impl_SketchOk.l0 k l0_0 (l0_0.length:Int) 0 l0_0 a0_1)=some r:=h
 clear h;have H':=Aside0.mk H
 clear H;go_enter Tryz.func128,Tryz.ntmps128
 go_wp2_with (first|((with_reducible refine gate_dst (N:=1) rfl ?_);refine yE (N:=1) (cs:=#[.slice A0_0 l0_0.length c0_0,.int .i64 a0_1]) (t:=47) fun gb393 hg w2 hbox hb=>?_;obtain⟨n0_,n2_⟩:=yX (w:=w) hg hb (by repeat(with_reducible first|exact HB.out|apply zI|apply zG|apply zH));have n1_:=Aside0.mk (hbox);have n3_:=n2_;clear HB;have HB:=n0_;have BK393:=n1_;have GW393:=n2_;have GE393:=n3_;clear n0_ n1_ n2_ n3_;clear hb hbox hg;obtain⟨hcz3_0,hcz3_1,hfz3_0,hfz3_1⟩:=zb2 BK393.out))
 go_loopg [8] k (fun kq v8 w'=>∃ (x8_1:Int),v8=.int .i64 x8_1∧Aside0 (impl_SketchOk.l0 kq l0_0 (l0_0.length:Int) x8_1 l0_0 a0_1=some r)∧Aside0 (kq≤k)∧Aside0 (w'.heap[gb393]? = some (.cells #[(.slice A0_0 l0_0.length c0_0),.int .i64 a0_1] 47 (0,0)))∧Aside0 (Below w.heap.size w w'))
 case atStart=>exact⟨(0),(by first|rfl|simp[*]),H',⟨Nat.le_refl _⟩,⟨by(with_reducible repeat(first|apply zA|apply zC|apply zB));exact BK393.out⟩,⟨by repeat(with_reducible first|exact HB.out|apply zI|apply zG|apply zH|refine zJ ?_ GE393.out)⟩⟩
 case round =>
  clear H';obtain⟨x8_1,rfl,HA,HK1,BK393,HB⟩:=hrel;cases gk with
 |zero=>exact absurd HA.out (by simp[impl_SketchOk.l0])
 |succ k1 =>
   have H:=HA.out;clear HA;simp only [impl_SketchOk.l0] at H;by_cases c4:x8_1 < (l0_0.length:Int)
   ·rw[if_pos c4] at H
    have c4b0:decide (x8_1 < (l0_0.length:Int))=true:=decide_eq_true c4
    clear c4;by_cases c5:0≤x8_1
    ·rw[if_pos c5] at H
     have c5b0:decide (0≤x8_1)=true:=decide_eq_true c5
     clear c5;by_cases c6:x8_1 < (l0_0.length:Int)
     ·rw[if_pos c6] at H
      have c6b0:decide (x8_1 < (l0_0.length:Int))=true:=decide_eq_true c6
      clear c6;replace H:=Option.bind_eq_some_iff.mp H;obtain⟨t395,A70,H⟩:=H;replace H:(if t395=true then (impl_SketchOk.l0 k1 l0_0 (l0_0.length:Int) (wrap64 (x8_1+1)) l0_0 a0_1) else (some false))=some r:=H
      have A7:=Aside0.mk A70
      clear A70;by_cases c8:t395=true
      ·subst c8
       have H1:(impl_SketchOk.l0 k1 l0_0 (l0_0.length:Int) (wrap64 (x8_1+1)) l0_0 a0_1)=some r:=by rw[if_pos rfl] at H;exact H
       clear H;have H:=H1;clear H1;have H':=Aside0.mk H
       clear H;have p394:0≤(x8_1:Int):=of_decide_eq_true (by assumption)
       have q394:x8_1 < (l0_0.length:Int):=of_decide_eq_true (by assumption)
       obtain⟨ad394,e394,hx394_0⟩:=Kd.at_int HR0_0.out x8_1 p394 q394;cases e394
       replace hx394_0:=zc6 HB.out hx394_0;replace p394:=eq_true p394;replace q394:=eq_true q394;go_wp2_with (first|((with_reducible refine gate_callee (f:=89) rfl ?_);refine goesL_ (some 13) rfl rfl Tryz.func89 (by kernel_rfl) rfl #[.int .i64 (rd l0_0 x8_1),.int .i64 0,.int .i64 15] rfl (by(try simp only [List.map_toArray,List.map_cons,List.map_nil]);first|done|rfl|(simp only [List.length_drop,List.length_take];rfl)) ?_;(with_reducible refine(impl_inRange.calls (rd l0_0 x8_1) 0 15 true _ A7.out).mono ?_);rintro e w' ⟨rfl,⟨nd,rfl⟩⟩;refine⟨_,rfl,?_⟩))
       go_roundg k1
       case measure=>have:=HK1.out;omega
       case rel=>exact⟨(wrap64 (x8_1+1)),(by first|rfl|simp[*]),H',⟨by have:=HK1.out;omega⟩,⟨by(with_reducible repeat(first|apply zA|apply zC|apply zB));exact BK393.out⟩,⟨by repeat(with_reducible first|exact HB.out|apply zI|apply zG|apply zH|refine zJ ?_ GE393.out)⟩⟩
      ·replace c8:=Bool.eq_false_iff.mpr c8
       subst c8;have H1:(some false)=some r:=by rw[if_neg (show ¬ (false=true) by decide)] at H;exact H
       clear H;have H:=H1;clear H1;obtain rfl:=Option.some.inj H;have p394:0≤(x8_1:Int):=of_decide_eq_true (by assumption)
       have q394:x8_1 < (l0_0.length:Int):=of_decide_eq_true (by assumption)
       obtain⟨ad394,e394,hx394_0⟩:=Kd.at_int HR0_0.out x8_1 p394 q394;cases e394
       replace hx394_0:=zc6 HB.out hx394_0;replace p394:=eq_true p394;replace q394:=eq_true q394;go_wp2_with (first|((with_reducible refine gate_callee (f:=89) rfl ?_);refine goesL_ (some 13) rfl rfl Tryz.func89 (by kernel_rfl) rfl #[.int .i64 (rd l0_0 x8_1),.int .i64 0,.int .i64 15] rfl (by(try simp only [List.map_toArray,List.map_cons,List.map_nil]);first|done|rfl|(simp only [List.length_drop,List.length_take];rfl)) ?_;(with_reducible refine(impl_inRange.calls (rd l0_0 x8_1) 0 15 false _ A7.out).mono ?_);rintro e w' ⟨rfl,⟨nd,rfl⟩⟩;refine⟨_,rfl,?_⟩))
       go_ret
       exact⟨by first|rfl|(simp[] <;> rfl)|(simp[*] <;> rfl),by repeat(with_reducible first|exact HB.out|apply zI|apply zG|apply zH|refine zJ ?_ GE393.out)⟩
     ·rw[if_neg c6] at H
      exact absurd H (by simp)
    ·rw[if_neg c5] at H
     exact absurd H (by simp)
   ·rw[if_neg c4] at H
    have c4b0:decide (x8_1 < (l0_0.length:Int))=false:=decide_eq_false c4
    clear c4;by_cases c9:(l0_0.length:Int)=48
    ·rw[if_pos c9] at H
     have c9b0:((l0_0.length:Int) == 48)=true:=beq_iff_eq.mpr c9
     have c9b1:((l0_0.length:Int) != 48)=false:=bne_eq_false_iff_eq.mpr c9
     clear c9;replace H:=Option.bind_eq_some_iff.mp H;obtain⟨t396,A100,H⟩:=H;replace H:(some t396)=some r:=H
     have A10:=Aside0.mk A100
     clear A100;obtain rfl:=Option.some.inj H;obtain⟨hcz11_0,hcz11_1,hfz11_0,hfz11_1⟩:=zb2 BK393.out;go_wp2_with (first|(go_at_call 89;(with_reducible refine(impl_inRange.calls a0_1 0 99 t396 _ A10.out).mono ?_);rintro e w' ⟨rfl,⟨nd,rfl⟩⟩))
     go_ret
     exact⟨by first|rfl|(simp[] <;> rfl)|(simp[*] <;> rfl),by repeat(with_reducible first|exact HB.out|apply zI|apply zG|apply zH|refine zJ ?_ GE393.out)⟩
    ·rw[if_neg c9] at H
     have c9b0:((l0_0.length:Int) == 48)=false:=beq_eq_false_iff_ne.mpr c9
     have c9b1:((l0_0.length:Int) != 48)=true:=bne_iff_ne.mpr c9
     obtain rfl:=Option.some.inj H;obtain⟨hcz12_0,hcz12_1,hfz12_0,hfz12_1⟩:=zb2 BK393.out;go_wp2
     go_ret
     exact⟨by first|rfl|(simp[] <;> rfl)|(simp[*] <;> rfl),by repeat(with_reducible first|exact HB.out|apply zI|apply zG|apply zH|refine zJ ?_ GE393.out)⟩
def impl_DoorOk.f (a0_0:Int):Option (Bool):=(impl_inRange.f a0_0 0 4294967295).bind fun t398=>(some t398)
set_option maxHeartbeats 8000000 in
set_option maxRecDepth 100000 in
theorem impl_DoorOk.calls (a0_0:Int) (r:Bool) (w:World) (h:impl_DoorOk.f a0_0=some r) :
  Calls Tryz.prog 129 #[.agg #[.int .i64 a0_0]] w fun e w'=>e=.returned (.bool r)∧Below w.heap.size w w':=by
 have hu48:=Tryz.underlying48;have HB:=Aside0.mk (Below.refl w.heap.size w)
 have H:((impl_inRange.f a0_0 0 4294967295).bind fun t398=>(some t398))=some r:=h
 clear h;replace H:=Option.bind_eq_some_iff.mp H;obtain⟨t398,A20,H⟩:=H;replace H:(some t398)=some r:=H
 have A2:=Aside0.mk A20
 clear A20;obtain rfl:=Option.some.inj H;go_enter Tryz.func129,Tryz.ntmps129
 go_wp2_with (first|((with_reducible refine gate_dst (N:=1) rfl ?_);refine yE (N:=1) (cs:=#[.int .i64 a0_0]) (t:=48) fun gb397 hg w3 hbox hb=>?_;obtain⟨n0_,n2_⟩:=yX (w:=w) hg hb (by repeat(with_reducible first|exact HB.out|apply zI|apply zG|apply zH));have n1_:=Aside0.mk (hbox);have n3_:=n2_;clear HB;have HB:=n0_;have BK397:=n1_;have GW397:=n2_;have GE397:=n3_;clear n0_ n1_ n2_ n3_;clear hb hbox hg;have hcz4_0:w3.cell? ⟨gb397,0,none⟩=some (.int .i64 a0_0):=(zO BK397.out 0).trans rfl;have hfz4_0:=zP BK397.out 0)|((with_reducible refine gate_callee (f:=89) rfl ?_);refine goesL_ (some 5) rfl rfl Tryz.func89 (by kernel_rfl) rfl #[.int .i64 a0_0,.int .i64 0,.int .i64 4294967295] rfl (by(try simp only [List.map_toArray,List.map_cons,List.map_nil]);first|done|rfl|(simp only [List.length_drop,List.length_take];rfl)) ?_;(with_reducible refine(impl_inRange.calls a0_0 0 4294967295 t398 _ A2.out).mono ?_);rintro e w' ⟨rfl,⟨nd,rfl⟩⟩;refine⟨_,rfl,?_⟩))
 go_ret
 exact⟨by first|rfl|(simp[] <;> rfl)|(simp[*] <;> rfl),by repeat(with_reducible first|exact HB.out|apply zI|apply zG|apply zH|refine zJ ?_ GE397.out)⟩
def impl_SketchNew.f :Option (List Int × Int):=if 48≤35184372088832 then (some ((List.replicate 48 0),0)) else (none)
set_option maxHeartbeats 8000000 in
set_option maxRecDepth 100000 in
theorem impl_SketchNew.calls  (r1:List Int) (r2:Int) (w:World) (h:impl_SketchNew.f  = some (r1,r2)) :
  Calls Tryz.prog 90 #[] w fun e w'=>∃ v0_:Value,e=.returned (.agg #[v0_,.int .i64 r2])∧Kd.R (Kd.int .i64) 3 w' w.heap.size (fun _=>True) v0_ r1∧Below w.heap.size w w':=by
 have hu47:=Tryz.underlying47;have HB:=Aside0.mk (Below.refl w.heap.size w)
 have H:(if 48≤35184372088832 then (some ((List.replicate 48 0),0)) else (none))=some (r1,r2):=h
 clear h;by_cases c1:48≤35184372088832
 ·rw[if_pos c1] at H
  have c1b0:=eq_true c1
  have c1b1:decide (48≤35184372088832)=true:=decide_eq_true c1
  clear c1;obtain⟨y408,hy408⟩:∃ y_:List Int,y_=(List.replicate 48 0):=⟨_,rfl⟩
  replace H:(some (y408,0))=some (r1,r2):=by first|(rw[hy408];with_reducible exact H)|(have H2_:=(Option.bind_some _ _).symm.trans H;rw[hy408];with_reducible exact H2_)|(have H2_:=(Option.bind_some _ _).symm.trans H;with_reducible exact H2_)|with_reducible exact H|(rw[hy408];exact H)|exact H
  have Ny408:=Aside0.mk hy408
  clear hy408;simp only [Option.some.injEq,Prod.mk.injEq] at H;obtain⟨rfl,rfl⟩:=H;go_enter Tryz.func90,Tryz.ntmps90
  go_wp2_with (first|((with_reducible refine gate_dst (N:=0) rfl ?_);refine yE (N:=0) (cs:=#[.slice none 0 0,.int .i64 0]) (t:=47) fun gb407 hg w2 hbox hb=>?_;obtain⟨n0_,n2_⟩:=yX (w:=w) hg hb (by repeat(with_reducible first|exact HB.out|apply zI|apply zG|apply zH));have n1_:=Aside0.mk (hbox);have n3_:=n2_;clear HB;have HB:=n0_;have BK407:=n1_;have GW407:=n2_;have GE407:=n3_;clear n0_ n1_ n2_ n3_;clear hb hbox hg)|((with_reducible refine gate_dst (N:=1) rfl ?_);refine Kd.R_make (Kd.int .i64) _ 3 rfl (N:=1) rfl 31 _ _ rfl 48 rfl rfl Tryz.underlying31 (.int .i64 0) 8 info3 rfl (by decide) (by omega) 0 (ok:=fun _=>True) (okp:=fun _=>True) rfl (fun _ hk=>hk) trivial (by omega) (by omega) (Below.refl _ _) (Nat.le_refl _) ?_;intro v409 w3 ho4 hb hg_ hnew_;clear hg_ hnew_;(first|rw[← Ny408.out] at ho4|(simp only [Int.reduceToNat] at ho4;rw[← Ny408.out] at ho4));have n0_:=Aside0.mk (Kd.R_lower ho4 (below_size (by repeat(with_reducible first|exact HB.out|apply zI|apply zG|apply zH|refine zJ ?_ GE407.out))));have n1_:=Aside0.mk (zK (g:=gb407) (o:=.cells #[.slice none 0 0,.int .i64 0] 47 (0,0)) (by(with_reducible repeat(first|apply zA|apply zC|apply zB));exact BK407.out) hb);have n2_:=Aside0.mk (zN (by repeat(with_reducible first|exact HB.out|apply zI|apply zG|apply zH|refine zJ ?_ GE407.out)) hb);clear BK407;clear HB;have HO410:=n0_;have BK407:=n1_;have HB:=n2_;clear n0_ n1_ n2_;clear hb ho4;obtain⟨Ao5,co5,eo5⟩:=Kd.R_slice HO410.out;subst eo5;obtain⟨hcz6_0,hcz6_1,hfz6_0,hfz6_1⟩:=zb2 BK407.out))
  refine bodyPost_ret (results_cell_row rfl _ _ gb407 47 #[.slice Ao5 y408.length co5,.int .i64 0] (0,0) _ rfl (by(with_reducible repeat(first|apply zA|apply zC|apply zB));refine blk_put (cs:=#[.slice Ao5 y408.length co5,.int .i64 0]) ?_ 1 _ rfl;(with_reducible repeat(first|apply zA|apply zC|apply zB));refine blk_put (cs:=#[.slice none 0 0,.int .i64 0]) ?_ 0 _ rfl;(with_reducible repeat(first|apply zA|apply zC|apply zB));exact BK407.out) Tryz.underlying47 rfl (by kernel_rfl)) rfl ?_
  exact⟨_,by first|rfl|(simp[] <;> rfl)|(simp[*] <;> rfl),by(with_reducible repeat(first|apply zE|apply zD|apply zF));exact zR (zL (p:=⟨gb407,1,none⟩) (zL (p:=⟨gb407,0,none⟩) (zQ HO410.out BK407.out (by decide)) (fun _ hk=>hk.2) (.slice Ao5 y408.length co5)) (fun _ hk=>hk.2) (.int .i64 0)) (fun _ hk=>trivial),by repeat(with_reducible first|exact HB.out|apply zI|apply zG|apply zH|refine zJ ?_ GE407.out)⟩
 ·rw[if_neg c1] at H
  exact absurd H (by simp)
end Go.Proofs.YtediiolcoilepaaGreat.GNear
