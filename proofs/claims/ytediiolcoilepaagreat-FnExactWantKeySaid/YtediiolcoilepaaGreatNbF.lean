/- Walks of callees. -/
import Derived.Test.YtediiolcoilepaaGreatNbE
import Derived.BigRegion
namespace Go.Proofs.YtediiolcoilepaaGreat.Nb
set_option maxHeartbeats 8000000
set_option maxRecDepth 100000
open Go.RowKit Go.Proofs.YtediiolcoilepaaGreat.GNear Go.Proofs.YtediiolcoilepaaGreatW.PrintWords Go.Proofs.YtediiolcoilepaaGreatW.PrintLast Go.Proofs.YtediiolcoilepaaGreatW.PrintMore
set_option linter.unusedVariables false
set_option linter.unusedSimpArgs false
theorem okS_inner (m:Int) (l:List ByteArray) (hl:l.length≤1048576) (i:Nat) (hi:i < l.length) (b:Bool) (hb:Ev (fun k=>spec_QueueOk.l0 k ((i+1:Nat):Int) m l) b) (d:Nat):∀ (c:Nat),i=c+d→l[i] ∉ l.take c →
  ∃ r:Bool,Ev (fun k=>spec_QueueOk.l1 k (i:Int) (c:Int) m l) r∧(r=true ↔ (l[i] ∉ l.take i∧b=true)):=by
 induction d with
 |zero =>
  intro c hd hn;obtain rfl:i=c:=by omega
  refine⟨b,Ev.step (fun k=>?_) hb,by simp[hn]⟩;simp only [spec_QueueOk.l1];rw[if_neg (by omega),w64 i (by omega)]
 |succ d ih =>
  intro c hd hn;have hc:c < l.length:=by omega
  by_cases e:l[c]=l[i]
  ·refine⟨false,Ev.step (f:=fun _=>some false) (fun k=>?_) (Ev.now _),?_⟩
   ·simp only [spec_QueueOk.l1,rdS_at l i hi,rdS_at l c hc]
    rw[if_pos (by omega),if_pos (by omega),if_pos (by omega),if_pos (by omega),if_pos (by omega),if_pos (str_eq.2 e)]
   ·simp only [Bool.false_eq_true,false_iff]
    rintro ⟨h,_⟩;exact h (List.mem_take_iff_getElem.2 ⟨c,by omega,e⟩)
  ·obtain⟨r,hr,hq⟩:=ih (c+1) (by omega) (by
    rw[take_next l c hc];intro h
    rcases List.mem_append.1 h with h|h
    ·exact hn h
    ·exact e (List.mem_singleton.1 h).symm)
   refine⟨r,Ev.step (fun k=>?_) hr,hq⟩;simp only [spec_QueueOk.l1,rdS_at l i hi,rdS_at l c hc];rw[if_pos (by omega),if_pos (by omega),if_pos (by omega),if_pos (by omega),if_pos (by omega),if_neg (fun h=>e (str_eq.1 h)),w64 c (by omega)]
theorem okS_loop (m:Int) (l:List ByteArray) (hl:l.length≤1048576) (d:Nat):∀ (i:Nat),l.length=i+d →
  ∃ b:Bool,Ev (fun k=>spec_QueueOk.l0 k (i:Int) m l) b∧(b=true ↔ okFrom l i):=by
 induction d with
 |zero =>
  intro i hd;refine⟨true,Ev.step (f:=fun _=>some true) (fun k=>?_) (Ev.now _),by simp[okFrom_end (show l.length≤i by omega)]⟩;simp only [spec_QueueOk.l0];rw[if_neg (by omega)]
 |succ d ih =>
  intro i hd;have hi:i < l.length:=by omega
  obtain⟨b,hb,hq⟩:=ih (i+1) (by omega)
  by_cases c:isK l[i]
  ·have ck:decide (1≤((l[i].size:Nat):Int)∧((l[i].size:Nat):Int)≤12)=true:=decide_eq_true (by unfold isK at c;omega)
   obtain⟨r,hr,hrq⟩:=okS_inner m l hl i hi b hb i 0 (by omega) (by simp);refine⟨r,Ev.step (fun k=>?_) hr,?_⟩
   ·simp only [spec_QueueOk.l0,rdS_at l i hi,rangeS,ck,Option.bind_some]
    rw[if_pos (by omega),if_pos (by omega)];simp only [if_true];rfl
   ·rw[hrq,hq,okFrom_step hi]
    simp only [c,true_and]
  ·have ck:decide (1≤((l[i].size:Nat):Int)∧((l[i].size:Nat):Int)≤12)=false:=decide_eq_false (by unfold isK at c;omega)
   refine⟨false,Ev.step (f:=fun _=>some false) (fun k=>?_) (Ev.now _),?_⟩
   ·simp only [spec_QueueOk.l0,rdS_at l i hi,rangeS,ck,Option.bind_some]
    rw[if_pos (by omega),if_pos (by omega)];simp
   ·simp only [Bool.false_eq_true,false_iff]
    intro h;exact c ((okFrom_step hi).1 h).1.1
theorem okS_ev (m:Int) (l:List ByteArray) (hl:l.length≤1048576):∃ b:Bool,Ev (fun k=>spec_QueueOk.f k m l) b∧(b=true ↔ okQ m l):=by
 unfold okQ;have no:(¬ (0≤m∧m≤24∧(l.length:Int)≤m))→Ev (fun k=>spec_QueueOk.j0 k true m l) false:=by
  intro _;refine Ev.step (f:=fun _=>some false) (fun k=>?_) (Ev.now _);simp only [spec_QueueOk.j0,if_true]
 by_cases c:0≤m∧m≤24
 ·by_cases c2:(l.length:Int)≤m
  ·obtain⟨b,hb,hq⟩:=okS_loop m l hl l.length 0 (by omega)
   refine⟨b,Ev.congr (f:=fun k=>spec_QueueOk.j0 k false m l) (fun k=>?_) (Ev.step (fun k=>?_) hb),by rw[hq];simp[c,c2]⟩
   ·unfold spec_QueueOk.f
    simp only [rangeS,decide_eq_true c,Option.bind_some,if_true,decide_eq_false (show ¬ (l.length:Int) > m by omega)]
   ·simp only [spec_QueueOk.j0,if_neg (show ¬ (false=true) by decide)]
    rfl
  ·refine⟨false,Ev.congr (fun k=>?_) (no (by omega)),by simp;omega⟩
   unfold spec_QueueOk.f;simp only [rangeS,decide_eq_true c,Option.bind_some,if_true,decide_eq_true (show(l.length:Int) > m by omega)]
 ·refine⟨false,Ev.congr (fun k=>?_) (no (by omega)),by simp;omega⟩
  unfold spec_QueueOk.f;simp only [rangeS,decide_eq_false c,Option.bind_some,if_neg (show ¬ (false=true) by decide)]
theorem rangeSS (x a b:Int):spec_l01In.f x a b=some (decide (a≤x∧x≤b)):=by
 unfold spec_l01In.f
 by_cases c:x ≥ a
 ·rw[if_pos c];congr 1;simp;omega
 ·rw[if_neg c];congr 1;simp;omega
theorem skS_loop (l:List Int) (n:Int) (hl:l.length≤1048576) (d:Nat):∀ (i:Nat),l.length=i+d→Ev (fun k=>spec_SketchOk.l0 k (i:Int) l n) ((l.drop i).all inD):=by
 induction d with
 |zero =>
  intro i hd;refine Ev.step (f:=fun _=>some _) (fun k=>?_) (Ev.now _);simp only [spec_SketchOk.l0];rw[if_neg (by omega),List.drop_of_length_le (by omega)];rfl
 |succ d ih =>
  intro i hd;have hi:i < l.length:=by omega
  rw[all_step hi]
  by_cases c:inD l[i]=true
  ·refine Ev.step (f:=fun k=>spec_SketchOk.l0 k ((i+1:Nat):Int) l n) (fun k=>?_) (by rw[c,Bool.true_and];exact ih (i+1) (by omega))
   simp only [spec_SketchOk.l0,rangeSS,Option.bind_some];rw[if_pos (by omega),if_pos (by omega),rd_at l i hi,show decide (0≤l[i]∧l[i]≤15)=true from c,if_pos rfl,w64 i (by omega)]
  ·have c':inD l[i]=false:=by simpa using c
   refine Ev.step (f:=fun _=>some false) (fun k=>?_) (by rw[c'];simp;exact Ev.now _);simp only [spec_SketchOk.l0,rangeSS,Option.bind_some];rw[if_pos (by omega),if_pos (by omega),rd_at l i hi,show decide (0≤l[i]∧l[i]≤15)=false from c',if_neg (by simp)]
theorem skS_ev (l:List Int) (n:Int) (hl:l.length≤1048576):Ev (fun k=>spec_SketchOk.f k l n) (skOk l n):=by
 unfold spec_SketchOk.f skOk
 by_cases c:l.length=48
 ·simp only [if_pos (show(l.length:Int)=48 by omega),rangeSS,Option.bind_some,decide_eq_true c,Bool.true_and]
  by_cases c2:0≤n∧n≤99
  ·simp only [decide_eq_true c2,Bool.and_true]
   refine Ev.step (f:=fun k=>spec_SketchOk.l0 k ((0:Nat):Int) l n) (fun k=>?_) (skS_loop l n hl l.length 0 (by omega));simp only [spec_SketchOk.j0];rw[if_neg (by simp)];rfl
  ·simp only [decide_eq_false c2,Bool.and_false]
   refine Ev.step (f:=fun k=>some false) (fun k=>?_) (Ev.now _);simp only [spec_SketchOk.j0];rw[if_pos (by simp)]
 ·simp only [if_neg (show ¬ (l.length:Int)=48 by omega),decide_eq_false c,Bool.false_and]
  refine Ev.step (f:=fun k=>some false) (fun k=>?_) (Ev.now _);simp only [spec_SketchOk.j0];simp
theorem doorS (D:Int):spec_DoorOk.f D=some (decide (0≤D∧D < 4294967296)):=by
 unfold spec_DoorOk.f;rw[l01In_is,Option.bind_some]
 congr 1
 simp only [decide_eq_decide];omega
end Go.Proofs.YtediiolcoilepaaGreat.Nb
