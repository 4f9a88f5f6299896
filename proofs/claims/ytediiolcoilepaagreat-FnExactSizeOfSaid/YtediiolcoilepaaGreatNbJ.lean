/- Parts of the proof: walks of callees, plain laws about what they compute. -/
import Derived.Test.YtediiolcoilepaaGreatNbH
import Derived.Test.YtediiolcoilepaaGreatGNear1
import Derived.Test.YtediiolcoilepaaGreatGNear2
import Derived.Test.YtediiolcoilepaaGreatGNear3
import Derived.BigRegion
namespace Go.Proofs.YtediiolcoilepaaGreat.Nb
open Go.RowKit Go.Proofs.YtediiolcoilepaaGreat.GNear Go.Proofs.YtediiolcoilepaaGreatW.PrintWords Go.Proofs.YtediiolcoilepaaGreatW.PrintLast Go.Proofs.YtediiolcoilepaaGreatW.PrintMore
attribute [local go_sem] max2_int min2_int max_two min_two max_three min_three max_four min_four
set_option linter.unusedVariables false
set_option linter.unusedSimpArgs false
theorem rdT196_at (x:List S196) (i:Nat) (h:i < x.length):rd_T196 x (i:Int)=x[i]:=by
 unfold rd_T196
 rw[List.getD_eq_getElem?_getD,Int.toNat_natCast,List.getElem?_eq_getElem h]
 rfl
theorem szSlot_some (s:S196) (a:Int) (h0:0≤a) (h1:a≤1048576) (h2:s.f2.size≤maxLen) (h3:s.f3.size≤maxLen):∃ r,laws_szSlot.f s.f0 s.f1 s.f2 s.f3 s.f4 a=some r∧r≤a∧-1≤r:=by
 unfold laws_szSlot.f
 unfold maxLen at *
 have e0:wrap64 (a - (s.f2.size:Int))=a - (s.f2.size:Int):=by unfold wrap64;omega
 rw[e0]
 by_cases c0:a - (s.f2.size:Int) < 0
 ·rw[if_pos c0];exact⟨-1,rfl,by omega,by omega⟩
 ·rw[if_neg c0]
  have e1:wrap64 (a - (s.f2.size:Int) - (s.f3.size:Int))=a - (s.f2.size:Int) - (s.f3.size:Int):=by unfold wrap64;omega
  rw[e1]
  by_cases c1:a - (s.f2.size:Int) - (s.f3.size:Int) < 0
  ·rw[if_pos c1];exact⟨-1,rfl,by omega,by omega⟩
  ·rw[if_neg c1]
   exact⟨_,rfl,by omega,by omega⟩
theorem szSlotS_loop (l:List S196) (hl:l.length≤1048576) (hs:∀ s ∈ l,s.f2.size≤maxLen∧s.f3.size≤maxLen) (d:Nat):∀ (i:Nat) (a:Int),0≤a→a≤1048576→l.length=i+d→∃ r,Ev (fun k=>laws_szSlotS.l0 k l a (i:Int)) r∧r≤a∧-1≤r:=by
 induction d with
 |zero =>
  intro i a h0 h1 hd
  refine⟨a,Ev.step (f:=fun _=>some a) (fun k=>?_) (Ev.now _),by omega,by omega⟩
  simp only [laws_szSlotS.l0];rw[if_neg (by omega)]
 |succ d ih =>
  intro i a h0 h1 hd
  have hi:i < l.length:=by omega
  obtain⟨t,e,t1,t2⟩:=szSlot_some l[i] a h0 h1 (hs _ (List.getElem_mem hi)).1 (hs _ (List.getElem_mem hi)).2
  by_cases c:t < 0
  ·refine⟨-1,Ev.step (f:=fun _=>some (-1)) (fun k=>?_) (Ev.now _),by omega,by omega⟩
   simp only [laws_szSlotS.l0,rdT196_at l i hi]
   rw[if_pos (by omega),if_pos (by omega),e];simp only [Option.bind_some]
   rw[if_pos c]
  ·obtain⟨r,h,r1,r2⟩:=ih (i+1) t (by omega) (by omega) (by omega)
   refine⟨r,Ev.step (fun k=>?_) h,by omega,r2⟩
   simp only [laws_szSlotS.l0,rdT196_at l i hi]
   rw[if_pos (by omega),if_pos (by omega),e];simp only [Option.bind_some]
   rw[if_neg c,w64 i (by omega)]
theorem szSlotS_ev (l:List S196) (a:Int) (hl:l.length≤maxLen) (hs:∀ s ∈ l,s.f2.size≤maxLen∧s.f3.size≤maxLen) (h0:0≤a) (h1:a≤1048576):∃ r,Ev (fun k=>laws_szSlotS.f k l a) r∧r≤a∧-1≤r∧(0≤r→l.length≤1048576):=by
 have e:wrap64 (a - (l.length:Int))=a - (l.length:Int):=by unfold maxLen at hl;unfold wrap64;omega
 by_cases c:a - (l.length:Int) < 0
 ·refine⟨-1,Ev.congr (fun k=>?_) (Ev.now _),by omega,by omega,by omega⟩
  unfold laws_szSlotS.f;rw[e,if_pos c]
 ·obtain⟨r,h,r1,r2⟩:=szSlotS_loop l (by omega) hs l.length 0 (a - (l.length:Int)) (by omega) (by omega) (by omega)
  refine⟨r,Ev.congr (fun k=>?_) h,by omega,r2,fun _=>by omega⟩
  unfold laws_szSlotS.f;rw[e,if_neg c];rfl
def cvSlot (s:S196):S94:=⟨s.f0,s.f1,s.f2,s.f3,s.f4⟩
theorem toSlotS_loop (l:List S196) (hl:l.length≤1048576) (d:Nat):∀ (x:List S94) (i:Nat),x.length=l.length→x.take i=(l.take i).map cvSlot→l.length=i+d→Ev (fun k=>laws_toSlotS.l0 k l x (i:Int)) (l.map cvSlot):=by
 induction d with
 |zero =>
  intro x i hx ht hd
  refine Ev.step (f:=fun _=>some (l.map cvSlot)) (fun k=>?_) (Ev.now _)
  have e:x=l.map cvSlot:=by rw[List.take_of_length_le (by omega),List.take_of_length_le (by omega)] at ht;exact ht
  simp only [laws_toSlotS.l0]
  rw[if_neg (by omega),e]
 |succ d ih =>
  intro x i hx ht hd
  have hi:i < l.length:=by omega
  refine Ev.step (f:=fun k=>laws_toSlotS.l0 k l (x.set i (cvSlot l[i])) ((i+1:Nat):Int)) (fun k=>?_) (ih (x.set i (cvSlot l[i])) (i+1) (by simpa using hx) ?_ (by omega))
  ·simp only [laws_toSlotS.l0,laws_toSlot.f,Option.bind_some,rdT196_at l i hi]
   rw[if_pos (by omega),if_pos (by omega),if_pos (by omega),w64 i (by omega),Int.toNat_natCast]
   rfl
  ·rw[set_take x i _ (by omega),take_next l i hi,ht,List.map_append]
   rfl
theorem toSlotS_ev (l:List S196) (hl:l.length≤1048576):Ev (fun k=>laws_toSlotS.f k l) (l.map cvSlot):=by
 refine Ev.congr (f:=fun k=>laws_toSlotS.l0 k l (List.replicate l.length z94) ((0:Nat):Int)) (fun k=>?_) (toSlotS_loop l hl l.length _ 0 (by simp) rfl (by omega))
 unfold laws_toSlotS.f
 rw[if_pos (by omega),if_pos (by rw[Int.toNat_natCast];omega),Int.toNat_natCast]
 rfl
theorem eqSlot_some (s:S94):laws_eqSlot.f s.f0 s.f1 s.f2 s.f3 s.f4 s.f0 s.f1 s.f2 s.f3 s.f4=some true:=by
 unfold laws_eqSlot.f
 simp
theorem eqSlotS_loop (l:List S94) (hl:l.length≤1048576) (d:Nat):∀ (i:Nat),l.length=i+d→Ev (fun k=>laws_eqSlotS.l0 k l l (i:Int)) true:=by
 induction d with
 |zero =>
  intro i hd
  refine Ev.step (f:=fun _=>some true) (fun k=>?_) (Ev.now _)
  simp only [laws_eqSlotS.l0];rw[if_neg (by omega)]
 |succ d ih =>
  intro i hd
  refine Ev.step (f:=fun k=>laws_eqSlotS.l0 k l l ((i+1:Nat):Int)) (fun k=>?_) (ih (i+1) (by omega))
  simp only [laws_eqSlotS.l0]
  rw[if_pos (by omega),if_pos (by omega),if_pos (by omega),eqSlot_some,w64 i (by omega)]
  rfl
theorem eqSlotS_ev (l:List S94) (hl:l.length≤1048576):Ev (fun k=>laws_eqSlotS.f k l l) true:=by
 refine Ev.congr (f:=fun k=>laws_eqSlotS.l0 k l l ((0:Nat):Int)) (fun k=>?_) (eqSlotS_loop l hl l.length 0 (by omega))
 unfold laws_eqSlotS.f
 rw[if_pos rfl]
 rfl
theorem rdT198_at' (x:List S198) (i:Nat) (h:i < x.length):rd_T198 x (i:Int)=x[i]:=by
 unfold rd_T198
 rw[List.getD_eq_getElem?_getD,Int.toNat_natCast,List.getElem?_eq_getElem h]
 rfl
theorem szCell_some (s:S198) (a:Int) (h0:0≤a) (h1:a≤1048576) (h2:s.f0.size≤maxLen):∃ r,laws_szCell.f s.f0 s.f1 a=some r∧r≤a∧-1≤r∧(0≤r→s.f0.size≤1048576):=by
 unfold laws_szCell.f
 unfold maxLen at *
 have e0:wrap64 (a - (s.f0.size:Int))=a - (s.f0.size:Int):=by unfold wrap64;omega
 rw[e0]
 by_cases c0:a - (s.f0.size:Int) < 0
 ·rw[if_pos c0];exact⟨-1,rfl,by omega,by omega,by omega⟩
 ·rw[if_neg c0]
  exact⟨_,rfl,by omega,by omega,by omega⟩
theorem szCellS_loop (l:List S198) (hl:l.length≤1048576) (hs:∀ s ∈ l,s.f0.size≤maxLen) (d:Nat):∀ (i:Nat) (a:Int),0≤a→a≤1048576→l.length=i+d →
  ∃ r,Ev (fun k=>laws_szCellS.l0 k l a (i:Int)) r∧r≤a∧-1≤r∧(0≤r→∀ j,i≤j→∀ h:j < l.length,l[j].f0.size≤1048576):=by
 induction d with
 |zero =>
  intro i a h0 h1 hd
  refine⟨a,Ev.step (f:=fun _=>some a) (fun k=>?_) (Ev.now _),by omega,by omega,fun _ j hj h=>by omega⟩
  simp only [laws_szCellS.l0];rw[if_neg (by omega)]
 |succ d ih =>
  intro i a h0 h1 hd
  have hi:i < l.length:=by omega
  obtain⟨t,e,t1,t2,t3⟩:=szCell_some l[i] a h0 h1 (hs _ (List.getElem_mem hi))
  by_cases c:t < 0
  ·refine⟨-1,Ev.step (f:=fun _=>some (-1)) (fun k=>?_) (Ev.now _),by omega,by omega,by omega⟩
   simp only [laws_szCellS.l0,rdT198_at' l i hi]
   rw[if_pos (by omega),if_pos (by omega),e];simp only [Option.bind_some]
   rw[if_pos c]
  ·obtain⟨r,h,r1,r2,r3⟩:=ih (i+1) t (by omega) (by omega) (by omega)
   refine⟨r,Ev.step (fun k=>?_) h,by omega,r2,fun h0 j hj hk=>by
    rcases Nat.eq_or_lt_of_le hj with rfl|hj
    ·exact t3 (by omega)
    ·exact r3 h0 j hj hk⟩
   simp only [laws_szCellS.l0,rdT198_at' l i hi]
   rw[if_pos (by omega),if_pos (by omega),e];simp only [Option.bind_some]
   rw[if_neg c,w64 i (by omega)]
theorem szCellS_ev (l:List S198) (a:Int) (hl:l.length≤maxLen) (hs:∀ s ∈ l,s.f0.size≤maxLen) (h0:0≤a) (h1:a≤1048576):∃ r,Ev (fun k=>laws_szCellS.f k l a) r∧r≤a∧-1≤r∧(0≤r→l.length≤1048576∧∀ s ∈ l,s.f0.size≤1048576):=by
 have e:wrap64 (a - (l.length:Int))=a - (l.length:Int):=by unfold maxLen at hl;unfold wrap64;omega
 by_cases c:a - (l.length:Int) < 0
 ·refine⟨-1,Ev.congr (fun k=>?_) (Ev.now _),by omega,by omega,by omega⟩
  unfold laws_szCellS.f;rw[e,if_pos c]
 ·obtain⟨r,h,r1,r2,r3⟩:=szCellS_loop l (by omega) hs l.length 0 (a - (l.length:Int)) (by omega) (by omega) (by omega)
  refine⟨r,Ev.congr (fun k=>?_) h,by omega,r2,fun h0=>⟨by omega,fun s hs=>by
   obtain⟨j,hj,rfl⟩:=List.getElem_of_mem hs;exact r3 h0 j (Nat.zero_le _) hj⟩⟩
  unfold laws_szCellS.f;rw[e,if_neg c];rfl
theorem rdT198_at (x:List S198) (i:Nat) (h:i < x.length):rd_T198 x (i:Int)=x[i]:=by
 unfold rd_T198
 rw[List.getD_eq_getElem?_getD,Int.toNat_natCast,List.getElem?_eq_getElem h]
 rfl
def cvCell (s:S198):S151:=⟨s.f0,s.f1⟩
theorem toCellS_loop (l:List S198) (hl:l.length≤1048576) (d:Nat):∀ (x:List S151) (i:Nat),x.length=l.length→x.take i=(l.take i).map cvCell→l.length=i+d→Ev (fun k=>laws_toCellS.l0 k l x (i:Int)) (l.map cvCell):=by
 induction d with
 |zero =>
  intro x i hx ht hd
  refine Ev.step (f:=fun _=>some (l.map cvCell)) (fun k=>?_) (Ev.now _)
  have e:x=l.map cvCell:=by rw[List.take_of_length_le (by omega),List.take_of_length_le (by omega)] at ht;exact ht
  simp only [laws_toCellS.l0]
  rw[if_neg (by omega),e]
 |succ d ih =>
  intro x i hx ht hd
  have hi:i < l.length:=by omega
  refine Ev.step (f:=fun k=>laws_toCellS.l0 k l (x.set i (cvCell l[i])) ((i+1:Nat):Int)) (fun k=>?_) (ih (x.set i (cvCell l[i])) (i+1) (by simpa using hx) ?_ (by omega))
  ·simp only [laws_toCellS.l0,laws_toCell.f,Option.bind_some,rdT198_at l i hi]
   rw[if_pos (by omega),if_pos (by omega),if_pos (by omega),w64 i (by omega),Int.toNat_natCast]
   rfl
  ·rw[set_take x i _ (by omega),take_next l i hi,ht,List.map_append]
   rfl
theorem toCellS_ev (l:List S198) (hl:l.length≤1048576):Ev (fun k=>laws_toCellS.f k l) (l.map cvCell):=by
 refine Ev.congr (f:=fun k=>laws_toCellS.l0 k l (List.replicate l.length z151) ((0:Nat):Int)) (fun k=>?_) (toCellS_loop l hl l.length _ 0 (by simp) rfl (by omega))
 unfold laws_toCellS.f
 rw[if_pos (by omega),if_pos (by rw[Int.toNat_natCast];omega),Int.toNat_natCast]
 rfl
theorem eqCell_some (s:S151):laws_eqCell.f s.f0 s.f1 s.f0 s.f1=some true:=by
 unfold laws_eqCell.f
 simp
theorem eqCellS_loop (l:List S151) (hl:l.length≤1048576) (d:Nat):∀ (i:Nat),l.length=i+d→Ev (fun k=>laws_eqCellS.l0 k l l (i:Int)) true:=by
 induction d with
 |zero =>
  intro i hd
  refine Ev.step (f:=fun _=>some true) (fun k=>?_) (Ev.now _)
  simp only [laws_eqCellS.l0];rw[if_neg (by omega)]
 |succ d ih =>
  intro i hd
  refine Ev.step (f:=fun k=>laws_eqCellS.l0 k l l ((i+1:Nat):Int)) (fun k=>?_) (ih (i+1) (by omega))
  simp only [laws_eqCellS.l0]
  rw[if_pos (by omega),if_pos (by omega),if_pos (by omega),eqCell_some,w64 i (by omega)]
  rfl
theorem eqCellS_ev (l:List S151) (hl:l.length≤1048576):Ev (fun k=>laws_eqCellS.f k l l) true:=by
 refine Ev.congr (f:=fun k=>laws_eqCellS.l0 k l l ((0:Nat):Int)) (fun k=>?_) (eqCellS_loop l hl l.length 0 (by omega))
 unfold laws_eqCellS.f
 rw[if_pos rfl]
 rfl
theorem szStringS_loop (l:List ByteArray) (hl:l.length≤1048576) (hs:∀ s ∈ l,s.size≤maxLen) (d:Nat):∀ (i:Nat) (a:Int),0≤a→a≤1048576→l.length=i+d →
  ∃ r,Ev (fun k=>laws_szStringS.l0 k l a (i:Int)) r∧r≤a∧-1≤r:=by
 induction d with
 |zero =>
  intro i a h0 h1 hd
  refine⟨a,Ev.step (f:=fun _=>some a) (fun k=>?_) (Ev.now _),by omega,by omega⟩
  simp only [laws_szStringS.l0];rw[if_neg (by omega)]
 |succ d ih =>
  intro i a h0 h1 hd
  have hi:i < l.length:=by omega
  have hz:=hs _ (List.getElem_mem hi)
  have e:wrap64 (a - (l[i].size:Int))=a - (l[i].size:Int):=by unfold maxLen at hz;unfold wrap64;omega
  by_cases c:a - (l[i].size:Int) < 0
  ·refine⟨-1,Ev.step (f:=fun _=>some (-1)) (fun k=>?_) (Ev.now _),by omega,by omega⟩
   simp only [laws_szStringS.l0,rdS_at l i hi]
   rw[if_pos (by omega),if_pos (by omega),e,if_pos c]
  ·obtain⟨r,h,r1,r2⟩:=ih (i+1) (a - (l[i].size:Int)) (by omega) (by omega) (by omega)
   refine⟨r,Ev.step (fun k=>?_) h,by omega,r2⟩
   simp only [laws_szStringS.l0,rdS_at l i hi]
   rw[if_pos (by omega),if_pos (by omega),e,if_neg c,w64 i (by omega)]
theorem szStringS_ev (l:List ByteArray) (a:Int) (hl:l.length≤maxLen) (hs:∀ s ∈ l,s.size≤maxLen) (h0:0≤a) (h1:a≤1048576) :
  ∃ r,Ev (fun k=>laws_szStringS.f k l a) r∧r≤a∧-1≤r∧(0≤r→l.length≤1048576):=by
 have e:wrap64 (a - (l.length:Int))=a - (l.length:Int):=by unfold maxLen at hl;unfold wrap64;omega
 by_cases c:a - (l.length:Int) < 0
 ·refine⟨-1,Ev.congr (fun k=>?_) (Ev.now _),by omega,by omega,by omega⟩
  unfold laws_szStringS.f;rw[e,if_pos c]
 ·obtain⟨r,h,r1,r2⟩:=szStringS_loop l (by omega) hs l.length 0 (a - (l.length:Int)) (by omega) (by omega) (by omega)
  refine⟨r,Ev.congr (fun k=>?_) h,by omega,r2,fun _=>by omega⟩
  unfold laws_szStringS.f;rw[e,if_neg c];rfl
theorem toStringS_loop (l:List ByteArray) (hl:l.length≤1048576) (d:Nat):∀ (x:List ByteArray) (i:Nat),x.length=l.length→x.take i=l.take i→l.length=i+d→Ev (fun k=>laws_toStringS.l0 k l x (i:Int)) l:=by
 induction d with
 |zero =>
  intro x i hx ht hd
  refine Ev.step (f:=fun _=>some l) (fun k=>?_) (Ev.now _)
  have e:x=l:=by rw[List.take_of_length_le (by omega),List.take_of_length_le (by omega)] at ht;exact ht
  simp only [laws_toStringS.l0]
  rw[if_neg (by omega),e]
 |succ d ih =>
  intro x i hx ht hd
  have hi:i < l.length:=by omega
  refine Ev.step (f:=fun k=>laws_toStringS.l0 k l (x.set i l[i]) ((i+1:Nat):Int)) (fun k=>?_) (ih (x.set i l[i]) (i+1) (by simpa using hx) ?_ (by omega))
  ·simp only [laws_toStringS.l0]
   rw[if_pos (by omega),if_pos (by omega),if_pos (by omega),w64 i (by omega),rdS_at l i hi,Int.toNat_natCast]
  ·rw[set_take x i _ (by omega),take_next l i hi,ht]
theorem toStringS_ev (l:List ByteArray) (hl:l.length≤1048576):Ev (fun k=>laws_toStringS.f k l) l:=by
 refine Ev.congr (f:=fun k=>laws_toStringS.l0 k l (List.replicate l.length (⟨#[]⟩:ByteArray)) ((0:Nat):Int)) (fun k=>?_) (toStringS_loop l hl l.length _ 0 (by simp) rfl (by omega))
 unfold laws_toStringS.f
 rw[if_pos (by omega),if_pos (by rw[Int.toNat_natCast];omega),Int.toNat_natCast]
 rfl
theorem eqStringS_loop (a:List ByteArray) (hl:a.length≤1048576) (d:Nat):∀ (i:Nat),a.length=i+d→Ev (fun k=>laws_eqStringS.l0 k a a (i:Int)) true:=by
 induction d with
 |zero =>
  intro i hd
  refine Ev.step (f:=fun _=>some true) (fun k=>?_) (Ev.now _)
  simp only [laws_eqStringS.l0]
  rw[if_neg (by omega)]
 |succ d ih =>
  intro i hd
  refine Ev.step (f:=fun k=>laws_eqStringS.l0 k a a ((i+1:Nat):Int)) (fun k=>?_) (ih (i+1) (by omega))
  simp only [laws_eqStringS.l0]
  rw[if_pos (by omega),if_pos (by omega),if_pos (by omega),w64 i (by omega)]
  simp only [if_true]
theorem eqStringS_ev (a:List ByteArray) (hl:a.length≤1048576):Ev (fun k=>laws_eqStringS.f k a a) true:=by
 refine Ev.congr (f:=fun k=>laws_eqStringS.l0 k a a ((0:Nat):Int)) (fun k=>?_) (eqStringS_loop a hl a.length 0 (by omega))
 unfold laws_eqStringS.f
 rw[if_pos rfl]
 rfl
theorem eqIntS_loop (a b:List Int) (hl:a.length≤35184372088832) (hab:a=b) (d:Nat):∀ (i:Nat),a.length=i+d→Ev (fun k=>laws_eqIntS.l0 k a b (i:Int)) true:=by
 subst hab;induction d with
 |zero =>
  intro i hd
  refine Ev.step (f:=fun _=>some true) (fun k=>?_) (Ev.now _)
  simp only [laws_eqIntS.l0]
  rw[if_neg (by omega)]
 |succ d ih =>
  intro i hd
  refine Ev.step (f:=fun k=>laws_eqIntS.l0 k a a ((i+1:Nat):Int)) (fun k=>?_) (ih (i+1) (by omega))
  simp only [laws_eqIntS.l0]
  rw[if_pos (by omega),if_pos (by omega),if_pos (by omega),w64 i (by omega)]
  simp only [if_true]
theorem eqIntS_ev (a:List Int) (hl:a.length≤35184372088832):Ev (fun k=>laws_eqIntS.f k a a) true:=by
 refine Ev.congr (f:=fun k=>laws_eqIntS.l0 k a a ((0:Nat):Int)) (fun k=>?_) (eqIntS_loop a a hl rfl a.length 0 (by omega))
 unfold laws_eqIntS.f
 rw[if_pos rfl]
 rfl
theorem toIntS_loop (l:List Int) (hl:l.length≤35184372088832) (d:Nat):∀ (x:List Int) (i:Nat),x.length=l.length→x.take i=l.take i→l.length=i+d→Ev (fun k=>laws_toIntS.l0 k l x (i:Int)) l:=by
 induction d with
 |zero =>
  intro x i hx ht hd
  refine Ev.step (f:=fun _=>some l) (fun k=>?_) (Ev.now _)
  have e:x=l:=by rw[List.take_of_length_le (by omega),List.take_of_length_le (by omega)] at ht;exact ht
  simp only [laws_toIntS.l0]
  rw[if_neg (by omega),e]
 |succ d ih =>
  intro x i hx ht hd
  have hi:i < l.length:=by omega
  refine Ev.step (f:=fun k=>laws_toIntS.l0 k l (x.set i l[i]) ((i+1:Nat):Int)) (fun k=>?_) (ih (x.set i l[i]) (i+1) (by simpa using hx) ?_ (by omega))
  ·simp only [laws_toIntS.l0]
   rw[if_pos (by omega),if_pos (by omega),if_pos (by omega),w64 i (by omega),rd_at l i hi,Int.toNat_natCast]
  ·rw[set_take x i _ (by omega),take_next l i hi,ht]
theorem toIntS_ev (l:List Int) (hl:l.length≤35184372088832):Ev (fun k=>laws_toIntS.f k l) l:=by
 refine Ev.congr (f:=fun k=>laws_toIntS.l0 k l (List.replicate l.length 0) ((0:Nat):Int)) (fun k=>?_) (toIntS_loop l hl l.length _ 0 (by simp) rfl (by omega))
 unfold laws_toIntS.f
 rw[if_pos (by omega),if_pos (by rw[Int.toNat_natCast];exact hl),Int.toNat_natCast]
 rfl
structure Lr where
 sl:List S196
 fr:Int
 ce:List S198
 old:List S198
 mv:Int
 wm:Int
 wk:List ByteArray
 tm:Int
 tk:List ByteArray
 sm:Int
 sk:List ByteArray
 ct:List Int
 ad:Int
 db:Int
structure LrC (w:World) (v:NV) (n:Lr):Prop where
 r0:RowC k196 w v.v0 n.sl
 r2:RowC k198 w v.v2 n.ce
 r3:RowC k198 w v.v3 n.old
 r6:RowC Kd.string w v.v6 n.wk
 r8:RowC Kd.string w v.v8 n.tk
 r10:RowC Kd.string w v.v10 n.sk
 r11:RowC (Kd.int .i64) w v.v11 n.ct
structure LrF (w:World) (n:Lr) (A0 A2 A3 A6 A8 A10 A11:Option Addr) (c0 c2 c3 c6 c8 c10 c11:Nat):Prop where
 h0:Kd.C k196 w A0 n.sl.length n.sl
 h2:Kd.C k198 w A2 n.ce.length n.ce
 h3:Kd.C k198 w A3 n.old.length n.old
 h6:Kd.C Kd.string w A6 n.wk.length n.wk
 h8:Kd.C Kd.string w A8 n.tk.length n.tk
 h10:Kd.C Kd.string w A10 n.sk.length n.sk
 h11:Kd.C (Kd.int .i64) w A11 n.ct.length n.ct
 l0:n.sl.length≤c0
 l2:n.ce.length≤c2
 l3:n.old.length≤c3
 l6:n.wk.length≤c6
 l8:n.tk.length≤c8
 l10:n.sk.length≤c10
 l11:n.ct.length≤c11
theorem LrC.open_ {w:World} {v:NV} {n:Lr} (h:LrC w v n):∃ A0 c0 A2 c2 A3 c3 A6 c6 A8 c8 A10 c10 A11 c11,v=⟨.slice A0 n.sl.length c0,.slice A2 n.ce.length c2,.slice A3 n.old.length c3,.slice A6 n.wk.length c6,.slice A8 n.tk.length c8,.slice A10 n.sk.length c10,.slice A11 n.ct.length c11⟩∧LrF w n A0 A2 A3 A6 A8 A10 A11 c0 c2 c3 c6 c8 c10 c11:=by
 obtain⟨v0,v2,v3,v6,v8,v10,v11⟩:=v;obtain⟨⟨A0,c0,e0,l0,h0⟩,⟨A2,c2,e2,l2,h2⟩,⟨A3,c3,e3,l3,h3⟩,⟨A6,c6,e6,l6,h6⟩,⟨A8,c8,e8,l8,h8⟩,⟨A10,c10,e10,l10,h10⟩,⟨A11,c11,e11,l11,h11⟩⟩:=h;subst e0 e2 e3 e6 e8 e10 e11;exact⟨A0,c0,A2,c2,A3,c3,A6,c6,A8,c8,A10,c10,A11,c11,rfl,h0,h2,h3,h6,h8,h10,h11,l0,l2,l3,l6,l8,l10,l11⟩
theorem LrF.below {w w':World} {n:Lr} {A0 A2 A3 A6 A8 A10 A11:Option Addr} {c0 c2 c3 c6 c8 c10 c11:Nat} (h:LrF w n A0 A2 A3 A6 A8 A10 A11 c0 c2 c3 c6 c8 c10 c11) (hb:Below w.heap.size w w'):LrF w' n A0 A2 A3 A6 A8 A10 A11 c0 c2 c3 c6 c8 c10 c11 :=
 ⟨Kd.C_below h.h0 hb,Kd.C_below h.h2 hb,Kd.C_below h.h3 hb,Kd.C_below h.h6 hb,Kd.C_below h.h8 hb,Kd.C_below h.h10 hb,Kd.C_below h.h11 hb,h.l0,h.l2,h.l3,h.l6,h.l8,h.l10,h.l11⟩
def NV.cellsL (v:NV) (n:Lr):Array Value:=#[v.v0,.int .i64 n.fr,v.v2,v.v3,.int .i64 n.mv,.int .i64 n.wm,v.v6,.int .i64 n.tm,v.v8,.int .i64 n.sm,v.v10,v.v11,.int .i64 n.ad,.int .i64 n.db]
def Lr.to (n:Lr):Nr:=⟨n.sl.map cvSlot,n.fr,n.ce.map cvCell,n.old.map cvCell,n.mv,n.wm,n.wk,n.tm,n.tk,n.sm,n.sk,n.ct,n.ad,n.db⟩
structure Lr.ok (n:Lr):Prop where
 l0:n.sl.length≤maxLen
 l2:n.ce.length≤maxLen
 l3:n.old.length≤maxLen
 l6:n.wk.length≤maxLen
 l8:n.tk.length≤maxLen
 l10:n.sk.length≤maxLen
 l11:n.ct.length≤maxLen
 k0:∀ s ∈ n.sl,s.f2.size≤maxLen∧s.f3.size≤maxLen
 k2:∀ s ∈ n.ce,s.f0.size≤maxLen
 k3:∀ s ∈ n.old,s.f0.size≤maxLen
 k6:∀ s ∈ n.wk,s.size≤maxLen
 k8:∀ s ∈ n.tk,s.size≤maxLen
 k10:∀ s ∈ n.sk,s.size≤maxLen
 r2:∀ c ∈ n.ce,c.f1≤9223372036854775807
structure Lr.few (n:Lr):Prop where
 s0:n.sl.length≤1048576
 s2:n.ce.length≤1048576
 s3:n.old.length≤1048576
 s6:n.wk.length≤1048576
 s8:n.tk.length≤1048576
 s10:n.sk.length≤1048576
 s11:n.ct.length≤1048576
 k2:∀ s ∈ n.ce,s.f0.size≤1048576
 k3:∀ s ∈ n.old,s.f0.size≤1048576
theorem Lr.few.small {n:Lr} (h:n.few):n.to.small:=by
 refine⟨by simpa [Lr.to] using h.s0,by simpa [Lr.to] using h.s2,by simpa [Lr.to] using h.s3,h.s6,h.s8,h.s10,h.s11,fun x hx=>?_,fun x hx=>?_⟩
 ·obtain⟨y,hy,rfl⟩:=List.mem_map.1 hx
  show y.f0.size≤_
  have:=h.k2 y hy
  omega
 ·obtain⟨y,hy,rfl⟩:=List.mem_map.1 hx
  show y.f0.size≤_
  have:=h.k3 y hy
  omega
theorem Lr.ok.high {n:Lr} (ho:n.ok):∀ c ∈ n.to.ce,c.f1≤9223372036854775807:=fun x hx=>by
 obtain⟨y,hy,rfl⟩:=List.mem_map.1 hx;exact ho.r2 y hy
theorem szArena_ev (l:List S196) (fr a:Int) (hl:l.length≤maxLen) (hs:∀ s ∈ l,s.f2.size≤maxLen∧s.f3.size≤maxLen) (h0:0≤a) (h1:a≤1048576):∃ r,Ev (fun k=>laws_szArena.f k l fr a) r∧r≤a∧-1≤r∧(0≤r→l.length≤1048576):=by
 obtain⟨r,h,r1,r2,r3⟩:=szSlotS_ev l a hl hs h0 h1;refine⟨r,Ev.bind (f:=fun _ (t:Int)=>if t < 0 then some (-1) else some t) h (Ev.congr (fun k=>?_) (Ev.now _)),r1,r2,r3⟩
 show(if r < 0 then some (-1) else some r)=some r
 by_cases c:r < 0
 ·rw[if_pos c,show r = -1 by omega]
 ·rw[if_neg c]
theorem szTable_ev (l m:List S198) (mv a:Int) (hl:l.length≤maxLen) (hs:∀ s ∈ l,s.f0.size≤maxLen) (hl2:m.length≤maxLen) (hs2:∀ s ∈ m,s.f0.size≤maxLen) (h0:0≤a) (h1:a≤1048576):∃ r,Ev (fun k=>laws_szTable.f k l m mv a) r∧r≤a∧-1≤r∧(0≤r→(l.length≤1048576∧∀ s ∈ l,s.f0.size≤1048576)∧m.length≤1048576∧∀ s ∈ m,s.f0.size≤1048576):=by
 obtain⟨r,h,r1,r2,r3⟩:=szCellS_ev l a hl hs h0 h1;by_cases c:r < 0
 ·exact⟨-1,Ev.bind (f:=fun k (t:Int)=>if t < 0 then some (-1) else ((laws_szCellS.f k m t).bind fun t111=>(if t111 < 0 then (some (-1)) else (some t111)))) h (Ev.congr (fun k=>if_pos c) (Ev.now _)),by omega,by omega,by omega⟩
 ·obtain⟨q,h',q1,q2,q3⟩:=szCellS_ev m r hl2 hs2 (by omega) (by omega)
  refine⟨q,Ev.bind (f:=fun k (t:Int)=>if t < 0 then some (-1) else ((laws_szCellS.f k m t).bind fun t111=>(if t111 < 0 then (some (-1)) else (some t111)))) h (Ev.congr (fun k=>if_neg c) (Ev.bind (f:=fun _ (t:Int)=>if t < 0 then some (-1) else some t) h' (Ev.congr (fun k=>?_) (Ev.now _)))),by omega,q2,fun hq=>⟨r3 (by omega),q3 hq⟩⟩
  show(if q < 0 then some (-1) else some q)=some q
  by_cases c:q < 0
  ·rw[if_pos c,show q = -1 by omega]
  ·rw[if_neg c]
theorem szQueue_ev (m:Int) (l:List ByteArray) (a:Int) (hl:l.length≤maxLen) (hs:∀ s ∈ l,s.size≤maxLen) (h0:0≤a) (h1:a≤1048576):∃ r,Ev (fun k=>laws_szQueue.f k m l a) r∧r≤a∧-1≤r∧(0≤r→l.length≤1048576):=by
 obtain⟨r,h,r1,r2,r3⟩:=szStringS_ev l a hl hs h0 h1;refine⟨r,Ev.bind (f:=fun _ (t:Int)=>if t < 0 then some (-1) else some t) h (Ev.congr (fun k=>?_) (Ev.now _)),r1,r2,r3⟩
 show(if r < 0 then some (-1) else some r)=some r
 by_cases c:r < 0
 ·rw[if_pos c,show r = -1 by omega]
 ·rw[if_neg c]
theorem szSketch_is (l:List Int) (ad a:Int) (hl:l.length≤maxLen) (h0:0≤a) (h1:a≤1048576):∃ r,laws_szSketch.f l ad a=some r∧r≤a∧-1≤r∧(0≤r→l.length≤1048576):=by
 have e:wrap64 (a - (l.length:Int))=a - (l.length:Int):=by unfold maxLen at hl;unfold wrap64;omega
 unfold laws_szSketch.f laws_szIntS.f
 rw[e]
 by_cases c:a - (l.length:Int) < 0
 ·rw[if_pos c];exact⟨-1,rfl,by omega,by omega,by omega⟩
 ·rw[if_neg c]
  refine⟨a - (l.length:Int),?_,by omega,by omega,fun _=>by omega⟩
  simp only [Option.bind_some]
  rw[if_neg c]
def SzPost (w:World) (m:Lr) (e:Ending) (w':World):Prop:=∃ r,e=.returned (.int .i64 r)∧(0≤r→m.few)∧Below w.heap.size w w'
theorem SzPost.no {w w':World} {m:Lr} (hb:Below w.heap.size w w'):SzPost w m (.returned (.int .i64 (-1))) w':=⟨-1,rfl,fun h=>absurd h (by omega),hb⟩
theorem SzPost.yes {w w':World} {m:Lr} {r:Int} (hb:Below w.heap.size w w') (h:m.few):SzPost w m (.returned (.int .i64 r)) w':=⟨r,rfl,fun _=>h,hb⟩
set_option maxHeartbeats 4000000 in
set_option maxRecDepth 100000 in
theorem szNearS (w:World) (v:NV) (n:Lr) (hn:n.ok) (hC:LrC w v n) :
  Calls Tryz.prog 12 #[.agg (v.cellsL n),.int .i64 1048576] w (SzPost w n):=by
 obtain⟨A0,c0,A2,c2,A3,c3,A6,c6,A8,c8,A10,c10,A11,c11,rfl,hF⟩:=hC.open_;have HF:=Aside0.mk hF
 clear hC hF;dsimp only [NV.cellsL]
 have HS:=Aside0.mk (St.start w)
 have HN:=Aside0.mk hn
 clear hn;go_enter Tryz.func12,Tryz.ntmps12
 go_wp2_with fail
 have S:=HS.out.alloc #[Value.slice A0 n.sl.length c0,Value.int .i64 n.fr,Value.slice A2 n.ce.length c2,Value.slice A3 n.old.length c3,Value.int .i64 n.mv,Value.int .i64 n.wm,Value.slice A6 n.wk.length c6,Value.int .i64 n.tm,Value.slice A8 n.tk.length c8,Value.int .i64 n.sm,Value.slice A10 n.sk.length c10,Value.slice A11 n.ct.length c11,Value.int .i64 n.ad,Value.int .i64 n.db] 37
 clear HS;have HS:=Aside0.mk S
 obtain⟨L0,hL0⟩:∃ x,x=(1048576:Int):=⟨_,rfl⟩
 rw[← hL0]
 have HG0:=Aside0.mk (show 0≤L0∧L0≤1048576 by omega)
 clear hL0;obtain⟨L1,⟨K,hK⟩,g1,g2,g3⟩:=szArena_ev n.sl n.fr L0 HN.out.l0 HN.out.k0 HG0.out.1 HG0.out.2;have hbb:=HS.out.below;refine(laws_szArena.calls K A0 c0 n.sl n.fr L0 L1 _ (HF.out.below hbb).h0 HF.out.l0 (hK K (Nat.le_refl _))).mono ?_
 rintro e w1 ⟨rfl,hb⟩
 have S:=HS.out.step hb
 clear HS hb hbb hK;have HS:=Aside0.mk S
 have hc2:=S.at_cell 0 rfl 2 rfl
 have hc3:=S.at_cell 0 rfl 3 rfl
 have hc4:=S.at_cell 0 rfl 4 rfl
 clear S;have HQ1:=Aside0.mk g3
 clear g3;by_cases c:L1 < 0
 case pos =>
  obtain rfl:L1 = -1:=by omega
  clear g1 g2;go_wp2_with fail
  go_ret
  exact SzPost.no HS.out.below
 have c1:decide (L1 < 0)=false:=decide_eq_false c
 have HG1:=Aside0.mk (show 0≤L1∧L1≤1048576 by have:=HG0.out;omega)
 clear g1 g2;go_wp2_with fail
 obtain⟨L2,⟨K,hK⟩,g1,g2,g3⟩:=szTable_ev n.ce n.old n.mv L1 HN.out.l2 HN.out.k2 HN.out.l3 HN.out.k3 HG1.out.1 HG1.out.2;have hbb:=HS.out.below;refine(laws_szTable.calls K A2 c2 n.ce A3 c3 n.old n.mv L1 L2 _ (HF.out.below hbb).h2 HF.out.l2 (HF.out.below hbb).h3 HF.out.l3 (hK K (Nat.le_refl _))).mono ?_
 rintro e w2 ⟨rfl,hb⟩
 have S:=HS.out.step hb
 clear HS hb hbb hK;clear hc2 hc3 hc4;have HS:=Aside0.mk S
 have hc5:=S.at_cell 0 rfl 5 rfl
 have hc6:=S.at_cell 0 rfl 6 rfl
 clear S;have HQ2:=Aside0.mk g3
 clear g3;by_cases c:L2 < 0
 case pos =>
  obtain rfl:L2 = -1:=by omega
  clear g1 g2;go_wp2_with fail
  go_ret
  exact SzPost.no HS.out.below
 have c1:decide (L2 < 0)=false:=decide_eq_false c
 have HG2:=Aside0.mk (show 0≤L2∧L2≤1048576 by have:=HG1.out;omega)
 clear g1 g2;go_wp2_with fail
 obtain⟨L3,⟨K,hK⟩,g1,g2,g3⟩:=szQueue_ev n.wm n.wk L2 HN.out.l6 HN.out.k6 HG2.out.1 HG2.out.2;have hbb:=HS.out.below;refine(laws_szQueue.calls K n.wm A6 c6 n.wk L2 L3 _ (HF.out.below hbb).h6 HF.out.l6 (hK K (Nat.le_refl _))).mono ?_
 rintro e w3 ⟨rfl,hb⟩
 have S:=HS.out.step hb
 clear HS hb hbb hK;clear hc5 hc6;have HS:=Aside0.mk S
 have hc7:=S.at_cell 0 rfl 7 rfl
 have hc8:=S.at_cell 0 rfl 8 rfl
 clear S;have HQ3:=Aside0.mk g3
 clear g3;by_cases c:L3 < 0
 case pos =>
  obtain rfl:L3 = -1:=by omega
  clear g1 g2;go_wp2_with fail
  go_ret
  exact SzPost.no HS.out.below
 have c1:decide (L3 < 0)=false:=decide_eq_false c
 have HG3:=Aside0.mk (show 0≤L3∧L3≤1048576 by have:=HG2.out;omega)
 clear g1 g2;go_wp2_with fail
 obtain⟨L4,⟨K,hK⟩,g1,g2,g3⟩:=szQueue_ev n.tm n.tk L3 HN.out.l8 HN.out.k8 HG3.out.1 HG3.out.2;have hbb:=HS.out.below;refine(laws_szQueue.calls K n.tm A8 c8 n.tk L3 L4 _ (HF.out.below hbb).h8 HF.out.l8 (hK K (Nat.le_refl _))).mono ?_
 rintro e w4 ⟨rfl,hb⟩
 have S:=HS.out.step hb
 clear HS hb hbb hK;clear hc7 hc8;have HS:=Aside0.mk S
 have hc9:=S.at_cell 0 rfl 9 rfl
 have hc10:=S.at_cell 0 rfl 10 rfl
 clear S;have HQ4:=Aside0.mk g3
 clear g3;by_cases c:L4 < 0
 case pos =>
  obtain rfl:L4 = -1:=by omega
  clear g1 g2;go_wp2_with fail
  go_ret
  exact SzPost.no HS.out.below
 have c1:decide (L4 < 0)=false:=decide_eq_false c
 have HG4:=Aside0.mk (show 0≤L4∧L4≤1048576 by have:=HG3.out;omega)
 clear g1 g2;go_wp2_with fail
 obtain⟨L5,⟨K,hK⟩,g1,g2,g3⟩:=szQueue_ev n.sm n.sk L4 HN.out.l10 HN.out.k10 HG4.out.1 HG4.out.2;have hbb:=HS.out.below;refine(laws_szQueue.calls K n.sm A10 c10 n.sk L4 L5 _ (HF.out.below hbb).h10 HF.out.l10 (hK K (Nat.le_refl _))).mono ?_
 rintro e w5 ⟨rfl,hb⟩
 have S:=HS.out.step hb
 clear HS hb hbb hK;clear hc9 hc10;have HS:=Aside0.mk S
 have hc11:=S.at_cell 0 rfl 11 rfl
 have hc12:=S.at_cell 0 rfl 12 rfl
 clear S;have HQ5:=Aside0.mk g3
 clear g3;by_cases c:L5 < 0
 case pos =>
  obtain rfl:L5 = -1:=by omega
  clear g1 g2;go_wp2_with fail
  go_ret
  exact SzPost.no HS.out.below
 have c1:decide (L5 < 0)=false:=decide_eq_false c
 have HG5:=Aside0.mk (show 0≤L5∧L5≤1048576 by have:=HG4.out;omega)
 clear g1 g2;go_wp2_with fail
 obtain⟨L6,hK,g1,g2,g3⟩:=szSketch_is n.ct n.ad L5 HN.out.l11 HG5.out.1 HG5.out.2;have hbb:=HS.out.below;refine(laws_szSketch.calls A11 c11 n.ct n.ad L5 L6 _ (HF.out.below hbb).h11 HF.out.l11 hK).mono ?_
 rintro e w6 ⟨rfl,hb⟩
 have S:=HS.out.step hb
 clear HS hb hbb hK;clear hc11 hc12;have HS:=Aside0.mk S
 clear S;have HQ6:=Aside0.mk g3
 clear g3;by_cases c:L6 < 0
 case pos =>
  obtain rfl:L6 = -1:=by omega
  clear g1 g2;go_wp2_with fail
  go_ret
  exact SzPost.no HS.out.below
 have c1:decide (L6 < 0)=false:=decide_eq_false c
 have HG6:=Aside0.mk (show 0≤L6∧L6≤1048576 by have:=HG5.out;omega)
 clear g1 g2;go_wp2_with fail
 go_ret
 exact SzPost.yes HS.out.below ⟨HQ1.out HG1.out.1,(HQ2.out HG2.out.1).1.1,(HQ2.out HG2.out.1).2.1,HQ3.out HG3.out.1,HQ4.out HG4.out.1,HQ5.out HG5.out.1,HQ6.out HG6.out.1,(HQ2.out HG2.out.1).1.2,(HQ2.out HG2.out.1).2.2⟩
end Go.Proofs.YtediiolcoilepaaGreat.Nb
