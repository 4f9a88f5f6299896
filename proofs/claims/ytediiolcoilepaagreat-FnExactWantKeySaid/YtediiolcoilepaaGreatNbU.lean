/- Walks of callees. -/
import Derived.Test.YtediiolcoilepaaGreatNbT
import Derived.BigRegion
import Derived.BigQuiet
namespace Go.Proofs.YtediiolcoilepaaGreat.Nb
set_option maxHeartbeats 8000000
set_option maxRecDepth 100000
open Go.RowKit Go.Proofs.YtediiolcoilepaaGreat.GNear Go.Proofs.YtediiolcoilepaaGreatW.PrintWords Go.Proofs.YtediiolcoilepaaGreatW.PrintLast Go.Proofs.YtediiolcoilepaaGreatW.PrintMore
set_option linter.unusedVariables false
set_option linter.unusedSimpArgs false
theorem seekI_none (cs:List S151) (key:ByteArray) (hl:cs.length≤1048576) (hk:key.size=0) (hs:key.size≤4611686018427387904):Ev (fun k=>impl_seek.f k cs key) (-1):=by
 unfold impl_seek.f
 by_cases h0:cs.length=0
 ·rw[List.eq_nil_of_length_eq_zero h0]
  exact Ev.now _
 ·simp only [if_neg (show ¬ (cs.length:Int)=0 by omega)]
  refine Ev.bind (hashI_ev key hs 0 (by omega)) ?_;have:=seekI_none_loop cs key hl hk cs.length 0 (stOf key % cs.length) (by omega) (Nat.mod_lt _ (by omega));have e:Int.tmod ((hashN key 0:Nat):Int) (cs.length:Int)=((stOf key % cs.length:Nat):Int):=by rw[Int.tmod_eq_emod_of_nonneg (by omega)];rfl
  simp only [e];exact this
theorem findI_any {n:Nr} (hn:n.small) (hP:PartsR n) (ho:n.old = []) (key:ByteArray) (hz:key.size≤4611686018427387904) :
  ∃ h b,Ev (fun k=>impl_Table_find.f k n.ce n.old n.mv key) (h,b)∧(b=true ↔ key.size ≠ 0∧∃ c ∈ n.ce,c.f0=key):=by
 have hold:∀ k,impl_seek.f k n.old key=some (-1):=fun k=>by rw[ho];rfl
 have miss:Ev (fun k=>impl_seek.f k n.ce key) (-1)→Ev (fun k=>impl_Table_find.f k n.ce n.old n.mv key) (0,false):=fun h=>by
  refine Ev.bind h ?_;refine Ev.step (f:=fun _=>some (0,false)) (fun k=>?_) (Ev.now _);show(if ((-1:Int)) ≥ 0 then _ else _)=_;rw[if_neg (by omega),hold];rfl
 by_cases hk:key.size=0
 ·exact⟨0,false,miss (seekI_none n.ce key hn.s2 hk hz),⟨fun h=>Bool.noConfusion h,fun h=>absurd hk h.1⟩⟩
 ·have hs:=seekI_ev n.ce key hn.s2 hk hz
  cases hq:TM.seek S151.f0 S151.f1 n.ce key (stOf key) with
  |none =>
   rw[hq] at hs;refine⟨0,false,miss hs,⟨fun h=>Bool.noConfusion h,fun ⟨_,c,hc,e⟩=>?_⟩⟩;exact absurd e ((TM.Found.seek S151.f0 S151.f1 hP.table.cells.found hk).1 hq c hc)
  |some i =>
   rw[hq] at hs;replace hs:Ev (fun k=>impl_seek.f k n.ce key) ((i:Nat):Int):=hs;obtain⟨x,hx,hxk⟩:=TM.seekF_some S151.f0 S151.f1 hq;have hi:i < n.ce.length:=(List.getElem?_eq_some_iff.1 hx).1;refine⟨(rd_T151 n.ce ((i:Nat):Int)).f1,true,Ev.bind hs ?_,⟨fun _=>⟨hk,x,List.mem_of_getElem? hx,hxk⟩,fun _=>rfl⟩⟩;refine Ev.step (f:=fun _=>some ((rd_T151 n.ce ((i:Nat):Int)).f1,true)) (fun k=>?_) (Ev.now _);show(if ((i:Nat):Int) ≥ 0 then _ else _)=_;rw[if_pos (by omega),if_pos (by omega),if_pos (by omega)]
end Go.Proofs.YtediiolcoilepaaGreat.Nb
