/- Walks of callees. -/
import Derived.Test.YtediiolcoilepaaGreatNbWj
import Derived.Test.YtediiolcoilepaaGreatNbWk
import Derived.BigRegion
import Derived.BigQuiet
namespace Go.Proofs.YtediiolcoilepaaGreat.Nb
set_option maxHeartbeats 8000000
set_option maxRecDepth 100000
open Go.RowKit Go.Proofs.YtediiolcoilepaaGreat.GNear Go.Proofs.YtediiolcoilepaaGreatW.PrintWords Go.Proofs.YtediiolcoilepaaGreatW.PrintLast Go.Proofs.YtediiolcoilepaaGreatW.PrintMore
set_option linter.unusedVariables false
set_option linter.unusedSimpArgs false
theorem want_both {n:Nr} (hn:n.small) (hH:∀ c ∈ n.ce,c.f1≤9223372036854775807) (key:ByteArray) (hkz:key.size≤4611686018427387904) :
  ∃ R sv bb,R.small∧(∀ w v,NearC w v n→Calls Tryz.prog 27 #[.agg (v.cells n),.string key] w (KPost R sv bb w))∧(∀ w v,NearC w v n→Calls Tryz.prog 33 #[.agg (v.cells n),.string key] w (KPost R sv bb w)):=by
 by_cases h:NearR n∧1≤key.size∧key.size≤12
 ·obtain⟨hR,hk⟩:=h
  by_cases hc:∃ c ∈ n.ce,c.f0=key
  ·obtain⟨c,hm,he⟩:=hc
   obtain⟨i,hi,hc⟩:=List.getElem_of_mem hm;have hc':n.ce[i]? = some c:=by rw[List.getElem?_eq_getElem hi,hc]
   obtain⟨k,x,hx,hu,hh,-⟩:=hR.linked c hm (by rw[he];omega);exact⟨(n.countM key).touchM key,x.f3,true,(hn.countM key).touchM (hR.queues.countM key) key,fun w v hC=>wantI_yes w v n hn hC key hkz hR i k c x hc' he hk hx hu hh,fun w v hC=>wantS_yes w v n hn hH hC key hkz hR i k c x hc' he hk hx hu hh⟩
  ·exact⟨n.countM key,⟨#[]⟩,false,hn.countM key,fun w v hC=>wantI_cnt w v n hn hC key hkz hR hk hc,fun w v hC=>wantS_cnt w v n hn hH hC key hkz hR hk hc⟩
 ·exact⟨n,⟨#[]⟩,false,hn,fun w v hC=>wantI_no w v n hn hC key hkz h,fun w v hC=>wantS_no w v n hn hH hC key hkz h⟩
end Go.Proofs.YtediiolcoilepaaGreat.Nb
