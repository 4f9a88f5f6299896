/- Parts of the proof: walks of callees, plain laws about what they compute. -/
import Derived.Test.YtediiolcoilepaaGreatNbK
import Derived.BigRegion
namespace Go.Proofs.YtediiolcoilepaaGreat.Nb
open Go.RowKit Go.Proofs.YtediiolcoilepaaGreat.GNear Go.Proofs.YtediiolcoilepaaGreatW.PrintWords Go.Proofs.YtediiolcoilepaaGreatW.PrintLast Go.Proofs.YtediiolcoilepaaGreatW.PrintMore
attribute [local go_sem] max2_int min2_int max_two min_two max_three min_three max_four min_four
set_option linter.unusedVariables false
set_option linter.unusedSimpArgs false
theorem LrC.below {w w':World} {v:NV} {n:Lr} (h:LrC w v n) (hb:Below w.heap.size w w'):LrC w' v n:=⟨h.r0.below hb,h.r2.below hb,h.r3.below hb,h.r6.below hb,h.r8.below hb,h.r10.below hb,h.r11.below hb⟩
theorem St.join {w0 w1 w2:World} {ps qs:List Part} (h:St w0 w1 ps) (h':St w1 w2 qs):St w0 w2 (qs ++ ps):=by
 have h1:=h.step h'.below
 refine⟨h1.below,fun p hp=>?_,List.pairwise_append.2 ⟨h'.apart,h1.apart,fun q hq p hp k hk hk'=>?_⟩⟩
 ·rcases List.mem_append.1 hp with hp|hp
  ·exact p.lower h.below.size (h'.all p hp)
  ·exact h1.all p hp
 ·have a:=(q.bound (h'.all q hq) k hk).1
  have b:=(p.bound (h.all p hp) k hk').2
  omega
theorem NV.shape {w0 w:World} {u:NV} {m:Nr} {ps:List Part} (h:St w0 w (u.rows m ++ ps)):∃ B0 d0 B2 d2 B3 d3 B6 d6 B8 d8 B10 d10 B11 d11,u=⟨.slice B0 m.sl.length d0,.slice B2 m.ce.length d2,.slice B3 m.old.length d3,.slice B6 m.wk.length d6,.slice B8 m.tk.length d8,.slice B10 m.sk.length d10,.slice B11 m.ct.length d11⟩:=by
 obtain⟨v0,v2,v3,v6,v8,v10,v11⟩:=u;obtain⟨B0,d0,rfl⟩:=Kd.R_slice (h.at_R 0 rfl)
 obtain⟨B2,d2,rfl⟩:=Kd.R_slice (h.at_R 1 rfl)
 obtain⟨B3,d3,rfl⟩:=Kd.R_slice (h.at_R 2 rfl)
 obtain⟨B6,d6,rfl⟩:=Kd.R_slice (h.at_R 3 rfl)
 obtain⟨B8,d8,rfl⟩:=Kd.R_slice (h.at_R 4 rfl)
 obtain⟨B10,d10,rfl⟩:=Kd.R_slice (h.at_R 5 rfl)
 obtain⟨B11,d11,rfl⟩:=Kd.R_slice (h.at_R 6 rfl)
 exact⟨_,_,_,_,_,_,_,_,_,_,_,_,_,_,rfl⟩
end Go.Proofs.YtediiolcoilepaaGreat.Nb
