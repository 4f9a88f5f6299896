/- Walks of callees. -/
import Derived.Test.YtediiolcoilepaaGreatNbLa
import Derived.BigRegion
import Derived.BigQuiet
namespace Go.Proofs.YtediiolcoilepaaGreat.Nb
set_option maxHeartbeats 8000000
set_option maxRecDepth 100000
open Go.RowKit Go.Proofs.YtediiolcoilepaaGreat.GNear Go.Proofs.YtediiolcoilepaaGreatW.PrintWords Go.Proofs.YtediiolcoilepaaGreatW.PrintLast Go.Proofs.YtediiolcoilepaaGreatW.PrintMore
set_option linter.unusedVariables false
set_option linter.unusedSimpArgs false
noncomputable def laws_FnExactWantKey.f (l0_0:List S196) (a0_1:Int) (l0_2:List S198) (l0_3:List S198) (a0_4:Int) (a0_5:Int) (l0_6:List ByteArray) (a0_7:Int) (l0_8:List ByteArray) (a0_9:Int) (l0_10:List ByteArray) (l0_11:List Int) (a0_12:Int) (a0_13:Int) (a1:ByteArray):Option Bool:=open Classical in if Lr.ok ⟨l0_0,a0_1,l0_2,l0_3,a0_4,a0_5,l0_6,a0_7,l0_8,a0_9,l0_10,l0_11,a0_12,a0_13⟩ then some true else none
theorem laws_FnExactWantKey.calls (A0_0:Option Addr) (c0_0:Nat) (l0_0:List S196) (a0_1:Int) (A0_2:Option Addr) (c0_2:Nat) (l0_2:List S198) (A0_3:Option Addr) (c0_3:Nat) (l0_3:List S198) (a0_4:Int) (a0_5:Int) (A0_6:Option Addr) (c0_6:Nat) (l0_6:List ByteArray) (a0_7:Int) (A0_8:Option Addr) (c0_8:Nat) (l0_8:List ByteArray) (a0_9:Int) (A0_10:Option Addr) (c0_10:Nat) (l0_10:List ByteArray) (A0_11:Option Addr) (c0_11:Nat) (l0_11:List Int) (a0_12:Int) (a0_13:Int) (a1:ByteArray) (r:Bool) (w:World) (hr0_0:Kd.C k196 w A0_0 l0_0.length l0_0) (hc0_0:l0_0.length≤c0_0) (hr0_2:Kd.C k198 w A0_2 l0_2.length l0_2) (hc0_2:l0_2.length≤c0_2) (hr0_3:Kd.C k198 w A0_3 l0_3.length l0_3) (hc0_3:l0_3.length≤c0_3) (hr0_6:Kd.C Kd.string w A0_6 l0_6.length l0_6) (hc0_6:l0_6.length≤c0_6) (hr0_8:Kd.C Kd.string w A0_8 l0_8.length l0_8) (hc0_8:l0_8.length≤c0_8) (hr0_10:Kd.C Kd.string w A0_10 l0_10.length l0_10) (hc0_10:l0_10.length≤c0_10) (hr0_11:Kd.C (Kd.int .i64) w A0_11 l0_11.length l0_11) (hc0_11:l0_11.length≤c0_11) (h:laws_FnExactWantKey.f l0_0 a0_1 l0_2 l0_3 a0_4 a0_5 l0_6 a0_7 l0_8 a0_9 l0_10 l0_11 a0_12 a0_13 a1=some r) (HT0_:r=true) :
  Calls Tryz.prog 9 #[.agg #[.slice A0_0 l0_0.length c0_0,.int .i64 a0_1,.slice A0_2 l0_2.length c0_2,.slice A0_3 l0_3.length c0_3,.int .i64 a0_4,.int .i64 a0_5,.slice A0_6 l0_6.length c0_6,.int .i64 a0_7,.slice A0_8 l0_8.length c0_8,.int .i64 a0_9,.slice A0_10 l0_10.length c0_10,.slice A0_11 l0_11.length c0_11,.int .i64 a0_12,.int .i64 a0_13],.string a1] w fun e w'=>e=.returned (.bool r)∧Below w.heap.size w w':=by
 subst HT0_;unfold laws_FnExactWantKey.f at h
 by_cases c:Lr.ok ⟨l0_0,a0_1,l0_2,l0_3,a0_4,a0_5,l0_6,a0_7,l0_8,a0_9,l0_10,l0_11,a0_12,a0_13⟩
 ·exact wantLaw w ⟨.slice A0_0 l0_0.length c0_0,.slice A0_2 l0_2.length c0_2,.slice A0_3 l0_3.length c0_3,.slice A0_6 l0_6.length c0_6,.slice A0_8 l0_8.length c0_8,.slice A0_10 l0_10.length c0_10,.slice A0_11 l0_11.length c0_11⟩ ⟨l0_0,a0_1,l0_2,l0_3,a0_4,a0_5,l0_6,a0_7,l0_8,a0_9,l0_10,l0_11,a0_12,a0_13⟩ c ⟨⟨A0_0,c0_0,rfl,hc0_0,hr0_0⟩,⟨A0_2,c0_2,rfl,hc0_2,hr0_2⟩,⟨A0_3,c0_3,rfl,hc0_3,hr0_3⟩,⟨A0_6,c0_6,rfl,hc0_6,hr0_6⟩,⟨A0_8,c0_8,rfl,hc0_8,hr0_8⟩,⟨A0_10,c0_10,rfl,hc0_10,hr0_10⟩,⟨A0_11,c0_11,rfl,hc0_11,hr0_11⟩⟩ a1
 ·rw[if_neg c] at h;cases h
theorem wf_le {a:Int} (h:(Lit.int .i64 a).wf=true):a≤9223372036854775807:=by
 simp[Lit.wf] at h;exact h.2
end Go.Proofs.YtediiolcoilepaaGreat.Nb
