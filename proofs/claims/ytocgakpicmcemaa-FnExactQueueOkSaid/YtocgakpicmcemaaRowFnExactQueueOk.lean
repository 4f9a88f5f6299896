/- The law's row, out of its walk and its plain statement: for every input the law answers true, and its arguments read as they did. -/
import Derived.Test.YtocgakpicmcemaaRows
import Derived.Test.YtocgakpicmcemaaPFnExactQueueOkx3
import Derived.Test.YtocgakpicmcemaaAskFnExactQueueOk
import Derived.Test.YtocgakpicmcemaaPureFnExactQueueOk
import Derived.Test.YtocgakpicmcemaaOpens
import Derived.WalkKit
import Derived.ProofKit
import Derived.OpenShut
import Derived.ShutString
import Derived.ChangeOld
import Derived.Below
import Derived.SizedLaws
import Derived.Lib.SmallJoins
namespace Go.Proofs.Ytocgakpicmcemaa.fnExactQueueOk
open Go.ChangeShapes Go.WideShapes Go.ChangeAt Go.RowKit Go.Proofs.Ytocgakpicmcemaa.PFnExactQueueOk Go.Proofs.YtocgakpicmcemaaW Go.Proofs.YtocgakpicmcemaaW.PrintWords
open Go.ChangeMaps (open_string shut_string)
set_option linter.unusedVariables false
set_option linter.unusedSimpArgs false
theorem own : ownKnob Try.prog.godebug = none := by kernel_rfl
theorem laidOut : laidOutB Try.prog = true := by kernel_rfl
theorem op0 (W : World) : Opens.Op Try.prog W (Kd.pair (Kd.int .i64) (Kd.slice 9 Kd.string)) (fun x => (((Lit.int .i64 x.1).wf = true) ∧ (x.2.length ≤ maxLen ∧ ∀ z ∈ x.2, z.size ≤ maxLen))) 36 := (Opens.op_struct Try.underlying36 (by kernel_rfl) (Opens.opf_cons (Opens.op_int Try.underlying3) (by kernel_rfl) rfl (Opens.opf_one (Opens.op_slice Try.underlying32 (by kernel_rfl) (Opens.op_string Try.underlying9)) (by kernel_rfl) rfl)))
set_option maxRecDepth 100000 in
set_option maxHeartbeats 4000000 in
theorem lifted (os : Os) (started : os.Started) (H : Type) (enc : TypeId × Value → H) :
    ReturnsInHanded {} Try.checked os 13 .any (Rows.fnExactQueueOkSpec.pre6 enc Try.prog Try.f13 Rows.fnExactQueueOkRow.domain false) (Rows.fnExactQueueOkSpec.post enc Try.prog Try.f13 false true false false) := by
  refine returnsInHanded_of_change_sized (C := Try.checked) own started (by kernel_rfl) Try.func13
    (ChangeSpec.witness6 (enc := enc) (C := Try.checked) false ⟨#[], #[.agg #[.int .i64 0, .slice none 0 0]], []⟩ 8 (by kernel_rfl) (by kernel_rfl) (by kernel_rfl) (by kernel_rfl)) ?_
  intro W base args ds gs before hval0 hW hcnd hsz0 _
  have hval : ∀ (j : Nat) t v, Try.f13.params[j]? = some t → args[j]? = some v → Value.okWide Try.prog W .any base t v := hval0
  have hW' := hW
  obtain ⟨p, q, hA0, hV, rfl, hfz, hnd⟩ := hW
  have hA : DataW.TrodAll enc Try.prog W 0 (fun _ => true) true Try.f13.params.toList args.toList ds p := hA0
  rw [Try.params13] at hA hval
  obtain ⟨v0, vs0, d0, ds0, p0, q0, hargs, rfl, rfl, h0, r0⟩ := trodAll_cons hA
  obtain ⟨rfl, rfl, rfl⟩ := trodAll_nil r0
  obtain rfl : args = #[v0] := by cases args; simp_all
  obtain ⟨rfl, rfl⟩ := trodVars_none hV
  have k0_ := h0
  have lt0 : ∀ x ∈ p0, x.block < W.heap.size := by obtain ⟨m, hm⟩ := k0_; exact DataW.trod_lt m _ _ _ hm
  obtain ⟨cs0, rfl, hcz0⟩ := okWide_struct Try.underlying36 (hval 0 36 v0 rfl rfl)
  obtain ⟨fuel0, hf0⟩ := h0
  obtain ⟨y0, K0, w0⟩ := op0 W H enc fuel0 _ _ hf0
  obtain ⟨_, _, hcs0, rfl, ⟨A0_1, c0_1, rfl, hl0_1, hC0_1⟩⟩ := K0
  obtain rfl : cs0 = #[.int .i64 y0.1, .slice A0_1 y0.2.length c0_1] := Array.toList_inj.1 (by simpa [Value.cells] using hcs0)
  clear hA0 hval0 hsz0
  obtain ⟨k, hk⟩ := Pure.FnExactQueueOk y0.1 y0.2 w0.1 w0.2
  refine (Go.Proofs.Ytocgakpicmcemaa.PFnExactQueueOk.laws_FnExactQueueOk.calls _ _ _ _ _ _ _ hC0_1 hl0_1 hk).mono fun e W' ⟨he, bel⟩ => ?_
  subst he
  exact ⟨_, rfl, _, _, _, [], _, [], hW', trodAll_mk1 (shut_bool Try.underlying4 _), (trodAll_cons_mk (Below.trod laidOut (by kernel_rfl) (of_decide_eq_true (by kernel_rfl)) k0_ bel lt0) trodAll_mk0), rfl, bel.frame _, fun h => by cases h⟩
theorem over : Rows.fnExactQueueOkRow.holds Try.pinned (OpenSpec.ofChange Rows.fnExactQueueOkSpec) :=
  OpenClaim.holds_of_wide 13 Try.f13 rfl rfl rfl rfl rfl rfl rfl ⟨rfl, rfl, rfl, rfl, rfl⟩ rfl rfl rfl rfl rfl (by kernel_rfl) Try.func13 (by kernel_rfl)
    (of_decide_eq_true (by kernel_rfl)) (by unfold Func.isWrapper; first | (rw [if_pos (by decide +kernel)]; kernel_rfl) | (rw [if_neg (by decide +kernel)]; exact ⟨rfl, rfl⟩))
    (fun os started H enc _ => lifted os started H enc)
theorem proved : Rows.FnExactQueueOkSaid := over
#print axioms proved
end Go.Proofs.Ytocgakpicmcemaa.fnExactQueueOk
namespace Go.Proofs.Ytocgakpicmcemaa
/-- The row, under a short name, for the claim. -/
theorem fnExactQueueOk_holds : Rows.FnExactQueueOkSaid := fnExactQueueOk.proved
end Go.Proofs.Ytocgakpicmcemaa
