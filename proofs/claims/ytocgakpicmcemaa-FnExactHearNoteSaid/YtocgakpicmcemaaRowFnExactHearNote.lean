/- The law's row, out of its walk and its plain statement: for every input the law answers true, and its arguments read as they did. -/
import Derived.Test.YtocgakpicmcemaaRows
import Derived.Test.YtocgakpicmcemaaQFnExactHearNotex7
import Derived.Test.YtocgakpicmcemaaAskFnExactHearNote
import Derived.Test.YtocgakpicmcemaaPureFnExactHearNote
import Derived.Test.YtocgakpicmcemaaOpens
import Derived.WalkKit
import Derived.ProofKit
import Derived.OpenShut
import Derived.ShutString
import Derived.ChangeOld
import Derived.Below
import Derived.SizedLaws
import Derived.Lib.SmallJoins
namespace Go.Proofs.Ytocgakpicmcemaa.fnExactHearNote
open Go.ChangeShapes Go.WideShapes Go.ChangeAt Go.RowKit Go.Proofs.Ytocgakpicmcemaa.PFnExactHearNote Go.Proofs.YtocgakpicmcemaaW Go.Proofs.YtocgakpicmcemaaW.PrintWords
open Go.ChangeMaps (open_string shut_string)
set_option linter.unusedVariables false
set_option linter.unusedSimpArgs false
theorem own : ownKnob Try.prog.godebug = none := by kernel_rfl
theorem laidOut : laidOutB Try.prog = true := by kernel_rfl
set_option maxRecDepth 100000 in
theorem op0 (W : World) : Opens.Op Try.prog W (Kd.pair (Kd.int .i64) (Kd.pair (Kd.int .i64) Kd.string)) (fun x => (((Lit.int .i64 x.1).wf = true) ∧ (((Lit.int .i64 x.2.1).wf = true) ∧ (x.2.2.size ≤ maxLen)))) 63 := (Opens.op_struct Try.underlying63 (by kernel_rfl) (Opens.opf_cons (Opens.op_int Try.underlying3) (by kernel_rfl) rfl (Opens.opf_cons (Opens.op_int Try.underlying3) (by kernel_rfl) rfl (Opens.opf_one (Opens.op_string Try.underlying9) (by kernel_rfl) rfl))))
set_option maxRecDepth 100000 in
theorem op1 (W : World) : Opens.Op Try.prog W (Kd.pair (Kd.int .i64) (Kd.pair (Kd.int .i64) (Kd.pair (Kd.int .i64) (Kd.pair (Kd.int .i64) (Kd.pair (Kd.int .i64) Kd.string))))) (fun x => (((Lit.int .i64 x.1).wf = true) ∧ (((Lit.int .i64 x.2.1).wf = true) ∧ (((Lit.int .i64 x.2.2.1).wf = true) ∧ (((Lit.int .i64 x.2.2.2.1).wf = true) ∧ (((Lit.int .i64 x.2.2.2.2.1).wf = true) ∧ (x.2.2.2.2.2.size ≤ maxLen))))))) 64 := (Opens.op_struct Try.underlying64 (by kernel_rfl) (Opens.opf_cons (Opens.op_int Try.underlying3) (by kernel_rfl) rfl (Opens.opf_cons (Opens.op_int Try.underlying3) (by kernel_rfl) rfl (Opens.opf_cons (Opens.op_int Try.underlying3) (by kernel_rfl) rfl (Opens.opf_cons (Opens.op_int Try.underlying3) (by kernel_rfl) rfl (Opens.opf_cons (Opens.op_int Try.underlying3) (by kernel_rfl) rfl (Opens.opf_one (Opens.op_string Try.underlying9) (by kernel_rfl) rfl)))))))
set_option maxRecDepth 100000 in
set_option maxHeartbeats 4000000 in
theorem lifted (os : Os) (started : os.Started) (H : Type) (enc : TypeId × Value → H) :
    ReturnsInHanded {} Try.checked os 12 .any (Rows.fnExactHearNoteSpec.pre6 enc Try.prog Try.f12 Rows.fnExactHearNoteRow.domain false) (Rows.fnExactHearNoteSpec.post enc Try.prog Try.f12 false true false false) := by
  refine returnsInHanded_of_change_sized (C := Try.checked) own started (by kernel_rfl) Try.func12
    (ChangeSpec.witness6 (enc := enc) (C := Try.checked) false ⟨#[], #[.agg #[.int .i64 0, .int .i64 0, .string ⟨#[]⟩], .agg #[.int .i64 0, .int .i64 0, .int .i64 0, .int .i64 0, .int .i64 0, .string ⟨#[]⟩]], []⟩ 8 (by kernel_rfl) (by kernel_rfl) (by kernel_rfl) (by kernel_rfl)) ?_
  intro W base args ds gs before hval0 hW hcnd hsz0 _
  have hval : ∀ (j : Nat) t v, Try.f12.params[j]? = some t → args[j]? = some v → Value.okWide Try.prog W .any base t v := hval0
  have hW' := hW
  obtain ⟨p, q, hA0, hV, rfl, hfz, hnd⟩ := hW
  have hA : DataW.TrodAll enc Try.prog W 0 (fun _ => true) true Try.f12.params.toList args.toList ds p := hA0
  rw [Try.params12] at hA hval
  obtain ⟨v0, vs0, d0, ds0, p0, q0, hargs, rfl, rfl, h0, r0⟩ := trodAll_cons hA
  obtain ⟨v1, vs1, d1, ds1, p1, q1, rfl, rfl, rfl, h1, r1⟩ := trodAll_cons r0
  obtain ⟨rfl, rfl, rfl⟩ := trodAll_nil r1
  obtain rfl : args = #[v0, v1] := by cases args; simp_all
  obtain ⟨rfl, rfl⟩ := trodVars_none hV
  have k0_ := h0
  have lt0 : ∀ x ∈ p0, x.block < W.heap.size := by obtain ⟨m, hm⟩ := k0_; exact DataW.trod_lt m _ _ _ hm
  obtain ⟨cs0, rfl, hcz0⟩ := okWide_struct Try.underlying63 (hval 0 63 v0 rfl rfl)
  obtain ⟨fuel0, hf0⟩ := h0
  obtain ⟨y0, K0, w0⟩ := op0 W H enc fuel0 _ _ hf0
  obtain ⟨_, _, hcs0, rfl, ⟨_, _, rfl, rfl, rfl⟩⟩ := K0
  obtain rfl : cs0 = #[.int .i64 y0.1, .int .i64 y0.2.1, .string y0.2.2] := Array.toList_inj.1 (by simpa [Value.cells] using hcs0)
  have k1_ := h1
  have lt1 : ∀ x ∈ p1, x.block < W.heap.size := by obtain ⟨m, hm⟩ := k1_; exact DataW.trod_lt m _ _ _ hm
  obtain ⟨cs1, rfl, hcz1⟩ := okWide_struct Try.underlying64 (hval 1 64 v1 rfl rfl)
  obtain ⟨fuel1, hf1⟩ := h1
  obtain ⟨y1, K1, w1⟩ := op1 W H enc fuel1 _ _ hf1
  obtain ⟨_, _, hcs1, rfl, ⟨_, _, rfl, rfl, ⟨_, _, rfl, rfl, ⟨_, _, rfl, rfl, ⟨_, _, rfl, rfl, rfl⟩⟩⟩⟩⟩ := K1
  obtain rfl : cs1 = #[.int .i64 y1.1, .int .i64 y1.2.1, .int .i64 y1.2.2.1, .int .i64 y1.2.2.2.1, .int .i64 y1.2.2.2.2.1, .string y1.2.2.2.2.2] := Array.toList_inj.1 (by simpa [Value.cells] using hcs1)
  clear hA0 hval0 hsz0
  obtain ⟨k, hk⟩ := Pure.FnExactHearNote y0.1 y0.2.1 y0.2.2 y1.1 y1.2.1 y1.2.2.1 y1.2.2.2.1 y1.2.2.2.2.1 y1.2.2.2.2.2 w0.1 w0.2.1 w0.2.2 w1.1 w1.2.1 w1.2.2.1 w1.2.2.2.1 w1.2.2.2.2.1 w1.2.2.2.2.2
  refine (Go.Proofs.Ytocgakpicmcemaa.PFnExactHearNote.laws_FnExactHearNote.calls _ _ _ _ _ _ _ _ _ _ _ _ hk).mono fun e W' ⟨he, bel⟩ => ?_
  subst he
  exact ⟨_, rfl, _, _, _, [], _, [], hW', trodAll_mk1 (shut_bool Try.underlying4 _), (trodAll_cons_mk (Below.trod laidOut (by kernel_rfl) (of_decide_eq_true (by kernel_rfl)) k0_ bel lt0) (trodAll_cons_mk (Below.trod laidOut (by kernel_rfl) (of_decide_eq_true (by kernel_rfl)) k1_ bel lt1) trodAll_mk0)), rfl, bel.frame _, fun h => by cases h⟩
theorem over : Rows.fnExactHearNoteRow.holds Try.pinned (OpenSpec.ofChange Rows.fnExactHearNoteSpec) :=
  OpenClaim.holds_of_wide 12 Try.f12 rfl rfl rfl rfl rfl rfl rfl ⟨rfl, rfl, rfl, rfl, rfl⟩ rfl rfl rfl rfl rfl (by kernel_rfl) Try.func12 (by kernel_rfl)
    (of_decide_eq_true (by kernel_rfl)) (by unfold Func.isWrapper; first | (rw [if_pos (by decide +kernel)]; kernel_rfl) | (rw [if_neg (by decide +kernel)]; exact ⟨rfl, rfl⟩))
    (fun os started H enc _ => lifted os started H enc)
theorem proved : Rows.FnExactHearNoteSaid := over
#print axioms proved
end Go.Proofs.Ytocgakpicmcemaa.fnExactHearNote
namespace Go.Proofs.Ytocgakpicmcemaa
/-- The row, under a short name, for the claim. -/
theorem fnExactHearNote_holds : Rows.FnExactHearNoteSaid := fnExactHearNote.proved
end Go.Proofs.Ytocgakpicmcemaa
