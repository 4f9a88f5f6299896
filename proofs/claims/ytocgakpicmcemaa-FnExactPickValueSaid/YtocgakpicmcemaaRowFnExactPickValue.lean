/- The law's row, out of its walk and its plain statement: for every input the law answers true, and its arguments read as they did. -/
import Derived.Test.YtocgakpicmcemaaRows
import Derived.Test.YtocgakpicmcemaaPFnExactPickValuex2
import Derived.Test.YtocgakpicmcemaaAskFnExactPickValue
import Derived.Test.YtocgakpicmcemaaPureFnExactPickValue
import Derived.Test.YtocgakpicmcemaaOpens
import Derived.WalkKit
import Derived.ProofKit
import Derived.OpenShut
import Derived.ShutString
import Derived.ChangeOld
import Derived.Below
import Derived.SizedLaws
import Derived.Lib.SmallJoins
namespace Go.Proofs.Ytocgakpicmcemaa.fnExactPickValue
open Go.ChangeShapes Go.WideShapes Go.ChangeAt Go.RowKit Go.Proofs.Ytocgakpicmcemaa.PFnExactPickValue Go.Proofs.YtocgakpicmcemaaW Go.Proofs.YtocgakpicmcemaaW.PrintWords
open Go.ChangeMaps (open_string shut_string)
set_option linter.unusedVariables false
set_option linter.unusedSimpArgs false
theorem own : ownKnob Try.prog.godebug = none := by kernel_rfl
theorem laidOut : laidOutB Try.prog = true := by kernel_rfl
theorem op0 (W : World) : Opens.Op Try.prog W (Kd.slice 64 k64) (fun x => x.length ≤ maxLen ∧ ∀ z ∈ x, ((Lit.int .i64 z.f0).wf = true) ∧ ((Lit.int .i64 z.f1).wf = true) ∧ ((Lit.int .i64 z.f2).wf = true) ∧ ((Lit.int .i64 z.f3).wf = true) ∧ ((Lit.int .i64 z.f4).wf = true) ∧ (z.f5.size ≤ maxLen)) 51 := (Opens.op_slice Try.underlying51 (by kernel_rfl) (Opens.op_mono (Opens.op_iso (d := (Kd.pair (Kd.int .i64) (Kd.pair (Kd.int .i64) (Kd.pair (Kd.int .i64) (Kd.pair (Kd.int .i64) (Kd.pair (Kd.int .i64) Kd.string)))))) (f := fun x : S64 => (x.f0, x.f1, x.f2, x.f3, x.f4, x.f5)) (fun y => ⟨y.1, y.2.1, y.2.2.1, y.2.2.2.1, y.2.2.2.2.1, y.2.2.2.2.2⟩) (fun _ => rfl) (Opens.op_struct Try.underlying64 (by kernel_rfl) (Opens.opf_cons (Opens.op_int Try.underlying3) (by kernel_rfl) rfl (Opens.opf_cons (Opens.op_int Try.underlying3) (by kernel_rfl) rfl (Opens.opf_cons (Opens.op_int Try.underlying3) (by kernel_rfl) rfl (Opens.opf_cons (Opens.op_int Try.underlying3) (by kernel_rfl) rfl (Opens.opf_cons (Opens.op_int Try.underlying3) (by kernel_rfl) rfl (Opens.opf_one (Opens.op_string Try.underlying9) (by kernel_rfl) rfl)))))))) (fun x h => h)))
set_option maxRecDepth 100000 in
set_option maxHeartbeats 4000000 in
theorem lifted (os : Os) (started : os.Started) (H : Type) (enc : TypeId × Value → H) :
    ReturnsInHanded {} Try.checked os 10 .any (Rows.fnExactPickValueSpec.pre6 enc Try.prog Try.f10 Rows.fnExactPickValueRow.domain false) (Rows.fnExactPickValueSpec.post enc Try.prog Try.f10 false true false false) := by
  refine returnsInHanded_of_change_sized (C := Try.checked) own started (by kernel_rfl) Try.func10
    (ChangeSpec.witness6 (enc := enc) (C := Try.checked) false ⟨#[], #[.slice none 0 0, .string ⟨#[]⟩], []⟩ 8 (by kernel_rfl) (by kernel_rfl) (by kernel_rfl) (by kernel_rfl)) ?_
  intro W base args ds gs before hval0 hW hcnd hsz0 _
  have hval : ∀ (j : Nat) t v, Try.f10.params[j]? = some t → args[j]? = some v → Value.okWide Try.prog W .any base t v := hval0
  have hW' := hW
  obtain ⟨p, q, hA0, hV, rfl, hfz, hnd⟩ := hW
  have hA : DataW.TrodAll enc Try.prog W 0 (fun _ => true) true Try.f10.params.toList args.toList ds p := hA0
  rw [Try.params10] at hA hval
  obtain ⟨v0, vs0, d0, ds0, p0, q0, hargs, rfl, rfl, h0, r0⟩ := trodAll_cons hA
  obtain ⟨v1, vs1, d1, ds1, p1, q1, rfl, rfl, rfl, h1, r1⟩ := trodAll_cons r0
  obtain ⟨rfl, rfl, rfl⟩ := trodAll_nil r1
  obtain rfl : args = #[v0, v1] := by cases args; simp_all
  obtain ⟨rfl, rfl⟩ := trodVars_none hV
  have k0_ := h0
  have lt0 : ∀ x ∈ p0, x.block < W.heap.size := by obtain ⟨m, hm⟩ := k0_; exact DataW.trod_lt m _ _ _ hm
  obtain ⟨aa0, len0, cap0, rfl⟩ := okWide_slice Try.underlying51 (hval 0 51 v0 rfl rfl)
  obtain ⟨y0, w0, B0, cB0, rB0, hB0⟩ : ∃ y, (y.length ≤ maxLen ∧ ∀ z ∈ y, ((Lit.int .i64 z.f0).wf = true) ∧ ((Lit.int .i64 z.f1).wf = true) ∧ ((Lit.int .i64 z.f2).wf = true) ∧ ((Lit.int .i64 z.f3).wf = true) ∧ ((Lit.int .i64 z.f4).wf = true) ∧ (z.f5.size ≤ maxLen)) ∧ ∃ A c, Value.slice aa0 len0 cap0 = .slice A y.length c ∧ y.length ≤ c ∧ Kd.C k64 W A y.length y := by
    obtain ⟨fuel, hf⟩ := h0
    obtain ⟨y, ⟨A, c, hcs, hl, hC⟩, hq⟩ := op0 W H enc fuel _ _ hf
    exact ⟨y, hq, A, c, by simpa [Value.cells] using hcs, hl, hC⟩
  obtain ⟨hl0, hC0⟩ := hB0
  obtain ⟨y1, rfl, rfl, rfl, w1⟩ := open_string Try.underlying9 (hval 1 9 v1 rfl rfl) h1
  clear hA0 hval0 hsz0
  obtain ⟨k, hk⟩ := Pure.FnExactPickValue y0 y1 w0 w1
  obtain ⟨rfl, rfl, rfl⟩ := Value.slice.inj rB0
  refine (Go.Proofs.Ytocgakpicmcemaa.PFnExactPickValue.laws_FnExactPickValue.calls _ _ _ _ _ _ _ hC0 hl0 hk).mono fun e W' ⟨he, bel⟩ => ?_
  subst he
  exact ⟨_, rfl, _, _, _, [], _, [], hW', trodAll_mk1 (shut_bool Try.underlying4 _), (trodAll_cons_mk (Below.trod laidOut (by kernel_rfl) (of_decide_eq_true (by kernel_rfl)) k0_ bel lt0) (trodAll_cons_mk (shut_string Try.underlying9 w1) trodAll_mk0)), rfl, bel.frame _, fun h => by cases h⟩
theorem over : Rows.fnExactPickValueRow.holds Try.pinned (OpenSpec.ofChange Rows.fnExactPickValueSpec) :=
  OpenClaim.holds_of_wide 10 Try.f10 rfl rfl rfl rfl rfl rfl rfl ⟨rfl, rfl, rfl, rfl, rfl⟩ rfl rfl rfl rfl rfl (by kernel_rfl) Try.func10 (by kernel_rfl)
    (of_decide_eq_true (by kernel_rfl)) (by unfold Func.isWrapper; first | (rw [if_pos (by decide +kernel)]; kernel_rfl) | (rw [if_neg (by decide +kernel)]; exact ⟨rfl, rfl⟩))
    (fun os started H enc _ => lifted os started H enc)
theorem proved : Rows.FnExactPickValueSaid := over
#print axioms proved
end Go.Proofs.Ytocgakpicmcemaa.fnExactPickValue
namespace Go.Proofs.Ytocgakpicmcemaa
/-- The row, under a short name, for the claim. -/
theorem fnExactPickValue_holds : Rows.FnExactPickValueSaid := fnExactPickValue.proved
end Go.Proofs.Ytocgakpicmcemaa
