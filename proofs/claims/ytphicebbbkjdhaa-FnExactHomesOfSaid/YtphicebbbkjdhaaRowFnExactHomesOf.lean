/- The law's row, out of its walk and its plain statement: for every input the law answers true, and its arguments read as they did. -/
import Derived.Test.YtphicebbbkjdhaaRows
import Derived.Test.YtphicebbbkjdhaaGFnExactHomesOfx4
import Derived.Test.YtphicebbbkjdhaaAskFnExactHomesOf
import Derived.Test.YtphicebbbkjdhaaPureFnExactHomesOf
import Derived.Test.YtphicebbbkjdhaaOpens
import Derived.WalkKit
import Derived.ProofKit
import Derived.OpenShut
import Derived.ShutString
import Derived.ChangeOld
import Derived.Below
import Derived.SizedLaws
import Derived.Lib.SmallJoins
namespace Go.Proofs.Ytphicebbbkjdhaa.fnExactHomesOf
open Go.ChangeShapes Go.WideShapes Go.ChangeAt Go.RowKit Go.Proofs.Ytphicebbbkjdhaa.GFnExactHomesOf Go.Proofs.YtphicebbbkjdhaaW Go.Proofs.YtphicebbbkjdhaaW.PrintWords
open Go.ChangeMaps (open_string shut_string)
set_option linter.unusedVariables false
set_option linter.unusedSimpArgs false
theorem own : ownKnob Try.prog.godebug = none := by kernel_rfl
theorem laidOut : laidOutB Try.prog = true := by kernel_rfl
set_option maxRecDepth 100000 in
theorem op0 (W : World) : Opens.Op Try.prog W (Kd.slice 56 k56) (fun x => (x.length ≤ maxLen ∧ ∀ z ∈ x, ((Lit.int .i64 z.f0).wf = true) ∧ ((Lit.int .i64 z.f1).wf = true))) 24 := (Opens.op_struct Try.underlying24 (by kernel_rfl) (Opens.opf_one (Opens.op_slice Try.underlying22 (by kernel_rfl) (Opens.op_mono (Opens.op_iso (d := (Kd.pair (Kd.int .i64) (Kd.int .i64))) (f := fun x : S56 => (x.f0, x.f1)) (fun y => ⟨y.1, y.2⟩) (fun _ => rfl) (Opens.op_struct Try.underlying56 (by kernel_rfl) (Opens.opf_cons (Opens.op_int Try.underlying3) (by kernel_rfl) rfl (Opens.opf_one (Opens.op_int Try.underlying3) (by kernel_rfl) rfl)))) (fun x h => h))) (by kernel_rfl) rfl))
set_option maxRecDepth 100000 in
set_option maxHeartbeats 4000000 in
theorem lifted (os : Os) (started : os.Started) (H : Type) (enc : TypeId × Value → H) :
    ReturnsInHanded {} Try.checked os 4 .any (Rows.fnExactHomesOfSpec.pre6 enc Try.prog Try.f4 Rows.fnExactHomesOfRow.domain false) (Rows.fnExactHomesOfSpec.post enc Try.prog Try.f4 false true false false) := by
  refine returnsInHanded_of_change_sized (C := Try.checked) own started (by kernel_rfl) Try.func4
    (ChangeSpec.witness6 (enc := enc) (C := Try.checked) false ⟨#[], #[.agg #[.slice none 0 0], .string ⟨#[]⟩, .int .i64 0], []⟩ 8 (by kernel_rfl) (by kernel_rfl) (by kernel_rfl) (by kernel_rfl)) ?_
  intro W base args ds gs before hval0 hW hcnd hsz0 _
  have hval : ∀ (j : Nat) t v, Try.f4.params[j]? = some t → args[j]? = some v → Value.okWide Try.prog W .any base t v := hval0
  have hW' := hW
  obtain ⟨p, q, hA0, hV, rfl, hfz, hnd⟩ := hW
  have hA : DataW.TrodAll enc Try.prog W 0 (fun _ => true) true Try.f4.params.toList args.toList ds p := hA0
  rw [Try.params4] at hA hval
  obtain ⟨v0, vs0, d0, ds0, p0, q0, hargs, rfl, rfl, h0, r0⟩ := trodAll_cons hA
  obtain ⟨v1, vs1, d1, ds1, p1, q1, rfl, rfl, rfl, h1, r1⟩ := trodAll_cons r0
  obtain ⟨v2, vs2, d2, ds2, p2, q2, rfl, rfl, rfl, h2, r2⟩ := trodAll_cons r1
  obtain ⟨rfl, rfl, rfl⟩ := trodAll_nil r2
  obtain rfl : args = #[v0, v1, v2] := by cases args; simp_all
  obtain ⟨rfl, rfl⟩ := trodVars_none hV
  have k0_ := h0
  have lt0 : ∀ x ∈ p0, x.block < W.heap.size := by obtain ⟨m, hm⟩ := k0_; exact DataW.trod_lt m _ _ _ hm
  obtain ⟨cs0, rfl, hcz0⟩ := okWide_struct Try.underlying24 (hval 0 24 v0 rfl rfl)
  obtain ⟨fuel0, hf0⟩ := h0
  obtain ⟨y0, K0, w0⟩ := op0 W H enc fuel0 _ _ hf0
  obtain ⟨A0_0, c0_0, hcs0, hl0_0, hC0_0⟩ := K0
  obtain rfl : cs0 = #[.slice A0_0 y0.length c0_0] := Array.toList_inj.1 (by simpa [Value.cells] using hcs0)
  obtain ⟨y1, rfl, rfl, rfl, w1⟩ := open_string Try.underlying9 (hval 1 9 v1 rfl rfl) h1
  obtain ⟨y2, rfl, rfl, rfl, w2⟩ := open_int Try.underlying3 (hval 2 3 v2 rfl rfl) h2
  clear hA0 hval0 hsz0
  obtain ⟨k, hk⟩ := Pure.FnExactHomesOf y0 y1 y2 w0 w1 w2
  refine (Go.Proofs.Ytphicebbbkjdhaa.GFnExactHomesOf.laws_FnExactHomesOf.calls _ _ _ _ _ _ _ _ hC0_0 hl0_0 hk rfl).mono fun e W' ⟨he, bel⟩ => ?_
  subst he
  exact ⟨_, rfl, _, _, _, [], _, [], hW', trodAll_mk1 (shut_bool Try.underlying4 _), (trodAll_cons_mk (Below.trod laidOut (by kernel_rfl) (of_decide_eq_true (by kernel_rfl)) k0_ bel lt0) (trodAll_cons_mk (shut_string Try.underlying9 w1) (trodAll_cons_mk (shut_int Try.underlying3 w2) trodAll_mk0))), rfl, bel.frame _, fun h => by cases h⟩
theorem over : Rows.fnExactHomesOfRow.holds Try.pinned (OpenSpec.ofChange Rows.fnExactHomesOfSpec) :=
  OpenClaim.holds_of_wide 4 Try.f4 rfl rfl rfl rfl rfl rfl rfl ⟨rfl, rfl, rfl, rfl, rfl⟩ rfl rfl rfl rfl rfl (by kernel_rfl) Try.func4 (by kernel_rfl)
    (of_decide_eq_true (by kernel_rfl)) (by unfold Func.isWrapper; first | (rw [if_pos (by decide +kernel)]; kernel_rfl) | (rw [if_neg (by decide +kernel)]; exact ⟨rfl, rfl⟩))
    (fun os started H enc _ => lifted os started H enc)
theorem proved : Rows.FnExactHomesOfSaid := over
#print axioms proved
end Go.Proofs.Ytphicebbbkjdhaa.fnExactHomesOf
namespace Go.Proofs.Ytphicebbbkjdhaa
/-- The row, under a short name, for the claim. -/
theorem fnExactHomesOf_holds : Rows.FnExactHomesOfSaid := fnExactHomesOf.proved
end Go.Proofs.Ytphicebbbkjdhaa
