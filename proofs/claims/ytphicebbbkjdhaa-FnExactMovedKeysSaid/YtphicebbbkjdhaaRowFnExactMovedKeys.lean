/- The law's row, out of its walk and its plain statement: for every input the law answers true, and its arguments read as they did. -/
import Derived.Test.YtphicebbbkjdhaaRows
import Derived.Test.YtphicebbbkjdhaaGFnExactMovedKeysx6
import Derived.Test.YtphicebbbkjdhaaAskFnExactMovedKeys
import Derived.Test.YtphicebbbkjdhaaPureFnExactMovedKeys
import Derived.Test.YtphicebbbkjdhaaOpens
import Derived.WalkKit
import Derived.ProofKit
import Derived.OpenShut
import Derived.ShutString
import Derived.ChangeOld
import Derived.Below
import Derived.SizedLaws
import Derived.Lib.SmallJoins
namespace Go.Proofs.Ytphicebbbkjdhaa.fnExactMovedKeys
open Go.ChangeShapes Go.WideShapes Go.ChangeAt Go.RowKit Go.Proofs.Ytphicebbbkjdhaa.GFnExactMovedKeys Go.Proofs.YtphicebbbkjdhaaW Go.Proofs.YtphicebbbkjdhaaW.PrintWords
open Go.ChangeMaps (open_string shut_string)
set_option linter.unusedVariables false
set_option linter.unusedSimpArgs false
theorem own : ownKnob Try.prog.godebug = none := by kernel_rfl
theorem laidOut : laidOutB Try.prog = true := by kernel_rfl
set_option maxRecDepth 100000 in
theorem op0 (W : World) : Opens.Op Try.prog W (Kd.slice 56 k56) (fun x => (x.length ≤ maxLen ∧ ∀ z ∈ x, ((Lit.int .i64 z.f0).wf = true) ∧ ((Lit.int .i64 z.f1).wf = true))) 24 := (Opens.op_struct Try.underlying24 (by kernel_rfl) (Opens.opf_one (Opens.op_slice Try.underlying22 (by kernel_rfl) (Opens.op_mono (Opens.op_iso (d := (Kd.pair (Kd.int .i64) (Kd.int .i64))) (f := fun x : S56 => (x.f0, x.f1)) (fun y => ⟨y.1, y.2⟩) (fun _ => rfl) (Opens.op_struct Try.underlying56 (by kernel_rfl) (Opens.opf_cons (Opens.op_int Try.underlying3) (by kernel_rfl) rfl (Opens.opf_one (Opens.op_int Try.underlying3) (by kernel_rfl) rfl)))) (fun x h => h))) (by kernel_rfl) rfl))
set_option maxRecDepth 100000 in
theorem op1 (W : World) : Opens.Op Try.prog W (Kd.slice 56 k56) (fun x => (x.length ≤ maxLen ∧ ∀ z ∈ x, ((Lit.int .i64 z.f0).wf = true) ∧ ((Lit.int .i64 z.f1).wf = true))) 24 := (Opens.op_struct Try.underlying24 (by kernel_rfl) (Opens.opf_one (Opens.op_slice Try.underlying22 (by kernel_rfl) (Opens.op_mono (Opens.op_iso (d := (Kd.pair (Kd.int .i64) (Kd.int .i64))) (f := fun x : S56 => (x.f0, x.f1)) (fun y => ⟨y.1, y.2⟩) (fun _ => rfl) (Opens.op_struct Try.underlying56 (by kernel_rfl) (Opens.opf_cons (Opens.op_int Try.underlying3) (by kernel_rfl) rfl (Opens.opf_one (Opens.op_int Try.underlying3) (by kernel_rfl) rfl)))) (fun x h => h))) (by kernel_rfl) rfl))
set_option maxRecDepth 100000 in
theorem op2 (W : World) : Opens.Op Try.prog W (Kd.slice 9 Kd.string) (fun x => x.length ≤ maxLen ∧ ∀ z ∈ x, z.size ≤ maxLen) 39 := (Opens.op_slice Try.underlying39 (by kernel_rfl) (Opens.op_string Try.underlying9))
set_option maxRecDepth 100000 in
set_option maxHeartbeats 4000000 in
theorem lifted (os : Os) (started : os.Started) (H : Type) (enc : TypeId × Value → H) :
    ReturnsInHanded {} Try.checked os 5 .any (Rows.fnExactMovedKeysSpec.pre6 enc Try.prog Try.f5 Rows.fnExactMovedKeysRow.domain false) (Rows.fnExactMovedKeysSpec.post enc Try.prog Try.f5 false true false false) := by
  refine returnsInHanded_of_change_sized (C := Try.checked) own started (by kernel_rfl) Try.func5
    (ChangeSpec.witness6 (enc := enc) (C := Try.checked) false ⟨#[], #[.agg #[.slice none 0 0], .agg #[.slice none 0 0], .slice none 0 0], []⟩ 8 (by kernel_rfl) (by kernel_rfl) (by kernel_rfl) (by kernel_rfl)) ?_
  intro W base args ds gs before hval0 hW hcnd hsz0 _
  have hval : ∀ (j : Nat) t v, Try.f5.params[j]? = some t → args[j]? = some v → Value.okWide Try.prog W .any base t v := hval0
  have hW' := hW
  obtain ⟨p, q, hA0, hV, rfl, hfz, hnd⟩ := hW
  have hA : DataW.TrodAll enc Try.prog W 0 (fun _ => true) true Try.f5.params.toList args.toList ds p := hA0
  rw [Try.params5] at hA hval
  obtain ⟨v0, vs0, d0, ds0, p0, q0, hargs, rfl, rfl, h0, r0⟩ := trodAll_cons hA
  obtain ⟨v1, vs1, d1, ds1, p1, q1, rfl, rfl, rfl, h1, r1⟩ := trodAll_cons r0
  obtain ⟨v2, vs2, d2, ds2, p2, q2, rfl, rfl, rfl, h2, r2⟩ := trodAll_cons r1
  obtain ⟨rfl, rfl, rfl⟩ := trodAll_nil r2
  obtain rfl : args = #[v0, v1, v2] := by cases args; simp_all
  obtain ⟨rfl, rfl⟩ := trodVars_none hV
  have k0_ := h0
  have lt0 : ∀ x ∈ p0, x.block < W.heap.size := by obtain ⟨m, hm⟩ := k0_; exact DataW.trod_lt m _ _ _ hm
  obtain ⟨cs0, rfl, hcz0⟩ := okWide_struct Try.underlying24 (hval 0 24 v0 rfl rfl)
  obtain ⟨fuel0, hf0⟩ := h0
  obtain ⟨y0, K0, w0⟩ := op0 W H enc fuel0 _ _ hf0
  obtain ⟨A0_0, c0_0, hcs0, hl0_0, hC0_0⟩ := K0
  obtain rfl : cs0 = #[.slice A0_0 y0.length c0_0] := Array.toList_inj.1 (by simpa [Value.cells] using hcs0)
  have k1_ := h1
  have lt1 : ∀ x ∈ p1, x.block < W.heap.size := by obtain ⟨m, hm⟩ := k1_; exact DataW.trod_lt m _ _ _ hm
  obtain ⟨cs1, rfl, hcz1⟩ := okWide_struct Try.underlying24 (hval 1 24 v1 rfl rfl)
  obtain ⟨fuel1, hf1⟩ := h1
  obtain ⟨y1, K1, w1⟩ := op1 W H enc fuel1 _ _ hf1
  obtain ⟨A1_0, c1_0, hcs1, hl1_0, hC1_0⟩ := K1
  obtain rfl : cs1 = #[.slice A1_0 y1.length c1_0] := Array.toList_inj.1 (by simpa [Value.cells] using hcs1)
  have k2_ := h2
  have lt2 : ∀ x ∈ p2, x.block < W.heap.size := by obtain ⟨m, hm⟩ := k2_; exact DataW.trod_lt m _ _ _ hm
  obtain ⟨aa2, len2, cap2, rfl⟩ := okWide_slice Try.underlying39 (hval 2 39 v2 rfl rfl)
  obtain ⟨y2, w2, B2, cB2, rB2, hB2⟩ : ∃ y, (y.length ≤ maxLen ∧ ∀ z ∈ y, z.size ≤ maxLen) ∧ ∃ A c, Value.slice aa2 len2 cap2 = .slice A y.length c ∧ y.length ≤ c ∧ Kd.C Kd.string W A y.length y := by
    obtain ⟨fuel, hf⟩ := h2
    obtain ⟨y, ⟨A, c, hcs, hl, hC⟩, hq⟩ := op2 W H enc fuel _ _ hf
    exact ⟨y, hq, A, c, by simpa [Value.cells] using hcs, hl, hC⟩
  obtain ⟨hl2, hC2⟩ := hB2
  clear hA0 hval0 hsz0
  obtain ⟨k, hk⟩ := Pure.FnExactMovedKeys y0 y1 y2 w0 w1 w2
  obtain ⟨rfl, rfl, rfl⟩ := Value.slice.inj rB2
  refine (Go.Proofs.Ytphicebbbkjdhaa.GFnExactMovedKeys.laws_FnExactMovedKeys.calls _ _ _ _ _ _ _ _ _ _ _ _ hC0_0 hl0_0 hC1_0 hl1_0 hC2 hl2 hk rfl).mono fun e W' ⟨he, bel⟩ => ?_
  subst he
  exact ⟨_, rfl, _, _, _, [], _, [], hW', trodAll_mk1 (shut_bool Try.underlying4 _), (trodAll_cons_mk (Below.trod laidOut (by kernel_rfl) (of_decide_eq_true (by kernel_rfl)) k0_ bel lt0) (trodAll_cons_mk (Below.trod laidOut (by kernel_rfl) (of_decide_eq_true (by kernel_rfl)) k1_ bel lt1) (trodAll_cons_mk (Below.trod laidOut (by kernel_rfl) (of_decide_eq_true (by kernel_rfl)) k2_ bel lt2) trodAll_mk0))), rfl, bel.frame _, fun h => by cases h⟩
theorem over : Rows.fnExactMovedKeysRow.holds Try.pinned (OpenSpec.ofChange Rows.fnExactMovedKeysSpec) :=
  OpenClaim.holds_of_wide 5 Try.f5 rfl rfl rfl rfl rfl rfl rfl ⟨rfl, rfl, rfl, rfl, rfl⟩ rfl rfl rfl rfl rfl (by kernel_rfl) Try.func5 (by kernel_rfl)
    (of_decide_eq_true (by kernel_rfl)) (by unfold Func.isWrapper; first | (rw [if_pos (by decide +kernel)]; kernel_rfl) | (rw [if_neg (by decide +kernel)]; exact ⟨rfl, rfl⟩))
    (fun os started H enc _ => lifted os started H enc)
theorem proved : Rows.FnExactMovedKeysSaid := over
#print axioms proved
end Go.Proofs.Ytphicebbbkjdhaa.fnExactMovedKeys
namespace Go.Proofs.Ytphicebbbkjdhaa
/-- The row, under a short name, for the claim. -/
theorem fnExactMovedKeys_holds : Rows.FnExactMovedKeysSaid := fnExactMovedKeys.proved
end Go.Proofs.Ytphicebbbkjdhaa
