/- The law's row, out of its walk and its plain statement: for every input the law answers true, and its arguments read as they did. -/
import Derived.Test.YtjiekmbonmbhlaaRows
import Derived.Test.YtjiekmbonmbhlaaGFnExactLayx9
import Derived.Test.YtjiekmbonmbhlaaAskFnExactLay
import Derived.Test.YtjiekmbonmbhlaaPureFnExactLay
import Derived.Test.YtjiekmbonmbhlaaOpens
import Derived.WalkKit
import Derived.ProofKit
import Derived.OpenShut
import Derived.ShutString
import Derived.ChangeOld
import Derived.Below
import Derived.SizedLaws
import Derived.Lib.SmallJoins
namespace Go.Proofs.Ytjiekmbonmbhlaa.fnExactLay
open Go.ChangeShapes Go.WideShapes Go.ChangeAt Go.RowKit Go.Proofs.Ytjiekmbonmbhlaa.GFnExactLay Go.Proofs.YtjiekmbonmbhlaaW Go.Proofs.YtjiekmbonmbhlaaW.PrintWords
open Go.ChangeMaps (open_string shut_string)
set_option linter.unusedVariables false
set_option linter.unusedSimpArgs false
theorem own : ownKnob Try.prog.godebug = none := by kernel_rfl
theorem laidOut : laidOutB Try.prog = true := by kernel_rfl
set_option maxRecDepth 100000 in
theorem op0 (W : World) : Opens.Op Try.prog W (Kd.pair (Kd.slice 126 k126) (Kd.int .i64)) (fun x => ((x.1.length ≤ maxLen ∧ ∀ z ∈ x.1, ((Lit.int .i64 z.f0).wf = true) ∧ (True) ∧ (z.f2.size ≤ maxLen) ∧ (z.f3.size ≤ maxLen) ∧ ((Lit.int .i64 z.f4).wf = true)) ∧ ((Lit.int .i64 x.2).wf = true))) 61 := (Opens.op_struct Try.underlying61 (by kernel_rfl) (Opens.opf_cons (Opens.op_slice Try.underlying59 (by kernel_rfl) (Opens.op_mono (Opens.op_iso (d := (Kd.pair (Kd.int .i64) (Kd.pair Kd.bool (Kd.pair Kd.string (Kd.pair Kd.string (Kd.int .i64)))))) (f := fun x : S126 => (x.f0, x.f1, x.f2, x.f3, x.f4)) (fun y => ⟨y.1, y.2.1, y.2.2.1, y.2.2.2.1, y.2.2.2.2⟩) (fun _ => rfl) (Opens.op_struct Try.underlying126 (by kernel_rfl) (Opens.opf_cons (Opens.op_int Try.underlying3) (by kernel_rfl) rfl (Opens.opf_cons (Opens.op_bool Try.underlying4) (by kernel_rfl) rfl (Opens.opf_cons (Opens.op_string Try.underlying9) (by kernel_rfl) rfl (Opens.opf_cons (Opens.op_string Try.underlying9) (by kernel_rfl) rfl (Opens.opf_one (Opens.op_int Try.underlying3) (by kernel_rfl) rfl))))))) (fun x h => h))) (by kernel_rfl) rfl (Opens.opf_one (Opens.op_int Try.underlying3) (by kernel_rfl) rfl)))
set_option maxRecDepth 100000 in
set_option maxHeartbeats 4000000 in
theorem lifted (os : Os) (started : os.Started) (H : Type) (enc : TypeId × Value → H) :
    ReturnsInHanded {} Try.checked os 10 .any (Rows.fnExactLaySpec.pre6 enc Try.prog Try.f10 Rows.fnExactLayRow.domain false) (Rows.fnExactLaySpec.post enc Try.prog Try.f10 false true false false) := by
  refine returnsInHanded_of_change_sized (C := Try.checked) own started (by kernel_rfl) Try.func10
    (ChangeSpec.witness6 (enc := enc) (C := Try.checked) false ⟨#[], #[.agg #[.slice none 0 0, .int .i64 0], .string ⟨#[]⟩, .string ⟨#[]⟩], []⟩ 8 (by kernel_rfl) (by kernel_rfl) (by kernel_rfl) (by kernel_rfl)) ?_
  intro W base args ds gs before hval0 hW hcnd hsz0 _
  have hval : ∀ (j : Nat) t v, Try.f10.params[j]? = some t → args[j]? = some v → Value.okWide Try.prog W .any base t v := hval0
  have hW' := hW
  obtain ⟨p, q, hA0, hV, rfl, hfz, hnd⟩ := hW
  have hA : DataW.TrodAll enc Try.prog W 0 (fun _ => true) true Try.f10.params.toList args.toList ds p := hA0
  rw [Try.params10] at hA hval
  obtain ⟨v0, vs0, d0, ds0, p0, q0, hargs, rfl, rfl, h0, r0⟩ := trodAll_cons hA
  obtain ⟨v1, vs1, d1, ds1, p1, q1, rfl, rfl, rfl, h1, r1⟩ := trodAll_cons r0
  obtain ⟨v2, vs2, d2, ds2, p2, q2, rfl, rfl, rfl, h2, r2⟩ := trodAll_cons r1
  obtain ⟨rfl, rfl, rfl⟩ := trodAll_nil r2
  obtain rfl : args = #[v0, v1, v2] := by cases args; simp_all
  obtain ⟨rfl, rfl⟩ := trodVars_none hV
  have k0_ := h0
  have lt0 : ∀ x ∈ p0, x.block < W.heap.size := by obtain ⟨m, hm⟩ := k0_; exact DataW.trod_lt m _ _ _ hm
  obtain ⟨cs0, rfl, hcz0⟩ := okWide_struct Try.underlying61 (hval 0 61 v0 rfl rfl)
  obtain ⟨fuel0, hf0⟩ := h0
  obtain ⟨y0, K0, w0⟩ := op0 W H enc fuel0 _ _ hf0
  obtain ⟨_, _, hcs0, ⟨A0_0, c0_0, rfl, hl0_0, hC0_0⟩, rfl⟩ := K0
  obtain rfl : cs0 = #[.slice A0_0 y0.1.length c0_0, .int .i64 y0.2] := Array.toList_inj.1 (by simpa [Value.cells] using hcs0)
  obtain ⟨y1, rfl, rfl, rfl, w1⟩ := open_string Try.underlying9 (hval 1 9 v1 rfl rfl) h1
  obtain ⟨y2, rfl, rfl, rfl, w2⟩ := open_string Try.underlying9 (hval 2 9 v2 rfl rfl) h2
  clear hA0 hval0 hsz0
  obtain ⟨k, hk⟩ := Pure.FnExactLay y0.1 y0.2 y1 y2 w0.1 w0.2 w1 w2
  refine (Go.Proofs.Ytjiekmbonmbhlaa.GFnExactLay.laws_FnExactLay.calls _ _ _ _ _ _ _ _ _ hC0_0 hl0_0 hk rfl).mono fun e W' ⟨he, bel⟩ => ?_
  subst he
  exact ⟨_, rfl, _, _, _, [], _, [], hW', trodAll_mk1 (shut_bool Try.underlying4 _), (trodAll_cons_mk (Below.trod laidOut (by kernel_rfl) (of_decide_eq_true (by kernel_rfl)) k0_ bel lt0) (trodAll_cons_mk (shut_string Try.underlying9 w1) (trodAll_cons_mk (shut_string Try.underlying9 w2) trodAll_mk0))), rfl, bel.frame _, fun h => by cases h⟩
theorem over : Rows.fnExactLayRow.holds Try.pinned (OpenSpec.ofChange Rows.fnExactLaySpec) :=
  OpenClaim.holds_of_wide 10 Try.f10 rfl rfl rfl rfl rfl rfl rfl ⟨rfl, rfl, rfl, rfl, rfl⟩ rfl rfl rfl rfl rfl (by kernel_rfl) Try.func10 (by kernel_rfl)
    (of_decide_eq_true (by kernel_rfl)) (by unfold Func.isWrapper; first | (rw [if_pos (by decide +kernel)]; kernel_rfl) | (rw [if_neg (by decide +kernel)]; exact ⟨rfl, rfl⟩))
    (fun os started H enc _ => lifted os started H enc)
theorem proved : Rows.FnExactLaySaid := over
#print axioms proved
end Go.Proofs.Ytjiekmbonmbhlaa.fnExactLay
namespace Go.Proofs.Ytjiekmbonmbhlaa
/-- The row, under a short name, for the claim. -/
theorem fnExactLay_holds : Rows.FnExactLaySaid := fnExactLay.proved
end Go.Proofs.Ytjiekmbonmbhlaa
