/- The law's row, out of its walk and its plain statement: for every input the law answers true, and its arguments read as they did. -/
import Derived.Test.YtediiolcoilepaaGreatRows
import Derived.Test.YtediiolcoilepaaGreatNbKw
import Derived.Test.YtediiolcoilepaaGreatAskFnExactKeepKey
import Derived.Test.YtediiolcoilepaaGreatPureFnExactKeepKey
import Derived.Test.YtediiolcoilepaaGreatOpens
import Derived.WalkKit
import Derived.ProofKit
import Derived.OpenShut
import Derived.ShutString
import Derived.ChangeOld
import Derived.Below
import Derived.SizedLaws
import Derived.Lib.SmallJoins
namespace Go.Proofs.YtediiolcoilepaaGreat.fnExactKeepKey
open Go.ChangeShapes Go.WideShapes Go.ChangeAt Go.RowKit Go.Proofs.YtediiolcoilepaaGreat.GNear Go.Proofs.YtediiolcoilepaaGreat.Nb Go.Proofs.YtediiolcoilepaaGreatW Go.Proofs.YtediiolcoilepaaGreatW.PrintWords
open Go.ChangeMaps (open_string shut_string)
theorem own : ownKnob Tryz.prog.godebug = none := by kernel_rfl
theorem laidOut : laidOutB Tryz.prog = true := by kernel_rfl
set_option maxRecDepth 100000 in
theorem op0 (W : World) : Opens.Op Tryz.prog W (Kd.pair (Kd.pair (Kd.slice 196 k196) (Kd.int .i64)) (Kd.pair (Kd.pair (Kd.slice 198 k198) (Kd.pair (Kd.slice 198 k198) (Kd.int .i64))) (Kd.pair (Kd.pair (Kd.int .i64) (Kd.slice 9 Kd.string)) (Kd.pair (Kd.pair (Kd.int .i64) (Kd.slice 9 Kd.string)) (Kd.pair (Kd.pair (Kd.int .i64) (Kd.slice 9 Kd.string)) (Kd.pair (Kd.pair (Kd.slice 3 (Kd.int .i64)) (Kd.int .i64)) (Kd.int .i64))))))) (fun x => ((((x.1.1.length ≤ maxLen ∧ ∀ z ∈ x.1.1, ((Lit.int .i64 z.f0).wf = true) ∧ (True) ∧ (z.f2.size ≤ maxLen) ∧ (z.f3.size ≤ maxLen) ∧ ((Lit.int .i64 z.f4).wf = true)) ∧ ((Lit.int .i64 x.1.2).wf = true))) ∧ ((((x.2.1.1.length ≤ maxLen ∧ ∀ z ∈ x.2.1.1, (z.f0.size ≤ maxLen) ∧ ((Lit.int .i64 z.f1).wf = true)) ∧ ((x.2.1.2.1.length ≤ maxLen ∧ ∀ z ∈ x.2.1.2.1, (z.f0.size ≤ maxLen) ∧ ((Lit.int .i64 z.f1).wf = true)) ∧ ((Lit.int .i64 x.2.1.2.2).wf = true)))) ∧ (((((Lit.int .i64 x.2.2.1.1).wf = true) ∧ (x.2.2.1.2.length ≤ maxLen ∧ ∀ z ∈ x.2.2.1.2, z.size ≤ maxLen))) ∧ (((((Lit.int .i64 x.2.2.2.1.1).wf = true) ∧ (x.2.2.2.1.2.length ≤ maxLen ∧ ∀ z ∈ x.2.2.2.1.2, z.size ≤ maxLen))) ∧ (((((Lit.int .i64 x.2.2.2.2.1.1).wf = true) ∧ (x.2.2.2.2.1.2.length ≤ maxLen ∧ ∀ z ∈ x.2.2.2.2.1.2, z.size ≤ maxLen))) ∧ ((((x.2.2.2.2.2.1.1.length ≤ maxLen ∧ ∀ z ∈ x.2.2.2.2.2.1.1, (Lit.int .i64 z).wf = true) ∧ ((Lit.int .i64 x.2.2.2.2.2.1.2).wf = true))) ∧ (((Lit.int .i64 x.2.2.2.2.2.2).wf = true))))))))) 37 := (Opens.B9l Tryz.underlying37 (by kernel_rfl) (Opens.opf_cons (Opens.B9l Tryz.underlying24 (by kernel_rfl) (Opens.opf_cons (Opens.op_slice Tryz.underlying22 (by kernel_rfl) (Opens.op_mono (Opens.op_iso (d := (Kd.pair (Kd.int .i64) (Kd.pair Kd.bool (Kd.pair Kd.string (Kd.pair Kd.string (Kd.int .i64)))))) (f := fun x : S196 => (x.f0, x.f1, x.f2, x.f3, x.f4)) (fun y => ⟨y.1, y.2.1, y.2.2.1, y.2.2.2.1, y.2.2.2.2⟩) (fun _ => rfl) (Opens.B9l Tryz.underlying196 (by kernel_rfl) (Opens.opf_cons (Opens.op_int Tryz.underlying3) (by kernel_rfl) rfl (Opens.opf_cons (Opens.op_bool Tryz.underlying4) (by kernel_rfl) rfl (Opens.opf_cons (Opens.B9k Tryz.underlying9) (by kernel_rfl) rfl (Opens.opf_cons (Opens.B9k Tryz.underlying9) (by kernel_rfl) rfl (Opens.opf_one (Opens.op_int Tryz.underlying3) (by kernel_rfl) rfl))))))) (fun x h => h))) (by kernel_rfl) rfl (Opens.opf_one (Opens.op_int Tryz.underlying3) (by kernel_rfl) rfl))) (by kernel_rfl) rfl (Opens.opf_cons (Opens.B9l Tryz.underlying27 (by kernel_rfl) (Opens.opf_cons (Opens.op_slice Tryz.underlying25 (by kernel_rfl) (Opens.op_mono (Opens.op_iso (d := (Kd.pair Kd.string (Kd.int .i64))) (f := fun x : S198 => (x.f0, x.f1)) (fun y => ⟨y.1, y.2⟩) (fun _ => rfl) (Opens.B9l Tryz.underlying198 (by kernel_rfl) (Opens.opf_cons (Opens.B9k Tryz.underlying9) (by kernel_rfl) rfl (Opens.opf_one (Opens.op_int Tryz.underlying3) (by kernel_rfl) rfl)))) (fun x h => h))) (by kernel_rfl) rfl (Opens.opf_cons (Opens.op_slice Tryz.underlying25 (by kernel_rfl) (Opens.op_mono (Opens.op_iso (d := (Kd.pair Kd.string (Kd.int .i64))) (f := fun x : S198 => (x.f0, x.f1)) (fun y => ⟨y.1, y.2⟩) (fun _ => rfl) (Opens.B9l Tryz.underlying198 (by kernel_rfl) (Opens.opf_cons (Opens.B9k Tryz.underlying9) (by kernel_rfl) rfl (Opens.opf_one (Opens.op_int Tryz.underlying3) (by kernel_rfl) rfl)))) (fun x h => h))) (by kernel_rfl) rfl (Opens.opf_one (Opens.op_int Tryz.underlying3) (by kernel_rfl) rfl)))) (by kernel_rfl) rfl (Opens.opf_cons (Opens.B9l Tryz.underlying30 (by kernel_rfl) (Opens.opf_cons (Opens.op_int Tryz.underlying3) (by kernel_rfl) rfl (Opens.opf_one (Opens.op_slice Tryz.underlying28 (by kernel_rfl) (Opens.B9k Tryz.underlying9)) (by kernel_rfl) rfl))) (by kernel_rfl) rfl (Opens.opf_cons (Opens.B9l Tryz.underlying30 (by kernel_rfl) (Opens.opf_cons (Opens.op_int Tryz.underlying3) (by kernel_rfl) rfl (Opens.opf_one (Opens.op_slice Tryz.underlying28 (by kernel_rfl) (Opens.B9k Tryz.underlying9)) (by kernel_rfl) rfl))) (by kernel_rfl) rfl (Opens.opf_cons (Opens.B9l Tryz.underlying30 (by kernel_rfl) (Opens.opf_cons (Opens.op_int Tryz.underlying3) (by kernel_rfl) rfl (Opens.opf_one (Opens.op_slice Tryz.underlying28 (by kernel_rfl) (Opens.B9k Tryz.underlying9)) (by kernel_rfl) rfl))) (by kernel_rfl) rfl (Opens.opf_cons (Opens.B9l Tryz.underlying33 (by kernel_rfl) (Opens.opf_cons (Opens.op_slice Tryz.underlying31 (by kernel_rfl) (Opens.op_int Tryz.underlying3)) (by kernel_rfl) rfl (Opens.opf_one (Opens.op_int Tryz.underlying3) (by kernel_rfl) rfl))) (by kernel_rfl) rfl (Opens.opf_one (Opens.B9l Tryz.underlying35 (by kernel_rfl) (Opens.opf_one (Opens.op_int Tryz.underlying3) (by kernel_rfl) rfl)) (by kernel_rfl) rfl))))))))
set_option maxRecDepth 100000 in
set_option maxHeartbeats 4000000 in
theorem lifted (os : Os) (started : os.Started) (H : Type) (enc : TypeId × Value → H) :
    ReturnsInHanded {} Tryz.checked os 10 .any (Rows.fnExactKeepKeySpec.pre6 enc Tryz.prog Tryz.f10 Rows.fnExactKeepKeyRow.domain false) (Rows.fnExactKeepKeySpec.post enc Tryz.prog Tryz.f10 false true false false) := by
  refine returnsInHanded_of_change_sized (C := Tryz.checked) own started (by kernel_rfl) Tryz.func10
    (ChangeSpec.witness6 (enc := enc) (C := Tryz.checked) false ⟨#[], #[.agg #[.slice none 0 0, .int .i64 0, .slice none 0 0, .slice none 0 0, .int .i64 0, .int .i64 0, .slice none 0 0, .int .i64 0, .slice none 0 0, .int .i64 0, .slice none 0 0, .slice none 0 0, .int .i64 0, .int .i64 0], .string ⟨#[]⟩, .string ⟨#[]⟩], []⟩ 8 (by kernel_rfl) (by kernel_rfl) (by kernel_rfl) (by kernel_rfl)) ?_
  intro W base args ds gs before hval0 hW hcnd hsz0 _
  have hval : ∀ (j : Nat) t v, Tryz.f10.params[j]? = some t → args[j]? = some v → Value.okWide Tryz.prog W .any base t v := hval0
  have hW' := hW
  obtain ⟨p, q, hA0, hV, rfl, hfz, hnd⟩ := hW
  have hA : DataW.TrodAll enc Tryz.prog W 0 (fun _ => true) true Tryz.f10.params.toList args.toList ds p := hA0
  rw [Tryz.params10] at hA hval
  obtain ⟨v0, vs0, d0, ds0, p0, q0, hargs, rfl, rfl, h0, r0⟩ := trodAll_cons hA
  obtain ⟨v1, vs1, d1, ds1, p1, q1, rfl, rfl, rfl, h1, r1⟩ := trodAll_cons r0
  obtain ⟨v2, vs2, d2, ds2, p2, q2, rfl, rfl, rfl, h2, r2⟩ := trodAll_cons r1
  obtain ⟨rfl, rfl, rfl⟩ := trodAll_nil r2
  obtain rfl : args = #[v0, v1, v2] := by cases args; simp_all
  obtain ⟨rfl, rfl⟩ := trodVars_none hV
  have k0_ := h0
  have lt0 : ∀ x ∈ p0, x.block < W.heap.size := by obtain ⟨m, hm⟩ := k0_; exact DataW.trod_lt m _ _ _ hm
  obtain ⟨cs0, rfl, hcz0⟩ := okWide_struct Tryz.underlying37 (hval 0 37 v0 rfl rfl)
  obtain ⟨fuel0, hf0⟩ := h0
  obtain ⟨y0, K0, w0⟩ := op0 W H enc fuel0 _ _ hf0
  obtain ⟨_, _, hcs0, ⟨_, _, rfl, ⟨A0_0, c0_0, rfl, hl0_0, hC0_0⟩, rfl⟩, ⟨_, _, rfl, ⟨_, _, rfl, ⟨A0_2, c0_2, rfl, hl0_2, hC0_2⟩, ⟨_, _, rfl, ⟨A0_3, c0_3, rfl, hl0_3, hC0_3⟩, rfl⟩⟩, ⟨_, _, rfl, ⟨_, _, rfl, rfl, ⟨A0_6, c0_6, rfl, hl0_6, hC0_6⟩⟩, ⟨_, _, rfl, ⟨_, _, rfl, rfl, ⟨A0_8, c0_8, rfl, hl0_8, hC0_8⟩⟩, ⟨_, _, rfl, ⟨_, _, rfl, rfl, ⟨A0_10, c0_10, rfl, hl0_10, hC0_10⟩⟩, ⟨_, _, rfl, ⟨_, _, rfl, ⟨A0_11, c0_11, rfl, hl0_11, hC0_11⟩, rfl⟩, rfl⟩⟩⟩⟩⟩⟩ := K0
  obtain rfl : cs0 = #[.slice A0_0 y0.1.1.length c0_0, .int .i64 y0.1.2, .slice A0_2 y0.2.1.1.length c0_2, .slice A0_3 y0.2.1.2.1.length c0_3, .int .i64 y0.2.1.2.2, .int .i64 y0.2.2.1.1, .slice A0_6 y0.2.2.1.2.length c0_6, .int .i64 y0.2.2.2.1.1, .slice A0_8 y0.2.2.2.1.2.length c0_8, .int .i64 y0.2.2.2.2.1.1, .slice A0_10 y0.2.2.2.2.1.2.length c0_10, .slice A0_11 y0.2.2.2.2.2.1.1.length c0_11, .int .i64 y0.2.2.2.2.2.1.2, .int .i64 y0.2.2.2.2.2.2] := Array.toList_inj.1 (by simpa [Value.cells] using hcs0)
  obtain ⟨y1, rfl, rfl, rfl, w1⟩ := open_string Tryz.underlying9 (hval 1 9 v1 rfl rfl) h1
  obtain ⟨y2, rfl, rfl, rfl, w2⟩ := open_string Tryz.underlying9 (hval 2 9 v2 rfl rfl) h2
  clear hA0 hval0 hsz0
  obtain hk := Pure.FnExactKeepKey y0.1.1 y0.1.2 y0.2.1.1 y0.2.1.2.1 y0.2.1.2.2 y0.2.2.1.1 y0.2.2.1.2 y0.2.2.2.1.1 y0.2.2.2.1.2 y0.2.2.2.2.1.1 y0.2.2.2.2.1.2 y0.2.2.2.2.2.1.1 y0.2.2.2.2.2.1.2 y0.2.2.2.2.2.2 y1 y2 w0.1.1 w0.1.2 w0.2.1.1 w0.2.1.2.1 w0.2.1.2.2 w0.2.2.1.1 w0.2.2.1.2 w0.2.2.2.1.1 w0.2.2.2.1.2 w0.2.2.2.2.1.1 w0.2.2.2.2.1.2 w0.2.2.2.2.2.1.1 w0.2.2.2.2.2.1.2 w0.2.2.2.2.2.2 w1 w2
  refine (Go.Proofs.YtediiolcoilepaaGreat.Nb.laws_FnExactKeepKey.calls _ _ _ _ _ _ _ _ _ _ _ _ _ _ _ _ _ _ _ _ _ _ _ _ _ _ _ _ _ _ _ _ hC0_0 hl0_0 hC0_2 hl0_2 hC0_3 hl0_3 hC0_6 hl0_6 hC0_8 hl0_8 hC0_10 hl0_10 hC0_11 hl0_11 hk rfl).mono fun e W' ⟨he, bel⟩ => ?_
  subst he
  exact ⟨_, rfl, _, _, _, [], _, [], hW', trodAll_mk1 (shut_bool Tryz.underlying4 _), (trodAll_cons_mk (Below.trod laidOut (by kernel_rfl) (of_decide_eq_true (by kernel_rfl)) k0_ bel lt0) (trodAll_cons_mk (shut_string Tryz.underlying9 w1) (trodAll_cons_mk (shut_string Tryz.underlying9 w2) trodAll_mk0))), rfl, bel.frame _, fun h => by cases h⟩
end Go.Proofs.YtediiolcoilepaaGreat.fnExactKeepKey
