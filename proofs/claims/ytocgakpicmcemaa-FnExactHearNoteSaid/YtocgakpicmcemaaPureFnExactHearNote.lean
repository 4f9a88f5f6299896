/- Plain law of FnExactHearNote: the program and the reference hear a note alike. -/
import Derived.Test.YtocgakpicmcemaaAskFnExactHearNote
namespace Go.Proofs.Ytocgakpicmcemaa.Pure
open Go.RowKit Go.Proofs.Ytocgakpicmcemaa.PFnExactHearNote Go.Proofs.YtocgakpicmcemaaW.PrintWords Go.Proofs.YtocgakpicmcemaaW.PrintLast Go.Proofs.YtocgakpicmcemaaW.PrintMore
set_option linter.unusedVariables false
set_option linter.unusedSimpArgs false

theorem rangeI (x a b : Int) : impl_inRange.f x a b = some (decide (a ≤ x ∧ x ≤ b)) := by
  unfold impl_inRange.f
  by_cases c : x ≥ a
  · rw [if_pos c]; congr 1; simp; omega
  · rw [if_neg c]; congr 1; simp; omega
theorem rangeS (x a b : Int) : spec_l01In.f x a b = some (decide (a ≤ x ∧ x ≤ b)) := by
  unfold spec_l01In.f
  by_cases c : x ≥ a
  · rw [if_pos c]; congr 1; simp; omega
  · rw [if_neg c]; congr 1; simp; omega
/-- Is it a right voice? -/
def voiceB (p t : Int) (v : ByteArray) : Bool := decide (0 ≤ p ∧ p ≤ 10000) && (decide (0 ≤ t ∧ t ≤ p) && (decide ((v.size : Int) ≤ 40) && (decide (t > 0) || (v.toList == ([] : List UInt8)))))
theorem voiceS (p t : Int) (v : ByteArray) : spec_VoiceOk.f p t v = some (voiceB p t v) := by
  unfold spec_VoiceOk.f voiceB
  simp only [rangeS, Option.bind_some]
  by_cases c1 : 0 ≤ p ∧ p ≤ 10000 <;> by_cases c2 : 0 ≤ t ∧ t ≤ p <;> by_cases c3 : (v.size : Int) ≤ 40 <;> by_cases c4 : t > 0 <;> simp [c1, c2, c3, c4]
theorem voiceI (p t : Int) (v : ByteArray) : impl_VoiceOk.f p t v = some (voiceB p t v) := by
  unfold impl_VoiceOk.f voiceB
  simp only [rangeI, Option.bind_some]
  by_cases c3 : (v.size : Int) ≤ 40
  · have c3' : ¬ (v.size : Int) > 40 := by omega
    by_cases c1 : 0 ≤ p ∧ p ≤ 10000 <;> by_cases c2 : 0 ≤ t ∧ t ≤ p <;> by_cases c4 : t > 0 <;> simp [c1, c2, c3, c3', c4]
  · have c3' : (v.size : Int) > 40 := by omega
    by_cases c1 : 0 ≤ p ∧ p ≤ 10000 <;> by_cases c2 : 0 ≤ t ∧ t ≤ p <;> by_cases c4 : t > 0 <;> simp [c1, c2, c3, c3', c4]
theorem hear_j1 (x : Bool) (p t : Int) (v : ByteArray) (k0 k1 k2 k3 k4 : Int) (k5 : ByteArray) :
    ∃ r, Ev (fun k => spec_HearNote.j1 k x p t v k0 k1 k2 k3 k4 k5) r ∧ Ev (fun k => impl_HearNote.j1 k x p t v k0 k1 k2 k3 k4 k5 0 k2 k1 k3 0 (⟨#[]⟩ : ByteArray)) r := by
  cases x with
  | true => exact ⟨_, Ev.step (f := fun _ => some _) (fun k => by simp only [spec_HearNote.j1, if_true] <;> rfl) (Ev.now _), Ev.step (f := fun _ => some _) (fun k => by simp only [impl_HearNote.j1, if_true] <;> rfl) (Ev.now _)⟩
  | false =>
    by_cases c1 : k0 = 3
    · by_cases c2 : k3 ≥ p
      · exact ⟨_, Ev.step (f := fun _ => some _) (fun k => by simp only [spec_HearNote.j1, if_neg (show ¬ (false = true) by decide), if_pos c1, if_pos c2] <;> rfl) (Ev.now _), Ev.step (f := fun _ => some _) (fun k => by simp only [impl_HearNote.j1, if_neg (show ¬ (false = true) by decide), if_pos c1, if_pos c2] <;> rfl) (Ev.now _)⟩
      · exact ⟨_, Ev.step (f := fun _ => some _) (fun k => by simp only [spec_HearNote.j1, if_neg (show ¬ (false = true) by decide), if_pos c1, if_neg c2] <;> rfl) (Ev.now _), Ev.step (f := fun _ => some _) (fun k => by simp only [impl_HearNote.j1, if_neg (show ¬ (false = true) by decide), if_pos c1, if_neg c2] <;> rfl) (Ev.now _)⟩
    · exact ⟨_, Ev.step (f := fun _ => some _) (fun k => by simp only [spec_HearNote.j1, if_neg (show ¬ (false = true) by decide), if_neg c1] <;> rfl) (Ev.now _), Ev.step (f := fun _ => some _) (fun k => by simp only [impl_HearNote.j1, if_neg (show ¬ (false = true) by decide), if_neg c1] <;> rfl) (Ev.now _)⟩
theorem hear_j0 (x : Bool) (p t : Int) (v : ByteArray) (k0 k1 k2 k3 k4 : Int) (k5 : ByteArray) :
    ∃ r, Ev (fun k => spec_HearNote.j0 k x p t v k0 k1 k2 k3 k4 k5) r ∧ Ev (fun k => impl_HearNote.j0 k x p t v k0 k1 k2 k3 k4 k5) r := by
  cases x with
  | true => exact ⟨_, Ev.step (f := fun _ => some _) (fun k => by simp only [spec_HearNote.j0, if_true] <;> rfl) (Ev.now _), Ev.step (f := fun _ => some _) (fun k => by simp only [impl_HearNote.j0, if_true] <;> rfl) (Ev.now _)⟩
  | false =>
    by_cases c1 : k0 = 1
    · obtain ⟨r, h1, h2⟩ := hear_j1 (decide (k3 > p)) p t v k0 k1 k2 k3 k4 k5
      exact ⟨r, Ev.step (fun k => by simp only [spec_HearNote.j0, if_neg (show ¬ (false = true) by decide), if_pos c1]) h1, Ev.step (fun k => by simp only [impl_HearNote.j0, if_neg (show ¬ (false = true) by decide), if_pos c1]) h2⟩
    · obtain ⟨r, h1, h2⟩ := hear_j1 false p t v k0 k1 k2 k3 k4 k5
      exact ⟨r, Ev.step (fun k => by simp only [spec_HearNote.j0, if_neg (show ¬ (false = true) by decide), if_neg c1]) h1, Ev.step (fun k => by simp only [impl_HearNote.j0, if_neg (show ¬ (false = true) by decide), if_neg c1]) h2⟩
theorem hear_ev (p t : Int) (v : ByteArray) (k0 k1 k2 k3 k4 : Int) (k5 : ByteArray) :
    ∃ r, Ev (fun k => spec_HearNote.f k p t v k0 k1 k2 k3 k4 k5) r ∧ Ev (fun k => impl_HearNote.f k p t v k0 k1 k2 k3 k4 k5) r := by
  have key : ∃ b : Bool, (∀ k, spec_HearNote.f k p t v k0 k1 k2 k3 k4 k5 = spec_HearNote.j0 k b p t v k0 k1 k2 k3 k4 k5) ∧ (∀ k, impl_HearNote.f k p t v k0 k1 k2 k3 k4 k5 = impl_HearNote.j0 k b p t v k0 k1 k2 k3 k4 k5) := by
    unfold spec_HearNote.f impl_HearNote.f
    simp only [rangeS, rangeI, voiceS, voiceI, Option.bind_some]
    cases hv : voiceB p t v with
    | true =>
      by_cases c1 : 1 ≤ k3 ∧ k3 ≤ 10000
      · by_cases c2 : (k5.size : Int) > 40
        · exact ⟨true, fun k => by simp [c1, c2], fun k => by simp [c1, c2]⟩
        · exact ⟨false, fun k => by simp [c1, c2], fun k => by simp [c1, c2]⟩
      · exact ⟨true, fun k => by simp [c1], fun k => by simp [c1]⟩
    | false =>
      refine ⟨true, fun k => by simp, fun k => ?_⟩
      by_cases c1 : 1 ≤ k3 ∧ k3 ≤ 10000 <;> by_cases c2 : (k5.size : Int) > 40 <;> simp [c1, c2]
  obtain ⟨b, h1, h2⟩ := key
  obtain ⟨r, e1, e2⟩ := hear_j0 b p t v k0 k1 k2 k3 k4 k5
  exact ⟨r, Ev.congr h1 e1, Ev.congr h2 e2⟩

theorem FnExactHearNote : laws_FnExactHearNote.Ask := by
  intro p t v k0 k1 k2 k3 k4 k5 _ _ hv _ _ _ _ _ hk
  apply Ev.rounds (r := true) (g := fun k => laws_FnExactHearNote.f k p t v k0 k1 k2 k3 k4 k5)
  unfold laws_FnExactHearNote.f laws_szVoice.f laws_szNote.f laws_toVoice.f laws_toNote.f laws_eqVoice.f laws_eqNote.f
  have hb : ∀ (c : Prop) [Decidable c] (x y : Int) (f : Int → Option Bool) (g : Int → Option Bool), True := fun _ _ _ _ _ _ => trivial
  obtain ⟨⟨s1, s2, s3, s4, s5, s6, s7, s8, s9, s10⟩, hs, hi⟩ := hear_ev p t v k0 k1 k2 k3 k4 k5
  by_cases c1 : wrap64 (1048576 - (v.size : Int)) < 0
  · simp only [if_pos c1, Option.bind_some, show (-1 : Int) < 0 by omega, if_true]
    exact Ev.now true
  · simp only [if_neg c1, Option.bind_some]
    by_cases c2 : wrap64 (wrap64 (1048576 - (v.size : Int)) - (k5.size : Int)) < 0
    · simp only [if_pos c2, Option.bind_some, show (-1 : Int) < 0 by omega, if_true]
      exact Ev.now true
    · simp only [if_neg c2, Option.bind_some]
      refine Ev.bind hs (Ev.bind hi ?_)
      simp only [if_true, Option.bind_some]
      exact Ev.now true

end Go.Proofs.Ytocgakpicmcemaa.Pure
