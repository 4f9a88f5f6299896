/- VoiceOk of the program and of the reference look at the same conditions in another order, so the law over them answers true for every voice. -/
import Derived.Test.YtimldjdehifboaaAskFnExactVoiceOk
namespace Go.Proofs.Ytimldjdehifboaa.Pure
open Go.RowKit Go.Proofs.Ytimldjdehifboaa.PFnExactVoiceOk Go.Proofs.YtimldjdehifboaaW.PrintWords Go.Proofs.YtimldjdehifboaaW.PrintLast
set_option linter.unusedVariables false
set_option linter.unusedSimpArgs false

theorem inRange_in (a b c : Int) : impl_inRange.f a b c = spec_l01In.f a b c := rfl
theorem in_some (a b c : Int) : ∃ r, spec_l01In.f a b c = some r := by
  unfold spec_l01In.f
  split <;> exact ⟨_, rfl⟩
theorem ok_same (a b : Int) (s : ByteArray) : ∃ r, spec_VoiceOk.f a b s = some r ∧ impl_VoiceOk.f a b s = some r := by
  obtain ⟨r1, h1⟩ := in_some a 0 10000
  obtain ⟨r2, h2⟩ := in_some b 0 a
  unfold spec_VoiceOk.f impl_VoiceOk.f
  rw [inRange_in, inRange_in, h1]
  simp only [Option.bind_some]
  cases r1 with
  | false => exact ⟨false, by simp, by simp⟩
  | true =>
    simp only [if_true]
    rw [h2]
    simp only [Option.bind_some]
    cases r2 with
    | false => exact ⟨false, by simp, by simp⟩
    | true =>
      simp only [if_true]
      by_cases c : (s.size : Int) ≤ 40
      · rw [if_pos c, if_neg (show ¬ (s.size : Int) > 40 by omega)]
        split <;> exact ⟨_, rfl, rfl⟩
      · rw [if_neg c, if_pos (show (s.size : Int) > 40 by omega)]
        exact ⟨_, rfl, rfl⟩

theorem FnExactVoiceOk : laws_FnExactVoiceOk.Ask := by
  intro a b s _ _ _
  obtain ⟨r, h1, h2⟩ := ok_same a b s
  unfold laws_FnExactVoiceOk.f laws_szVoice.f laws_toVoice.f
  have hif : ∀ c : Int, (if c < 0 then some (-1) else some c : Option Int) = some (if c < 0 then -1 else c) := by intro c; split <;> rfl
  rw [hif]
  simp only [Option.bind_some]
  split
  · rfl
  · rw [h1]
    simp only [Option.bind_some]
    rw [h2]
    simp

end Go.Proofs.Ytimldjdehifboaa.Pure
