/- The plain law: every argument is one that the walk takes. -/
import Derived.Test.YtediiolcoilepaaGreatAskFnExactKeepKey
namespace Go.Proofs.YtediiolcoilepaaGreat.Pure
open Go.RowKit Go.Proofs.YtediiolcoilepaaGreat.Nb Go.Proofs.YtediiolcoilepaaGreat.GNear
theorem FnExactKeepKey : laws_FnExactKeepKey.Ask := by
  intro l0_0 a0_1 l0_2 l0_3 a0_4 a0_5 l0_6 a0_7 l0_8 a0_9 l0_10 l0_11 a0_12 a0_13 a1 a2 h0 h1 h2 h3 h4 h5 h6 h7 h8 h9 h10 h11 h12 h13 h14 h15
  unfold laws_FnExactKeepKey.f
  rw [if_pos]
  exact ⟨h0.1, h2.1, h3.1, h6.1, h8.1, h10.1, h11.1, fun s hs => ⟨(h0.2 s hs).2.2.1, (h0.2 s hs).2.2.2.1⟩, fun s hs => (h2.2 s hs).1, fun s hs => (h3.2 s hs).1, h6.2, h8.2, h10.2, fun c hc => wf_le (h2.2 c hc).2⟩
end Go.Proofs.YtediiolcoilepaaGreat.Pure
