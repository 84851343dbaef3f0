/- The program's QuorumOf answers as the reference's QuorumOf does, for every whole number n that an int64 holds. No further condition. -/
import Derived.Test.YtekndmbpphncmaaPFnExactQuorumOfx1
namespace Go.Proofs.Ytekndmbpphncmaa.Pure
open Go.RowKit Go.Proofs.Ytekndmbpphncmaa.PFnExactQuorumOf Go.Proofs.YtekndmbpphncmaaW.PrintWords Go.Proofs.YtekndmbpphncmaaW.PrintLast

/-- Both functions are the same text, so they answer alike and the comparison says so. -/
theorem FnExactQuorumOf : laws_FnExactQuorumOf.Pure := by
  intro a0 _
  have hw : impl_within.f a0 1 9 = spec_l1In.f a0 1 9 := rfl
  have hq : impl_quorum.f a0 = spec_l8Quorum.f a0 := rfl
  unfold laws_FnExactQuorumOf.f spec_QuorumOf.f impl_QuorumOf.f
  rw [hw, hq]
  unfold spec_l1In.f spec_l8Quorum.f laws_eqIntResult.f
  by_cases h1 : a0 ≥ 1
  · by_cases h2 : a0 ≤ 9 <;> simp [h1, h2]
  · simp [h1]

end Go.Proofs.Ytekndmbpphncmaa.Pure
