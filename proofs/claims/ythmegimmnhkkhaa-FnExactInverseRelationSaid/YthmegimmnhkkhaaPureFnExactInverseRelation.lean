/- InverseRelation of the program returns what that of the reference returns, for every whole number; no condition. -/
import Derived.Test.YthmegimmnhkkhaaPFnExactInverseRelationx1
namespace Go.Proofs.Ythmegimmnhkkhaa.Pure
open Go.RowKit Go.Proofs.Ythmegimmnhkkhaa.PFnExactInverseRelation Go.Proofs.YthmegimmnhkkhaaW.PrintWords Go.Proofs.YthmegimmnhkkhaaW.PrintLast

theorem FnExactInverseRelation : laws_FnExactInverseRelation.Pure := by
  intro a _
  unfold laws_FnExactInverseRelation.f spec_InverseRelation.f impl_InverseRelation.f spec_spIs.f spec_l1In.f impl_within.f
  by_cases h0 : a ≥ 0
  · by_cases h1 : a ≤ 12
    · simp [h0, h1]
    · simp [h0, h1]
  · simp [h0]

end Go.Proofs.Ythmegimmnhkkhaa.Pure
