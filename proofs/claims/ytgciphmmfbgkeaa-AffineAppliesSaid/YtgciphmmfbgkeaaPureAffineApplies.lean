/- AffineApplies: Check and Apply are the reference's, for every transform and position. No condition. -/
import Derived.Test.YtgciphmmfbgkeaaAff
namespace Go.Proofs.Ytgciphmmfbgkeaa.Pure
open Go.RowKit Go.Proofs.Ytgciphmmfbgkeaa.Q Go.Proofs.YtgciphmmfbgkeaaW.PrintWords Go.Proofs.YtgciphmmfbgkeaaW.PrintLast
set_option linter.unusedVariables false
set_option linter.unusedSimpArgs false

theorem AffineApplies (a b c d e f x y : Int) : imageeditorlaw12_AffineApplies.f 12 a b c d e f x y = some true := by
  unfold imageeditorlaw12_AffineApplies.f
  rw [← check_same, check_cases, apply_some 11, rapply_some 11, ex_some]
  simp
end Go.Proofs.Ytgciphmmfbgkeaa.Pure
