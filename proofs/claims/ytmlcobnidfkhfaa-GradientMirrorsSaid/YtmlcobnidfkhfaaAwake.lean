/- The chapter's examples hold. -/
import Derived.Test.YtmlcobnidfkhfaaQ13
import Derived.Test.YtmlcobnidfkhfaaAl
namespace Go.Proofs.Ytmlcobnidfkhfaa.Q
open Go.RowKit Go.Proofs.YtmlcobnidfkhfaaW.PrintWords Go.Proofs.YtmlcobnidfkhfaaW.PrintLast Go.Proofs.YtmlcobnidfkhfaaW.PrintMore
theorem ex_some : imageeditorlaw18_awake.f 90 = some true := by decide +kernel
theorem ex_at (k : Nat) : imageeditorlaw18_awake.f (k + 90) = some true := by
  induction k with
  | zero => exact ex_some
  | succ k ih => exact imageeditorlaw18_awake.mono (k + 90) _ ih
end Go.Proofs.Ytmlcobnidfkhfaa.Q
