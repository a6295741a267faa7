/- KernelWeights: the program's Valid, Support and Weight are the reference's, for every kind and distance, and the chapter's examples hold. No condition. -/
import Derived.Test.YtfibpimlbmngoaaKern
namespace Go.Proofs.Ytfibpimlbmngoaa.Pure
open Go.RowKit Go.Proofs.Ytfibpimlbmngoaa.Q Go.Proofs.YtfibpimlbmngoaaW.PrintWords Go.Proofs.YtfibpimlbmngoaaW.PrintLast
set_option linter.unusedVariables false
set_option linter.unusedSimpArgs false

theorem KernelWeights : imageeditorlaw13_KernelWeights.Pure := by
  intro kind t _ _
  refine ⟨12, ?_⟩
  unfold imageeditorlaw13_KernelWeights.f
  rw [valid_some, rvalid_some, support_some, rsupport_some 11, weight_some 10, rweight_some 10, ex_some]
  simp
end Go.Proofs.Ytfibpimlbmngoaa.Pure
