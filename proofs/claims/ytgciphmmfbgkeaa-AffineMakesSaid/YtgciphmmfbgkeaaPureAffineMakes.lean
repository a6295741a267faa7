/- AffineMakes: Same, Move, Scale and Rotate are the reference's, for all numbers. No condition. -/
import Derived.Test.YtgciphmmfbgkeaaTurn
import Derived.Test.YtgciphmmfbgkeaaQ13
namespace Go.Proofs.Ytgciphmmfbgkeaa.Pure
open Go.RowKit Go.Proofs.Ytgciphmmfbgkeaa.Q Go.Proofs.YtgciphmmfbgkeaaW.PrintWords Go.Proofs.YtgciphmmfbgkeaaW.PrintLast
set_option linter.unusedVariables false
set_option linter.unusedSimpArgs false

theorem AffineMakes : imageeditorlaw12_AffineMakes.Pure := by
  intro x y a _ _ ha
  refine ⟨12, ?_⟩
  obtain ⟨r, h1, h2⟩ := rotate_same 11 a (wf_bd ha)
  unfold imageeditorlaw12_AffineMakes.f
  rw [move_some, rmove_some, scale_some, rscale_some, h1, h2, ex_some]
  simp [affine_Same.f, imageeditorref12_Same.f]
end Go.Proofs.Ytgciphmmfbgkeaa.Pure
