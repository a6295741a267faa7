/- GradientPlaces: Place is the reference's, and from 0 to 65535, for all numbers. No condition. -/
import Derived.Test.YtmlcobnidfkhfaaAwake
import Derived.Test.YtmlcobnidfkhfaaQ20p
namespace Go.Proofs.Ytmlcobnidfkhfaa.Pure
open Go.RowKit Go.Proofs.Ytmlcobnidfkhfaa.Q Go.Proofs.YtmlcobnidfkhfaaW.PrintWords Go.Proofs.YtmlcobnidfkhfaaW.PrintLast
set_option linter.unusedVariables false
set_option linter.unusedSimpArgs false

theorem GradientPlaces : imageeditorlaw18_GradientPlaces.Pure := by
  intro kind l spread x y _ _ _ _ _ _ _
  refine ⟨90, ?_⟩
  unfold imageeditorlaw18_GradientPlaces.f
  rcases Place_some 0 kind l spread x y with ⟨_, _, _, h1, h2⟩ | ⟨_, h1, h2⟩
  · have b : 0 ≤ pl kind l spread x y ∧ pl kind l spread x y ≤ 65535 := sp_bd _ _
    rw [show (90 : Nat) = 0 + 90 from rfl, h1, h2]; simp only [Option.bind_some]
    rw [if_pos trivial, if_pos b.1, if_pos b.2, ex_at 0]; rfl
  · rw [show (90 : Nat) = 0 + 90 from rfl, h1, h2]; simp only [Option.bind_some]
    rw [if_pos trivial, if_pos (by omega), if_pos (by omega), ex_at 0]; rfl
end Go.Proofs.Ytmlcobnidfkhfaa.Pure
