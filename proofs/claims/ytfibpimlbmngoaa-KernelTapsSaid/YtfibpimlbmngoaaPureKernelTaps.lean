/- KernelTaps: Taps is the reference's, for every kind and position. No condition. -/
import Derived.Test.YtfibpimlbmngoaaTaps2
namespace Go.Proofs.Ytfibpimlbmngoaa.Pure
open Go.RowKit Go.Proofs.Ytfibpimlbmngoaa.Q Go.Proofs.YtfibpimlbmngoaaW.PrintWords Go.Proofs.YtfibpimlbmngoaaW.PrintLast
set_option linter.unusedVariables false
set_option linter.unusedSimpArgs false

theorem KernelTaps : imageeditorlaw13_KernelTaps.Pure := by
  intro kind x _ _
  refine ⟨12, ?_⟩
  unfold imageeditorlaw13_KernelTaps.f
  by_cases hk : 0 ≤ kind ∧ kind ≤ 4
  · rw [taps_some 0 x hk, rtaps_some 0 x hk, ex_some]
    simp only [Option.bind_some]
    rw [if_pos trivial, same_self 7 _ (by rw [nw_len]; exact raws_len.1)]
    rfl
  · rw [taps_bad 12 x hk, rtaps_bad 12 x hk, ex_some]
    simp only [Option.bind_some]
    rw [if_pos trivial, same_self 7 [] (by simp)]
    rfl
end Go.Proofs.Ytfibpimlbmngoaa.Pure
