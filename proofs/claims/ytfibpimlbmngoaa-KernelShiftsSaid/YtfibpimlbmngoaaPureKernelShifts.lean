/- KernelShifts: one pixel further Taps has the same weights and the next first pixel, for every valid kind and position within the bounds. -/
import Derived.Test.YtfibpimlbmngoaaTaps2
namespace Go.Proofs.Ytfibpimlbmngoaa.Pure
open Go.RowKit Go.Proofs.Ytfibpimlbmngoaa.Q Go.Proofs.YtfibpimlbmngoaaW.PrintWords Go.Proofs.YtfibpimlbmngoaaW.PrintLast
set_option linter.unusedVariables false
set_option linter.unusedSimpArgs false

theorem KernelShifts : imageeditorlaw13_KernelShifts.Pure := by
  intro kind x _ hx
  have hx := wf_bd hx
  refine ⟨13, ?_⟩
  have hout : ∀ t u : Int, imageeditorlaw13_KernelShifts.j0 13 t u true = some true := by
    intro t u; simp only [imageeditorlaw13_KernelShifts.j0, if_true]; rw [ex_some]; rfl
  unfold imageeditorlaw13_KernelShifts.f
  by_cases h1 : x < -1099511627776
  · rw [if_pos h1, hout]
  by_cases h2 : x > 1099511562240
  · rw [if_neg h1, if_pos h2, hout]
  rw [if_neg h1, if_neg h2, rvalid_some]
  simp only [Option.bind_some]
  by_cases hk : 0 ≤ kind ∧ kind ≤ 4
  · rw [show decide (0 ≤ kind ∧ kind ≤ 4) = true by simpa using hk]
    simp only [imageeditorlaw13_KernelShifts.j0]
    rw [if_neg (by decide), taps_some 0 x hk, w_in (n := x + 65536) (by omega) (by omega), taps_some 0 (x + 65536) hk, ex_some]
    simp only [Option.bind_some]
    have hs := sup12 kind
    have e1 : pp (x + 65536) = pp x + 1 := by unfold pp lim; omega
    have e2 : uu (x + 65536) = uu x := by unfold uu lim; omega
    have e3 : -33554432 ≤ pp x ∧ pp x ≤ 33554432 := by unfold pp lim; omega
    rw [e1, e2, w_in (by omega) (by omega), if_pos (by omega), same_self 7 _ (by rw [nw_len]; exact raws_len.1)]
    rfl
  · rw [show decide (0 ≤ kind ∧ kind ≤ 4) = false by simpa using hk]
    exact hout _ _
end Go.Proofs.Ytfibpimlbmngoaa.Pure
