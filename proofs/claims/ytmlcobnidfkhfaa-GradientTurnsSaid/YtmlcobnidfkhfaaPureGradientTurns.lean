/- GradientTurns: the positions along a linear gradient and along the gradient with its ends exchanged have a sum within one of 65535, for all numbers. No condition. -/
import Derived.Test.YtmlcobnidfkhfaaGrays
import Derived.Test.YtmlcobnidfkhfaaQ13t
namespace Go.Proofs.Ytmlcobnidfkhfaa.Pure
open Go.RowKit Go.Proofs.Ytmlcobnidfkhfaa.Q Go.Proofs.YtmlcobnidfkhfaaW.PrintWords Go.Proofs.YtmlcobnidfkhfaaW.PrintLast
set_option linter.unusedVariables false
set_option linter.unusedSimpArgs false

theorem sq_pos {x : Int} (h : x ≠ 0) : 0 < x * x := by
  rcases Int.lt_or_gt_of_ne h with c | c
  · exact Int.mul_pos_of_neg_of_neg c c
  · exact Int.mul_pos c c
theorem turn_sum {a b D : Int} (hD : 0 < D) (h : a + b = 65535 * D) : 65535 ≤ dv a D + dv b D ∧ dv a D + dv b D ≤ 65536 := by
  have n1 := dv_near a D hD; have n2 := dv_near b D hD
  have e : (dv a D + dv b D) * D = dv a D * D + dv b D * D := Int.add_mul _ _ _
  generalize dv a D + dv b D = s at *
  constructor
  · refine Int.not_lt.mp fun c => ?_
    have := Int.mul_le_mul_of_nonneg_right (show s ≤ 65534 by omega) (show 0 ≤ D by omega); omega
  · refine Int.not_lt.mp fun c => ?_
    have := Int.mul_le_mul_of_nonneg_right (show 65537 ≤ s by omega) (show 0 ≤ D by omega); omega
theorem GradientTurns : imageeditorlaw18_GradientTurns.Pure := by
  intro x0 y0 x1 y1 x y _ _ _ _ _ _
  refine ⟨110, ?_⟩
  unfold imageeditorlaw18_GradientTurns.f
  simp only [Option.bind_some]
  rw [grays_some]; simp only [Option.bind_some]
  have aw : ∀ k, imageeditorlaw18_GradientTurns.j0 (k + 91) x y [x0, y0, x1, y1] [x1, y1, x0, y0] true = some true := fun k => by
    rw [imageeditorlaw18_GradientTurns.j0, if_pos rfl, ex_at]; rfl
  rcases rcheck_grays 90 1 [x0, y0, x1, y1] 0 with ⟨hK, hL, hV, e⟩ | ⟨_, z, hz, e⟩
  · rw [show (110 : Nat) = 90 + 20 from rfl, e]; simp only [Option.bind_some]
    rw [if_pos trivial]
    have main : ¬ (x0 = x1 ∧ y0 = y1) → imageeditorlaw18_GradientTurns.j0 (90 + 20) x y [x0, y0, x1, y1] [x1, y1, x0, y0] false = some true := fun hne => by
      have hV' : Vok 1 [x1, y1, x0, y0] := by
        refine ⟨fun j j0 j1 => ?_, fun g => by have := g.1; omega⟩
        have r0 := hV.1 0 (by omega) (show (0 : Int) < 4 by omega)
        have r1 := hV.1 1 (by omega) (show (1 : Int) < 4 by omega)
        have r2 := hV.1 2 (by omega) (show (2 : Int) < 4 by omega)
        have r3 := hV.1 3 (by omega) (show (3 : Int) < 4 by omega)
        have j1' : j < 4 := j1
        have : j = 0 ∨ j = 1 ∨ j = 2 ∨ j = 3 := by omega
        rcases this with rfl | rfl | rfl | rfl
        · exact r2
        · exact r3
        · exact r0
        · exact r1
      have hL' : Lok 1 [x1, y1, x0, y0] := ⟨fun _ => rfl, fun h => absurd rfl h⟩
      have h1 := Place_ok 19 x y hK hL hV
      have h2 := Place_ok 19 x y hK hL' hV'
      rw [imageeditorlaw18_GradientTurns.j0, if_neg (by decide), show 90 + 19 = 19 + 90 from rfl, h1, h2]; simp only [Option.bind_some]
      have e1 : pl 1 [x0, y0, x1, y1] 0 x y = min 65535 (max (if (x1 - x0) * (x1 - x0) + (y1 - y0) * (y1 - y0) = 0 then 0 else dv (65535 * ((16 * cl x + 8 - x0) * (x1 - x0) + (16 * cl y + 8 - y0) * (y1 - y0))) ((x1 - x0) * (x1 - x0) + (y1 - y0) * (y1 - y0))) 0) := rfl
      have e2 : pl 1 [x1, y1, x0, y0] 0 x y = min 65535 (max (if (x0 - x1) * (x0 - x1) + (y0 - y1) * (y0 - y1) = 0 then 0 else dv (65535 * ((16 * cl x + 8 - x1) * (x0 - x1) + (16 * cl y + 8 - y1) * (y0 - y1))) ((x0 - x1) * (x0 - x1) + (y0 - y1) * (y0 - y1))) 0) := rfl
      have d2 : (x0 - x1) * (x0 - x1) + (y0 - y1) * (y0 - y1) = (x1 - x0) * (x1 - x0) + (y1 - y0) * (y1 - y0) := by grind
      have hD : 0 < (x1 - x0) * (x1 - x0) + (y1 - y0) * (y1 - y0) := by
        have q1 := sq_nn (x1 - x0); have q2 := sq_nn (y1 - y0)
        by_cases c : x0 = x1
        · have := sq_pos (show y1 - y0 ≠ 0 from fun h => hne ⟨c, by omega⟩); omega
        · have := sq_pos (show x1 - x0 ≠ 0 by omega); omega
      have s := turn_sum (a := 65535 * ((16 * cl x + 8 - x0) * (x1 - x0) + (16 * cl y + 8 - y0) * (y1 - y0))) (b := 65535 * ((16 * cl x + 8 - x1) * (x0 - x1) + (16 * cl y + 8 - y1) * (y0 - y1))) hD (by grind)
      rw [d2] at e2
      rw [if_neg (by omega)] at e1 e2
      generalize dv (65535 * ((16 * cl x + 8 - x0) * (x1 - x0) + (16 * cl y + 8 - y0) * (y1 - y0))) ((x1 - x0) * (x1 - x0) + (y1 - y0) * (y1 - y0)) = t at *
      generalize dv (65535 * ((16 * cl x + 8 - x1) * (x0 - x1) + (16 * cl y + 8 - y1) * (y0 - y1))) ((x1 - x0) * (x1 - x0) + (y1 - y0) * (y1 - y0)) = u at *
      rw [e1, e2, if_pos (by omega), if_pos (by omega), if_pos (by omega), if_pos (by omega)]
      rw [w_in (n := min 65535 (max t 0) + min 65535 (max u 0)) (by omega) (by omega), w_in (n := 65535 - min 65535 (max t 0)) (by omega) (by omega), w_in (by omega) (by omega), w_in (by omega) (by omega), if_pos (by omega), if_pos (by omega), ex_at]; rfl
    by_cases c : x0 = x1
    · rw [if_pos c]
      by_cases d : y0 = y1
      · rw [beq_iff_eq.mpr d]; exact aw 19
      · rw [beq_eq_false_iff_ne.mpr d]; exact main fun g => d g.2
    · rw [if_neg c]; exact main fun g => c g.1
  · rw [show (110 : Nat) = 90 + 20 from rfl, e]; simp only [Option.bind_some]
    rw [if_neg hz]; exact aw 19
end Go.Proofs.Ytmlcobnidfkhfaa.Pure
