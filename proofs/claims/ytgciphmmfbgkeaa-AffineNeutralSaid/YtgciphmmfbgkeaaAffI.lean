/- A rounded quotient by One, and the coefficients of an inverse. -/
import Derived.Test.YtgciphmmfbgkeaaAff
namespace Go.Proofs.Ytgciphmmfbgkeaa.Q
open Go.RowKit Go.Proofs.YtgciphmmfbgkeaaW.PrintWords Go.Proofs.YtgciphmmfbgkeaaW.PrintLast Go.Proofs.YtgciphmmfbgkeaaW.PrintMore
set_option linter.unusedVariables false
set_option linter.unusedSimpArgs false

theorem dv_e (n : Int) : ∃ e, 131072 * dv n 65536 = 2 * n + e ∧ -65536 ≤ e ∧ e ≤ 65536 := by
  have h := dv_lin n
  exact ⟨131072 * dv n 65536 - 2 * n, by omega, by omega, by omega⟩
/-- one coefficient of an inverse: the quotient, up to half the divisor -/
theorem part_some (k : Nat) {x d g : Int} (hx : -262144 ≤ x ∧ x ≤ 262144) (hd : d = g ∨ d = -g) (hg : 1073741824 ≤ g) (hg2 : g ≤ 137438953472) :
    ∃ q r, affine_Inverse_1.f (k + 1) x d = some q ∧ q * d = x * 4294967296 + r ∧ -g ≤ 2 * r ∧ 2 * r ≤ g := by
  unfold affine_Inverse_1.f
  rw [w_in (n := x * 65536) (by omega) (by omega), w_in (n := x * 65536 * 65536) (by omega) (by omega)]
  rcases hd with rfl | rfl
  · rw [div_pos k _ _ (by omega) (by omega) (by omega)]
    have h := dv_near (x * 65536 * 65536) d (by omega)
    exact ⟨_, dv (x * 65536 * 65536) d * d - x * 4294967296, rfl, by omega, by omega, by omega⟩
  · rw [div_neg k _ _ (by omega) (by omega) (by omega)]
    have h := dv_near (-(x * 65536 * 65536)) (- -g) (by omega)
    refine ⟨_, dv (-(x * 65536 * 65536)) (- -g) * (-g) - x * 4294967296, rfl, by omega, ?_, ?_⟩
    · rw [Int.neg_neg] at h ⊢; rw [Int.mul_neg]; omega
    · rw [Int.neg_neg] at h ⊢; rw [Int.mul_neg]; omega
theorem part_bd {q x d g r : Int} (hx : -262144 ≤ x ∧ x ≤ 262144) (hd : d = g ∨ d = -g) (hg : 1073741824 ≤ g) (h : q * d = x * 4294967296 + r) (h1 : -g ≤ 2 * r) (h2 : 2 * r ≤ g) : -1048576 ≤ q ∧ q ≤ 1048576 := by
  have hs : -1125899906842624 - g ≤ q * g + q * g - q * g ∧ 2 * (q * g) ≤ 2251799813685248 + g ∧ -2251799813685248 - g ≤ 2 * (q * g) := by
    rcases hd with rfl | rfl
    · omega
    · rw [Int.mul_neg] at h; omega
  constructor
  · refine Int.not_lt.mp fun hq => ?_
    have p : 0 ≤ (-q - 1048577) * g := Int.mul_nonneg (by omega) (by omega)
    have e : (-q - 1048577) * g = -(q * g) - 1048577 * g := by grind
    omega
  · refine Int.not_lt.mp fun hq => ?_
    have p : 0 ≤ (q - 1048577) * g := Int.mul_nonneg (by omega) (by omega)
    have e : (q - 1048577) * g = q * g - 1048577 * g := by grind
    omega
end Go.Proofs.Ytgciphmmfbgkeaa.Q
