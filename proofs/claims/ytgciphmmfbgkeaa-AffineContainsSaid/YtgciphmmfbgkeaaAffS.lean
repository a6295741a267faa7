/- The guards of the statements: a small transform. -/
import Derived.Test.YtgciphmmfbgkeaaAffW
import Derived.Test.YtgciphmmfbgkeaaQ17
namespace Go.Proofs.Ytgciphmmfbgkeaa.Q
open Go.RowKit Go.Proofs.YtgciphmmfbgkeaaW.PrintWords Go.Proofs.YtgciphmmfbgkeaaW.PrintLast Go.Proofs.YtgciphmmfbgkeaaW.PrintMore
set_option linter.unusedVariables false
set_option linter.unusedSimpArgs false

/-- the coefficients are at most 4 One, E and F at most n -/
def Small (a b c d e f n : Int) : Prop := (-262144 ≤ a ∧ a ≤ 262144) ∧ (-262144 ≤ b ∧ b ≤ 262144) ∧ (-262144 ≤ c ∧ c ≤ 262144) ∧ (-262144 ≤ d ∧ d ≤ 262144) ∧ -n ≤ e ∧ e ≤ n ∧ -n ≤ f ∧ f ≤ n
instance (a b c d e f n : Int) : Decidable (Small a b c d e f n) := by unfold Small; infer_instance
theorem small_some (k : Nat) (a b c d e f n : Int) (hn : 0 ≤ n ∧ n ≤ 9223372036854775807) : imageeditorlaw12_small.f (k + 5) a b c d e f n = some (decide (Small a b c d e f n)) := by
  unfold imageeditorlaw12_small.f
  rw [within_four k 262144 a b c d (by omega), within_two (k + 2) n e f hn]
  simp only [Option.bind_some]
  by_cases h : ((-262144 ≤ a ∧ a ≤ 262144) ∧ (-262144 ≤ b ∧ b ≤ 262144) ∧ (-262144 ≤ c ∧ c ≤ 262144) ∧ (-262144 ≤ d ∧ d ≤ 262144))
  · rw [if_pos (by simpa using h)]
    simp only [Option.some.injEq]
    by_cases g : -n ≤ e ∧ e ≤ n ∧ -n ≤ f ∧ f ≤ n
    · rw [decide_eq_true g]; exact (decide_eq_true (show Small a b c d e f n from ⟨h.1, h.2.1, h.2.2.1, h.2.2.2, g⟩)).symm
    · rw [decide_eq_false g]; exact (decide_eq_false fun s : Small a b c d e f n => g s.2.2.2.2).symm
  · rw [if_neg (by simpa using h)]
    simp only [Option.some.injEq]
    exact (decide_eq_false fun g => h ⟨g.1, g.2.1, g.2.2.1, g.2.2.2.1⟩).symm
end Go.Proofs.Ytgciphmmfbgkeaa.Q
