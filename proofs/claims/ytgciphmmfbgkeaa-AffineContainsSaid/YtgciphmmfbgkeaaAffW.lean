/- The guards of the statements: numbers within a bound. -/
import Derived.Test.YtgciphmmfbgkeaaAff
import Derived.Test.YtgciphmmfbgkeaaQ15
namespace Go.Proofs.Ytgciphmmfbgkeaa.Q
open Go.RowKit Go.Proofs.YtgciphmmfbgkeaaW.PrintWords Go.Proofs.YtgciphmmfbgkeaaW.PrintLast Go.Proofs.YtgciphmmfbgkeaaW.PrintMore
set_option linter.unusedVariables false
set_option linter.unusedSimpArgs false

/-! the guards of the statements -/
theorem within_l (n : Int) (l : List Int) (hn : 0 ≤ n ∧ n ≤ 9223372036854775807) (hl : l.length ≤ 100) (d : Nat) : ∀ (k : Nat) (i : Int), 0 ≤ i → i + d = l.length →
    imageeditorlaw12_within.l0 (k + d + 1) n l (l.length : Int) i = some true ∧ (∀ j : Int, i ≤ j → j < l.length → -n ≤ rd l j ∧ rd l j ≤ n) ∨
    imageeditorlaw12_within.l0 (k + d + 1) n l (l.length : Int) i = some false ∧ ¬ (∀ j : Int, i ≤ j → j < l.length → -n ≤ rd l j ∧ rd l j ≤ n) := by
  induction d with
  | zero =>
    intro k i h0 h1
    simp only [imageeditorlaw12_within.l0]
    rw [if_neg (by omega)]
    exact .inl ⟨rfl, fun j a b => by omega⟩
  | succ d ih =>
    intro k i h0 h1
    rw [show k + (d + 1) + 1 = k + d + 1 + 1 by omega, imageeditorlaw12_within.l0]
    rw [if_pos (by omega), if_pos h0, if_pos (by omega), w_in (n := -n) (by omega) (by omega), w_in (n := i + 1) (by omega) (by omega)]
    by_cases c1 : rd l i < -n
    · rw [if_pos c1]; exact .inr ⟨rfl, fun h => by have := h i (Int.le_refl _) (by omega); omega⟩
    rw [if_neg c1]
    by_cases c2 : rd l i > n
    · rw [if_pos c2]; exact .inr ⟨rfl, fun h => by have := h i (Int.le_refl _) (by omega); omega⟩
    rw [if_neg c2]
    rcases ih k (i + 1) (by omega) (by omega) with ⟨e, h⟩ | ⟨e, h⟩
    · refine .inl ⟨e, fun j a b => ?_⟩
      by_cases hj : j = i
      · subst hj; omega
      · exact h j (by omega) b
    · exact .inr ⟨e, fun g => h fun j a b => g j (by omega) b⟩
theorem within_two (k : Nat) (n a b : Int) (hn : 0 ≤ n ∧ n ≤ 9223372036854775807) : imageeditorlaw12_within.f (k + 3) n [a, b] = some (decide (-n ≤ a ∧ a ≤ n ∧ -n ≤ b ∧ b ≤ n)) := by
  unfold imageeditorlaw12_within.f
  rcases within_l n [a, b] hn (by simp) 2 k 0 (by omega) (by simp) with ⟨e, h⟩ | ⟨e, h⟩
  · refine e.trans ?_
    have h0 := h 0 (by omega) (by simp); have h1 := h 1 (by omega) (by simp)
    simp only [rd, Int.toNat_zero, Int.toNat_one, List.getD_cons_zero, List.getD_cons_succ] at h0 h1
    simp only [Option.some.injEq]; exact (decide_eq_true (by omega)).symm
  · refine e.trans ?_
    simp only [Option.some.injEq]; refine (decide_eq_false fun g => h fun j j0 j1 => ?_).symm
    have : j = 0 ∨ j = 1 := by simp at j1; omega
    rcases this with rfl | rfl
    · simp only [rd, Int.toNat_zero, List.getD_cons_zero]; omega
    · simp only [rd, Int.toNat_one, List.getD_cons_zero, List.getD_cons_succ]; omega
theorem within_four (k : Nat) (n a b c d : Int) (hn : 0 ≤ n ∧ n ≤ 9223372036854775807) : imageeditorlaw12_within.f (k + 5) n [a, b, c, d] = some (decide ((-n ≤ a ∧ a ≤ n) ∧ (-n ≤ b ∧ b ≤ n) ∧ (-n ≤ c ∧ c ≤ n) ∧ (-n ≤ d ∧ d ≤ n))) := by
  unfold imageeditorlaw12_within.f
  have t2 : (2 : Int).toNat = 2 := rfl
  have t3 : (3 : Int).toNat = 3 := rfl
  rcases within_l n [a, b, c, d] hn (by simp) 4 k 0 (by omega) (by simp) with ⟨e, h⟩ | ⟨e, h⟩
  · refine e.trans ?_
    have h0 := h 0 (by omega) (by simp); have h1 := h 1 (by omega) (by simp); have h2 := h 2 (by omega) (by simp); have h3 := h 3 (by omega) (by simp)
    simp only [rd, Int.toNat_zero, Int.toNat_one, t2, t3, List.getD_cons_zero, List.getD_cons_succ] at h0 h1 h2 h3
    simp only [Option.some.injEq]; exact (decide_eq_true (by omega)).symm
  · refine e.trans ?_
    simp only [Option.some.injEq]; refine (decide_eq_false fun g => h fun j j0 j1 => ?_).symm
    have : j = 0 ∨ j = 1 ∨ j = 2 ∨ j = 3 := by simp at j1; omega
    rcases this with rfl | rfl | rfl | rfl
    · simp only [rd, Int.toNat_zero, List.getD_cons_zero]; omega
    · simp only [rd, Int.toNat_one, List.getD_cons_zero, List.getD_cons_succ]; omega
    · simp only [rd, t2, List.getD_cons_zero, List.getD_cons_succ]; omega
    · simp only [rd, t3, List.getD_cons_zero, List.getD_cons_succ]; omega
end Go.Proofs.Ytgciphmmfbgkeaa.Q
