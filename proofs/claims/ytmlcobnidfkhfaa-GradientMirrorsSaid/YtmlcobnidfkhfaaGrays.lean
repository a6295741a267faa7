/- The reference's check of a gradient with two stops: it is the check of kind, spread and parameters. -/
import Derived.Test.YtmlcobnidfkhfaaAwake
namespace Go.Proofs.Ytmlcobnidfkhfaa.Q
open Go.RowKit Go.Proofs.YtmlcobnidfkhfaaW.PrintWords Go.Proofs.YtmlcobnidfkhfaaW.PrintLast Go.Proofs.YtmlcobnidfkhfaaW.PrintMore
set_option linter.unusedVariables false
set_option linter.unusedSimpArgs false
def gr : List S47 := [⟨0, ⟨0, 0, 0, 65535⟩⟩, ⟨65535, ⟨65535, 65535, 65535, 65535⟩⟩]
theorem grays_some : imageeditorlaw18_grays.f = some gr := rfl
theorem grays_stops (k : Nat) : imageeditorref18_Stops.f (k + 20) gr = some 0 := by
  induction k with
  | zero => decide +kernel
  | succ k ih => exact imageeditorref18_Stops.mono _ (k + 20) _ ih
theorem rcheck_grays (k : Nat) (kind : Int) (l : List Int) (spread : Int) :
    (Kok kind spread ∧ Lok kind l ∧ Vok kind l ∧ imageeditorref18_Check.f (k + 20) kind l spread gr = some 0) ∨ (¬ (Kok kind spread ∧ Lok kind l ∧ Vok kind l) ∧ ∃ e, e ≠ 0 ∧ imageeditorref18_Check.f (k + 20) kind l spread gr = some e) := by
  unfold imageeditorref18_Check.f
  rcases head_some (k + 19) kind l spread with ⟨hK, hL, e⟩ | ⟨hK, hL, e⟩ | ⟨hK, e⟩
  · rw [show k + 20 = k + 19 + 1 by omega, e]; simp only [Option.bind_some]
    rw [if_pos trivial, if_neg (by decide), if_neg (by decide), show k + 19 + 1 = k + 15 + 5 by omega]
    rcases numbers_some (k + 15) kind l hL with ⟨hV, f⟩ | ⟨hV, f⟩
    · rw [f]; simp only [Option.bind_some]
      rw [if_pos trivial, show k + 15 + 5 = k + 20 by omega, grays_stops]
      exact .inl ⟨hK, hL, hV, rfl⟩
    · rw [f]; simp only [Option.bind_some]
      exact .inr ⟨fun g => hV g.2.2, 2, by omega, if_neg (by decide)⟩
  · rw [show k + 20 = k + 19 + 1 by omega, e]; simp only [Option.bind_some]
    exact .inr ⟨fun g => hL g.2.1, 1, by omega, if_neg (by decide)⟩
  · rw [show k + 20 = k + 19 + 1 by omega, e]; simp only [Option.bind_some]
    exact .inr ⟨fun g => hK g.1, 8, by omega, if_neg (by decide)⟩
theorem Place_ok (k : Nat) {kind : Int} {l : List Int} {spread : Int} (x y : Int) (hK : Kok kind spread) (hL : Lok kind l) (hV : Vok kind l) : gradient_Place.f (k + 90) kind l spread x y = some (pl kind l spread x y) := by
  rcases Place_some k kind l spread x y with ⟨_, _, _, h, _⟩ | ⟨h, _⟩
  · exact h
  · exact absurd ⟨hK, hL, hV⟩ h
end Go.Proofs.Ytmlcobnidfkhfaa.Q
