/- AffineThens: Then is the reference's, for every two transforms. No condition. -/
import Derived.Test.YtgciphmmfbgkeaaAff
import Derived.Test.YtgciphmmfbgkeaaQ15t
namespace Go.Proofs.Ytgciphmmfbgkeaa.Pure
open Go.RowKit Go.Proofs.Ytgciphmmfbgkeaa.Q Go.Proofs.YtgciphmmfbgkeaaW.PrintWords Go.Proofs.YtgciphmmfbgkeaaW.PrintLast
set_option linter.unusedVariables false
set_option linter.unusedSimpArgs false

theorem rthen_some (k : Nat) (a b c d e f a' b' c' d' e' f' : Int) : imageeditorref12_Then.f (k + 1) a b c d e f a' b' c' d' e' f' =
    some (thx a' a c' b, thx b' a d' b, thx a' c c' d, thx b' c d' d, apx a' c' e' e f, apx b' d' f' e f) := by
  have g : ∀ m x n y : Int, imageeditorref12_line.f (k + 1) (coef m) (coef n) (coef x) (coef y) = some (dv (coef m * coef x + coef n * coef y) 65536) := fun m x n y => by
    have h1 := coef_bd m; have h2 := coef_bd x; have h3 := coef_bd n; have h4 := coef_bd y
    exact line_some k h1 h3 (by omega) (by omega)
  unfold imageeditorref12_Then.f
  rw [rlimit_some, rlimit_some]
  simp only [Option.bind_some]
  rw [rapply_some, apx_lim, apx_lim, g, g, g, g]
  simp only [Option.bind_some, rcoef_some]
  rfl

theorem AffineThens (a b c d e f a' b' c' d' e' f' : Int) : imageeditorlaw12_AffineThens.f 12 a b c d e f a' b' c' d' e' f' = some true := by
  unfold imageeditorlaw12_AffineThens.f
  rw [then_some 11, rthen_some 11, ex_some]
  simp
end Go.Proofs.Ytgciphmmfbgkeaa.Pure
