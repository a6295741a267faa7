/- Moduli, absolute values, quotients by zero: the program's are the reference's. -/
import Derived.Test.YtmlcobnidfkhfaaQ18
import Derived.Test.YtmlcobnidfkhfaaPlace
namespace Go.Proofs.Ytmlcobnidfkhfaa.Q
open Go.RowKit Go.Proofs.YtmlcobnidfkhfaaW.PrintWords Go.Proofs.YtmlcobnidfkhfaaW.PrintLast Go.Proofs.YtmlcobnidfkhfaaW.PrintMore
set_option linter.unusedVariables false
set_option linter.unusedSimpArgs false

theorem w_bd (n : Int) : -9223372036854775808 ≤ wrap64 n ∧ wrap64 n ≤ 9223372036854775807 := by unfold wrap64; omega
theorem mx_max (a b : Int) : mx a b = max a b := by unfold mx; split <;> omega
theorem modulo_some (x n : Int) (hn : 0 < n ∧ n ≤ 1000000) (hx : -9223372036854775808 ≤ x ∧ x ≤ 9223372036854775807) : gradient_modulo.f x n = some (x % n) := by
  have e := Int.mul_ediv_add_emod x n
  have m1 := Int.emod_nonneg x (show n ≠ 0 by omega); have m2 := Int.emod_lt_of_pos x hn.1
  have e2 : x / n * n = n * (x / n) := Int.mul_comm _ _
  unfold gradient_modulo.f
  rw [floor_pos x n hn.1 hx.1 hx.2]
  simp only [Option.bind_some]
  rw [w_subr, e2, w_in (by omega) (by omega)]
  congr 1; omega
theorem mod_some (k : Nat) (x n : Int) (hn : 0 < n ∧ n ≤ 1000000) (hx : -9223372036854775808 ≤ x ∧ x ≤ 9223372036854775807) : imageeditorref18_mod.f (k + 1) x n = some (x % n) := by
  have e := Int.mul_ediv_add_emod x n
  have m1 := Int.emod_nonneg x (show n ≠ 0 by omega); have m2 := Int.emod_lt_of_pos x hn.1
  unfold imageeditorref18_mod.f
  rw [rfloor_pos k x n hn.1 hx.1 hx.2]
  simp only [Option.bind_some]
  rw [w_subr, w_in (by omega) (by omega)]
  congr 1; omega
theorem abs_some (x : Int) (hx : -9223372036854775807 ≤ x ∧ x ≤ 9223372036854775807) : gradient_abs.f x = some (max x (-x)) := by
  unfold gradient_abs.f
  rw [w_in (n := -x) (by omega) (by omega), mx_max]
theorem rabs_some' (x : Int) (hx : -9223372036854775807 ≤ x ∧ x ≤ 9223372036854775807) : imageeditorref18_abs.f x = some (max x (-x)) := by
  unfold imageeditorref18_abs.f
  by_cases c : x < 0
  · rw [if_pos c, w_in (n := -x) (by omega) (by omega)]; congr 1; omega
  · rw [if_neg c]; congr 1; omega
theorem div_zero (k : Nat) (a : Int) : num_Div.f (k + 1) a 0 = some 0 := by
  unfold num_Div.f num_Floor.f
  simp [num_Div.j0]
theorem rdiv_zero (k : Nat) (a : Int) : imageeditorref01_Div.f (k + 1) a 0 = some 0 := by
  unfold imageeditorref01_Div.f
  simp
end Go.Proofs.Ytmlcobnidfkhfaa.Q
