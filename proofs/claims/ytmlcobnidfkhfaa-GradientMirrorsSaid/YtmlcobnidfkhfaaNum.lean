/- Plain laws of the printed functions Floor, Div and Clamp, and of the reference's: for a positive divisor the quotients are the mathematical ones. -/
import Derived.Test.YtmlcobnidfkhfaaQ4
import Derived.Test.YtmlcobnidfkhfaaQ15
import Derived.Test.YtmlcobnidfkhfaaQ2
namespace Go.Proofs.Ytmlcobnidfkhfaa.Q
open Go.RowKit Go.Proofs.YtmlcobnidfkhfaaW.PrintWords Go.Proofs.YtmlcobnidfkhfaaW.PrintLast Go.Proofs.YtmlcobnidfkhfaaW.PrintMore
set_option linter.unusedVariables false
set_option linter.unusedSimpArgs false

theorem w_in {n : Int} (h1 : -9223372036854775808 ≤ n) (h2 : n ≤ 9223372036854775807) : wrap64 n = n := by unfold wrap64; omega
theorem wf_bd {n : Int} (h : (Lit.int .i64 n).wf = true) : -9223372036854775808 ≤ n ∧ n ≤ 9223372036854775807 := by
  simp only [Lit.wf, IntKind.min, IntKind.max, IntKind.signed, IntKind.bits, Bool.and_eq_true, decide_eq_true_eq, if_true] at h
  omega
theorem u_in {n : Int} (h1 : 0 ≤ n) (h2 : n ≤ 18446744073709551615) : IntKind.u64.wrap n = n := by
  have h : IntKind.u64.wrap n = n % 18446744073709551616 := rfl
  rw [h]; omega

theorem div_lo {a b : Int} (hb : 0 < b) (h1 : -9223372036854775808 ≤ a) : -9223372036854775808 ≤ a / b := by
  rw [Int.le_ediv_iff_mul_le hb]
  have : (-9223372036854775808) * b ≤ (-9223372036854775808) * 1 := Int.mul_le_mul_of_nonpos_left (by omega) (by omega)
  omega
theorem div_hi {a b : Int} (hb : 0 < b) (h2 : a ≤ 9223372036854775807) : a / b ≤ 9223372036854775807 := by
  have : a / b < 9223372036854775808 := by
    rw [Int.ediv_lt_iff_lt_mul hb]
    have : 9223372036854775808 * 1 ≤ 9223372036854775808 * b := Int.mul_le_mul_of_nonneg_left (by omega) (by omega)
    omega
  omega

theorem tdiv_pos {a b : Int} (h : 0 ≤ a ∨ Int.tmod a b = 0) : Int.tdiv a b = a / b := by
  rw [Int.tdiv_eq_ediv]
  rw [if_pos (by rcases h with h | h; exact .inl h; exact .inr (Int.dvd_of_tmod_eq_zero h))]; omega
theorem tdiv_neg {a b : Int} (hb : 0 < b) (h : a < 0) (h0 : ¬ Int.tmod a b = 0) : Int.tdiv a b = a / b + 1 := by
  rw [Int.tdiv_eq_ediv]
  rw [if_neg (by rintro (h | h); omega; exact h0 (Int.tmod_eq_zero_of_dvd h)), Int.sign_eq_one_of_pos hb]

theorem floor_pos (a b : Int) (hb : 0 < b) (h1 : -9223372036854775808 ≤ a) (h2 : a ≤ 9223372036854775807) : num_Floor.f a b = some (a / b) := by
  have l1 := div_lo hb h1; have l2 := div_hi hb h2
  unfold num_Floor.f
  rw [if_neg (by omega), if_neg (by omega)]
  by_cases h0 : Int.tmod a b = 0
  · rw [if_pos h0, tdiv_pos (.inr h0), w_in l1 l2]
  · rw [if_neg h0]
    by_cases ha : a < 0
    · rw [if_pos (by simp only [ha, decide_true, show ¬ b < 0 by omega, decide_false]; rfl), tdiv_neg hb ha h0]
      have : a / b < 0 := Int.ediv_neg_of_neg_of_pos ha hb
      rw [w_in (n := a / b + 1) (by omega) (by omega), Int.add_sub_cancel, w_in l1 l2]
    · rw [if_neg (by simp only [ha, show ¬ b < 0 by omega, decide_false]; decide), tdiv_pos (.inl (by omega)), w_in l1 l2]

/-- the quotient, rounded to the nearest, halves up -/
def dv (a b : Int) : Int := (2 * a + b) / (2 * b)

theorem dv_up {a b : Int} (hb : 0 < b) (h : a - a / b * b ≥ b - (a - a / b * b)) : dv a b = a / b + 1 := by
  have e := Int.mul_ediv_add_emod a b
  have m1 := Int.emod_nonneg a (show b ≠ 0 by omega); have m2 := Int.emod_lt_of_pos a hb
  rw [Int.mul_comm] at e
  generalize a / b = q at *
  unfold dv
  have hp : 0 < 2 * b := by omega
  apply Int.le_antisymm
  · have : (2 * a + b) / (2 * b) < q + 1 + 1 := by
      rw [Int.ediv_lt_iff_lt_mul hp, show (q + 1 + 1) * (2 * b) = 2 * (q * b) + 4 * b by grind]; omega
    omega
  · rw [Int.le_ediv_iff_mul_le hp, show (q + 1) * (2 * b) = 2 * (q * b) + 2 * b by grind]; omega
theorem dv_down {a b : Int} (hb : 0 < b) (h : ¬ a - a / b * b ≥ b - (a - a / b * b)) : dv a b = a / b := by
  have e := Int.mul_ediv_add_emod a b
  have m1 := Int.emod_nonneg a (show b ≠ 0 by omega); have m2 := Int.emod_lt_of_pos a hb
  rw [Int.mul_comm] at e
  generalize a / b = q at *
  unfold dv
  have hp : 0 < 2 * b := by omega
  apply Int.le_antisymm
  · have : (2 * a + b) / (2 * b) < q + 1 := by
      rw [Int.ediv_lt_iff_lt_mul hp, show (q + 1) * (2 * b) = 2 * (q * b) + 2 * b by grind]; omega
    omega
  · rw [Int.le_ediv_iff_mul_le hp, show q * (2 * b) = 2 * (q * b) by grind]; omega
/-- it is off by at most a half -/
theorem dv_near (a b : Int) (hb : 0 < b) : 2 * (dv a b * b) ≤ 2 * a + b ∧ 2 * a - b < 2 * (dv a b * b) := by
  have e := Int.mul_ediv_add_emod a b
  have m1 := Int.emod_nonneg a (show b ≠ 0 by omega); have m2 := Int.emod_lt_of_pos a hb
  rw [Int.mul_comm] at e
  by_cases h : a - a / b * b ≥ b - (a - a / b * b)
  · rw [dv_up hb h, show (a / b + 1) * b = a / b * b + b by grind]; omega
  · rw [dv_down hb h]; omega

theorem div_pos (k : Nat) (a b : Int) (hb : 0 < b) (h1 : -9223372036854775808 + b ≤ a) (h2 : a ≤ 9223372036854775807 - b) : num_Div.f (k + 1) a b = some (dv a b) := by
  have l1 := div_lo hb (show -9223372036854775808 ≤ a by omega); have l2 := div_hi hb (show a ≤ 9223372036854775807 by omega)
  have e := Int.mul_ediv_add_emod a b
  have m1 := Int.emod_nonneg a (show b ≠ 0 by omega); have m2 := Int.emod_lt_of_pos a hb
  have e' : a / b * b = b * (a / b) := Int.mul_comm _ _
  have hb1 : a / b + 1 ≤ 9223372036854775807 := by
    have : a / b < 9223372036854775807 := by
      rw [Int.ediv_lt_iff_lt_mul hb]
      have : 9223372036854775807 * 1 ≤ 9223372036854775807 * b := Int.mul_le_mul_of_nonneg_left (by omega) (by omega)
      omega
    omega
  unfold num_Div.f
  rw [floor_pos a b hb (by omega) (by omega)]; simp only [Option.bind_some]
  rw [if_neg (by omega), show (b == -1) = false from beq_eq_false_iff_ne.mpr (by omega)]
  simp only [num_Div.j0]
  rw [if_neg (by decide), if_pos hb, w_in (n := a / b * b) (by omega) (by omega), w_in (n := a - a / b * b) (by omega) (by omega), w_in (n := b - (a - a / b * b)) (by omega) (by omega)]
  by_cases h : a - a / b * b ≥ b - (a - a / b * b)
  · rw [if_pos h, w_in (by omega) (by omega), dv_up hb h]
  · rw [if_neg h, if_neg (by omega), dv_down hb h]

/-! a negative divisor: as the opposite of both -/
theorem floor_neg (a b : Int) (hb : b < -1) (h1 : -9223372036854775808 < a) (h2 : a ≤ 9223372036854775807) : num_Floor.f a b = some ((-a) / (-b)) := by
  have l1 := div_lo (show 0 < -b by omega) (show -9223372036854775808 ≤ -a by omega); have l2 := div_hi (show 0 < -b by omega) (show -a ≤ 9223372036854775807 by omega)
  have et : Int.tdiv a b = Int.tdiv (-a) (-b) := by rw [Int.tdiv_neg, Int.neg_tdiv, Int.neg_neg]
  have em : Int.tmod (-a) (-b) = - Int.tmod a b := by rw [Int.tmod_neg, Int.neg_tmod]
  unfold num_Floor.f
  rw [if_neg (by omega), if_neg (by omega)]
  by_cases h0 : Int.tmod a b = 0
  · rw [if_pos h0, et, tdiv_pos (.inr (by omega)), w_in l1 l2]
  · rw [if_neg h0]
    by_cases ha : a < 0
    · rw [if_neg (by simp only [ha, show b < 0 by omega, decide_true]; decide), et, tdiv_pos (.inl (by omega)), w_in l1 l2]
    · have : a ≠ 0 := by intro h; subst h; exact h0 (Int.zero_tmod _)
      rw [if_pos (by simp only [ha, show b < 0 by omega, decide_true, decide_false]; rfl), et, tdiv_neg (by omega) (by omega) (by omega)]
      have : (-a) / (-b) < 0 := Int.ediv_neg_of_neg_of_pos (by omega) (by omega)
      rw [w_in (n := (-a) / (-b) + 1) (by omega) (by omega), Int.add_sub_cancel, w_in l1 l2]
theorem div_neg (k : Nat) (a b : Int) (hb : b < -1) (h1 : -9223372036854775807 - b ≤ a) (h2 : a ≤ 9223372036854775807 + b) : num_Div.f (k + 1) a b = some (dv (-a) (-b)) := by
  have hb' : 0 < -b := by omega
  have l1 := div_lo hb' (show -9223372036854775808 ≤ -a by omega); have l2 := div_hi hb' (show -a ≤ 9223372036854775807 by omega)
  have e := Int.mul_ediv_add_emod (-a) (-b)
  have m1 := Int.emod_nonneg (-a) (show -b ≠ 0 by omega); have m2 := Int.emod_lt_of_pos (-a) hb'
  have e' : (-a) / (-b) * b = -(-b * ((-a) / (-b))) := by grind
  have e2 : (-a) / (-b) * (-b) = -b * ((-a) / (-b)) := by grind
  have hb1 : (-a) / (-b) + 1 ≤ 9223372036854775807 := by
    have : (-a) / (-b) < 9223372036854775807 := by
      rw [Int.ediv_lt_iff_lt_mul hb']
      have : 9223372036854775807 * 1 ≤ 9223372036854775807 * (-b) := Int.mul_le_mul_of_nonneg_left (by omega) (by omega)
      omega
    omega
  unfold num_Div.f
  rw [floor_neg a b hb (by omega) (by omega)]; simp only [Option.bind_some]
  rw [if_neg (by omega), show (b == -1) = false from beq_eq_false_iff_ne.mpr (by omega)]
  simp only [num_Div.j0]
  rw [if_neg (by decide), if_neg (by omega), if_pos (by omega), w_in (n := (-a) / (-b) * b) (by omega) (by omega), w_in (n := a - (-a) / (-b) * b) (by omega) (by omega), w_in (n := b - (a - (-a) / (-b) * b)) (by omega) (by omega)]
  by_cases h : a - (-a) / (-b) * b ≤ b - (a - (-a) / (-b) * b)
  · rw [if_pos h, w_in (by omega) (by omega), dv_up hb' (by omega)]
  · rw [if_neg h, dv_down hb' (by omega)]

theorem clamp_some (x lo hi : Int) : num_Clamp.f x lo hi = some (min hi (max x lo)) := by
  unfold num_Clamp.f mn mx; congr 1; split <;> split <;> omega

/-! the reference's -/
theorem rfloor_pos (k : Nat) (a b : Int) (hb : 0 < b) (h1 : -9223372036854775808 ≤ a) (h2 : a ≤ 9223372036854775807) : imageeditorref01_Floor.f (k + 1) a b = some (a / b) := by
  have l1 := div_lo hb h1; have l2 := div_hi hb h2
  have e : imageeditorref01_Floor.j0 (k + 1) a b false = some (a / b) := by
    simp only [imageeditorref01_Floor.j0]
    rw [if_neg (by decide), if_neg (by omega)]
    by_cases h0 : Int.tmod a b = 0
    · rw [if_pos h0, tdiv_pos (.inr h0), w_in l1 l2]
    · rw [if_neg h0]
      by_cases ha : a < 0
      · have hm : Int.tmod a b < 0 := by
          have h3 := Int.tmod_nonneg b (show 0 ≤ -a by omega)
          rw [Int.neg_tmod] at h3; omega
        rw [if_pos (by simp only [hm, decide_true, show ¬ b < 0 by omega, decide_false]; rfl), tdiv_neg hb ha h0]
        have : a / b < 0 := Int.ediv_neg_of_neg_of_pos ha hb
        rw [w_in (n := a / b + 1) (by omega) (by omega), Int.add_sub_cancel, w_in l1 l2]
      · have hm : ¬ Int.tmod a b < 0 := by have := Int.tmod_nonneg b (show 0 ≤ a by omega); omega
        rw [if_neg (by simp only [hm, show ¬ b < 0 by omega, decide_false]; decide), tdiv_pos (.inl (by omega)), w_in l1 l2]
  unfold imageeditorref01_Floor.f
  rw [if_neg (by omega), show (b == -1) = false from beq_eq_false_iff_ne.mpr (by omega), ite_self, e]
theorem rabs_some (a : Int) (h1 : -9223372036854775808 ≤ a) (h2 : a ≤ 9223372036854775807) : imageeditorref01_Abs.f a = some (max a (-a)) := by
  have hw : ∀ n : Int, IntKind.u64.wrap n = n % 18446744073709551616 := fun _ => rfl
  unfold imageeditorref01_Abs.f; simp only [hw]
  split <;> (congr 1; omega)
theorem rdiv_pos (k : Nat) (a b : Int) (hb : 0 < b) (h1 : -9223372036854775808 + b ≤ a) (h2 : a ≤ 9223372036854775807 - b) : imageeditorref01_Div.f (k + 1) a b = some (dv a b) := by
  have l1 := div_lo hb (show -9223372036854775808 ≤ a by omega); have l2 := div_hi hb (show a ≤ 9223372036854775807 by omega)
  have e := Int.mul_ediv_add_emod a b
  have m1 := Int.emod_nonneg a (show b ≠ 0 by omega); have m2 := Int.emod_lt_of_pos a hb
  have e' : a / b * b = b * (a / b) := Int.mul_comm _ _
  have hb1 : a / b + 1 ≤ 9223372036854775807 := by
    have : a / b < 9223372036854775807 := by
      rw [Int.ediv_lt_iff_lt_mul hb]
      have : 9223372036854775807 * 1 ≤ 9223372036854775807 * b := Int.mul_le_mul_of_nonneg_left (by omega) (by omega)
      omega
    omega
  have e2 : imageeditorref01_Div.j0 (k + 1) a b (a / b) false = some (dv a b) := by
    simp only [imageeditorref01_Div.j0]
    rw [if_neg (by decide), w_in (n := b * (a / b)) (by omega) (by omega), w_in (n := a - b * (a / b)) (by omega) (by omega), rabs_some _ (by omega) (by omega), rabs_some _ (by omega) (by omega)]
    simp only [Option.bind_some]
    rw [show max (a - b * (a / b)) (-(a - b * (a / b))) = a - a / b * b by omega, show max b (-b) = b by omega, u_in (n := b - (a - a / b * b)) (by omega) (by omega)]
    by_cases h : a - a / b * b ≥ b - (a - a / b * b)
    · rw [if_pos h, w_in (by omega) (by omega), dv_up hb h]
    · rw [if_neg h, dv_down hb h]
  unfold imageeditorref01_Div.f
  rw [if_neg (by omega), rfloor_pos k a b hb (by omega) (by omega)]; simp only [Option.bind_some]
  rw [show (b == -1) = false from beq_eq_false_iff_ne.mpr (by omega), ite_self, e2]
theorem rclamp_some (x lo hi : Int) : imageeditorref01_Clamp.f x lo hi = some (min hi (max x lo)) := by
  unfold imageeditorref01_Clamp.f mn mx; congr 1; split <;> split <;> omega
end Go.Proofs.Ytmlcobnidfkhfaa.Q
