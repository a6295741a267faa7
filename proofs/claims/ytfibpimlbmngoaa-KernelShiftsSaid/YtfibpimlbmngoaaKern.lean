/- The kernels' weights in plain numbers: what the program's and the reference's Weight compute. -/
import Derived.Test.YtfibpimlbmngoaaWrap
namespace Go.Proofs.Ytfibpimlbmngoaa.Q
open Go.RowKit Go.Proofs.YtfibpimlbmngoaaW.PrintWords Go.Proofs.YtfibpimlbmngoaaW.PrintLast Go.Proofs.YtfibpimlbmngoaaW.PrintMore
set_option linter.unusedVariables false
set_option linter.unusedSimpArgs false

def cubN (a : Int) : Int := 3 * (a * a * a) - 5 * 65536 * (a * a) + 562949953421312
def cubF (a : Int) : Int := -(a * a * a) + 5 * 65536 * (a * a) - 8 * 4294967296 * a + 1125899906842624
def mitN (a : Int) : Int := 21 * (a * a * a) - 36 * 65536 * (a * a) + 4503599627370496
def mitF (a : Int) : Int := -7 * (a * a * a) + 36 * 65536 * (a * a) - 60 * 4294967296 * a + 9007199254740992

theorem pow_bd {a : Int} (h0 : 0 ≤ a) (h1 : a < 131072) : 0 ≤ a * a ∧ a * a ≤ 17179869184 ∧ 0 ≤ a * a * a ∧ a * a * a ≤ 2251799813685248 := by
  have h2 := mul_bd (A := 131072) (B := 131072) (a := a) (b := a) (by omega) (by omega)
  have h3 := mul_bd (A := 17179869184) (B := 131072) (a := a * a) (b := a) (by omega) (by omega)
  have h4 : 0 ≤ a * a := Int.mul_nonneg h0 h0
  have h5 : 0 ≤ a * a * a := Int.mul_nonneg h4 h0
  omega

theorem cubic_n (k : Nat) {a : Int} (h0 : 0 ≤ a) (h1 : a < 131072) : kernel_cubic.f (k + 1) a 3 (-5) 0 2 2 = some (dv (cubN a) 8589934592) := by
  have hp := pow_bd h0 h1
  unfold kernel_cubic.f
  simp only [w_addl, w_addr, w_mull]
  rw [show ((3 * a + -5 * 65536) * a + 0 * 65536 * 65536) * a + 2 * 65536 * 65536 * 65536 = cubN a by unfold cubN; grind, w_in (n := cubN a) (by unfold cubN; omega) (by unfold cubN; omega), w_in (by decide) (by decide)]
  rw [div_pos k _ _ (by omega) (by unfold cubN; omega) (by unfold cubN; omega)]; rfl
theorem cubic_f (k : Nat) {a : Int} (h0 : 0 ≤ a) (h1 : a < 131072) : kernel_cubic.f (k + 1) a (-1) 5 (-8) 4 2 = some (dv (cubF a) 8589934592) := by
  have hp := pow_bd h0 h1
  unfold kernel_cubic.f
  simp only [w_addl, w_addr, w_mull]
  rw [show ((-1 * a + 5 * 65536) * a + -8 * 65536 * 65536) * a + 4 * 65536 * 65536 * 65536 = cubF a by unfold cubF; grind, w_in (n := cubF a) (by unfold cubF; omega) (by unfold cubF; omega), w_in (by decide) (by decide)]
  rw [div_pos k _ _ (by omega) (by unfold cubF; omega) (by unfold cubF; omega)]; rfl
theorem mitch_n (k : Nat) {a : Int} (h0 : 0 ≤ a) (h1 : a < 131072) : kernel_cubic.f (k + 1) a 21 (-36) 0 16 18 = some (dv (mitN a) 77309411328) := by
  have hp := pow_bd h0 h1
  unfold kernel_cubic.f
  simp only [w_addl, w_addr, w_mull]
  rw [show ((21 * a + -36 * 65536) * a + 0 * 65536 * 65536) * a + 16 * 65536 * 65536 * 65536 = mitN a by unfold mitN; grind, w_in (n := mitN a) (by unfold mitN; omega) (by unfold mitN; omega), w_in (by decide) (by decide)]
  rw [div_pos k _ _ (by omega) (by unfold mitN; omega) (by unfold mitN; omega)]; rfl
theorem mitch_f (k : Nat) {a : Int} (h0 : 0 ≤ a) (h1 : a < 131072) : kernel_cubic.f (k + 1) a (-7) 36 (-60) 32 18 = some (dv (mitF a) 77309411328) := by
  have hp := pow_bd h0 h1
  unfold kernel_cubic.f
  simp only [w_addl, w_addr, w_mull]
  rw [show ((-7 * a + 36 * 65536) * a + -60 * 65536 * 65536) * a + 32 * 65536 * 65536 * 65536 = mitF a by unfold mitF; grind, w_in (n := mitF a) (by unfold mitF; omega) (by unfold mitF; omega), w_in (by decide) (by decide)]
  rw [div_pos k _ _ (by omega) (by unfold mitF; omega) (by unfold mitF; omega)]; rfl

theorem rcubic (k : Nat) {a : Int} (h0 : 0 ≤ a) (h1 : a < 131072) : imageeditorref13_cubic.f (k + 1) a = some (if a < 65536 then dv (cubN a) 8589934592 else dv (cubF a) 8589934592) := by
  have hp := pow_bd h0 h1
  unfold imageeditorref13_cubic.f
  by_cases h : a < 65536
  · rw [if_pos h, if_pos h]
    simp only [w_addl, w_addr, w_mull, w_subl, w_subr, w_neg]
    rw [show 3 * a * a * a - 5 * a * a * 65536 + 562949953421312 = cubN a by unfold cubN; grind, w_in (n := cubN a) (by unfold cubN; omega) (by unfold cubN; omega)]
    rw [rdiv_pos k _ _ (by omega) (by unfold cubN; omega) (by unfold cubN; omega)]; rfl
  · rw [if_neg h, if_neg h]
    simp only [w_addl, w_addr, w_mull, w_subl, w_subr, w_neg]
    rw [show -a * a * a + 5 * a * a * 65536 - 8 * a * 65536 * 65536 + 1125899906842624 = cubF a by unfold cubF; grind, w_in (n := cubF a) (by unfold cubF; omega) (by unfold cubF; omega)]
    rw [rdiv_pos k _ _ (by omega) (by unfold cubF; omega) (by unfold cubF; omega)]; rfl
theorem rmitchell (k : Nat) {a : Int} (h0 : 0 ≤ a) (h1 : a < 131072) : imageeditorref13_mitchell.f (k + 1) a = some (if a < 65536 then dv (mitN a) 77309411328 else dv (mitF a) 77309411328) := by
  have hp := pow_bd h0 h1
  unfold imageeditorref13_mitchell.f
  by_cases h : a < 65536
  · rw [if_pos h, if_pos h]
    simp only [w_addl, w_addr, w_mull, w_subl, w_subr, w_neg]
    rw [show 21 * a * a * a - 36 * a * a * 65536 + 4503599627370496 = mitN a by unfold mitN; grind, w_in (n := mitN a) (by unfold mitN; omega) (by unfold mitN; omega)]
    rw [rdiv_pos k _ _ (by omega) (by unfold mitN; omega) (by unfold mitN; omega)]; rfl
  · rw [if_neg h, if_neg h]
    simp only [w_addl, w_addr, w_mull, w_subl, w_subr, w_neg]
    rw [show -7 * a * a * a + 36 * a * a * 65536 - 60 * a * 65536 * 65536 + 9007199254740992 = mitF a by unfold mitF; grind, w_in (n := mitF a) (by unfold mitF; omega) (by unfold mitF; omega)]
    rw [rdiv_pos k _ _ (by omega) (by unfold mitF; omega) (by unfold mitF; omega)]; rfl

def ab (t : Int) : Int := max t (-t)
/-- the weight of a kernel at a distance -/
def Wt (kind t : Int) : Int :=
  if t ≤ -131072 ∨ 131072 ≤ t then 0 else
  if kind = 0 then (if -32768 ≤ t ∧ t < 32768 then 65536 else 0) else
  if kind = 1 then max 0 (65536 - ab t) else
  if kind = 3 then (if ab t < 32768 then 65536 else if ab t = 32768 then 32768 else 0) else
  if kind = 2 then (if ab t < 65536 then dv (cubN (ab t)) 8589934592 else dv (cubF (ab t)) 8589934592) else
  if kind = 4 then (if ab t < 65536 then dv (mitN (ab t)) 77309411328 else dv (mitF (ab t)) 77309411328) else 0

theorem mx_ab {t : Int} (h1 : -131072 < t) (h2 : t < 131072) : mx t (wrap64 (-t)) = ab t := by
  rw [w_in (by omega) (by omega)]; unfold mx ab; split <;> omega

theorem weight_some (k : Nat) (kind t : Int) : kernel_Weight.f (k + 2) kind t = some (Wt kind t) := by
  unfold kernel_Weight.f Wt
  by_cases h1 : t ≤ -131072
  · rw [if_pos h1, if_pos (.inl h1)]; simp only [kernel_Weight.j0, if_true]
  by_cases h2 : t ≥ 131072
  · rw [if_neg h1, if_pos (.inr h2)]; simp only [kernel_Weight.j0, h2, decide_true, if_true]
  rw [if_neg h1, if_neg (by omega)]
  have ha0 : 0 ≤ ab t := by unfold ab; omega
  have ha1 : ab t < 131072 := by unfold ab; omega
  simp only [kernel_Weight.j0]
  rw [if_neg (by simp [h2]), mx_ab (by omega) (by omega), cubic_n k ha0 ha1, cubic_f k ha0 ha1, mitch_n k ha0 ha1, mitch_f k ha0 ha1]
  simp only [Option.bind_some]
  by_cases e0 : kind = 0
  · simp only [if_pos e0]
    by_cases p : t ≥ -32768
    · by_cases q : t < 32768
      · rw [if_pos p, if_pos q, if_pos ⟨p, q⟩]
      · rw [if_pos p, if_neg q, if_neg (by omega)]
    · rw [if_neg p, if_neg (by omega)]
  · simp only [if_neg e0]
    by_cases e1 : kind = 1
    · simp only [if_pos e1]; rw [w_in (by omega) (by omega)]; unfold mx; congr 1; split <;> omega
    · simp only [if_neg e1]
      by_cases e3 : kind = 3
      · simp only [if_pos e3]; split <;> (try split) <;> rfl
      · simp only [if_neg e3]
        by_cases e2 : kind = 2
        · simp only [if_pos e2]; split <;> rfl
        · simp only [if_neg e2]
          by_cases e4 : kind = 4
          · simp only [if_pos e4]; split <;> rfl
          · simp only [if_neg e4]

theorem rweight_some (k : Nat) (kind t : Int) : imageeditorref13_Weight.f (k + 2) kind t = some (Wt kind t) := by
  unfold imageeditorref13_Weight.f Wt
  by_cases h2 : t ≥ 131072
  · rw [if_pos h2, if_pos (.inr h2)]; simp only [imageeditorref13_Weight.j0, if_true]
  by_cases h1 : t ≤ -131072
  · rw [if_neg h2, if_pos (.inl h1)]; simp only [imageeditorref13_Weight.j0, h1, decide_true, if_true]
  rw [if_neg h2, if_neg (by omega)]
  have ha0 : 0 ≤ ab t := by unfold ab; omega
  have ha1 : ab t < 131072 := by unfold ab; omega
  simp only [imageeditorref13_Weight.j0]
  rw [if_neg (by simp [h1]), mx_ab (by omega) (by omega), rcubic k ha0 ha1, rmitchell k ha0 ha1]
  simp only [Option.bind_some]
  by_cases e0 : kind = 0
  · simp only [if_pos e0]
    by_cases p : t ≥ -32768
    · by_cases q : t < 32768
      · rw [if_pos p, if_pos q, if_pos ⟨p, q⟩]
      · rw [if_pos p, if_neg q, if_neg (by omega)]
    · rw [if_neg p, if_neg (by omega)]
  · simp only [if_neg e0]
    by_cases e1 : kind = 1
    · simp only [if_pos e1]; rw [w_in (by omega) (by omega)]; unfold mx; congr 1; split <;> omega
    · simp only [if_neg e1]
      by_cases e3 : kind = 3
      · simp only [if_pos e3]; split <;> (try split) <;> rfl
      · simp only [if_neg e3]
        by_cases e2 : kind = 2
        · simp only [if_pos e2]
        · simp only [if_neg e2]
          by_cases e4 : kind = 4
          · simp only [if_pos e4]
          · simp only [if_neg e4]

/-- how far a kernel reaches, for a valid kind -/
def sup (kind : Int) : Int := if kind = 2 ∨ kind = 4 then 2 else 1
theorem valid_some (kind : Int) : kernel_Valid.f kind = some (decide (0 ≤ kind ∧ kind ≤ 4)) := by
  unfold kernel_Valid.f; split <;> (congr 1; simp; omega)
theorem rvalid_some (kind : Int) : imageeditorref13_Valid.f kind = some (decide (0 ≤ kind ∧ kind ≤ 4)) := by
  unfold imageeditorref13_Valid.f; split <;> (congr 1; simp; omega)
theorem support_some (kind : Int) : kernel_Support.f kind = some (if 0 ≤ kind ∧ kind ≤ 4 then sup kind else 0) := by
  unfold kernel_Support.f sup
  rw [valid_some]; simp only [Option.bind_some]
  by_cases h : 0 ≤ kind ∧ kind ≤ 4
  · rw [if_pos (by simpa using h), if_pos h]
    by_cases h2 : kind = 2
    · rw [if_pos h2, if_pos (.inl h2)]
    · rw [if_neg h2]
      by_cases h4 : kind = 4
      · rw [if_pos h4, if_pos (.inr h4)]
      · rw [if_neg h4, if_neg (by omega)]
  · rw [if_neg (by simpa using h), if_neg h]
theorem rsupport_some (k : Nat) (kind : Int) : imageeditorref13_Support.f (k + 1) kind = some (if 0 ≤ kind ∧ kind ≤ 4 then sup kind else 0) := by
  unfold imageeditorref13_Support.f sup
  simp only [imageeditorref13_Support.j0]
  rw [rvalid_some]; simp only [Option.bind_some]
  by_cases h2 : kind = 2
  · rw [if_pos h2]; subst h2; rfl
  · rw [if_neg h2]
    by_cases h4 : kind = 4
    · subst h4; rfl
    · rw [if_neg (by simpa using h4)]
      by_cases h : 0 ≤ kind ∧ kind ≤ 4
      · rw [if_pos (by simpa using h), if_pos h, if_neg (by omega)]
      · rw [if_neg (by simpa using h), if_neg h]

/-- the chapter's examples -/
theorem ex_some : imageeditorlaw13_example.f 12 = some true := by decide +kernel
theorem ex_at (k : Nat) : imageeditorlaw13_example.f (k + 12) = some true := by
  induction k with
  | zero => exact ex_some
  | succ k ih => exact imageeditorlaw13_example.mono (k + 12) _ ih
end Go.Proofs.Ytfibpimlbmngoaa.Q
