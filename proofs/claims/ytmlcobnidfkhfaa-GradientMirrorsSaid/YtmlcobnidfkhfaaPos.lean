/- Positions in a gradient in plain numbers: the program's place and the reference's tell the same. -/
import Derived.Test.YtmlcobnidfkhfaaQ19
import Derived.Test.YtmlcobnidfkhfaaHypot
namespace Go.Proofs.Ytmlcobnidfkhfaa.Q
open Go.RowKit Go.Proofs.YtmlcobnidfkhfaaW.PrintWords Go.Proofs.YtmlcobnidfkhfaaW.PrintLast Go.Proofs.YtmlcobnidfkhfaaW.PrintMore
set_option linter.unusedVariables false
set_option linter.unusedSimpArgs false

/-- the root of a number -/
def hy (N : Int) : Int := (num_root.l0 64 0 N 0 4611686018427387904).getD 0
theorem hy_some (N : Int) (hN : 0 ≤ N ∧ N < 4611686018427387904) : 0 ≤ hy N ∧ hy N < 2147483648 ∧ ∀ (x y : Int), -1073741824 ≤ x ∧ x ≤ 1073741824 → -1073741824 ≤ y ∧ y ≤ 1073741824 → x * x + y * y = N → ∀ k, num_Hypot.f (k + 70) x y = some (hy N) ∧ imageeditorref01_Hypot.f (k + 70) x y = some (hy N) := by
  obtain ⟨R, r1, r2, r3, r4⟩ := root_at hN 0
  rw [show 0 + 62 + 2 = 64 by omega] at r1 r2
  have e : hy N = R := by unfold hy; rw [r1]; rfl
  rw [e]
  exact ⟨r3, sq_small r3 r4 hN.2, fun x y hx hy e k => ⟨hypot_1 hN (up1 64 r1) hx hy e k, hypot_2 hN (up2 64 r2) hx hy e k⟩⟩

/-- a quotient's bounds out of its numerator's -/
theorem dv_bd {a b M : Int} (hb : 0 < b) (hM : 0 ≤ M) (h : -M ≤ a ∧ a ≤ M) : -M - 1 ≤ dv a b ∧ dv a b ≤ M + 1 := by
  have n := dv_near a b hb
  have up : ∀ q : Int, M + 2 ≤ q → (M + 2) * b ≤ q * b := fun q hq => Int.mul_le_mul_of_nonneg_right hq (by omega)
  have lo : ∀ q : Int, q ≤ -M - 2 → q * b ≤ (-M - 2) * b := fun q hq => Int.mul_le_mul_of_nonneg_right hq (by omega)
  have e1 : (M + 2) * b = M * b + 2 * b := by grind
  have e2 : (-M - 2) * b = -(M * b) - 2 * b := by grind
  have m : M * 1 ≤ M * b := Int.mul_le_mul_of_nonneg_left (by omega) hM
  constructor
  · refine Int.not_lt.mp fun c => ?_
    have := lo (dv a b) (by omega); omega
  · refine Int.not_lt.mp fun c => ?_
    have := up (dv a b) (by omega); omega
theorem dv_unit {a b : Int} (hb : 0 < b) (h : 0 ≤ a ∧ a ≤ b * 65536) : 0 ≤ dv a b ∧ dv a b ≤ 65536 := by
  unfold dv
  constructor
  · exact Int.ediv_nonneg (by omega) (by omega)
  · have : (2 * a + b) / (2 * b) < 65537 := by rw [Int.ediv_lt_iff_lt_mul (by omega)]; omega
    omega

/-- the angle of a slope -/
def eg (z : Int) : Int := dv (z * (536870912 + 2848 * (65536 - z))) 4294967296
theorem eg_arg {z : Int} (h : 0 ≤ z ∧ z ≤ 65536) : 0 ≤ z * (536870912 + 2848 * (65536 - z)) ∧ z * (536870912 + 2848 * (65536 - z)) ≤ 65536 * 723517440 := by
  have m : z * (536870912 + 2848 * (65536 - z)) ≤ 65536 * 723517440 := Int.mul_le_mul (by omega) (by omega) (by omega) (by omega)
  exact ⟨Int.mul_nonneg (by omega) (by omega), m⟩
theorem eg_bd {z : Int} (h : 0 ≤ z ∧ z ≤ 65536) : 0 ≤ eg z ∧ eg z ≤ 16384 := by
  have a := eg_arg h
  unfold eg dv; omega
theorem eighth_some (k : Nat) {z : Int} (h : 0 ≤ z ∧ z ≤ 65536) : gradient_eighth.f (k + 1) z = some (eg z) ∧ imageeditorref18_eighth.f (k + 1) z = some (eg z) := by
  have a := eg_arg h
  unfold gradient_eighth.f imageeditorref18_eighth.f
  rw [w_in (n := 65536 - z) (by omega) (by omega), w_in (n := 2848 * (65536 - z)) (by omega) (by omega), w_in (n := 536870912 + 2848 * (65536 - z)) (by omega) (by omega), w_in (n := z * (536870912 + 2848 * (65536 - z))) (by omega) (by omega), div_pos k _ _ (by omega) (by omega) (by omega), rdiv_pos k _ _ (by omega) (by omega) (by omega)]
  exact ⟨rfl, rfl⟩

/-- the angle within a quarter -/
def qa (p q : Int) : Int := if p = 0 ∧ q = 0 then 0 else if p ≥ q then eg (dv (q * 65536) p) else 16384 - eg (dv (p * 65536) q)
/-- the angle of a vector -/
def ang (dx dy : Int) : Int :=
  if dx ≥ 0 then (if dy ≥ 0 then qa (max dx (-dx)) (max dy (-dy)) else Int.tmod (65536 - qa (max dx (-dx)) (max dy (-dy))) 65536)
  else (if dy ≥ 0 then 32768 - qa (max dx (-dx)) (max dy (-dy)) else 32768 + qa (max dx (-dx)) (max dy (-dy)))
def Sm (d : Int) : Prop := -17825800 ≤ d ∧ d ≤ 17825800
theorem qa_bd {p q : Int} (hp : 0 ≤ p) (hq : 0 ≤ q) : 0 ≤ qa p q ∧ qa p q ≤ 16384 := by
  unfold qa
  by_cases c : p = 0 ∧ q = 0
  · rw [if_pos c]; omega
  rw [if_neg c]
  by_cases d : p ≥ q
  · rw [if_pos d]; exact eg_bd (dv_unit (by omega) (by omega))
  · rw [if_neg d]; have := eg_bd (dv_unit (a := p * 65536) (b := q) (by omega) (by omega)); omega
theorem ang_bd (dx dy : Int) : 0 ≤ ang dx dy ∧ ang dx dy ≤ 65536 := by
  have := qa_bd (p := max dx (-dx)) (q := max dy (-dy)) (by omega) (by omega)
  unfold ang
  generalize qa (max dx (-dx)) (max dy (-dy)) = h at *
  split <;> split
  · omega
  · rw [Int.tmod_eq_emod_of_nonneg (by omega)]; omega
  · omega
  · omega
theorem angle_end (k : Nat) (dx dy h : Int) (hh : 0 ≤ h ∧ h ≤ 16384) : gradient_angle.j1 (k + 3) dx dy h = some (if dx ≥ 0 then (if dy ≥ 0 then h else Int.tmod (65536 - h) 65536) else (if dy ≥ 0 then 32768 - h else 32768 + h)) ∧ imageeditorref18_Angle.j2 (k + 3) dx dy h = some (if dx ≥ 0 then (if dy ≥ 0 then h else Int.tmod (65536 - h) 65536) else (if dy ≥ 0 then 32768 - h else 32768 + h)) := by
  simp only [gradient_angle.j1, gradient_angle.j2, gradient_angle.j3, imageeditorref18_Angle.j2, imageeditorref18_Angle.j3]
  rw [w_in (n := 32768 - h) (by omega) (by omega), w_in (n := 32768 + h) (by omega) (by omega), w_in (n := 65536 - h) (by omega) (by omega)]
  by_cases c : 0 ≤ dx <;> by_cases d : 0 ≤ dy
  · simp [c, d, show ¬ dx < 0 by omega, show ¬ dy < 0 by omega]
  · simp [c, d, show ¬ dx < 0 by omega, show dy < 0 by omega]
  · simp [c, d, show dx < 0 by omega, show ¬ dy < 0 by omega]
  · simp [c, d, show dx < 0 by omega, show dy < 0 by omega]
theorem angle_some (k : Nat) {dx dy : Int} (hx : Sm dx) (hy : Sm dy) : gradient_angle.f (k + 10) dx dy = some (ang dx dy) ∧ imageeditorref18_Angle.f (k + 10) dx dy = some (ang dx dy) := by
  unfold Sm at hx hy
  have hb := qa_bd (p := max dx (-dx)) (q := max dy (-dy)) (by omega) (by omega)
  have e := fun k => angle_end k dx dy (qa (max dx (-dx)) (max dy (-dy))) hb
  have hp : 0 ≤ max dx (-dx) ∧ max dx (-dx) ≤ 17825800 := by omega
  have hq : 0 ≤ max dy (-dy) ∧ max dy (-dy) ≤ 17825800 := by omega
  unfold gradient_angle.f imageeditorref18_Angle.f
  rw [abs_some dx (by omega), abs_some dy (by omega), rabs_some' dx (by omega), rabs_some' dy (by omega)]
  simp only [Option.bind_some]
  have fin : ∀ r, qa (max dx (-dx)) (max dy (-dy)) = r → (gradient_angle.j0 (k + 10) dx dy (max dx (-dx)) (max dy (-dy)) 0 (max dx (-dx) == 0 && max dy (-dy) == 0) = gradient_angle.j1 (k + 9) dx dy r) → (imageeditorref18_Angle.j0 (k + 10) dx dy (max dx (-dx)) (max dy (-dy)) 0 (decide (max dx (-dx) ≥ max dy (-dy)) && decide (max dx (-dx) > 0)) = imageeditorref18_Angle.j2 (k + 8) dx dy r) →
      gradient_angle.j0 (k + 10) dx dy (max dx (-dx)) (max dy (-dy)) 0 (max dx (-dx) == 0 && max dy (-dy) == 0) = some (ang dx dy) ∧ imageeditorref18_Angle.j0 (k + 10) dx dy (max dx (-dx)) (max dy (-dy)) 0 (decide (max dx (-dx) ≥ max dy (-dy)) && decide (max dx (-dx) > 0)) = some (ang dx dy) := by
    intro r hr h1 h2
    rw [h1, h2, ← hr]
    exact ⟨(e (k + 6)).1, (e (k + 5)).2⟩
  have goal : gradient_angle.j0 (k + 10) dx dy (max dx (-dx)) (max dy (-dy)) 0 (max dx (-dx) == 0 && max dy (-dy) == 0) = some (ang dx dy) ∧ imageeditorref18_Angle.j0 (k + 10) dx dy (max dx (-dx)) (max dy (-dy)) 0 (decide (max dx (-dx) ≥ max dy (-dy)) && decide (max dx (-dx) > 0)) = some (ang dx dy) := by
    generalize max dx (-dx) = p at *
    generalize max dy (-dy) = q at *
    refine fin _ rfl ?_ ?_
    · rw [gradient_angle.j0]
      unfold qa
      by_cases c : p = 0 ∧ q = 0
      · rw [if_pos c, if_pos (by simp [c.1, c.2])]
      rw [if_neg c, if_neg (by simpa using c)]
      by_cases d : p ≥ q
      · rw [if_pos d, if_pos d, w_in (n := q * 65536) (by omega) (by omega), div_pos (k + 8) _ _ (by omega) (by omega) (by omega)]
        simp only [Option.bind_some]
        rw [(eighth_some (k + 8) (dv_unit (a := q * 65536) (b := p) (by omega) (by omega))).1]; rfl
      · rw [if_neg d, if_neg d, w_in (n := p * 65536) (by omega) (by omega), div_pos (k + 8) _ _ (by omega) (by omega) (by omega)]
        simp only [Option.bind_some]
        have u := dv_unit (a := p * 65536) (b := q) (by omega) (by omega)
        have v := eg_bd u
        rw [(eighth_some (k + 8) u).1]
        simp only [Option.bind_some]
        rw [w_in (n := 16384 - _) (by omega) (by omega)]
    · rw [imageeditorref18_Angle.j0]
      unfold qa
      by_cases c : p = 0 ∧ q = 0
      · rw [if_pos c, if_neg (by simp [c.1]), imageeditorref18_Angle.j1, if_neg (by omega)]
      rw [if_neg c]
      by_cases d : p ≥ q
      · rw [if_pos d, if_pos (by simp only [d, show p > 0 by omega, decide_true]; rfl), w_in (n := q * 65536) (by omega) (by omega), rdiv_pos (k + 8) _ _ (by omega) (by omega) (by omega)]
        simp only [Option.bind_some]
        rw [(eighth_some (k + 8) (dv_unit (a := q * 65536) (b := p) (by omega) (by omega))).2]
        simp only [Option.bind_some]
        rw [imageeditorref18_Angle.j1, if_neg (by omega)]
      · rw [if_neg d, if_neg (by simp [d]), imageeditorref18_Angle.j1, if_pos (by omega), w_in (n := p * 65536) (by omega) (by omega), rdiv_pos (k + 7) _ _ (by omega) (by omega) (by omega)]
        simp only [Option.bind_some]
        have u := dv_unit (a := p * 65536) (b := q) (by omega) (by omega)
        have v := eg_bd u
        rw [(eighth_some (k + 7) u).2]
        simp only [Option.bind_some]
        rw [w_in (n := 16384 - _) (by omega) (by omega)]
  have s1 : (if max dx (-dx) = 0 then gradient_angle.j0 (k + 10) dx dy (max dx (-dx)) (max dy (-dy)) 0 (max dy (-dy) == 0) else gradient_angle.j0 (k + 10) dx dy (max dx (-dx)) (max dy (-dy)) 0 false) = gradient_angle.j0 (k + 10) dx dy (max dx (-dx)) (max dy (-dy)) 0 (max dx (-dx) == 0 && max dy (-dy) == 0) := by
    by_cases c : max dx (-dx) = 0
    · rw [if_pos c, c]; rfl
    · rw [if_neg c, show (max dx (-dx) == 0) = false from beq_eq_false_iff_ne.mpr c]; rfl
  have s2 : (if max dx (-dx) ≥ max dy (-dy) then imageeditorref18_Angle.j0 (k + 10) dx dy (max dx (-dx)) (max dy (-dy)) 0 (decide (max dx (-dx) > 0)) else imageeditorref18_Angle.j0 (k + 10) dx dy (max dx (-dx)) (max dy (-dy)) 0 false) = imageeditorref18_Angle.j0 (k + 10) dx dy (max dx (-dx)) (max dy (-dy)) 0 (decide (max dx (-dx) ≥ max dy (-dy)) && decide (max dx (-dx) > 0)) := by
    by_cases c : max dx (-dx) ≥ max dy (-dy)
    · rw [if_pos c, decide_eq_true c]; rfl
    · rw [if_neg c, decide_eq_false c]; rfl
  rw [s1, s2]; exact goal
end Go.Proofs.Ytmlcobnidfkhfaa.Q
