/- Positions in a gradient in plain numbers: along and place, the program's and the reference's. -/
import Derived.Test.YtmlcobnidfkhfaaQ8
import Derived.Test.YtmlcobnidfkhfaaQ20
import Derived.Test.YtmlcobnidfkhfaaPos
namespace Go.Proofs.Ytmlcobnidfkhfaa.Q
open Go.RowKit Go.Proofs.YtmlcobnidfkhfaaW.PrintWords Go.Proofs.YtmlcobnidfkhfaaW.PrintLast Go.Proofs.YtmlcobnidfkhfaaW.PrintMore
set_option linter.unusedVariables false
set_option linter.unusedSimpArgs false

/-- the position before the spread: of a kind, the third parameter, the vector from the first point, the vector between the points -/
def al (kind l2 dx dy vx vy : Int) : Int :=
  if kind = 1 then (if vx * vx + vy * vy = 0 then 0 else dv (65535 * (dx * vx + dy * vy)) (vx * vx + vy * vy))
  else if kind = 3 then (ang dx dy - l2) % 65536
  else if l2 = 0 then 65535
  else if kind = 4 then dv (65535 * (max dx (-dx) + max dy (-dy))) l2
  else dv (65535 * hy (256 * (dx * dx + dy * dy))) (16 * l2)
theorem sq_nn (x : Int) : 0 ≤ x * x := by
  rcases Int.le_total 0 x with c | c
  · exact Int.mul_nonneg c c
  · exact Int.mul_nonneg_of_nonpos_of_nonpos c c
theorem rd_rg {l : List Int} (v : Rg l 0) {i : Int} (h0 : 0 ≤ i) (h : i < l.length) : -1048576 ≤ rd l i ∧ rd l i ≤ 1048576 := v i h0 h
theorem along_some (k : Nat) (kind : Int) (l : List Int) (dx dy : Int) (hk : 1 ≤ kind ∧ kind ≤ 4) (hL : Lok kind l) (hV : Vok kind l) (hx : Sm dx) (hdy : Sm dy) :
    gradient_along.f (k + 80) kind l dx dy = some (al kind (rd l 2) dx dy (rd l 2 - rd l 0) (rd l 3 - rd l 1)) ∧ (∀ x y, wrap64 (wrap64 (wrap64 (16 * x) + 8) - rd l 0) = dx → wrap64 (wrap64 (wrap64 (16 * y) + 8) - rd l 1) = dy → imageeditorref18_plain.f (k + 80) kind l x y = some (al kind (rd l 2) dx dy (rd l 2 - rd l 0) (rd l 3 - rd l 1))) ∧ -9000000000000000000 ≤ al kind (rd l 2) dx dy (rd l 2 - rd l 0) (rd l 3 - rd l 1) ∧ al kind (rd l 2) dx dy (rd l 2 - rd l 0) (rd l 3 - rd l 1) ≤ 9000000000000000000 := by
  have hl : 3 ≤ (l.length : Int) := by
    by_cases h : kind = 1
    · have := hL.1 h; omega
    · have := hL.2 h; omega
  have r0 := rd_rg hV.1 (i := 0) (by omega) (by omega)
  have r1 := rd_rg hV.1 (i := 1) (by omega) (by omega)
  have r2 := rd_rg hV.1 (i := 2) (by omega) (by omega)
  have hn := hV.2
  unfold Sm at hx hdy
  unfold gradient_along.f al
  by_cases k1 : kind = 1
  · have l4 := hL.1 k1
    have r3 := rd_rg hV.1 (i := 3) (by omega) (by omega)
    simp only [if_pos k1]
    rw [if_pos (by omega), if_pos (by omega), if_pos (by omega), if_pos (by omega)]
    generalize hvx : rd l 2 - rd l 0 = vx at *
    generalize hvy : rd l 3 - rd l 1 = vy at *
    have p1 := mul_bd (A := 17825800) (B := 2097152) (a := dx) (b := vx) (by omega) (by omega)
    have p2 := mul_bd (A := 17825800) (B := 2097152) (a := dy) (b := vy) (by omega) (by omega)
    have p3 := mul_bd (A := 2097152) (B := 2097152) (a := vx) (b := vx) (by omega) (by omega)
    have p4 := mul_bd (A := 2097152) (B := 2097152) (a := vy) (b := vy) (by omega) (by omega)
    have q3 := sq_nn vx; have q4 := sq_nn vy
    have num : wrap64 (65535 * wrap64 (wrap64 (dx * wrap64 vx) + wrap64 (dy * wrap64 vy))) = 65535 * (dx * vx + dy * vy) := by
      rw [w_in (n := vx) (by omega) (by omega), w_in (n := vy) (by omega) (by omega), w_in (n := dx * vx) (by omega) (by omega), w_in (n := dy * vy) (by omega) (by omega), w_in (n := dx * vx + dy * vy) (by omega) (by omega), w_in (by omega) (by omega)]
    have den : wrap64 (wrap64 (wrap64 vx * wrap64 vx) + wrap64 (wrap64 vy * wrap64 vy)) = vx * vx + vy * vy := by
      rw [w_in (n := vx) (by omega) (by omega), w_in (n := vy) (by omega) (by omega), w_in (n := vx * vx) (by omega) (by omega), w_in (n := vy * vy) (by omega) (by omega), w_in (by omega) (by omega)]
    rw [num, den]
    generalize dx * vx = P1 at *
    generalize dy * vy = P2 at *
    have res : (num_Div.f (k + 80) (65535 * (P1 + P2)) (vx * vx + vy * vy)).bind (fun t157 => some t157) = some (if vx * vx + vy * vy = 0 then 0 else dv (65535 * (P1 + P2)) (vx * vx + vy * vy)) ∧ (imageeditorref01_Div.f (k + 80) (65535 * (P1 + P2)) (vx * vx + vy * vy)).bind (fun t157 => some t157) = some (if vx * vx + vy * vy = 0 then 0 else dv (65535 * (P1 + P2)) (vx * vx + vy * vy)) ∧ -9000000000000000000 ≤ (if vx * vx + vy * vy = 0 then 0 else dv (65535 * (P1 + P2)) (vx * vx + vy * vy)) ∧ (if vx * vx + vy * vy = 0 then 0 else dv (65535 * (P1 + P2)) (vx * vx + vy * vy)) ≤ 9000000000000000000 := by
      generalize vx * vx = P3 at *
      generalize vy * vy = P4 at *
      by_cases z : P3 + P4 = 0
      · simp only [if_pos z]; rw [z, div_zero, rdiv_zero]; exact ⟨rfl, rfl, by omega, by omega⟩
      · simp only [if_neg z]
        rw [div_pos _ _ _ (by omega) (by omega) (by omega), rdiv_pos _ _ _ (by omega) (by omega) (by omega)]
        have b := dv_bd (a := 65535 * (P1 + P2)) (b := P3 + P4) (M := 8999999999999999990) (by omega) (by omega) (by omega)
        exact ⟨rfl, rfl, by omega, by omega⟩
    refine ⟨res.1, fun x y ex ey => ?_, res.2.2⟩
    unfold imageeditorref18_plain.f
    rw [if_pos (by omega), if_pos (by omega), if_pos k1, if_pos (by omega), if_pos (by omega), ex, ey, hvx, hvy, num, den]
    exact res.2.1
  simp only [if_neg k1]
  by_cases k3 : kind = 3
  · simp only [if_pos k3]
    have ab := ang_bd dx dy
    rw [(angle_some (k + 70) hx hdy).1]; simp only [Option.bind_some]
    rw [if_pos (by omega), w_in (n := ang dx dy - rd l 2) (by omega) (by omega), modulo_some _ _ (by omega) (by omega)]
    refine ⟨rfl, fun x y ex ey => ?_, by omega, by omega⟩
    unfold imageeditorref18_plain.f
    rw [if_pos (by omega), if_pos (by omega), if_neg k1, if_neg (by omega), if_pos k3, ex, ey, (angle_some (k + 70) hx hdy).2]
    simp only [Option.bind_some]
    rw [if_pos (by omega), w_in (n := ang dx dy - rd l 2) (by omega) (by omega), mod_some (k + 79) _ _ (by omega) (by omega)]; rfl
  simp only [if_neg k3]
  rw [if_pos (by omega)]
  have hp : ¬ rd l 2 < 0 := fun h => hn ⟨by omega, h⟩
  by_cases z : rd l 2 = 0
  · simp only [if_pos z]
    refine ⟨trivial, fun x y ex ey => ?_, by omega, by omega⟩
    unfold imageeditorref18_plain.f
    rw [if_pos (by omega), if_pos (by omega), if_neg k1]
    by_cases k2 : kind = 2
    · rw [if_pos k2, if_pos (by omega), if_pos z]
    · rw [if_neg k2, if_neg k3, if_pos (by omega), if_pos z]
  simp only [if_neg z]
  by_cases k4 : kind = 4
  · simp only [if_pos k4]
    rw [abs_some dx (by omega), abs_some dy (by omega)]; simp only [Option.bind_some]
    rw [w_in (n := max dx (-dx) + max dy (-dy)) (by omega) (by omega), w_in (by omega) (by omega), div_pos _ _ _ (by omega) (by omega) (by omega)]
    have b := dv_bd (a := 65535 * (max dx (-dx) + max dy (-dy))) (b := rd l 2) (M := 8999999999999999990) (by omega) (by omega) (by omega)
    refine ⟨rfl, fun x y ex ey => ?_, by omega, by omega⟩
    unfold imageeditorref18_plain.f
    rw [if_pos (by omega), if_pos (by omega), if_neg k1, if_neg (by omega), if_neg k3, if_pos (by omega), if_neg z, ex, ey, rabs_some' dx (by omega), rabs_some' dy (by omega)]; simp only [Option.bind_some]
    rw [w_in (n := max dx (-dx) + max dy (-dy)) (by omega) (by omega), w_in (by omega) (by omega), rdiv_pos _ _ _ (by omega) (by omega) (by omega)]; rfl
  · simp only [if_neg k4]
    have p3 := mul_bd (A := 17825800) (B := 17825800) (a := dx) (b := dx) (by omega) (by omega)
    have p4 := mul_bd (A := 17825800) (B := 17825800) (a := dy) (b := dy) (by omega) (by omega)
    have q3 := sq_nn dx; have q4 := sq_nn dy
    obtain ⟨h0, h1, h2⟩ := hy_some (256 * (dx * dx + dy * dy)) (by omega)
    have e := h2 (16 * dx) (16 * dy) (by omega) (by omega) (by grind) (k + 10)
    have e80 : k + 80 = k + 10 + 70 := by omega
    rw [w_in (n := 16 * dx) (by omega) (by omega), w_in (n := 16 * dy) (by omega) (by omega), e80, e.1]; simp only [Option.bind_some]
    generalize hy (256 * (dx * dx + dy * dy)) = R at *
    rw [w_in (n := 65535 * R) (by omega) (by omega), w_in (n := 16 * rd l 2) (by omega) (by omega), div_pos _ _ _ (by omega) (by omega) (by omega)]
    have b := dv_bd (a := 65535 * R) (b := 16 * rd l 2) (M := 8999999999999999990) (by omega) (by omega) (by omega)
    refine ⟨rfl, fun x y ex ey => ?_, by omega, by omega⟩
    unfold imageeditorref18_plain.f
    rw [if_pos (by omega), if_pos (by omega), if_neg k1, if_pos (by omega), if_pos (by omega), if_neg z, ex, ey, w_in (n := 16 * dx) (by omega) (by omega), w_in (n := 16 * dy) (by omega) (by omega), e.2]; simp only [Option.bind_some]
    rw [w_in (n := 65535 * R) (by omega) (by omega), w_in (n := 16 * rd l 2) (by omega) (by omega), rdiv_pos _ _ _ (by omega) (by omega) (by omega)]; rfl

/-- the spread -/
def sp (spread t : Int) : Int := if spread = 1 then t % 65536 else if spread = 2 then (if t % 131072 > 65535 then 131071 - t % 131072 else t % 131072) else min 65535 (max t 0)
theorem sp_bd (spread t : Int) : 0 ≤ sp spread t ∧ sp spread t ≤ 65535 := by
  unfold sp; split
  · omega
  · split
    · split <;> omega
    · omega
def cl (x : Int) : Int := min 1048576 (max x (-1048576))
/-- the position of a pixel -/
def pl (kind : Int) (l : List Int) (spread x y : Int) : Int := sp spread (al kind (rd l 2) (16 * cl x + 8 - rd l 0) (16 * cl y + 8 - rd l 1) (rd l 2 - rd l 0) (rd l 3 - rd l 1))
theorem place_some (k : Nat) (kind : Int) (l : List Int) (spread x y : Int) (hK : Kok kind spread) (hL : Lok kind l) (hV : Vok kind l) :
    gradient_place.f (k + 80) kind l spread x y = some (pl kind l spread x y) ∧ imageeditorref18_Place.j0 (k + 81) kind l spread x y false = some (pl kind l spread x y) := by
  have hl : 3 ≤ (l.length : Int) := by
    by_cases h : kind = 1
    · have := hL.1 h; omega
    · have := hL.2 h; omega
  have r0 := rd_rg hV.1 (i := 0) (by omega) (by omega)
  have r1 := rd_rg hV.1 (i := 1) (by omega) (by omega)
  have cx : -1048576 ≤ cl x ∧ cl x ≤ 1048576 := by unfold cl; omega
  have cy : -1048576 ≤ cl y ∧ cl y ≤ 1048576 := by unfold cl; omega
  unfold Kok at hK
  obtain ⟨a1, a2, a3, a4⟩ := along_some k kind l (16 * cl x + 8 - rd l 0) (16 * cl y + 8 - rd l 1) (by omega) hL hV (show -17825800 ≤ _ ∧ _ from by omega) (show -17825800 ≤ _ ∧ _ from by omega)
  have ex : wrap64 (wrap64 (wrap64 (16 * cl x) + 8) - rd l 0) = 16 * cl x + 8 - rd l 0 := by
    rw [w_in (n := 16 * cl x) (by omega) (by omega), w_in (n := 16 * cl x + 8) (by omega) (by omega), w_in (by omega) (by omega)]
  have ey : wrap64 (wrap64 (wrap64 (16 * cl y) + 8) - rd l 1) = 16 * cl y + 8 - rd l 1 := by
    rw [w_in (n := 16 * cl y) (by omega) (by omega), w_in (n := 16 * cl y + 8) (by omega) (by omega), w_in (by omega) (by omega)]
  unfold gradient_place.f pl
  rw [imageeditorref18_Place.j0, if_neg (by decide), clamp_some, clamp_some, rclamp_some, rclamp_some]; simp only [Option.bind_some]
  rw [if_pos (by omega), if_pos (by omega), show min 1048576 (max x (-1048576)) = cl x from rfl, show min 1048576 (max y (-1048576)) = cl y from rfl, ex, ey, a1, a2 (cl x) (cl y) ex ey]; simp only [Option.bind_some]
  generalize al kind (rd l 2) (16 * cl x + 8 - rd l 0) (16 * cl y + 8 - rd l 1) (rd l 2 - rd l 0) (rd l 3 - rd l 1) = t at *
  rw [modulo_some t 65536 (by omega) (by omega), modulo_some t 131072 (by omega) (by omega), mod_some (k + 79) t 65536 (by omega) (by omega), mod_some (k + 79) t 131072 (by omega) (by omega), clamp_some]
  unfold imageeditorref06_U.f
  rw [rclamp_some]; simp only [Option.bind_some]
  rw [w_in (n := 131071 - t % 131072) (by omega) (by omega)]
  unfold sp
  by_cases s0 : spread = 0
  · rw [if_neg (by omega), if_neg (by omega), if_pos s0, if_neg (by omega), if_neg (by omega)]; exact ⟨rfl, rfl⟩
  by_cases s1 : spread = 1
  · simp only [if_pos s1, if_neg s0]; exact ⟨trivial, trivial⟩
  · have s2 : spread = 2 := by omega
    simp only [if_neg s1, if_pos s2, if_neg s0]
    by_cases c : t % 131072 > 65535
    · simp only [if_pos c]; exact ⟨trivial, trivial⟩
    · simp only [if_neg c]; exact ⟨trivial, trivial⟩
/-- Place, the program's and the reference's -/
theorem Place_some (k : Nat) (kind : Int) (l : List Int) (spread x y : Int) :
    (Kok kind spread ∧ Lok kind l ∧ Vok kind l ∧ gradient_Place.f (k + 90) kind l spread x y = some (pl kind l spread x y) ∧ imageeditorref18_Place.f (k + 90) kind l spread x y = some (pl kind l spread x y)) ∨ (¬ (Kok kind spread ∧ Lok kind l ∧ Vok kind l) ∧ gradient_Place.f (k + 90) kind l spread x y = some 0 ∧ imageeditorref18_Place.f (k + 90) kind l spread x y = some 0) := by
  obtain ⟨ek, en, ev, h, h1, h2⟩ := params_some (k + 82) kind l spread
  have g0 : imageeditorref18_Place.j0 (k + 90) kind l spread x y true = some 0 := by simp only [imageeditorref18_Place.j0]; rfl
  have p0 := fun hK hL hV => place_some (k + 10) kind l spread x y hK hL hV
  have p1 := fun hK hL hV => place_some (k + 9) kind l spread x y hK hL hV
  unfold gradient_Place.f imageeditorref18_Place.f
  rw [show k + 90 = k + 82 + 8 by omega, h]; simp only [Option.bind_some]
  rcases head_some (k + 89) kind l spread with ⟨hK, hL, e⟩ | ⟨hK, hL, e⟩ | ⟨hK, e⟩
  · rw [show k + 82 + 8 = k + 89 + 1 by omega, e]; simp only [Option.bind_some]
    have a1 : ek = 0 := by rcases h1 with ⟨_, a⟩ | ⟨a, _⟩; exact a; exact absurd hK a
    have a2 : en = 0 := by rcases h2 with ⟨a, _⟩ | ⟨_, a, _⟩; exact absurd hL a; exact a
    rcases numbers_some (k + 85) kind l hL with ⟨hV, f⟩ | ⟨hV, f⟩
    · have a3 : ev = 0 := by rcases h2 with ⟨a, _⟩ | ⟨_, _, ⟨_, a⟩ | ⟨a, _⟩⟩; exact absurd hL a; exact a; exact absurd hV a
      left
      refine ⟨hK, hL, hV, ?_, ?_⟩
      · rw [if_pos a1, if_pos a2, if_pos a3, show k + 89 + 1 = k + 10 + 80 by omega, (p0 hK hL hV).1]; rfl
      · rw [if_pos trivial, show k + 89 + 1 = k + 85 + 5 by omega, f]; simp only [Option.bind_some]
        rw [show k + 85 + 5 = k + 9 + 81 by omega]; exact (p1 hK hL hV).2
    · have a3 : ev = 2 := by rcases h2 with ⟨a, _⟩ | ⟨_, _, ⟨a, _⟩ | ⟨_, a⟩⟩; exact absurd hL a; exact absurd a hV; exact a
      right
      refine ⟨fun g => hV g.2.2, ?_, ?_⟩
      · rw [if_pos a1, if_pos a2, if_neg (by omega)]
      · rw [if_pos trivial, show k + 89 + 1 = k + 85 + 5 by omega, f]; simp only [Option.bind_some]
        rw [show k + 85 + 5 = k + 90 by omega]; exact g0
  · right
    have a2 : en = 1 := by rcases h2 with ⟨_, a, _⟩ | ⟨a, _⟩; exact a; exact absurd a hL
    have a1 : ek = 0 := by rcases h1 with ⟨_, a⟩ | ⟨a, _⟩; exact a; exact absurd hK a
    rw [show k + 82 + 8 = k + 89 + 1 by omega, e]; simp only [Option.bind_some]
    refine ⟨fun g => hL g.2.1, ?_, ?_⟩
    · rw [if_pos a1, if_neg (by omega)]
    · rw [if_neg (by decide)]; exact g0
  · right
    have a1 : ek = 8 := by rcases h1 with ⟨a, _⟩ | ⟨_, a⟩; exact absurd a hK; exact a
    rw [show k + 82 + 8 = k + 89 + 1 by omega, e]; simp only [Option.bind_some]
    refine ⟨fun g => hK g.1, ?_, ?_⟩
    · rw [if_neg (by omega)]
    · rw [if_neg (by decide)]; exact g0
end Go.Proofs.Ytmlcobnidfkhfaa.Q
