/- AffineReturns: the inverse of a transform that is not nearly singular maps an image back, up to 4096 units. -/
import Derived.Test.YtgciphmmfbgkeaaAffI
import Derived.Test.YtgciphmmfbgkeaaAffS
import Derived.Test.YtgciphmmfbgkeaaQ19
namespace Go.Proofs.Ytgciphmmfbgkeaa.Pure
open Go.RowKit Go.Proofs.Ytgciphmmfbgkeaa.Q Go.Proofs.YtgciphmmfbgkeaaW.PrintWords Go.Proofs.YtgciphmmfbgkeaaW.PrintLast
set_option linter.unusedVariables false
set_option linter.unusedSimpArgs false

theorem rest_bd {s d g r t a b : Int} (hd : d = g ∨ d = -g) (hg : 0 < g) (h : d * s = r * a + t * b) (r1 : -g ≤ 2 * r) (r2 : 2 * r ≤ g) (t1 : -g ≤ 2 * t) (t2 : 2 * t ≤ g)
    (ha : -262144 ≤ a ∧ a ≤ 262144) (hb : -262144 ≤ b ∧ b ≤ 262144) : -262144 ≤ s ∧ s ≤ 262144 := by
  have p1 := mul_bd (A := g) (B := 262144) (a := 2 * r) (b := a) ⟨r1, r2⟩ ha
  have p2 := mul_bd (A := g) (B := 262144) (a := 2 * t) (b := b) ⟨t1, t2⟩ hb
  have e1 : 2 * r * a = 2 * (r * a) := by grind
  have e2 : 2 * t * b = 2 * (t * b) := by grind
  have hs : 2 * (g * s) ≤ 524288 * g ∧ -(524288 * g) ≤ 2 * (g * s) := by
    rcases hd with rfl | rfl
    · omega
    · rw [Int.neg_mul] at h; omega
  constructor
  · refine Int.not_lt.mp fun hq => ?_
    have p : 0 ≤ g * (-s - 262145) := Int.mul_nonneg (by omega) (by omega)
    have e : g * (-s - 262145) = -(g * s) - 262145 * g := by grind
    omega
  · refine Int.not_lt.mp fun hq => ?_
    have p : 0 ≤ g * (s - 262145) := Int.mul_nonneg (by omega) (by omega)
    have e : g * (s - 262145) = g * s - 262145 * g := by grind
    omega
theorem ret_core {a b c d e f x y D g A' C' rA rC X Y U E' φ1 φ2 φ3 φ4 : Int} (ha : -262144 ≤ a ∧ a ≤ 262144) (hb : -262144 ≤ b ∧ b ≤ 262144) (hc : -262144 ≤ c ∧ c ≤ 262144) (hd : -262144 ≤ d ∧ d ≤ 262144)
    (hx : -16777216 ≤ x ∧ x ≤ 16777216) (hy : -16777216 ≤ y ∧ y ≤ 16777216) (hD : D = a * d - b * c) (hg : D = g ∨ D = -g) (hg1 : 1073741824 ≤ g)
    (hA : A' * D = d * 4294967296 + rA) (hA1 : -g ≤ 2 * rA) (hA2 : 2 * rA ≤ g) (hC : C' * D = (-c) * 4294967296 + rC) (hC1 : -g ≤ 2 * rC) (hC2 : 2 * rC ≤ g)
    (h1 : 131072 * X = 2 * (a * x + c * y) + φ1) (b1 : -65536 ≤ φ1 ∧ φ1 ≤ 65536) (h2 : 131072 * Y = 2 * (b * x + d * y) + φ2) (b2 : -65536 ≤ φ2 ∧ φ2 ≤ 65536)
    (h3 : 131072 * U = 2 * (A' * (X + e) + C' * (Y + f)) + φ3) (b3 : -65536 ≤ φ3 ∧ φ3 ≤ 65536) (h4 : 131072 * E' = 2 * (-A' * e + -C' * f) + φ4) (b4 : -65536 ≤ φ4 ∧ φ4 ≤ 65536) :
    -4096 ≤ U + E' - x ∧ U + E' - x ≤ 4096 := by
  have bA := part_bd hd hg hg1 hA hA1 hA2
  have bC := part_bd (x := -c) (by omega) hg hg1 hC hC1 hC2
  have hS : D * (A' * a + C' * b - 4294967296) = rA * a + rC * b := by grind
  have hT : D * (A' * c + C' * d) = rA * c + rC * d := by grind
  have bS := rest_bd hg (by omega) hS hA1 hA2 hC1 hC2 ha hb
  have bT := rest_bd hg (by omega) hT hA1 hA2 hC1 hC2 hc hd
  have p1 := mul_bd (A := 262144) (B := 16777216) bS hx
  have p2 := mul_bd (A := 262144) (B := 16777216) bT hy
  have p3 := mul_bd (A := 1048576) (B := 65536) bA b1
  have p4 := mul_bd (A := 1048576) (B := 65536) bC b2
  have s1 : A' * (131072 * X) = A' * (2 * (a * x + c * y) + φ1) := by rw [h1]
  have s2 : C' * (131072 * Y) = C' * (2 * (b * x + d * y) + φ2) := by rw [h2]
  have id : 131072 * (A' * X + C' * Y) = 2 * ((A' * a + C' * b - 4294967296) * x) + 8589934592 * x + 2 * ((A' * c + C' * d) * y) + A' * φ1 + C' * φ2 := by grind
  have t1 : A' * (X + e) = A' * X + A' * e := by grind
  have t2 : C' * (Y + f) = C' * Y + C' * f := by grind
  have t3 : -A' * e = -(A' * e) := by grind
  have t4 : -C' * f = -(C' * f) := by grind
  rw [t1, t2] at h3
  rw [t3, t4] at h4
  omega

theorem AffineReturns (a b c d e f x y : Int) (w1 : (Lit.int .i64 a).wf = true) (w2 : (Lit.int .i64 b).wf = true) (w3 : (Lit.int .i64 c).wf = true) (w4 : (Lit.int .i64 d).wf = true) (w5 : (Lit.int .i64 e).wf = true) (w6 : (Lit.int .i64 f).wf = true)
    (w13 : (Lit.int .i64 x).wf = true) (w14 : (Lit.int .i64 y).wf = true) :
    ∃ k, imageeditorlaw12_AffineReturns.f k a b c d e f x y = some true := by
  refine ⟨14, ?_⟩
  have aw1 : ∀ (b_ : Bool), b_ = true → ∀ (a b c d e f x y : Int), imageeditorlaw12_AffineReturns.j1 13 b_ a b c d e f x y = some true := by
    intro b_ h a b c d e f x y
    simp only [imageeditorlaw12_AffineReturns.j1]
    rw [if_pos h, ex_some]; rfl
  have aw : ∀ (b_ : Bool), b_ = true → ∀ (a b c d e f x y : Int), imageeditorlaw12_AffineReturns.j0 14 b_ a b c d e f x y = some true := by
    intro b_ h a b c d e f x y
    simp only [imageeditorlaw12_AffineReturns.j0]
    rw [if_pos h, ex_at 1]; rfl
  unfold imageeditorlaw12_AffineReturns.f
  rw [small_some 9 _ _ _ _ _ _ _ (by omega), within_two 11 _ _ _ (by omega)]
  simp only [Option.bind_some]
  by_cases c1 : Small a b c d e f 16777216
  case neg => rw [if_neg (by simpa using c1)]; exact aw _ rfl _ _ _ _ _ _ _ _
  rw [if_pos (decide_eq_true c1)]
  by_cases c3 : -16777216 ≤ x ∧ x ≤ 16777216 ∧ -16777216 ≤ y ∧ y ≤ 16777216
  case neg => rw [decide_eq_false c3]; exact aw _ rfl _ _ _ _ _ _ _ _
  rw [decide_eq_true c3]
  simp only [imageeditorlaw12_AffineReturns.j0]
  obtain ⟨sa, sb, sc, sd, se1, se2, sf1, sf2⟩ := c1
  obtain ⟨sx1, sx2, sy⟩ := c3
  have m1 := mul_bd (A := 262144) (B := 262144) sa sd
  have m2 := mul_bd (A := 262144) (B := 262144) sb sc
  rw [if_neg (by simp), w_in (n := a * d) (by omega) (by omega), w_in (n := b * c) (by omega) (by omega), w_in (n := a * d - b * c) (by omega) (by omega)]
  have main : (1073741824 ≤ a * d - b * c ∨ a * d - b * c ≤ -1073741824) → imageeditorlaw12_AffineReturns.j1 13 false a b c d e f x y = some true := by
    intro hdet
    obtain ⟨g, hg, hg1, hg2⟩ : ∃ g, (a * d - b * c = g ∨ a * d - b * c = -g) ∧ 1073741824 ≤ g ∧ g ≤ 137438953472 := by
      rcases hdet with h | h
      · exact ⟨_, .inl rfl, h, by omega⟩
      · exact ⟨-(a * d - b * c), .inr (by omega), by omega, by omega⟩
    obtain ⟨A', rA, qA, eA, lA, uA⟩ := part_some 9 sd hg hg1 hg2
    obtain ⟨B', rB, qB, eB, lB, uB⟩ := part_some 9 (x := -b) (by omega) hg hg1 hg2
    obtain ⟨C', rC, qC, eC, lC, uC⟩ := part_some 9 (x := -c) (by omega) hg hg1 hg2
    obtain ⟨D', rD, qD, eD, lD, uD⟩ := part_some 9 sa hg hg1 hg2
    have bA := part_bd sd hg hg1 eA lA uA
    have bB := part_bd (x := -b) (by omega) hg hg1 eB lB uB
    have bC := part_bd (x := -c) (by omega) hg hg1 eC lC uC
    have bD := part_bd sa hg hg1 eD lD uD
    have n1 := mul_bd (A := 1048576) (B := 16777216) (a := -A') (b := e) (by omega) ⟨se1, se2⟩
    have n2 := mul_bd (A := 1048576) (B := 16777216) (a := -C') (b := f) (by omega) ⟨sf1, sf2⟩
    have n3 := mul_bd (A := 1048576) (B := 16777216) (a := -B') (b := e) (by omega) ⟨se1, se2⟩
    have n4 := mul_bd (A := 1048576) (B := 16777216) (a := -D') (b := f) (by omega) ⟨sf1, sf2⟩
    obtain ⟨φ4, k4, d4⟩ := dv_e (-A' * e + -C' * f)
    obtain ⟨ψ4, l4, g4⟩ := dv_e (-B' * e + -D' * f)
    have inv : affine_Inverse.f 12 a b c d e f = some (A', B', C', D', dv (-A' * e + -C' * f) 65536, dv (-B' * e + -D' * f) 65536, 0) := by
      unfold affine_Inverse.f
      rw [check_ok (vld_in (by omega) (by omega) (by omega) (by omega) (by omega) (by omega))]
      simp only [Option.bind_some]
      rw [if_pos trivial]
      simp only [affine_Inverse.j0]
      rw [w_in (n := a * d) (by omega) (by omega), w_in (n := b * c) (by omega) (by omega), w_in (n := a * d - b * c) (by omega) (by omega), if_neg (by omega)]
      simp only [affine_Inverse.j1]
      rw [w_in (n := -b) (by omega) (by omega), w_in (n := -c) (by omega) (by omega)]
      rw [qA, qB, qC, qD]
      simp only [Option.bind_some]
      rw [check_ok (vld_in (by omega) (by omega) (by omega) (by omega) (by omega) (by omega))]
      simp only [Option.bind_some]
      rw [if_pos trivial]
      simp only [affine_Inverse.j2]
      rw [w_in (n := -A') (by omega) (by omega), w_in (n := -C') (by omega) (by omega), w_in (n := -B') (by omega) (by omega), w_in (n := -D') (by omega) (by omega),
        dot_some 8 (by omega) (by omega) (by omega) (by omega), dot_some 8 (by omega) (by omega) (by omega) (by omega)]
      simp only [Option.bind_some]
      rw [check_ok (vld_in (by omega) (by omega) (by omega) (by omega) (by omega) (by omega))]
      simp only [Option.bind_some]
      rw [if_pos trivial]
    simp only [imageeditorlaw12_AffineReturns.j1]
    rw [if_neg (by simp), inv, apply_some 11]
    simp only [Option.bind_some]
    rw [apply_some 11]
    simp only [Option.bind_some]
    rw [if_pos trivial]
    have q1 := mul_bd (A := 262144) (B := 16777216) sa ⟨sx1, sx2⟩
    have q2 := mul_bd (A := 262144) (B := 16777216) sc sy
    have q3 := mul_bd (A := 262144) (B := 16777216) sb ⟨sx1, sx2⟩
    have q4 := mul_bd (A := 262144) (B := 16777216) sd sy
    obtain ⟨φ1, k1, d1⟩ := dv_e (a * x + c * y)
    obtain ⟨φ2, k2, d2⟩ := dv_e (b * x + d * y)
    have hX : apx a c e x y = dv (a * x + c * y) 65536 + e := by
      unfold apx
      rw [coef_in (by omega), coef_in (by omega), pos_in (x := x) (by omega), pos_in (x := y) (by omega), pos_in (x := e) (by omega), pos_in (by omega)]
    have hY : apx b d f x y = dv (b * x + d * y) 65536 + f := by
      unfold apx
      rw [coef_in (by omega), coef_in (by omega), pos_in (x := x) (by omega), pos_in (x := y) (by omega), pos_in (x := f) (by omega), pos_in (by omega)]
    rw [hX, hY]
    generalize dv (-A' * e + -C' * f) 65536 = E' at *
    generalize dv (-B' * e + -D' * f) 65536 = F' at *
    generalize dv (a * x + c * y) 65536 = X at *
    generalize dv (b * x + d * y) 65536 = Y at *
    have r1 := mul_bd (A := 1048576) (B := 268435456) (a := A') (b := X + e) bA (by omega)
    have r2 := mul_bd (A := 1048576) (B := 268435456) (a := C') (b := Y + f) bC (by omega)
    have r3 := mul_bd (A := 1048576) (B := 268435456) (a := B') (b := X + e) bB (by omega)
    have r4 := mul_bd (A := 1048576) (B := 268435456) (a := D') (b := Y + f) bD (by omega)
    obtain ⟨φ3, k3, d3⟩ := dv_e (A' * (X + e) + C' * (Y + f))
    obtain ⟨ψ3, l3, g3⟩ := dv_e (B' * (X + e) + D' * (Y + f))
    have hU : apx A' C' E' (X + e) (Y + f) = dv (A' * (X + e) + C' * (Y + f)) 65536 + E' := by
      unfold apx
      rw [coef_in (by omega), coef_in (by omega), pos_in (x := X + e) (by omega), pos_in (x := Y + f) (by omega), pos_in (x := E') (by omega), pos_in (by omega)]
    have hV : apx B' D' F' (X + e) (Y + f) = dv (B' * (X + e) + D' * (Y + f)) 65536 + F' := by
      unfold apx
      rw [coef_in (by omega), coef_in (by omega), pos_in (x := X + e) (by omega), pos_in (x := Y + f) (by omega), pos_in (x := F') (by omega), pos_in (by omega)]
    rw [hU, hV]
    generalize dv (A' * (X + e) + C' * (Y + f)) 65536 = U at *
    generalize dv (B' * (X + e) + D' * (Y + f)) 65536 = V at *
    have u1 := ret_core sa sb sc sd ⟨sx1, sx2⟩ sy rfl hg hg1 eA lA uA eC lC uC k1 d1 k2 d2 k3 d3 k4 d4
    have u2 := ret_core (a := d) (b := c) (c := b) (d := a) (x := y) (y := x) (e := f) (f := e) (D := a * d - b * c) (A' := D') (C' := B') (X := Y) (Y := X) (U := V) (E' := F') sd sc sb sa sy ⟨sx1, sx2⟩ (by grind) hg hg1 eD lD uD eB lB uB (by omega) d2 (by omega) d1 (by omega) g3 (by omega) g4
    rw [within_two 9 _ _ _ (by omega)]
    simp only [Option.bind_some]
    rw [if_pos (decide_eq_true (by omega))]
    rw [w_in (by omega) (by omega), w_in (by omega) (by omega), within_two 9 _ _ _ (by omega)]
    simp only [Option.bind_some]
    rw [if_pos (decide_eq_true (by omega)), ex_some]
    rfl
  by_cases c4 : a * d - b * c < 1073741824
  · rw [if_pos c4]
    by_cases c5 : a * d - b * c > -1073741824
    · rw [decide_eq_true c5]; exact aw1 _ rfl _ _ _ _ _ _ _ _
    · rw [decide_eq_false c5]; exact main (.inr (by omega))
  · rw [if_neg c4]; exact main (.inl (by omega))
end Go.Proofs.Ytgciphmmfbgkeaa.Pure
