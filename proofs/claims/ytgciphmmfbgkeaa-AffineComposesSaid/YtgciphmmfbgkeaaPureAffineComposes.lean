/- AffineComposes: applying a composition is applying both transforms, up to 261 units. -/
import Derived.Test.YtgciphmmfbgkeaaAffI
import Derived.Test.YtgciphmmfbgkeaaAffS
import Derived.Test.YtgciphmmfbgkeaaQ18
namespace Go.Proofs.Ytgciphmmfbgkeaa.Pure
open Go.RowKit Go.Proofs.Ytgciphmmfbgkeaa.Q Go.Proofs.YtgciphmmfbgkeaaW.PrintWords Go.Proofs.YtgciphmmfbgkeaaW.PrintLast
set_option linter.unusedVariables false
set_option linter.unusedSimpArgs false

theorem comp_core {α γ A B C D E F G x y : Int} (hα : -262144 ≤ α ∧ α ≤ 262144) (hγ : -262144 ≤ γ ∧ γ ≤ 262144) (hA : -262144 ≤ A ∧ A ≤ 262144) (hB : -262144 ≤ B ∧ B ≤ 262144)
    (hC : -262144 ≤ C ∧ C ≤ 262144) (hD : -262144 ≤ D ∧ D ≤ 262144) (hE : -68719476736 ≤ E ∧ E ≤ 68719476736) (hF : -68719476736 ≤ F ∧ F ≤ 68719476736) (hG : -68719476736 ≤ G ∧ G ≤ 68719476736)
    (hx : -16777216 ≤ x ∧ x ≤ 16777216) (hy : -16777216 ≤ y ∧ y ≤ 16777216) :
    -262 ≤ apx (thx α A γ B) (thx α C γ D) (apx α γ G E F) x y - apx α γ G (apx A C E x y) (apx B D F x y) ∧
    apx (thx α A γ B) (thx α C γ D) (apx α γ G E F) x y - apx α γ G (apx A C E x y) (apx B D F x y) ≤ 262 := by
  unfold apx thx
  rw [coef_in (x := α) (by omega), coef_in (x := γ) (by omega), coef_in (x := A) (by omega), coef_in (x := B) (by omega), coef_in (x := C) (by omega), coef_in (x := D) (by omega),
    pos_in (x := E) (by omega), pos_in (x := F) (by omega), pos_in (x := G) (by omega), pos_in (x := x) (by omega), pos_in (x := y) (by omega)]
  obtain ⟨e1, h1, b1⟩ := dv_e (α * A + γ * B)
  obtain ⟨e2, h2, b2⟩ := dv_e (α * C + γ * D)
  obtain ⟨e3, h3, b3⟩ := dv_e (α * E + γ * F)
  obtain ⟨f1, i1, c1⟩ := dv_e (A * x + C * y)
  obtain ⟨f2, i2, c2⟩ := dv_e (B * x + D * y)
  have p1 := mul_bd (A := 262144) (B := 262144) hα hA
  have p2 := mul_bd (A := 262144) (B := 262144) hγ hB
  have p3 := mul_bd (A := 262144) (B := 262144) hα hC
  have p4 := mul_bd (A := 262144) (B := 262144) hγ hD
  have p5 := mul_bd (A := 262144) (B := 68719476736) hα hE
  have p6 := mul_bd (A := 262144) (B := 68719476736) hγ hF
  have p7 := mul_bd (A := 262144) (B := 16777216) hA hx
  have p8 := mul_bd (A := 262144) (B := 16777216) hC hy
  have p9 := mul_bd (A := 262144) (B := 16777216) hB hx
  have p10 := mul_bd (A := 262144) (B := 16777216) hD hy
  generalize dv (α * A + γ * B) 65536 = P at *
  generalize dv (α * C + γ * D) 65536 = Q at *
  generalize dv (α * E + γ * F) 65536 = R at *
  generalize dv (A * x + C * y) 65536 = X at *
  generalize dv (B * x + D * y) 65536 = Y at *
  have hP : -2097152 ≤ P ∧ P ≤ 2097152 := by omega
  have hQ : -2097152 ≤ Q ∧ Q ≤ 2097152 := by omega
  have hR : -549755813888 - 1 ≤ R ∧ R ≤ 549755813888 + 1 := by omega
  have hX : -134217729 ≤ X ∧ X ≤ 134217729 := by omega
  have hY : -134217729 ≤ Y ∧ Y ≤ 134217729 := by omega
  rw [coef_in (x := P) (by omega), coef_in (x := Q) (by omega), pos_in (x := R + G) (by omega), pos_in (x := X + E) (by omega), pos_in (x := Y + F) (by omega)]
  rw [coef_in (x := P) (by omega), coef_in (x := Q) (by omega), pos_in (x := R + G) (by omega), pos_in (x := X + E) (by omega), pos_in (x := Y + F) (by omega)]
  obtain ⟨e4, h4, b4⟩ := dv_e (P * x + Q * y)
  obtain ⟨f3, i3, c3⟩ := dv_e (α * (X + E) + γ * (Y + F))
  have q1 := mul_bd (A := 2097152) (B := 16777216) hP hx
  have q2 := mul_bd (A := 2097152) (B := 16777216) hQ hy
  have q3 := mul_bd (A := 262144) (B := 68853694465) (a := α) (b := X + E) hα (by omega)
  have q4 := mul_bd (A := 262144) (B := 68853694465) (a := γ) (b := Y + F) hγ (by omega)
  generalize dv (P * x + Q * y) 65536 = U at *
  generalize dv (α * (X + E) + γ * (Y + F)) 65536 = V at *
  rw [pos_in (x := U + (R + G)) (by omega), pos_in (x := V + G) (by omega)]
  have r1 := mul_bd (A := 65536) (B := 16777216) b1 hx
  have r2 := mul_bd (A := 65536) (B := 16777216) b2 hy
  have r3 := mul_bd (A := 262144) (B := 65536) hα c1
  have r4 := mul_bd (A := 262144) (B := 65536) hγ c2
  have s1 : (131072 * P) * x = (2 * (α * A + γ * B) + e1) * x := by rw [h1]
  have s2 : (131072 * Q) * y = (2 * (α * C + γ * D) + e2) * y := by rw [h2]
  have s3 : α * (131072 * X) = α * (2 * (A * x + C * y) + f1) := by rw [i1]
  have s4 : γ * (131072 * Y) = γ * (2 * (B * x + D * y) + f2) := by rw [i2]
  have id : 131072 * (P * x + Q * y - α * X - γ * Y) = e1 * x + e2 * y - α * f1 - γ * f2 := by grind
  have t1 : α * (X + E) = α * X + α * E := by grind
  have t2 : γ * (Y + F) = γ * Y + γ * F := by grind
  rw [t1, t2] at i3
  omega

theorem AffineComposes (a b c d e f a' b' c' d' e' f' x y : Int) (w1 : (Lit.int .i64 a).wf = true) (w2 : (Lit.int .i64 b).wf = true) (w3 : (Lit.int .i64 c).wf = true) (w4 : (Lit.int .i64 d).wf = true) (w5 : (Lit.int .i64 e).wf = true) (w6 : (Lit.int .i64 f).wf = true)
    (w7 : (Lit.int .i64 a').wf = true) (w8 : (Lit.int .i64 b').wf = true) (w9 : (Lit.int .i64 c').wf = true) (w10 : (Lit.int .i64 d').wf = true) (w11 : (Lit.int .i64 e').wf = true) (w12 : (Lit.int .i64 f').wf = true) (w13 : (Lit.int .i64 x).wf = true) (w14 : (Lit.int .i64 y).wf = true) :
    ∃ k, imageeditorlaw12_AffineComposes.f k a b c d e f a' b' c' d' e' f' x y = some true := by
  refine ⟨13, ?_⟩
  have aw : ∀ (b_ : Bool), b_ = true → ∀ (a b c d e f a' b' c' d' e' f' x y : Int), imageeditorlaw12_AffineComposes.j0 13 b_ a b c d e f a' b' c' d' e' f' x y = some true := by
    intro b_ h a b c d e f a' b' c' d' e' f' x y
    simp only [imageeditorlaw12_AffineComposes.j0]
    rw [if_pos h, ex_some]; rfl
  unfold imageeditorlaw12_AffineComposes.f
  rw [small_some 8 _ _ _ _ _ _ _ (by omega), small_some 8 _ _ _ _ _ _ _ (by omega), within_two 10 _ _ _ (by omega)]
  simp only [Option.bind_some]
  by_cases c1 : Small a b c d e f 68719476736
  · rw [if_pos (decide_eq_true c1)]
    by_cases c2 : Small a' b' c' d' e' f' 68719476736
    · rw [if_pos (decide_eq_true c2)]
      by_cases c3 : -16777216 ≤ x ∧ x ≤ 16777216 ∧ -16777216 ≤ y ∧ y ≤ 16777216
      · rw [decide_eq_true c3]
        simp only [imageeditorlaw12_AffineComposes.j0]
        rw [if_neg (by simp), then_some 11]
        simp only [Option.bind_some]
        rw [apply_some 11, apply_some 11]
        simp only [Option.bind_some]
        rw [apply_some 11]
        simp only [Option.bind_some]
        obtain ⟨sa, sb, sc, sd, se1, se2, sf1, sf2⟩ := c1
        obtain ⟨ta, tb, tc, td, te1, te2, tf1, tf2⟩ := c2
        have u1 := comp_core ta tc sa sb sc sd ⟨se1, se2⟩ ⟨sf1, sf2⟩ ⟨te1, te2⟩ (x := x) (y := y) ⟨c3.1, c3.2.1⟩ c3.2.2
        have u2 := comp_core tb td sa sb sc sd ⟨se1, se2⟩ ⟨sf1, sf2⟩ ⟨tf1, tf2⟩ (x := x) (y := y) ⟨c3.1, c3.2.1⟩ c3.2.2
        have p : ∀ m n e x y, -1099511627776 ≤ apx m n e x y ∧ apx m n e x y ≤ 1099511627776 := fun m n e x y => pos_bd _
        rw [within_four 7 _ _ _ _ _ (by omega)]
        simp only [Option.bind_some]
        rw [if_pos (decide_eq_true ⟨p _ _ _ _ _, p _ _ _ _ _, p _ _ _ _ _, p _ _ _ _ _⟩)]
        rw [w_in (by omega) (by omega), w_in (by omega) (by omega), within_two 9 _ _ _ (by omega)]
        simp only [Option.bind_some]
        rw [if_pos (decide_eq_true ⟨u1.1, u1.2, u2.1, u2.2⟩), ex_some]
        rfl
      · rw [decide_eq_false c3]
        exact aw _ rfl _ _ _ _ _ _ _ _ _ _ _ _ _ _
    · rw [if_neg (by simpa using c2)]
      exact aw _ rfl _ _ _ _ _ _ _ _ _ _ _ _ _ _
  · rw [if_neg (by simpa using c1)]
    exact aw _ rfl _ _ _ _ _ _ _ _ _ _ _ _ _ _
end Go.Proofs.Ytgciphmmfbgkeaa.Pure
