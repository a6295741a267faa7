/- AffineContains: the box of a rectangle contains the images of its positions. -/
import Derived.Test.YtgciphmmfbgkeaaAffS
import Derived.Test.YtgciphmmfbgkeaaQ20
namespace Go.Proofs.Ytgciphmmfbgkeaa.Pure
open Go.RowKit Go.Proofs.Ytgciphmmfbgkeaa.Q Go.Proofs.YtgciphmmfbgkeaaW.PrintWords Go.Proofs.YtgciphmmfbgkeaaW.PrintLast Go.Proofs.YtgciphmmfbgkeaaW.PrintMore
set_option linter.unusedVariables false
set_option linter.unusedSimpArgs false

theorem mn_min (a b : Int) : mn a b = min a b := by unfold mn; split <;> omega
theorem mx_max (a b : Int) : mx a b = max a b := by unfold mx; split <;> omega
theorem dv_le {a b : Int} (h : a ≤ b) : dv a 65536 ≤ dv b 65536 := by unfold dv; omega
/-- a product by a fixed factor lies between its values at the ends -/
theorem mul_mid {m x x0 x1 : Int} (h0 : x0 ≤ x) (h1 : x ≤ x1) : (m * x0 ≤ m * x ∧ m * x ≤ m * x1) ∨ (m * x1 ≤ m * x ∧ m * x ≤ m * x0) := by
  rcases Int.le_total 0 m with h | h
  · exact .inl ⟨Int.mul_le_mul_of_nonneg_left h0 h, Int.mul_le_mul_of_nonneg_left h1 h⟩
  · exact .inr ⟨Int.mul_le_mul_of_nonpos_left h h1, Int.mul_le_mul_of_nonpos_left h h0⟩
theorem box_core {m n e x y x0 x1 y0 y1 : Int} (hm : -262144 ≤ m ∧ m ≤ 262144) (hn : -262144 ≤ n ∧ n ≤ 262144) (he : -16777216 ≤ e ∧ e ≤ 16777216)
    (hx0 : x0 ≤ x) (hx1 : x ≤ x1) (hy0 : y0 ≤ y) (hy1 : y ≤ y1) (bx0 : -33554432 ≤ x0) (bx1 : x1 ≤ 33554432) (by0 : -33554432 ≤ y0) (by1 : y1 ≤ 33554432) :
    let p := apx m n e x0 y0; let q := apx m n e x1 y0; let s := apx m n e x0 y1; let t := apx m n e x1 y1; let v := apx m n e x y
    min (min (min p q) s) t ≤ v ∧ v ≤ max (max (max p q) s) t ∧ (-536870912 ≤ p ∧ p ≤ 536870912) ∧ (-536870912 ≤ q ∧ q ≤ 536870912) ∧ (-536870912 ≤ s ∧ s ≤ 536870912) ∧ (-536870912 ≤ t ∧ t ≤ 536870912) ∧ (-536870912 ≤ v ∧ v ≤ 536870912) := by
  have g : ∀ X Y, -33554432 ≤ X → X ≤ 33554432 → -33554432 ≤ Y → Y ≤ 33554432 → apx m n e X Y = dv (m * X + n * Y) 65536 + e ∧ -536870912 ≤ dv (m * X + n * Y) 65536 + e ∧ dv (m * X + n * Y) 65536 + e ≤ 536870912 := by
    intro X Y a b c d
    have p1 := mul_bd (A := 262144) (B := 33554432) (b := X) hm ⟨a, b⟩
    have p2 := mul_bd (A := 262144) (B := 33554432) (b := Y) hn ⟨c, d⟩
    have q := dv_lin (m * X + n * Y)
    refine ⟨?_, by omega, by omega⟩
    unfold apx
    rw [coef_in (x := m) (by omega), coef_in (x := n) (by omega), pos_in (x := X) (by omega), pos_in (x := Y) (by omega), pos_in (x := e) (by omega), pos_in (by omega)]
  obtain ⟨ep, lp, up⟩ := g x0 y0 (by omega) (by omega) (by omega) (by omega)
  obtain ⟨eq, lq, uq⟩ := g x1 y0 (by omega) (by omega) (by omega) (by omega)
  obtain ⟨es, ls, us⟩ := g x0 y1 (by omega) (by omega) (by omega) (by omega)
  obtain ⟨et, lt, ut⟩ := g x1 y1 (by omega) (by omega) (by omega) (by omega)
  obtain ⟨ev, lv, uv⟩ := g x y (by omega) (by omega) (by omega) (by omega)
  simp only [ep, eq, es, et, ev]
  rcases mul_mid (m := m) hx0 hx1 with ⟨a, b⟩ | ⟨a, b⟩ <;> rcases mul_mid (m := n) hy0 hy1 with ⟨c, d⟩ | ⟨c, d⟩
  · have l := dv_le (show m * x0 + n * y0 ≤ m * x + n * y by omega)
    have u := dv_le (show m * x + n * y ≤ m * x1 + n * y1 by omega)
    omega
  · have l := dv_le (show m * x0 + n * y1 ≤ m * x + n * y by omega)
    have u := dv_le (show m * x + n * y ≤ m * x1 + n * y0 by omega)
    omega
  · have l := dv_le (show m * x1 + n * y0 ≤ m * x + n * y by omega)
    have u := dv_le (show m * x + n * y ≤ m * x0 + n * y1 by omega)
    omega
  · have l := dv_le (show m * x1 + n * y1 ≤ m * x + n * y by omega)
    have u := dv_le (show m * x + n * y ≤ m * x0 + n * y0 by omega)
    omega
theorem span_in {x w : Int} (h1 : -1048576 ≤ x) (h2 : x ≤ 1048576) (h3 : 0 ≤ w) (h4 : w ≤ 1048576 - x) : rect_span.f x w = some true := by
  unfold rect_span.f
  rw [if_pos h1, if_pos h2, if_pos h3, w_in (by omega) (by omega), decide_eq_true h4]
theorem down_in {x : Int} (h : -536870912 ≤ x ∧ x ≤ 536870912) : affine_Box_2.f x = some (x / 65536) := by
  unfold affine_Box_2.f
  rw [floor_pos x _ (by omega) (by omega) (by omega)]
  simp only [Option.bind_some]
  rw [mx_max, show max (x / 65536) (-1048576) = x / 65536 by omega]
theorem up_in {x : Int} (h : -536870912 ≤ x ∧ x ≤ 536870912) : affine_Box_3.f x = some (-(-x / 65536)) := by
  unfold affine_Box_3.f
  rw [w_in (n := -x) (by omega) (by omega), floor_pos (-x) _ (by omega) (by omega) (by omega)]
  simp only [Option.bind_some]
  rw [w_in (by omega) (by omega), mn_min, show min (-(-x / 65536)) 1048576 = -(-x / 65536) by omega]

theorem frame {L M v : Int} (h1 : L ≤ v) (h2 : v ≤ M) (h3 : ¬ L / 65536 ≥ -(-M / 65536)) : 0 < -(-M / 65536) - L / 65536 ∧ L / 65536 * 65536 ≤ v ∧ v ≤ (L / 65536 + (-(-M / 65536) - L / 65536)) * 65536 := by omega
theorem frame_bd {L M : Int} (h1 : -536870912 ≤ L ∧ L ≤ 536870912) (h2 : -536870912 ≤ M ∧ M ≤ 536870912) (h3 : ¬ L / 65536 ≥ -(-M / 65536)) : (-1048576 ≤ L / 65536 ∧ L / 65536 ≤ 1048576) ∧ (0 ≤ -(-M / 65536) - L / 65536 ∧ -(-M / 65536) - L / 65536 ≤ 1048576) ∧ -(-M / 65536) ≤ 1048576 := by omega
theorem AffineContains (a b c d e f X Y W H x y : Int) (w1 : (Lit.int .i64 a).wf = true) (w2 : (Lit.int .i64 b).wf = true) (w3 : (Lit.int .i64 c).wf = true) (w4 : (Lit.int .i64 d).wf = true) (w5 : (Lit.int .i64 e).wf = true) (w6 : (Lit.int .i64 f).wf = true)
    (w7 : (Lit.int .i64 X).wf = true) (w8 : (Lit.int .i64 Y).wf = true) (w9 : (Lit.int .i64 W).wf = true) (w10 : (Lit.int .i64 H).wf = true) (w13 : (Lit.int .i64 x).wf = true) (w14 : (Lit.int .i64 y).wf = true) :
    ∃ k, imageeditorlaw12_AffineContains.f k a b c d e f X Y W H x y = some true := by
  refine ⟨15, ?_⟩
  have aw : ∀ (b_ : Bool), b_ = true → ∀ (a b c d e f X Y W H x y : Int), imageeditorlaw12_AffineContains.j0 15 b_ a b c d e f X Y W H x y = some true := by
    intro b_ h a b c d e f X Y W H x y
    simp only [imageeditorlaw12_AffineContains.j0]
    rw [if_pos h, ex_at 2]; rfl
  unfold imageeditorlaw12_AffineContains.f
  rw [small_some 10 _ _ _ _ _ _ _ (by omega), within_two 12 _ _ _ (by omega)]
  simp only [Option.bind_some]
  by_cases c1 : Small a b c d e f 16777216
  case neg => rw [if_neg (by simpa using c1)]; exact aw _ rfl _ _ _ _ _ _ _ _ _ _ _ _
  rw [if_pos (decide_eq_true c1)]
  by_cases c2 : -256 ≤ X ∧ X ≤ 256 ∧ -256 ≤ Y ∧ Y ≤ 256
  case neg => rw [if_neg (by simpa using c2)]; exact aw _ rfl _ _ _ _ _ _ _ _ _ _ _ _
  rw [if_pos (decide_eq_true c2)]
  by_cases c3 : W < 1
  case pos => rw [if_pos c3]; exact aw _ rfl _ _ _ _ _ _ _ _ _ _ _ _
  rw [if_neg c3]
  by_cases c4 : W > 256
  case pos => rw [if_pos c4]; exact aw _ rfl _ _ _ _ _ _ _ _ _ _ _ _
  rw [if_neg c4]
  by_cases c5 : H < 1
  case pos => rw [if_pos c5]; exact aw _ rfl _ _ _ _ _ _ _ _ _ _ _ _
  rw [if_neg c5]
  by_cases c6 : H > 256
  case pos => rw [if_pos c6]; exact aw _ rfl _ _ _ _ _ _ _ _ _ _ _ _
  rw [if_neg c6, w_in (n := X * 65536) (by omega) (by omega), w_in (n := Y * 65536) (by omega) (by omega), w_in (n := X + W) (by omega) (by omega), w_in (n := Y + H) (by omega) (by omega), w_in (n := (X + W) * 65536) (by omega) (by omega), w_in (n := (Y + H) * 65536) (by omega) (by omega)]
  by_cases c7 : x < X * 65536
  case pos => rw [if_pos c7]; exact aw _ rfl _ _ _ _ _ _ _ _ _ _ _ _
  rw [if_neg c7]
  by_cases c8 : y < Y * 65536
  case pos => rw [if_pos c8]; exact aw _ rfl _ _ _ _ _ _ _ _ _ _ _ _
  rw [if_neg c8]
  by_cases c9 : x > (X + W) * 65536
  case pos => rw [if_pos c9]; exact aw _ rfl _ _ _ _ _ _ _ _ _ _ _ _
  rw [if_neg c9]
  by_cases c10 : y > (Y + H) * 65536
  case pos => rw [decide_eq_true c10]; exact aw _ rfl _ _ _ _ _ _ _ _ _ _ _ _
  rw [decide_eq_false c10]
  obtain ⟨sa, sb, sc, sd, se1, se2, sf1, sf2⟩ := c1
  simp only [imageeditorlaw12_AffineContains.j0]
  rw [if_neg (by simp)]
  have u1 := box_core sa sc ⟨se1, se2⟩ (x := x) (y := y) (x0 := X * 65536) (x1 := (X + W) * 65536) (y0 := Y * 65536) (y1 := (Y + H) * 65536) (by omega) (by omega) (by omega) (by omega) (by omega) (by omega) (by omega) (by omega)
  have u2 := box_core sb sd ⟨sf1, sf2⟩ (x := x) (y := y) (x0 := X * 65536) (x1 := (X + W) * 65536) (y0 := Y * 65536) (y1 := (Y + H) * 65536) (by omega) (by omega) (by omega) (by omega) (by omega) (by omega) (by omega) (by omega)
  simp only at u1 u2
  have val : rect_Valid.f X Y W H = some true := by
    unfold rect_Valid.f
    rw [span_in (by omega) (by omega) (by omega) (by omega), span_in (by omega) (by omega) (by omega) (by omega)]
    rfl
  have emp : rect_Empty.f X Y W H = some false := by
    unfold rect_Empty.f rect_known.f
    rw [val]; simp only [Option.bind_some]
    rw [if_pos trivial]; simp only [Option.bind_some]
    rw [if_neg (by omega), show (H == 0) = false from beq_eq_false_iff_ne.mpr (by omega)]
  have hb1 : ∀ x y, (-1000000 ≤ x ∧ x ≤ 1000000) → (-1000000 ≤ y ∧ y ≤ 1000000) → affine_Box_1.f 11 x y a b c d e f = some (apx a c e (x * 65536) (y * 65536), apx b d f (x * 65536) (y * 65536)) := by
    intro x y h1 h2
    unfold affine_Box_1.f
    rw [w_in (n := x * 65536) (by omega) (by omega), w_in (n := y * 65536) (by omega) (by omega), apply_some 10]
    rfl
  have key : ∀ B1 B2 B3 B4 : Int, affine_Box.f 14 a b c d e f X Y W H = some (B1, B2, B3, B4, 0) → (-1048576 ≤ B1 ∧ B1 ≤ 1048576) → (-1048576 ≤ B2 ∧ B2 ≤ 1048576) → (0 ≤ B3 ∧ B3 ≤ 1048576) → (0 ≤ B4 ∧ B4 ≤ 1048576) →
      (B1 = 0 ∧ B2 = 0 ∧ B3 = 0 ∧ B4 = 0 ∨ 0 < B3 ∧ 0 < B4 ∧ B1 * 65536 ≤ apx a c e x y ∧ apx a c e x y ≤ (B1 + B3) * 65536 ∧ B2 * 65536 ≤ apx b d f x y ∧ apx b d f x y ≤ (B2 + B4) * 65536) →
      ((affine_Box.f 14 a b c d e f X Y W H).bind fun bt604 => (if bt604.2.2.2.2 = 0 then ((imageeditorlaw12_within.f 14 1048576 (([bt604.1, bt604.2.1, bt604.2.2.1, bt604.2.2.2.1] : List Int))).bind fun t613 => (if t613 = true then (if bt604.2.2.1 < 0 then (imageeditorlaw12_AffineContains.j1 14 true a b c d e f x y bt604.1 bt604.2.1 bt604.2.2.1 bt604.2.2.2.1) else (imageeditorlaw12_AffineContains.j1 14 (decide (bt604.2.2.2.1 < 0)) a b c d e f x y bt604.1 bt604.2.1 bt604.2.2.1 bt604.2.2.2.1)) else (imageeditorlaw12_AffineContains.j1 14 true a b c d e f x y bt604.1 bt604.2.1 bt604.2.2.1 bt604.2.2.2.1))) else (imageeditorlaw12_AffineContains.j1 14 true a b c d e f x y bt604.1 bt604.2.1 bt604.2.2.1 bt604.2.2.2.1))) = some true := by
    intro B1 B2 B3 B4 hbox h1 h2 h3 h4 h5
    rw [hbox]
    simp only [Option.bind_some]
    rw [if_pos trivial, within_four 9 _ _ _ _ _ (by omega)]
    simp only [Option.bind_some]
    rw [if_pos (decide_eq_true (by omega)), if_neg (by omega), show decide (B4 < 0) = false from decide_eq_false (by omega)]
    simp only [imageeditorlaw12_AffineContains.j1]
    rw [if_neg (by simp)]
    rcases h5 with ⟨rfl, rfl, rfl, rfl⟩ | ⟨g3, g4, q1, q2, q3, q4⟩
    · rw [if_pos rfl]
      simp only [imageeditorlaw12_AffineContains.j2]
      rw [if_pos trivial, if_pos (by simp), ex_some]; rfl
    · rw [if_neg (by omega), show (B4 == 0) = false from beq_eq_false_iff_ne.mpr (by omega)]
      simp only [imageeditorlaw12_AffineContains.j2]
      rw [if_neg (by simp), apply_some 11]
      simp only [Option.bind_some]
      rw [w_in (n := B1 * 65536) (by omega) (by omega), w_in (n := B2 * 65536) (by omega) (by omega), w_in (n := B1 + B3) (by omega) (by omega), w_in (n := B2 + B4) (by omega) (by omega), w_in (n := (B1 + B3) * 65536) (by omega) (by omega), w_in (n := (B2 + B4) * 65536) (by omega) (by omega),
        if_pos q1, if_pos q2, if_pos q3, if_pos q4, ex_some]
      rfl
  have hbox : affine_Box.f 14 a b c d e f X Y W H = affine_Box.j2 12 a b c d e f X Y W H := by
    unfold affine_Box.f
    rw [check_ok (vld_in (by omega) (by omega) (by omega) (by omega) (by omega) (by omega))]
    simp only [Option.bind_some]
    rw [if_pos trivial]
    simp only [affine_Box.j0]
    rw [val]; simp only [Option.bind_some]
    rw [if_pos trivial]
    simp only [affine_Box.j1]
    rw [emp]; simp only [Option.bind_some]
    rw [if_neg (by simp)]
  obtain ⟨l1, m1, bp, bq, bs, bt, bv⟩ := u1
  obtain ⟨l2, m2, cp, cq, cs, ct, cv⟩ := u2
  generalize hp1 : apx a c e (X * 65536) (Y * 65536) = p1 at *
  generalize hq1 : apx a c e ((X + W) * 65536) (Y * 65536) = q1 at *
  generalize hs1 : apx a c e (X * 65536) ((Y + H) * 65536) = s1 at *
  generalize ht1 : apx a c e ((X + W) * 65536) ((Y + H) * 65536) = t1 at *
  generalize hp2 : apx b d f (X * 65536) (Y * 65536) = p2 at *
  generalize hq2 : apx b d f ((X + W) * 65536) (Y * 65536) = q2 at *
  generalize hs2 : apx b d f (X * 65536) ((Y + H) * 65536) = s2 at *
  generalize ht2 : apx b d f ((X + W) * 65536) ((Y + H) * 65536) = t2 at *
  simp only [affine_Box.j2] at hbox
  rw [w_in (n := X + W) (by omega) (by omega), w_in (n := Y + H) (by omega) (by omega), hb1 X Y (by omega) (by omega), hb1 (X + W) Y (by omega) (by omega), hb1 X (Y + H) (by omega) (by omega), hb1 (X + W) (Y + H) (by omega) (by omega), hp1, hq1, hs1, ht1, hp2, hq2, hs2, ht2] at hbox
  simp only [Option.bind_some, mn_min, mx_max] at hbox
  generalize hL1 : min (min (min p1 q1) s1) t1 = L1 at *
  generalize hM1 : max (max (max p1 q1) s1) t1 = M1 at *
  generalize hL2 : min (min (min p2 q2) s2) t2 = L2 at *
  generalize hM2 : max (max (max p2 q2) s2) t2 = M2 at *
  have bL1 : -536870912 ≤ L1 ∧ L1 ≤ 536870912 := by omega
  have bM1 : -536870912 ≤ M1 ∧ M1 ≤ 536870912 := by omega
  have bL2 : -536870912 ≤ L2 ∧ L2 ≤ 536870912 := by omega
  have bM2 : -536870912 ≤ M2 ∧ M2 ≤ 536870912 := by omega
  rw [down_in bL1, up_in bM1, down_in bL2, up_in bM2] at hbox
  clear hL1 hM1 hL2 hM2 bp bq bs bt bv cp cq cs ct cv hb1
  simp only [Option.bind_some] at hbox
  by_cases k1 : L1 / 65536 ≥ -(-M1 / 65536)
  · rw [if_pos k1] at hbox
    simp only [affine_Box.j3] at hbox
    rw [if_pos trivial] at hbox
    exact key 0 0 0 0 hbox (by omega) (by omega) (by omega) (by omega) (.inl ⟨rfl, rfl, rfl, rfl⟩)
  · rw [if_neg k1] at hbox
    simp only [affine_Box.j3] at hbox
    by_cases k2 : L2 / 65536 ≥ -(-M2 / 65536)
    · rw [if_pos (decide_eq_true k2)] at hbox
      exact key 0 0 0 0 hbox (by omega) (by omega) (by omega) (by omega) (.inl ⟨rfl, rfl, rfl, rfl⟩)
    · obtain ⟨f1, f2, f3⟩ := frame l1 m1 k1
      obtain ⟨g1, g2, g3⟩ := frame l2 m2 k2
      obtain ⟨i1, i2, i3⟩ := frame_bd bL1 bM1 k1
      obtain ⟨j1, j2, j3⟩ := frame_bd bL2 bM2 k2
      rw [if_neg (by simpa using k2), w_in (n := -(-M1 / 65536) - L1 / 65536) (Int.le_trans (by decide) i2.1) (Int.le_trans i2.2 (by decide)), w_in (n := -(-M2 / 65536) - L2 / 65536) (Int.le_trans (by decide) j2.1) (Int.le_trans j2.2 (by decide))] at hbox
      exact key _ _ _ _ hbox i1 j1 i2 j2 (.inr ⟨f1, g1, f2, f3, g2, g3⟩)
end Go.Proofs.Ytgciphmmfbgkeaa.Pure
