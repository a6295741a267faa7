/- AffineNeutral: the identity changes nothing, a translation adds a vector and is undone by the opposite one. -/
import Derived.Test.YtgciphmmfbgkeaaAffI
import Derived.Test.YtgciphmmfbgkeaaAffW
import Derived.Test.YtgciphmmfbgkeaaQ16
namespace Go.Proofs.Ytgciphmmfbgkeaa.Pure
open Go.RowKit Go.Proofs.Ytgciphmmfbgkeaa.Q Go.Proofs.YtgciphmmfbgkeaaW.PrintWords Go.Proofs.YtgciphmmfbgkeaaW.PrintLast
set_option linter.unusedVariables false
set_option linter.unusedSimpArgs false

theorem dv_mul (q : Int) : dv (65536 * q) 65536 = q := by unfold dv; omega
theorem coef_one : coef 65536 = 65536 := coef_in (by omega)
theorem coef_zero : coef 0 = 0 := coef_in (by omega)
theorem pos_zero : pos 0 = 0 := pos_in (by omega)
theorem apx_one (e x y : Int) : apx 65536 0 e x y = pos (pos x + pos e) := by
  unfold apx; rw [coef_one, coef_zero, Int.zero_mul, Int.add_zero, dv_mul]
theorem apx_two (e x y : Int) : apx 0 65536 e x y = pos (pos y + pos e) := by
  unfold apx; rw [coef_one, coef_zero, Int.zero_mul, Int.zero_add, dv_mul]
theorem apx_org (m n e : Int) : apx m n e 0 0 = pos e := by
  unfold apx; rw [pos_zero, Int.mul_zero, Int.mul_zero, show dv (0 + 0) 65536 = 0 by decide, Int.zero_add, pos_pos]
theorem thx_a (a b : Int) : thx 65536 a 0 b = coef a := by
  unfold thx; rw [coef_one, coef_zero, Int.zero_mul, Int.add_zero, dv_mul, coef_coef]
theorem thx_b (a b : Int) : thx 0 a 65536 b = coef b := by
  unfold thx; rw [coef_one, coef_zero, Int.zero_mul, Int.zero_add, dv_mul, coef_coef]
theorem thx_c (a b : Int) : thx a 65536 b 0 = coef a := by
  unfold thx; rw [coef_one, coef_zero, Int.mul_zero, Int.add_zero, Int.mul_comm, dv_mul, coef_coef]
theorem thx_d (a b : Int) : thx a 0 b 65536 = coef b := by
  unfold thx; rw [coef_one, coef_zero, Int.mul_zero, Int.zero_add, Int.mul_comm, dv_mul, coef_coef]
theorem part_det (k : Nat) {x : Int} (h1 : -262144 ≤ x ∧ x ≤ 262144) : affine_Inverse_1.f (k + 1) x 4294967296 = some x := by
  obtain ⟨q, r, h, e, l, u⟩ := part_some k (d := 4294967296) (g := 4294967296) h1 (.inl rfl) (by omega) (by omega)
  rw [h]; congr 1; omega
theorem move_in {x y : Int} (hx : -524288 ≤ x ∧ x ≤ 524288) (hy : -524288 ≤ y ∧ y ≤ 524288) : affine_Move.f x y = some (65536, 0, 0, 65536, x * 65536, y * 65536) := by
  rw [move_some, show min 1048576 (max x (-1048576)) = x by omega, show min 1048576 (max y (-1048576)) = y by omega]
theorem inv_move (k : Nat) {x y : Int} (hx : -524288 ≤ x ∧ x ≤ 524288) (hy : -524288 ≤ y ∧ y ≤ 524288) : affine_Inverse.f (k + 4) 65536 0 0 65536 (x * 65536) (y * 65536) = some (65536, 0, 0, 65536, -x * 65536, -y * 65536, 0) := by
  unfold affine_Inverse.f
  rw [check_ok (vld_in (by omega) (by omega) (by omega) (by omega) (by omega) (by omega))]
  simp only [Option.bind_some]
  rw [if_pos trivial]
  simp only [affine_Inverse.j0]
  rw [show (wrap64 ((wrap64 (65536 * 65536)) - (wrap64 (0 * 0)))) = 4294967296 by rw [w_in (n := 65536 * 65536) (by omega) (by omega), w_in (n := 0 * 0) (by omega) (by omega), w_in (by omega) (by omega)]; rfl, if_neg (by omega)]
  simp only [affine_Inverse.j1]
  rw [show wrap64 (-0) = 0 by rw [w_in (by omega) (by omega)]; rfl, part_det (k + 1) (by omega), part_det (k + 1) (by omega)]
  simp only [Option.bind_some]
  rw [check_ok (vld_in (by omega) (by omega) (by omega) (by omega) (by omega) (by omega))]
  simp only [Option.bind_some]
  rw [if_pos trivial]
  simp only [affine_Inverse.j2]
  rw [show wrap64 (-0) = 0 by rw [w_in (by omega) (by omega)]; rfl, w_in (n := -65536) (by omega) (by omega), dot_some k (by omega) (by omega) (by omega) (by omega), dot_some k (by omega) (by omega) (by omega) (by omega)]
  simp only [Option.bind_some]
  rw [show dv (-65536 * (x * 65536) + 0 * (y * 65536)) 65536 = -x * 65536 by rw [show -65536 * (x * 65536) + 0 * (y * 65536) = 65536 * (-x * 65536) by omega, dv_mul],
    show dv (0 * (x * 65536) + -65536 * (y * 65536)) 65536 = -y * 65536 by rw [show 0 * (x * 65536) + -65536 * (y * 65536) = 65536 * (-y * 65536) by omega, dv_mul],
    check_ok (vld_in (by omega) (by omega) (by omega) (by omega) (by omega) (by omega))]
  simp only [Option.bind_some]
  rw [if_pos trivial]

theorem AffineNeutral (a b c d e f px py x y : Int) (w1 : (Lit.int .i64 a).wf = true) (w2 : (Lit.int .i64 b).wf = true) (w3 : (Lit.int .i64 c).wf = true) (w4 : (Lit.int .i64 d).wf = true) (w5 : (Lit.int .i64 e).wf = true) (w6 : (Lit.int .i64 f).wf = true)
    (w7 : (Lit.int .i64 px).wf = true) (w8 : (Lit.int .i64 py).wf = true) (w13 : (Lit.int .i64 x).wf = true) (w14 : (Lit.int .i64 y).wf = true) :
    ∃ k, imageeditorlaw12_AffineNeutral.f k a b c d e f px py x y = some true := by
  refine ⟨13, ?_⟩
  have aw : ∀ (b_ : Bool), b_ = true → ∀ (x y a b c d e f px py : Int), imageeditorlaw12_AffineNeutral.j0 13 x y b_ a b c d e f px py = some true := by
    intro b_ h x y a b c d e f px py
    simp only [imageeditorlaw12_AffineNeutral.j0]
    rw [if_pos h, ex_some]; rfl
  unfold imageeditorlaw12_AffineNeutral.f
  rw [← check_same, check_cases, within_two 10 _ _ _ (by omega), within_two 10 _ _ _ (by omega)]
  simp only [Option.bind_some]
  by_cases c1 : Vld a b c d e f
  case neg => rw [if_neg c1, if_neg (by omega)]; exact aw _ rfl _ _ _ _ _ _ _ _ _ _
  rw [if_pos c1, if_pos rfl]
  by_cases c2 : -68719476736 ≤ px ∧ px ≤ 68719476736 ∧ -68719476736 ≤ py ∧ py ≤ 68719476736
  case neg => rw [if_neg (by simpa using c2)]; exact aw _ rfl _ _ _ _ _ _ _ _ _ _
  rw [if_pos (decide_eq_true c2)]
  by_cases c3 : -524288 ≤ x ∧ x ≤ 524288 ∧ -524288 ≤ y ∧ y ≤ 524288
  case neg => rw [decide_eq_false c3]; exact aw _ rfl _ _ _ _ _ _ _ _ _ _
  rw [decide_eq_true c3]
  obtain ⟨v1, v2, v3, v4, v5, v6⟩ := c1
  obtain ⟨x1, x2, y1⟩ := c3
  obtain ⟨p1, p2, q1⟩ := c2
  simp only [imageeditorlaw12_AffineNeutral.j0]
  rw [if_neg (by simp), show affine_Same.f = some (65536, 0, 0, 65536, 0, 0) from rfl, move_in ⟨x1, x2⟩ y1]
  simp only [Option.bind_some]
  rw [inv_move 8 ⟨x1, x2⟩ y1, apply_some 11, apx_one, apx_two, pos_zero, Int.add_zero, Int.add_zero, pos_pos, pos_pos, pos_in (x := px) (by omega), pos_in (x := py) (by omega)]
  simp only [Option.bind_some]
  rw [if_pos (by simp), then_some 11, thx_a, thx_b, thx_a, thx_b, apx_one, apx_two, pos_zero, Int.add_zero, Int.add_zero, pos_pos, pos_pos, v1, v2, v3, v4, v5, v6]
  simp only [Option.bind_some]
  rw [if_pos (by simp), then_some 11, thx_c, thx_d, thx_c, thx_d, apx_org, apx_org, v1, v2, v3, v4, v5, v6]
  simp only [Option.bind_some]
  rw [if_pos (by simp), apply_some 11, apx_one, apx_two, pos_in (x := px) (by omega), pos_in (x := py) (by omega), pos_in (x := x * 65536) (by omega), pos_in (x := y * 65536) (by omega), pos_in (by omega), pos_in (by omega)]
  simp only [Option.bind_some]
  rw [w_in (n := x * 65536) (by omega) (by omega), w_in (n := y * 65536) (by omega) (by omega), w_in (n := px + x * 65536) (by omega) (by omega), w_in (n := py + y * 65536) (by omega) (by omega), if_pos (by simp), if_pos trivial,
    w_in (n := -x) (by omega) (by omega), w_in (n := -y) (by omega) (by omega), move_in (by omega) (by omega)]
  simp only [Option.bind_some]
  rw [if_pos (by simp), ex_some]
  rfl
end Go.Proofs.Ytgciphmmfbgkeaa.Pure
