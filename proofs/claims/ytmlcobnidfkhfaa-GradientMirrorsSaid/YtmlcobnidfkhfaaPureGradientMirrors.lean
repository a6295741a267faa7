/- GradientMirrors: radial and diamond positions about the center of a pixel are alike at opposite and at exchanged distances, for all numbers. No condition. -/
import Derived.Test.YtmlcobnidfkhfaaGrays
import Derived.Test.YtmlcobnidfkhfaaQ25
namespace Go.Proofs.Ytmlcobnidfkhfaa.Pure
open Go.RowKit Go.Proofs.Ytmlcobnidfkhfaa.Q Go.Proofs.YtmlcobnidfkhfaaW.PrintWords Go.Proofs.YtmlcobnidfkhfaaW.PrintLast
set_option linter.unusedVariables false
set_option linter.unusedSimpArgs false

/-- a radial or diamond position depends on the two distances alone, in any order and with any signs -/
theorem al_like {kind l2 dx dy dx' dy' vx vy : Int} (hk : kind = 2 ∨ kind = 4) (h : max dx (-dx) + max dy (-dy) = max dx' (-dx') + max dy' (-dy')) (g : dx * dx + dy * dy = dx' * dx' + dy' * dy') : al kind l2 dx dy vx vy = al kind l2 dx' dy' vx vy := by
  have k1 : ¬ kind = 1 := by omega
  have k3 : ¬ kind = 3 := by omega
  simp only [al, if_neg k1, if_neg k3, h, g]
theorem mirrors_one (k : Nat) {kind cx cy radius spread i j : Int} (hk : kind = 2 ∨ kind = 4) (c : -65535 ≤ cx ∧ cx ≤ 65535 ∧ -65535 ≤ cy ∧ cy ≤ 65535) (hi : -524288 ≤ i ∧ i ≤ 524288 ∧ -524288 ≤ j ∧ j ≤ 524288) (hr : 0 ≤ radius ∧ radius ≤ 1048576) (hs : 0 ≤ spread ∧ spread ≤ 2) :
    imageeditorlaw18_GradientMirrors.j1 (k + 91) cx cy radius spread i j kind = some true := by
  rw [imageeditorlaw18_GradientMirrors.j1]
  simp only [Option.bind_some]
  rw [w_in (n := 16 * cx) (by omega) (by omega), w_in (n := 16 * cy) (by omega) (by omega), w_in (n := 16 * cx + 8) (by omega) (by omega), w_in (n := 16 * cy + 8) (by omega) (by omega), w_in (n := cx + i) (by omega) (by omega), w_in (n := cy + j) (by omega) (by omega), w_in (n := cx - i) (by omega) (by omega), w_in (n := cy - j) (by omega) (by omega), w_in (n := cx + j) (by omega) (by omega), w_in (n := cy + i) (by omega) (by omega)]
  have hK : Kok kind spread := ⟨by omega, by omega, hs.1, hs.2⟩
  have hL : Lok kind [16 * cx + 8, 16 * cy + 8, radius] := ⟨fun h => by omega, fun _ => rfl⟩
  have hV : Vok kind [16 * cx + 8, 16 * cy + 8, radius] := by
    refine ⟨fun n n0 n1 => ?_, fun g => Int.not_lt.mpr hr.1 g.2⟩
    have n1' : n < 3 := n1
    have : n = 0 ∨ n = 1 ∨ n = 2 := by omega
    rcases this with rfl | rfl | rfl
    · show -1048576 ≤ 16 * cx + 8 ∧ 16 * cx + 8 ≤ 1048576; omega
    · show -1048576 ≤ 16 * cy + 8 ∧ 16 * cy + 8 ≤ 1048576; omega
    · show -1048576 ≤ radius ∧ radius ≤ 1048576; omega
  have e : ∀ u v du dv' : Int, cl u = cx + du → cl v = cy + dv' → pl kind [16 * cx + 8, 16 * cy + 8, radius] spread u v = sp spread (al kind radius (16 * du) (16 * dv') (radius - (16 * cx + 8)) (0 - (16 * cy + 8))) := by
    intro u v du dv' hu hv
    have q : pl kind [16 * cx + 8, 16 * cy + 8, radius] spread u v = sp spread (al kind radius (16 * cl u + 8 - (16 * cx + 8)) (16 * cl v + 8 - (16 * cy + 8)) (radius - (16 * cx + 8)) (0 - (16 * cy + 8))) := rfl
    rw [q, hu, hv, show 16 * (cx + du) + 8 - (16 * cx + 8) = 16 * du by omega, show 16 * (cy + dv') + 8 - (16 * cy + 8) = 16 * dv' by omega]
  have e1 := e (cx + i) (cy + j) i j (by unfold cl; omega) (by unfold cl; omega)
  have e2 := e (cx - i) (cy + j) (-i) j (by unfold cl; omega) (by unfold cl; omega)
  have e3 := e (cx + i) (cy - j) i (-j) (by unfold cl; omega) (by unfold cl; omega)
  have e4 := e (cx + j) (cy + i) j i (by unfold cl; omega) (by unfold cl; omega)
  rw [al_like hk (show max (16 * -i) (-(16 * -i)) + max (16 * j) (-(16 * j)) = max (16 * i) (-(16 * i)) + max (16 * j) (-(16 * j)) by omega) (by grind)] at e2
  rw [al_like hk (show max (16 * i) (-(16 * i)) + max (16 * -j) (-(16 * -j)) = max (16 * i) (-(16 * i)) + max (16 * j) (-(16 * j)) by omega) (by grind)] at e3
  rw [al_like hk (show max (16 * j) (-(16 * j)) + max (16 * i) (-(16 * i)) = max (16 * i) (-(16 * i)) + max (16 * j) (-(16 * j)) by omega) (by grind)] at e4
  have p := fun x y => Place_ok k x y hK hL hV
  rw [p, p, p, p]; simp only [Option.bind_some]
  rw [e1, e2, e3, e4, if_pos rfl, if_pos rfl, if_pos rfl, ex_at k]; rfl
theorem GradientMirrors : imageeditorlaw18_GradientMirrors.Pure := by
  intro diamond cx cy radius spread i j _ _ _ _ _ _
  refine ⟨100, ?_⟩
  have aw : imageeditorlaw18_GradientMirrors.j0 100 diamond cx cy radius spread i j true = some true := by
    rw [show (100 : Nat) = 9 + 90 + 1 from rfl, imageeditorlaw18_GradientMirrors.j0, if_pos rfl, ex_at]; rfl
  unfold imageeditorlaw18_GradientMirrors.f
  by_cases c1 : cx < -65535
  · rw [if_pos c1]; exact aw
  rw [if_neg c1]
  by_cases c2 : cx > 65535
  · rw [if_pos c2]; exact aw
  rw [if_neg c2]
  by_cases c3 : cy < -65535
  · rw [if_pos c3]; exact aw
  rw [if_neg c3]
  by_cases c4 : cy > 65535
  · rw [if_pos c4]; exact aw
  rw [if_neg c4]
  by_cases c5 : i < -524288
  · rw [if_pos c5]; exact aw
  rw [if_neg c5]
  by_cases c6 : i > 524288
  · rw [if_pos c6]; exact aw
  rw [if_neg c6]
  by_cases c7 : j < -524288
  · rw [if_pos c7]; exact aw
  rw [if_neg c7]
  by_cases c8 : j > 524288
  · rw [if_pos c8]; exact aw
  rw [if_neg c8]
  by_cases c9 : radius < 0
  · rw [if_pos c9]; exact aw
  rw [if_neg c9]
  by_cases d1 : radius > 1048576
  · rw [if_pos d1]; exact aw
  rw [if_neg d1]
  by_cases d2 : spread < 0
  · rw [if_pos d2]; exact aw
  rw [if_neg d2]
  by_cases d3 : spread > 2
  · rw [decide_eq_true d3]; exact aw
  rw [decide_eq_false d3, show (100 : Nat) = 99 + 1 from rfl, imageeditorlaw18_GradientMirrors.j0, if_neg (by decide)]
  by_cases d : diamond = true
  · rw [if_pos d]; exact mirrors_one 8 (.inr rfl) (by omega) (by omega) (by omega) (by omega)
  · rw [if_neg d]; exact mirrors_one 8 (.inl rfl) (by omega) (by omega) (by omega) (by omega)
end Go.Proofs.Ytmlcobnidfkhfaa.Pure
