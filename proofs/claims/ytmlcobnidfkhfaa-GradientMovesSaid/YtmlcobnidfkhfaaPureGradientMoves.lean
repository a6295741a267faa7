/- GradientMoves: a gradient moved by whole pixels has the same positions, moved, for all rows of numbers. No condition. -/
import Derived.Test.YtmlcobnidfkhfaaGrays
import Derived.Test.YtmlcobnidfkhfaaQ24
namespace Go.Proofs.Ytmlcobnidfkhfaa.Pure
open Go.RowKit Go.Proofs.Ytmlcobnidfkhfaa.Q Go.Proofs.YtmlcobnidfkhfaaW.PrintWords Go.Proofs.YtmlcobnidfkhfaaW.PrintLast
set_option linter.unusedVariables false
set_option linter.unusedSimpArgs false

theorem al_ne1 {kind l2 dx dy vx vy vx' vy' : Int} (hk : kind ≠ 1) : al kind l2 dx dy vx vy = al kind l2 dx dy vx' vy' := by
  simp only [al, if_neg hk]
theorem cl_in {x : Int} (h : -1048576 ≤ x ∧ x ≤ 1048576) : cl x = x := by unfold cl; omega
theorem aw_1 (k : Nat) (kind : Int) (l : List Int) (spread x y a b : Int) : imageeditorlaw18_GradientMoves.j0 (k + 91) kind l spread x y a b true = some true := by
  rw [imageeditorlaw18_GradientMoves.j0, if_pos rfl, ex_at]; rfl
/-- the end: the moved gradient is checked, and both positions are compared -/
theorem moved_end (k : Nat) {kind : Int} {l m : List Int} {spread x y a b : Int} (hK : Kok kind spread) (hL : Lok kind l) (hV : Vok kind l)
    (bx : -1048576 ≤ x ∧ x ≤ 1048576) (bY : -1048576 ≤ y ∧ y ≤ 1048576) (ba : -1048576 ≤ x + a ∧ x + a ≤ 1048576) (bb : -1048576 ≤ y + b ∧ y + b ≤ 1048576)
    (h0 : rd m 0 = rd l 0 + 16 * a) (h1 : rd m 1 = rd l 1 + 16 * b) (h2 : kind = 1 → rd m 2 = rd l 2 + 16 * a ∧ rd m 3 = rd l 3 + 16 * b) (h3 : kind ≠ 1 → rd m 2 = rd l 2) :
    imageeditorlaw18_GradientMoves.j1 (k + 91) kind l spread x y a b m = some true := by
  rw [imageeditorlaw18_GradientMoves.j1, grays_some]; simp only [Option.bind_some]
  rcases rcheck_grays (k + 70) kind m spread with ⟨_, hL', hV', e⟩ | ⟨_, z, hz, e⟩
  · rw [show k + 90 = k + 70 + 20 by omega, e]; simp only [Option.bind_some]
    rw [if_pos trivial, show k + 70 + 20 = k + 90 by omega, w_in (n := x + a) (by omega) (by omega), w_in (n := y + b) (by omega) (by omega), Place_ok k (x + a) (y + b) hK hL' hV', Place_ok k x y hK hL hV]; simp only [Option.bind_some]
    have q : pl kind m spread (x + a) (y + b) = pl kind l spread x y := by
      unfold pl
      rw [cl_in ba, cl_in bb, cl_in bx, cl_in bY, h0, h1, show 16 * (x + a) + 8 - (rd l 0 + 16 * a) = 16 * x + 8 - rd l 0 by omega, show 16 * (y + b) + 8 - (rd l 1 + 16 * b) = 16 * y + 8 - rd l 1 by omega]
      by_cases k1 : kind = 1
      · have g := h2 k1
        rw [g.1, g.2, show rd l 2 + 16 * a - (rd l 0 + 16 * a) = rd l 2 - rd l 0 by omega, show rd l 3 + 16 * b - (rd l 1 + 16 * b) = rd l 3 - rd l 1 by omega]
        congr 1; simp only [al, if_pos k1]
      · rw [h3 k1, al_ne1 k1]
    rw [if_pos q, ex_at]; rfl
  · rw [show k + 90 = k + 70 + 20 by omega, e]; simp only [Option.bind_some]
    rw [if_neg hz, show k + 70 + 20 = k + 90 by omega, ex_at]; rfl
theorem moved_all (k : Nat) {kind : Int} {l : List Int} {spread x y a b : Int} (hK : Kok kind spread) (hL : Lok kind l) (hV : Vok kind l)
    (bx : -1048576 ≤ x ∧ x ≤ 1048576) (bY : -1048576 ≤ y ∧ y ≤ 1048576) (ca : -1048576 ≤ a ∧ a ≤ 1048576) (cb : -1048576 ≤ b ∧ b ≤ 1048576) (ba : -1048576 ≤ x + a ∧ x + a ≤ 1048576) (bb : -1048576 ≤ y + b ∧ y + b ≤ 1048576) :
    imageeditorlaw18_GradientMoves.j0 (k + 92) kind l spread x y a b false = some true := by
  have hl : 3 ≤ (l.length : Int) ∧ (l.length : Int) ≤ 4 := by
    by_cases h : kind = 1
    · have := hL.1 h; omega
    · have := hL.2 h; omega
  have r0 := rd_rg hV.1 (i := 0) (by omega) (by omega)
  have r1 := rd_rg hV.1 (i := 1) (by omega) (by omega)
  have r2 := rd_rg hV.1 (i := 2) (by omega) (by omega)
  rw [imageeditorlaw18_GradientMoves.j0, if_neg (by decide)]; simp only [Option.bind_some, List.nil_append, List.length_nil]
  rw [if_pos (by omega), if_pos (by omega), if_pos (by omega), if_pos (by omega), if_pos (by omega)]
  rw [w_in (n := 16 * a) (by omega) (by omega), w_in (n := 16 * b) (by omega) (by omega), w_in (n := rd l 0 + 16 * a) (by omega) (by omega), w_in (n := rd l 1 + 16 * b) (by omega) (by omega)]
  by_cases k1 : kind = 1
  · have l4 := hL.1 k1
    have r3 := rd_rg hV.1 (i := 3) (by omega) (by omega)
    rw [if_pos k1, if_pos (by omega), if_pos (by omega), if_pos (by omega), if_pos (by omega), w_in (n := rd l 2 + 16 * a) (by omega) (by omega), w_in (n := rd l 3 + 16 * b) (by omega) (by omega)]
    refine moved_end k hK hL hV bx bY ba bb ?_ ?_ (fun _ => ?_) (fun h => absurd k1 h)
    all_goals
      match l, l4 with
      | [p, q, r, s], _ => first | rfl | exact ⟨rfl, rfl⟩
  · have l3 := hL.2 k1
    rw [if_neg k1]
    refine moved_end k hK hL hV bx bY ba bb ?_ ?_ (fun h => absurd h k1) (fun _ => ?_)
    all_goals
      match l, l3 with
      | [p, q, r], _ => rfl
theorem GradientMoves : imageeditorlaw18_GradientMoves.Pure := by
  intro kind l spread x y a b _ _ _ _ _ _ _ _ _
  refine ⟨100, ?_⟩
  have aw : imageeditorlaw18_GradientMoves.j0 100 kind l spread x y a b true = some true := aw_1 9 _ _ _ _ _ _ _
  unfold imageeditorlaw18_GradientMoves.f
  by_cases c1 : (l.length : Int) < 3
  · rw [if_pos c1]; exact aw
  rw [if_neg c1]
  by_cases c2 : a < -1048576
  · rw [if_pos c2]; exact aw
  rw [if_neg c2]
  by_cases c3 : a > 1048576
  · rw [if_pos c3]; exact aw
  rw [if_neg c3]
  by_cases c4 : b < -1048576
  · rw [if_pos c4]; exact aw
  rw [if_neg c4]
  by_cases c5 : b > 1048576
  · rw [if_pos c5]; exact aw
  rw [if_neg c5]
  by_cases c6 : x < -1048576
  · rw [if_pos c6]; exact aw
  rw [if_neg c6]
  by_cases c7 : x > 1048576
  · rw [if_pos c7]; exact aw
  rw [if_neg c7]
  by_cases c8 : y < -1048576
  · rw [if_pos c8]; exact aw
  rw [if_neg c8]
  by_cases c9 : y > 1048576
  · rw [if_pos c9]; exact aw
  rw [if_neg c9]
  rw [w_in (n := x + a) (by omega) (by omega), w_in (n := y + b) (by omega) (by omega)]
  by_cases d1 : x + a < -1048576
  · rw [if_pos d1]; exact aw
  rw [if_neg d1]
  by_cases d2 : x + a > 1048576
  · rw [if_pos d2]; exact aw
  rw [if_neg d2]
  by_cases d3 : y + b < -1048576
  · rw [if_pos d3]; exact aw
  rw [if_neg d3]
  by_cases d4 : y + b > 1048576
  · rw [if_pos d4]; exact aw
  rw [if_neg d4, grays_some]; simp only [Option.bind_some]
  rcases rcheck_grays 80 kind l spread with ⟨hK, hL, hV, e⟩ | ⟨_, z, hz, e⟩
  · rw [show (100 : Nat) = 80 + 20 from rfl, e]; simp only [Option.bind_some]
    exact moved_all 8 hK hL hV (by omega) (by omega) (by omega) (by omega) (by omega) (by omega)
  · rw [show (100 : Nat) = 80 + 20 from rfl, e]; simp only [Option.bind_some]
    rw [show (z != 0) = true from bne_iff_ne.mpr hz]; exact aw
end Go.Proofs.Ytmlcobnidfkhfaa.Pure
