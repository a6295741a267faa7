/- Each Go function of the law as a Lean function, with the proof that its call comes to just that, for every input; written by hp.py, a program of this session over the kit own print of the translation. -/
import Derived.Test.YtmlcobnidfkhfaaQ0
import Derived.Test.YtmlcobnidfkhfaaQ3
import Derived.Test.YtmlcobnidfkhfaaQ8
import Derived.Test.YtmlcobnidfkhfaaQ13
namespace Go.Proofs.Ytmlcobnidfkhfaa.Q
open Go.RowKit Go.Proofs.YtmlcobnidfkhfaaW.PrintWords Go.Proofs.YtmlcobnidfkhfaaW.PrintLast Go.Proofs.YtmlcobnidfkhfaaW.PrintMore
attribute [local go_sem] max2_int min2_int max_two min_two max_three min_three max_four min_four   -- for this text's walks alone
set_option linter.unusedVariables false
set_option linter.unusedSimpArgs false
open Go.Proofs.Ytmlcobnidfkhfaa.Clo Go.Proofs.Ytmlcobnidfkhfaa.Mk0

/-! ### imageeditorlaw18_GradientMoves: function 9 -/
mutual
def imageeditorlaw18_GradientMoves.j0 : Nat → Int → List Int → Int → Int → Int → Int → Int → Bool → Option (Bool)
 | 0, _, _, _, _, _, _, _, _ => none
 | k + 1, x0, x1, x2, x3, x4, x5, x6, x101 => if x101 = true then ((imageeditorlaw18_awake.f k).bind fun t526 => (some t526)) else ((some (([] : List Int) : List Int)).bind fun y527 => (if y527.length + x1.length < 17592186044416 then ((some (y527 ++ x1 : List Int)).bind fun y530 => (if 0 < (x1.length : Int) then (if 1 < (x1.length : Int) then (if 0 < (y530.length : Int) then (if 1 < (y530.length : Int) then ((some ((y530.set (0 : Int).toNat (wrap64 ((rd x1 0) + (wrap64 (16 * x5))))).set (1 : Int).toNat (wrap64 ((rd x1 1) + (wrap64 (16 * x6)))) : List Int)).bind fun y536 => (if x0 = 1 then (if 2 < (x1.length : Int) then (if 3 < (x1.length : Int) then (if 2 < (y530.length : Int) then (if 3 < (y530.length : Int) then (imageeditorlaw18_GradientMoves.j1 k x0 x1 x2 x3 x4 x5 x6 ((y536.set (2 : Int).toNat (wrap64 ((rd x1 2) + (wrap64 (16 * x5))))).set (3 : Int).toNat (wrap64 ((rd x1 3) + (wrap64 (16 * x6)))))) else (none)) else (none)) else (none)) else (none)) else (imageeditorlaw18_GradientMoves.j1 k x0 x1 x2 x3 x4 x5 x6 y536))) else (none)) else (none)) else (none)) else (none))) else (none)))
def imageeditorlaw18_GradientMoves.j1 : Nat → Int → List Int → Int → Int → Int → Int → Int → List Int → Option (Bool)
 | 0, _, _, _, _, _, _, _, _ => none
 | k + 1, x0, x1, x2, x3, x4, x5, x6, x16 => (imageeditorlaw18_grays.f).bind fun t541 => ((imageeditorref18_Check.f k x0 x16 x2 t541).bind fun t544 => (if t544 = 0 then ((gradient_Place.f k x0 x16 x2 (wrap64 (x3 + x5)) (wrap64 (x4 + x6))).bind fun t545 => ((gradient_Place.f k x0 x1 x2 x3 x4).bind fun t546 => (if t545 = t546 then ((imageeditorlaw18_awake.f k).bind fun t547 => (some t547)) else (none)))) else ((imageeditorlaw18_awake.f k).bind fun t548 => (some t548))))
end
def imageeditorlaw18_GradientMoves.f (k : Nat) (a0 : Int) (l1 : List Int) (a2 : Int) (a3 : Int) (a4 : Int) (a5 : Int) (a6 : Int) : Option (Bool) := if (l1.length : Int) < 3 then (imageeditorlaw18_GradientMoves.j0 k a0 l1 a2 a3 a4 a5 a6 true) else (if a5 < (-1048576) then (imageeditorlaw18_GradientMoves.j0 k a0 l1 a2 a3 a4 a5 a6 true) else (if a5 > 1048576 then (imageeditorlaw18_GradientMoves.j0 k a0 l1 a2 a3 a4 a5 a6 true) else (if a6 < (-1048576) then (imageeditorlaw18_GradientMoves.j0 k a0 l1 a2 a3 a4 a5 a6 true) else (if a6 > 1048576 then (imageeditorlaw18_GradientMoves.j0 k a0 l1 a2 a3 a4 a5 a6 true) else (if a3 < (-1048576) then (imageeditorlaw18_GradientMoves.j0 k a0 l1 a2 a3 a4 a5 a6 true) else (if a3 > 1048576 then (imageeditorlaw18_GradientMoves.j0 k a0 l1 a2 a3 a4 a5 a6 true) else (if a4 < (-1048576) then (imageeditorlaw18_GradientMoves.j0 k a0 l1 a2 a3 a4 a5 a6 true) else (if a4 > 1048576 then (imageeditorlaw18_GradientMoves.j0 k a0 l1 a2 a3 a4 a5 a6 true) else (if (wrap64 (a3 + a5)) < (-1048576) then (imageeditorlaw18_GradientMoves.j0 k a0 l1 a2 a3 a4 a5 a6 true) else (if (wrap64 (a3 + a5)) > 1048576 then (imageeditorlaw18_GradientMoves.j0 k a0 l1 a2 a3 a4 a5 a6 true) else (if (wrap64 (a4 + a6)) < (-1048576) then (imageeditorlaw18_GradientMoves.j0 k a0 l1 a2 a3 a4 a5 a6 true) else (if (wrap64 (a4 + a6)) > 1048576 then (imageeditorlaw18_GradientMoves.j0 k a0 l1 a2 a3 a4 a5 a6 true) else ((imageeditorlaw18_grays.f).bind fun t522 => ((imageeditorref18_Check.f k a0 l1 a2 t522).bind fun t525 => (imageeditorlaw18_GradientMoves.j0 k a0 l1 a2 a3 a4 a5 a6 (t525 != 0))))))))))))))))
theorem imageeditorlaw18_GradientMoves.mono_l : ∀ k, (∀ y0 y1 y2 y3 y4 y5 y6 y7, LeO (imageeditorlaw18_GradientMoves.j0 k y0 y1 y2 y3 y4 y5 y6 y7) (imageeditorlaw18_GradientMoves.j0 (k + 1) y0 y1 y2 y3 y4 y5 y6 y7)) ∧ (∀ y0 y1 y2 y3 y4 y5 y6 y7, LeO (imageeditorlaw18_GradientMoves.j1 k y0 y1 y2 y3 y4 y5 y6 y7) (imageeditorlaw18_GradientMoves.j1 (k + 1) y0 y1 y2 y3 y4 y5 y6 y7))
 | 0 => ⟨fun _ _ _ _ _ _ _ _ r h => by simp [imageeditorlaw18_GradientMoves.j0] at h, fun _ _ _ _ _ _ _ _ r h => by simp [imageeditorlaw18_GradientMoves.j1] at h⟩
 | k + 1 => by
  obtain ⟨ih0, ih1⟩ := imageeditorlaw18_GradientMoves.mono_l k
  refine ⟨?_, ?_⟩
  ·intro y0 y1 y2 y3 y4 y5 y6 y7
   unfold imageeditorlaw18_GradientMoves.j0
   repeat' first
   | (with_reducible exact ih0 _ _ _ _ _ _ _ _)
   | (with_reducible exact ih1 _ _ _ _ _ _ _ _)
   | (with_reducible exact gradient_Place.mono _ _ _ _ _ _)
   | (with_reducible exact imageeditorlaw18_awake.mono _)
   | (with_reducible exact imageeditorref18_Check.mono _ _ _ _ _)
   | (with_reducible exact LeO.refl _)
   | (with_reducible exact LeO.none _)
   | (with_reducible refine LeO.ite ?_ ?_)
   | (with_reducible refine LeO.bind ?_ (fun _ => ?_))
  ·intro y0 y1 y2 y3 y4 y5 y6 y7
   unfold imageeditorlaw18_GradientMoves.j1
   repeat' first
   | (with_reducible exact ih0 _ _ _ _ _ _ _ _)
   | (with_reducible exact ih1 _ _ _ _ _ _ _ _)
   | (with_reducible exact gradient_Place.mono _ _ _ _ _ _)
   | (with_reducible exact imageeditorlaw18_awake.mono _)
   | (with_reducible exact imageeditorref18_Check.mono _ _ _ _ _)
   | (with_reducible exact LeO.refl _)
   | (with_reducible exact LeO.none _)
   | (with_reducible refine LeO.ite ?_ ?_)
   | (with_reducible refine LeO.bind ?_ (fun _ => ?_))
theorem imageeditorlaw18_GradientMoves.mono : ∀ a0 a1 a2 a3 a4 a5 a6 k, LeO (imageeditorlaw18_GradientMoves.f k a0 a1 a2 a3 a4 a5 a6) (imageeditorlaw18_GradientMoves.f (k + 1) a0 a1 a2 a3 a4 a5 a6) := by
 intro a0 a1 a2 a3 a4 a5 a6 k
 obtain ⟨ih0, ih1⟩ := imageeditorlaw18_GradientMoves.mono_l k
 unfold imageeditorlaw18_GradientMoves.f
 repeat' first
   | (with_reducible exact ih0 _ _ _ _ _ _ _ _)
   | (with_reducible exact ih1 _ _ _ _ _ _ _ _)
   | (with_reducible exact gradient_Place.mono _ _ _ _ _ _)
   | (with_reducible exact imageeditorlaw18_awake.mono _)
   | (with_reducible exact imageeditorref18_Check.mono _ _ _ _ _)
   | (with_reducible exact LeO.refl _)
   | (with_reducible exact LeO.none _)
   | (with_reducible refine LeO.ite ?_ ?_)
   | (with_reducible refine LeO.bind ?_ (fun _ => ?_))
def imageeditorlaw18_GradientMoves.T5 : Bool × List (List Nat × List Nat) := (true, [([], []), ([], []), ([], []), ([2], [2]), ([3], [3]), ([], []), ([5], [5]), ([4, 6], [4, 6]), ([], []), ([8], [8]), ([9], [9]), ([], []), ([11], [11]), ([10, 12], [10, 12]), ([0, 0, 2, 3, 4, 5, 6, 7, 10], [0]), ([14, 7, 0, 2, 3, 4, 5, 6, 7, 10], [7, 14]), ([1, 0, 1, 2, 3, 4, 5, 6, 7, 8, 9, 10, 11, 12, 13, 14, 15], [1]), ([16, 13, 15, 0, 1, 2, 3, 4, 5, 6, 7, 8, 9, 10, 11, 12, 13, 14, 15], [13, 16])])
def imageeditorlaw18_GradientMoves.B5 : List Nat := [0, 0, 0, 4, 12, 0, 32, 124, 0, 256, 768, 0, 2048, 7936, 2045, 18429, 65535, 131071]
theorem imageeditorlaw18_GradientMoves.tab5 : rtab .any (opsOf Try.f9 5) = imageeditorlaw18_GradientMoves.T5 := by kernel_rfl
theorem imageeditorlaw18_GradientMoves.bits5 : waitsOk imageeditorlaw18_GradientMoves.T5.2 imageeditorlaw18_GradientMoves.B5 = true := by kernel_rfl
def imageeditorlaw18_GradientMoves.T7 : Bool × List (List Nat × List Nat) := (true, [([], []), ([], []), ([], []), ([2], [2]), ([3], [3]), ([], []), ([5], [5]), ([4, 6], [4, 6]), ([], []), ([8], [8]), ([9], [9]), ([], []), ([11], [11]), ([10, 12], [10, 12]), ([0, 0, 2, 3, 4, 5, 6, 7, 10], [0]), ([14, 7, 0, 2, 3, 4, 5, 6, 7, 10], [7, 14]), ([1, 0, 1, 2, 3, 4, 5, 6, 7, 8, 9, 10, 11, 12, 13, 14, 15], [1]), ([16, 13, 15, 0, 1, 2, 3, 4, 5, 6, 7, 8, 9, 10, 11, 12, 13, 14, 15], [13, 16])])
def imageeditorlaw18_GradientMoves.B7 : List Nat := [0, 0, 0, 4, 12, 0, 32, 124, 0, 256, 768, 0, 2048, 7936, 2045, 18429, 65535, 131071]
theorem imageeditorlaw18_GradientMoves.tab7 : rtab .any (opsOf Try.f9 7) = imageeditorlaw18_GradientMoves.T7 := by kernel_rfl
theorem imageeditorlaw18_GradientMoves.bits7 : waitsOk imageeditorlaw18_GradientMoves.T7.2 imageeditorlaw18_GradientMoves.B7 = true := by kernel_rfl
set_option maxHeartbeats 8000000 in
set_option maxRecDepth 100000 in
theorem imageeditorlaw18_GradientMoves.calls (k : Nat) (a0 : Int) (A1 : Option Addr) (c1 : Nat) (l1 : List Int) (a2 : Int) (a3 : Int) (a4 : Int) (a5 : Int) (a6 : Int) (r : Bool) (w : World) (hr1 : Kd.C (Kd.int .i64) w A1 l1.length l1) (hc1 : l1.length ≤ c1) (h : imageeditorlaw18_GradientMoves.f k a0 l1 a2 a3 a4 a5 a6 = some r) :
  Calls Try.prog 9 #[.int .i64 a0, .slice A1 l1.length c1, .int .i64 a2, .int .i64 a3, .int .i64 a4, .int .i64 a5, .int .i64 a6] w fun e w' => e = .returned (.bool r) ∧ Below w.heap.size w w' := by
 have HR1 := Aside0.mk hr1
 have HC1 := Aside0.mk hc1
 clear hr1 hc1
 have HB := Aside0.mk (Below.refl w.heap.size w)
 have H : (if (l1.length : Int) < 3 then (imageeditorlaw18_GradientMoves.j0 k a0 l1 a2 a3 a4 a5 a6 true) else (if a5 < (-1048576) then (imageeditorlaw18_GradientMoves.j0 k a0 l1 a2 a3 a4 a5 a6 true) else (if a5 > 1048576 then (imageeditorlaw18_GradientMoves.j0 k a0 l1 a2 a3 a4 a5 a6 true) else (if a6 < (-1048576) then (imageeditorlaw18_GradientMoves.j0 k a0 l1 a2 a3 a4 a5 a6 true) else (if a6 > 1048576 then (imageeditorlaw18_GradientMoves.j0 k a0 l1 a2 a3 a4 a5 a6 true) else (if a3 < (-1048576) then (imageeditorlaw18_GradientMoves.j0 k a0 l1 a2 a3 a4 a5 a6 true) else (if a3 > 1048576 then (imageeditorlaw18_GradientMoves.j0 k a0 l1 a2 a3 a4 a5 a6 true) else (if a4 < (-1048576) then (imageeditorlaw18_GradientMoves.j0 k a0 l1 a2 a3 a4 a5 a6 true) else (if a4 > 1048576 then (imageeditorlaw18_GradientMoves.j0 k a0 l1 a2 a3 a4 a5 a6 true) else (if (wrap64 (a3 + a5)) < (-1048576) then (imageeditorlaw18_GradientMoves.j0 k a0 l1 a2 a3 a4 a5 a6 true) else (if (wrap64 (a3 + a5)) > 1048576 then (imageeditorlaw18_GradientMoves.j0 k a0 l1 a2 a3 a4 a5 a6 true) else (if (wrap64 (a4 + a6)) < (-1048576) then (imageeditorlaw18_GradientMoves.j0 k a0 l1 a2 a3 a4 a5 a6 true) else (if (wrap64 (a4 + a6)) > 1048576 then (imageeditorlaw18_GradientMoves.j0 k a0 l1 a2 a3 a4 a5 a6 true) else ((imageeditorlaw18_grays.f).bind fun t522 => ((imageeditorref18_Check.f k a0 l1 a2 t522).bind fun t525 => (imageeditorlaw18_GradientMoves.j0 k a0 l1 a2 a3 a4 a5 a6 (t525 != 0))))))))))))))))) = some r := h
 clear h
 have HC8 := Aside0.mk H
 clear H
 go_enter Try.func9, Try.ntmps9
 (try simp only [List.append])
 go_upto_region 2 with (fail)
 go_cut [101] (fun v101 wc => ∃ (kq : Nat) (x101_7 : Bool), v101 = .bool x101_7 ∧ Aside0 (imageeditorlaw18_GradientMoves.j0 kq a0 l1 a2 a3 a4 a5 a6 x101_7 = some r) ∧ Aside0 (kq ≤ k) ∧ Aside0 (Below w.heap.size w wc))
 case first =>
  have H := HC8.out
  clear HC8
  by_cases c9 : (l1.length : Int) < 3
  ·rw [if_pos c9] at H
   have c9b0 : decide ((l1.length : Int) < 3) = true := decide_eq_true c9
   have c9b1 : decide (l1.length < 3) = true := decide_eq_true (by omega)
   clear c9
   (first | rw [c9b0] | (simp only [i64_w, i32_w]; rw [c9b0]) | skip)
   have H' := Aside0.mk H
   clear H
   go_wp2
   go_meet
   case rel => exact ⟨_, (true), (by first | rfl | (simp; done) | (simp [*]; done)), H', ⟨by first | omega | exact Nat.le_refl _⟩, ⟨by repeat (first | (with_reducible first | exact HB.out | apply lA_ | apply lN_ | apply lD_) | exact HB.out)⟩⟩
  ·rw [if_neg c9] at H
   have c9b0 : decide ((l1.length : Int) < 3) = false := decide_eq_false c9
   have c9b1 : decide (l1.length < 3) = false := decide_eq_false (by omega)
   clear c9
   (first | rw [c9b0] | (simp only [i64_w, i32_w]; rw [c9b0]) | skip)
   by_cases c10 : a5 < (-1048576)
   ·rw [if_pos c10] at H
    have c10b0 : decide (a5 < (-1048576)) = true := decide_eq_true c10
    clear c10
    have H' := Aside0.mk H
    clear H
    go_wp2
    go_meet
    case rel => exact ⟨_, (true), (by first | rfl | (simp; done) | (simp [*]; done)), H', ⟨by first | omega | exact Nat.le_refl _⟩, ⟨by repeat (first | (with_reducible first | exact HB.out | apply lA_ | apply lN_ | apply lD_) | exact HB.out)⟩⟩
   ·rw [if_neg c10] at H
    have c10b0 : decide (a5 < (-1048576)) = false := decide_eq_false c10
    clear c10
    by_cases c11 : a5 > 1048576
    ·rw [if_pos c11] at H
     have c11b0 : decide (1048576 < a5) = true := decide_eq_true c11
     clear c11
     have H' := Aside0.mk H
     clear H
     go_wp2
     go_meet
     case rel => exact ⟨_, (true), (by first | rfl | (simp; done) | (simp [*]; done)), H', ⟨by first | omega | exact Nat.le_refl _⟩, ⟨by repeat (first | (with_reducible first | exact HB.out | apply lA_ | apply lN_ | apply lD_) | exact HB.out)⟩⟩
    ·rw [if_neg c11] at H
     have c11b0 : decide (1048576 < a5) = false := decide_eq_false c11
     clear c11
     by_cases c12 : a6 < (-1048576)
     ·rw [if_pos c12] at H
      have c12b0 : decide (a6 < (-1048576)) = true := decide_eq_true c12
      clear c12
      have H' := Aside0.mk H
      clear H
      go_wp2
      go_meet
      case rel => exact ⟨_, (true), (by first | rfl | (simp; done) | (simp [*]; done)), H', ⟨by first | omega | exact Nat.le_refl _⟩, ⟨by repeat (first | (with_reducible first | exact HB.out | apply lA_ | apply lN_ | apply lD_) | exact HB.out)⟩⟩
     ·rw [if_neg c12] at H
      have c12b0 : decide (a6 < (-1048576)) = false := decide_eq_false c12
      clear c12
      by_cases c13 : a6 > 1048576
      ·rw [if_pos c13] at H
       have c13b0 : decide (1048576 < a6) = true := decide_eq_true c13
       clear c13
       have H' := Aside0.mk H
       clear H
       go_wp2
       go_meet
       case rel => exact ⟨_, (true), (by first | rfl | (simp; done) | (simp [*]; done)), H', ⟨by first | omega | exact Nat.le_refl _⟩, ⟨by repeat (first | (with_reducible first | exact HB.out | apply lA_ | apply lN_ | apply lD_) | exact HB.out)⟩⟩
      ·rw [if_neg c13] at H
       have c13b0 : decide (1048576 < a6) = false := decide_eq_false c13
       clear c13
       by_cases c14 : a3 < (-1048576)
       ·rw [if_pos c14] at H
        have c14b0 : decide (a3 < (-1048576)) = true := decide_eq_true c14
        clear c14
        have H' := Aside0.mk H
        clear H
        go_wp2
        go_meet
        case rel => exact ⟨_, (true), (by first | rfl | (simp; done) | (simp [*]; done)), H', ⟨by first | omega | exact Nat.le_refl _⟩, ⟨by repeat (first | (with_reducible first | exact HB.out | apply lA_ | apply lN_ | apply lD_) | exact HB.out)⟩⟩
       ·rw [if_neg c14] at H
        have c14b0 : decide (a3 < (-1048576)) = false := decide_eq_false c14
        clear c14
        by_cases c15 : a3 > 1048576
        ·rw [if_pos c15] at H
         have c15b0 : decide (1048576 < a3) = true := decide_eq_true c15
         clear c15
         have H' := Aside0.mk H
         clear H
         go_wp2
         go_meet
         case rel => exact ⟨_, (true), (by first | rfl | (simp; done) | (simp [*]; done)), H', ⟨by first | omega | exact Nat.le_refl _⟩, ⟨by repeat (first | (with_reducible first | exact HB.out | apply lA_ | apply lN_ | apply lD_) | exact HB.out)⟩⟩
        ·rw [if_neg c15] at H
         have c15b0 : decide (1048576 < a3) = false := decide_eq_false c15
         clear c15
         by_cases c16 : a4 < (-1048576)
         ·rw [if_pos c16] at H
          have c16b0 : decide (a4 < (-1048576)) = true := decide_eq_true c16
          clear c16
          have H' := Aside0.mk H
          clear H
          go_wp2
          go_meet
          case rel => exact ⟨_, (true), (by first | rfl | (simp; done) | (simp [*]; done)), H', ⟨by first | omega | exact Nat.le_refl _⟩, ⟨by repeat (first | (with_reducible first | exact HB.out | apply lA_ | apply lN_ | apply lD_) | exact HB.out)⟩⟩
         ·rw [if_neg c16] at H
          have c16b0 : decide (a4 < (-1048576)) = false := decide_eq_false c16
          clear c16
          by_cases c17 : a4 > 1048576
          ·rw [if_pos c17] at H
           have c17b0 : decide (1048576 < a4) = true := decide_eq_true c17
           clear c17
           have H' := Aside0.mk H
           clear H
           go_wp2
           go_meet
           case rel => exact ⟨_, (true), (by first | rfl | (simp; done) | (simp [*]; done)), H', ⟨by first | omega | exact Nat.le_refl _⟩, ⟨by repeat (first | (with_reducible first | exact HB.out | apply lA_ | apply lN_ | apply lD_) | exact HB.out)⟩⟩
          ·rw [if_neg c17] at H
           have c17b0 : decide (1048576 < a4) = false := decide_eq_false c17
           clear c17
           by_cases c18 : (wrap64 (a3 + a5)) < (-1048576)
           ·rw [if_pos c18] at H
            have c18b0 : decide ((wrap64 (a3 + a5)) < (-1048576)) = true := decide_eq_true c18
            clear c18
            have H' := Aside0.mk H
            clear H
            go_wp2
            go_meet
            case rel => exact ⟨_, (true), (by first | rfl | (simp; done) | (simp [*]; done)), H', ⟨by first | omega | exact Nat.le_refl _⟩, ⟨by repeat (first | (with_reducible first | exact HB.out | apply lA_ | apply lN_ | apply lD_) | exact HB.out)⟩⟩
           ·rw [if_neg c18] at H
            have c18b0 : decide ((wrap64 (a3 + a5)) < (-1048576)) = false := decide_eq_false c18
            clear c18
            by_cases c19 : (wrap64 (a3 + a5)) > 1048576
            ·rw [if_pos c19] at H
             have c19b0 : decide (1048576 < (wrap64 (a3 + a5))) = true := decide_eq_true c19
             clear c19
             have H' := Aside0.mk H
             clear H
             go_wp2
             go_meet
             case rel => exact ⟨_, (true), (by first | rfl | (simp; done) | (simp [*]; done)), H', ⟨by first | omega | exact Nat.le_refl _⟩, ⟨by repeat (first | (with_reducible first | exact HB.out | apply lA_ | apply lN_ | apply lD_) | exact HB.out)⟩⟩
            ·rw [if_neg c19] at H
             have c19b0 : decide (1048576 < (wrap64 (a3 + a5))) = false := decide_eq_false c19
             clear c19
             by_cases c20 : (wrap64 (a4 + a6)) < (-1048576)
             ·rw [if_pos c20] at H
              have c20b0 : decide ((wrap64 (a4 + a6)) < (-1048576)) = true := decide_eq_true c20
              clear c20
              have H' := Aside0.mk H
              clear H
              go_wp2
              go_meet
              case rel => exact ⟨_, (true), (by first | rfl | (simp; done) | (simp [*]; done)), H', ⟨by first | omega | exact Nat.le_refl _⟩, ⟨by repeat (first | (with_reducible first | exact HB.out | apply lA_ | apply lN_ | apply lD_) | exact HB.out)⟩⟩
             ·rw [if_neg c20] at H
              have c20b0 : decide ((wrap64 (a4 + a6)) < (-1048576)) = false := decide_eq_false c20
              clear c20
              by_cases c21 : (wrap64 (a4 + a6)) > 1048576
              ·rw [if_pos c21] at H
               have c21b0 : decide (1048576 < (wrap64 (a4 + a6))) = true := decide_eq_true c21
               clear c21
               have H' := Aside0.mk H
               clear H
               go_wp2
               go_meet
               case rel => exact ⟨_, (true), (by first | rfl | (simp; done) | (simp [*]; done)), H', ⟨by first | omega | exact Nat.le_refl _⟩, ⟨by repeat (first | (with_reducible first | exact HB.out | apply lA_ | apply lN_ | apply lD_) | exact HB.out)⟩⟩
              ·rw [if_neg c21] at H
               have c21b0 : decide (1048576 < (wrap64 (a4 + a6))) = false := decide_eq_false c21
               clear c21
               replace H := Option.bind_eq_some_iff.mp H
               obtain ⟨t522, A220, H⟩ := H
               replace H : ((imageeditorref18_Check.f k a0 l1 a2 t522).bind fun t525 => (imageeditorlaw18_GradientMoves.j0 k a0 l1 a2 a3 a4 a5 a6 (t525 != 0))) = some r := H
               have A22 := Aside0.mk A220
               clear A220
               replace H := Option.bind_eq_some_iff.mp H
               obtain ⟨t525, A230, H⟩ := H
               replace H : (imageeditorlaw18_GradientMoves.j0 k a0 l1 a2 a3 a4 a5 a6 (t525 != 0)) = some r := H
               have A23 := Aside0.mk A230
               clear A230
               have H' := Aside0.mk H
               clear H
               go_wp2_with (first | (go_at_call 12; (with_reducible refine (imageeditorlaw18_grays.calls  t522 _ A22.out).mono ?_); rintro e w24 ⟨v523, rfl, ho0, hb⟩; have n0_ := Aside0.mk (Kd.R_lower ho0 (below_size (by repeat (first | (with_reducible first | exact HB.out | apply lA_ | apply lN_ | apply lD_) | exact HB.out)))); have n1_ := Aside0.mk (below_step (by repeat (first | (with_reducible first | exact HB.out | apply lA_ | apply lN_ | apply lD_) | exact HB.out)) hb); clear HB; have HO524 := n0_; have HB := n1_; clear n0_ n1_; (try clear hb); (try clear hb2); (try clear hk); (try clear hi); (try clear ho0); obtain ⟨Ao25, co25, eo25⟩ := Kd.R_slice HO524.out; subst eo25) | (go_at_call 11; (with_reducible refine (imageeditorref18_Check.calls k a0 _ _ l1 a2 _ _ t522 t525 _ ?side1 ?side2 ?side3 ?side4 A23.out).mono ?_); (case side1 => repeat (first | exact (Kd.C_below HR1.out HB.out) | (with_reducible refine Kd.C_alloc ?_ _) | (with_reducible refine Kd.C_drewN ?_ _) | (with_reducible refine Kd.C_drew ?_))); (case side2 => exact HC1.out); (case side3 => repeat (first | exact (Kd.R_reads' HO524.out).2.2 | (with_reducible refine Kd.C_alloc ?_ _) | (with_reducible refine Kd.C_drewN ?_ _) | (with_reducible refine Kd.C_drew ?_))); (case side4 => exact (Kd.R_reads' HO524.out).2.1); rintro e w26 ⟨rfl, hb⟩; have n0_ := Aside0.mk (Kd.R_below (by (with_reducible repeat (first | apply Kd.R_alloc | apply Kd.R_drewN | apply Kd.R_drew)); exact HO524.out) hb); have n1_ := Aside0.mk (below_step (by repeat (first | (with_reducible first | exact HB.out | apply lA_ | apply lN_ | apply lD_) | exact HB.out)) hb); clear HO524; clear HB; have HO524 := n0_; have HB := n1_; clear n0_ n1_; (try clear hb); (try clear hb2); (try clear hk); (try clear hi)))
               go_meet
               case rel => exact ⟨_, ((t525 != 0)), (by first | rfl | (simp; done) | (simp [*]; done)), H', ⟨by first | omega | exact Nat.le_refl _⟩, ⟨by repeat (first | (with_reducible first | exact HB.out | apply lA_ | apply lN_ | apply lD_) | exact HB.out)⟩⟩
 case rest =>
  clear HC8
  try clear c1
  try clear c2
  try clear p2
  try clear p6
  try clear c9
  try clear c9b0
  try clear c9b1
  try clear c10
  try clear c10b0
  try clear c11
  try clear c11b0
  try clear c12
  try clear c12b0
  try clear c13
  try clear c13b0
  try clear c14
  try clear c14b0
  try clear c15
  try clear c15b0
  try clear c16
  try clear c16b0
  try clear c17
  try clear c17b0
  try clear c18
  try clear c18b0
  try clear c19
  try clear c19b0
  try clear c20
  try clear c20b0
  try clear c21
  try clear c21b0
  obtain ⟨kq, x101_7, rfl, HA, HJ7, HB⟩ := hcut
  cases kq with
  | zero => exact absurd HA.out (by simp [imageeditorlaw18_GradientMoves.j0])
  | succ kj7 =>
   have H := HA.out
   clear HA
   simp only [imageeditorlaw18_GradientMoves.j0] at H
   by_cases c27 : x101_7 = true
   ·subst c27
    have H1 : ((imageeditorlaw18_awake.f kj7).bind fun t526 => (some t526)) = some r := by rw [if_pos rfl] at H; exact H
    clear H
    have H := H1
    clear H1
    replace H := Option.bind_eq_some_iff.mp H
    obtain ⟨t526, A280, H⟩ := H
    replace H : (some t526) = some r := H
    have A28 := Aside0.mk A280
    clear A280
    obtain rfl := Option.some.inj H
    go_wp2_with (first | ((with_reducible refine gate_callee (f := 13) rfl ?_); refine goesL_ (some 102) rfl rfl Try.func13 (by kernel_rfl) rfl #[] rfl (by (try simp only [List.map_toArray, List.map_cons, List.map_nil]); first | done | rfl | (simp only [List.length_drop, List.length_take]; rfl)) ?_; (with_reducible refine (imageeditorlaw18_awake.calls kj7  t526 _ A28.out).mono ?_); rintro e w29 ⟨rfl, hb⟩; refine ⟨_, rfl, ?_⟩; have n0_ := Aside0.mk (below_step (by repeat (first | (with_reducible first | exact HB.out | apply lA_ | apply lN_ | apply lD_) | exact HB.out)) hb); clear HB; have HB := n0_; clear n0_; (try clear hb); (try clear hb2); (try clear hk); (try clear hi)))
    go_ret
    exact ⟨by first | rfl | (simp [errW_none, errW_some] <;> rfl) | (simp [*, errW_none, errW_some] <;> rfl), by repeat (first | (with_reducible first | exact HB.out | apply lA_ | apply lN_ | apply lD_) | exact HB.out)⟩
   ·replace c27 := Bool.eq_false_iff.mpr c27
    subst c27
    have H1 : ((some (([] : List Int) : List Int)).bind fun y527 => (if y527.length + l1.length < 17592186044416 then ((some (y527 ++ l1 : List Int)).bind fun y530 => (if 0 < (l1.length : Int) then (if 1 < (l1.length : Int) then (if 0 < (y530.length : Int) then (if 1 < (y530.length : Int) then ((some ((y530.set (0 : Int).toNat (wrap64 ((rd l1 0) + (wrap64 (16 * a5))))).set (1 : Int).toNat (wrap64 ((rd l1 1) + (wrap64 (16 * a6)))) : List Int)).bind fun y536 => (if a0 = 1 then (if 2 < (l1.length : Int) then (if 3 < (l1.length : Int) then (if 2 < (y530.length : Int) then (if 3 < (y530.length : Int) then (imageeditorlaw18_GradientMoves.j1 kj7 a0 l1 a2 a3 a4 a5 a6 ((y536.set (2 : Int).toNat (wrap64 ((rd l1 2) + (wrap64 (16 * a5))))).set (3 : Int).toNat (wrap64 ((rd l1 3) + (wrap64 (16 * a6)))))) else (none)) else (none)) else (none)) else (none)) else (imageeditorlaw18_GradientMoves.j1 kj7 a0 l1 a2 a3 a4 a5 a6 y536))) else (none)) else (none)) else (none)) else (none))) else (none))) = some r := by rw [if_neg (show ¬ (false = true) by decide)] at H; exact H
    clear H
    have H := H1
    clear H1
    obtain ⟨y527, hy527⟩ : ∃ y_ : List Int, y_ = (([] : List Int)) := ⟨_, rfl⟩
    replace H : (if y527.length + l1.length < 17592186044416 then ((some (y527 ++ l1 : List Int)).bind fun y530 => (if 0 < (l1.length : Int) then (if 1 < (l1.length : Int) then (if 0 < (y530.length : Int) then (if 1 < (y530.length : Int) then ((some ((y530.set (0 : Int).toNat (wrap64 ((rd l1 0) + (wrap64 (16 * a5))))).set (1 : Int).toNat (wrap64 ((rd l1 1) + (wrap64 (16 * a6)))) : List Int)).bind fun y536 => (if a0 = 1 then (if 2 < (l1.length : Int) then (if 3 < (l1.length : Int) then (if 2 < (y530.length : Int) then (if 3 < (y530.length : Int) then (imageeditorlaw18_GradientMoves.j1 kj7 a0 l1 a2 a3 a4 a5 a6 ((y536.set (2 : Int).toNat (wrap64 ((rd l1 2) + (wrap64 (16 * a5))))).set (3 : Int).toNat (wrap64 ((rd l1 3) + (wrap64 (16 * a6)))))) else (none)) else (none)) else (none)) else (none)) else (imageeditorlaw18_GradientMoves.j1 kj7 a0 l1 a2 a3 a4 a5 a6 y536))) else (none)) else (none)) else (none)) else (none))) else (none)) = some r := by first | (rw [hy527]; with_reducible exact H) | (have H2_ := (Option.bind_some _ _).symm.trans H; rw [hy527]; with_reducible exact H2_) | (have H2_ := (Option.bind_some _ _).symm.trans H; with_reducible exact H2_) | with_reducible exact H | (rw [hy527]; exact H) | exact H
    have Ny527 := Aside0.mk hy527
    clear hy527
    by_cases c30 : y527.length + l1.length < 17592186044416
    ·rw [if_pos c30] at H
     have LMc30 := Aside0.mk c30
     clear c30
     obtain ⟨y530, hy530⟩ : ∃ y_ : List Int, y_ = (y527 ++ l1) := ⟨_, rfl⟩
     replace H : (if 0 < (l1.length : Int) then (if 1 < (l1.length : Int) then (if 0 < (y530.length : Int) then (if 1 < (y530.length : Int) then ((some ((y530.set (0 : Int).toNat (wrap64 ((rd l1 0) + (wrap64 (16 * a5))))).set (1 : Int).toNat (wrap64 ((rd l1 1) + (wrap64 (16 * a6)))) : List Int)).bind fun y536 => (if a0 = 1 then (if 2 < (l1.length : Int) then (if 3 < (l1.length : Int) then (if 2 < (y530.length : Int) then (if 3 < (y530.length : Int) then (imageeditorlaw18_GradientMoves.j1 kj7 a0 l1 a2 a3 a4 a5 a6 ((y536.set (2 : Int).toNat (wrap64 ((rd l1 2) + (wrap64 (16 * a5))))).set (3 : Int).toNat (wrap64 ((rd l1 3) + (wrap64 (16 * a6)))))) else (none)) else (none)) else (none)) else (none)) else (imageeditorlaw18_GradientMoves.j1 kj7 a0 l1 a2 a3 a4 a5 a6 y536))) else (none)) else (none)) else (none)) else (none)) = some r := by first | (rw [hy530]; with_reducible exact H) | (have H2_ := (Option.bind_some _ _).symm.trans H; rw [hy530]; with_reducible exact H2_) | (have H2_ := (Option.bind_some _ _).symm.trans H; with_reducible exact H2_) | with_reducible exact H | (rw [hy530]; exact H) | exact H
     have Ny530 := Aside0.mk hy530
     clear hy530
     by_cases c31 : 0 < (l1.length : Int)
     ·rw [if_pos c31] at H
      have c31b0 : decide (0 < (l1.length : Int)) = true := decide_eq_true c31
      have c31b1 : decide (0 < l1.length) = true := decide_eq_true (by omega)
      clear c31
      by_cases c32 : 1 < (l1.length : Int)
      ·rw [if_pos c32] at H
       have c32b0 : decide (1 < (l1.length : Int)) = true := decide_eq_true c32
       have c32b1 : decide (1 < l1.length) = true := decide_eq_true (by omega)
       clear c32
       by_cases c33 : 0 < (y530.length : Int)
       ·rw [if_pos c33] at H
        have c33b0 : decide (0 < (y530.length : Int)) = true := decide_eq_true c33
        have c33b1 : decide (0 < y530.length) = true := decide_eq_true (by omega)
        clear c33
        obtain ⟨y535, hy535⟩ : ∃ y_ : List Int, y_ = (y530.set (0 : Int).toNat (wrap64 ((rd l1 0) + (wrap64 (16 * a5))))) := ⟨_, rfl⟩
        replace H : (if 1 < (y530.length : Int) then ((some (y535.set (1 : Int).toNat (wrap64 ((rd l1 1) + (wrap64 (16 * a6)))) : List Int)).bind fun y536 => (if a0 = 1 then (if 2 < (l1.length : Int) then (if 3 < (l1.length : Int) then (if 2 < (y530.length : Int) then (if 3 < (y530.length : Int) then (imageeditorlaw18_GradientMoves.j1 kj7 a0 l1 a2 a3 a4 a5 a6 ((y536.set (2 : Int).toNat (wrap64 ((rd l1 2) + (wrap64 (16 * a5))))).set (3 : Int).toNat (wrap64 ((rd l1 3) + (wrap64 (16 * a6)))))) else (none)) else (none)) else (none)) else (none)) else (imageeditorlaw18_GradientMoves.j1 kj7 a0 l1 a2 a3 a4 a5 a6 y536))) else (none)) = some r := by first | (rw [hy535]; with_reducible exact H) | (have H2_ := (Option.bind_some _ _).symm.trans H; rw [hy535]; with_reducible exact H2_) | (have H2_ := (Option.bind_some _ _).symm.trans H; with_reducible exact H2_) | with_reducible exact H | (rw [hy535]; exact H) | exact H
        have Ny535 := Aside0.mk hy535
        clear hy535
        by_cases c35 : 1 < (y530.length : Int)
        ·rw [if_pos c35] at H
         have c35b0 : decide (1 < (y530.length : Int)) = true := decide_eq_true c35
         have c35b1 : decide (1 < y530.length) = true := decide_eq_true (by omega)
         clear c35
         obtain ⟨y536, hy536⟩ : ∃ y_ : List Int, y_ = (y535.set (1 : Int).toNat (wrap64 ((rd l1 1) + (wrap64 (16 * a6))))) := ⟨_, rfl⟩
         replace H : (if a0 = 1 then (if 2 < (l1.length : Int) then (if 3 < (l1.length : Int) then (if 2 < (y530.length : Int) then (if 3 < (y530.length : Int) then (imageeditorlaw18_GradientMoves.j1 kj7 a0 l1 a2 a3 a4 a5 a6 ((y536.set (2 : Int).toNat (wrap64 ((rd l1 2) + (wrap64 (16 * a5))))).set (3 : Int).toNat (wrap64 ((rd l1 3) + (wrap64 (16 * a6)))))) else (none)) else (none)) else (none)) else (none)) else (imageeditorlaw18_GradientMoves.j1 kj7 a0 l1 a2 a3 a4 a5 a6 y536)) = some r := by first | (rw [hy536]; with_reducible exact H) | (have H2_ := (Option.bind_some _ _).symm.trans H; rw [hy536]; with_reducible exact H2_) | (have H2_ := (Option.bind_some _ _).symm.trans H; with_reducible exact H2_) | with_reducible exact H | (rw [hy536]; exact H) | exact H
         have Ny536 := Aside0.mk hy536
         clear hy536
         have HC37 := Aside0.mk H
         clear H
         try go_wp2_with (first | ((with_reducible refine gate_dst (N := 103) rfl ?_); refine Kd.R_lit (Kd.int .i64) _ 3 ?hg (N := 103) ?hd (xs := ([] : List Int)) (inner := []) (ok := fun _ => True) (okp := fun _ => True) ?hr ?hp (fun _ hk => hk) trivial (Below.refl _ _) (Nat.le_refl _) (by simp) ?_; (case hd => rfl); (case hg => rfl); (case hr => first | (go_simp; done) | (go_simp; rfl)); (case hp => exact (Reps.none _ _)); intro v528 w38 ho39 hb hg_ hnew_; clear hg_ hnew_; (first | rw [← Ny527.out] at ho39 | (simp only [Int.reduceToNat] at ho39; rw [← Ny527.out] at ho39)); have n0_ := Aside0.mk (Kd.R_lower ho39 (below_size (by repeat (first | (with_reducible first | exact HB.out | apply lA_ | apply lN_ | apply lD_) | exact HB.out)))); have n1_ := Aside0.mk (below_step (by repeat (first | (with_reducible first | exact HB.out | apply lA_ | apply lN_ | apply lD_) | exact HB.out)) hb); clear HB; have HO529 := n0_; have HB := n1_; clear n0_ n1_; clear hb ho39) | ((with_reducible refine gate_builtin (b := .append) (xs := #[.tmp 103, .tmp 104]) rfl ?_); at_builtin; refine Kd.R_append_rows (Kd.int .i64) (w0 := w) w.heap.size rfl (.tmp 103) (.tmp 104) 22 3 (.int .i64 0) 8 rfl Try.underlying22 info3 rfl (by decide) (by omega) v528 y527 l1 _ _ _ (fun _ => True) (fun _ => False) rfl rfl ?aO ?aR (fun _ _ h => h) (fun _ h => h.elim) ?aF ?aB ?aS ?aL ?_; (case aR => repeat (first | exact (Kd.C_below HR1.out HB.out) | (with_reducible refine Kd.C_alloc ?_ _) | (with_reducible refine Kd.C_drewN ?_ _) | (with_reducible refine Kd.C_drew ?_))); (case aB => exact (by repeat (first | (with_reducible first | exact HB.out | apply lA_ | apply lN_ | apply lD_) | exact HB.out))); (case aF => exact (fun _ _ => trivial)); (case aO => exact (by (with_reducible repeat (first | apply Kd.R_alloc | apply Kd.R_drewN | apply Kd.R_drew)); exact HO529.out)); (case aS => exact (below_size (by repeat (first | (with_reducible first | exact HB.out | apply lA_ | apply lN_ | apply lD_) | exact HB.out)))); (case aL => have := LMc30.out; omega); intro v531 w40 ho hb hg hat; rw [← Ny530.out] at ho; have n0_ := Aside0.mk (hb); have n1_ := Aside0.mk (ho); clear HB; clear HO529; have HB := n0_; have HO532 := n1_; clear n0_ n1_; clear ho hb hg hat))
         have n0_ := Aside0.mk (Kd.R_drew HO532.out)
         have n1_ := Aside0.mk (below_drew1 HB.out)
         clear HO532
         clear HB
         have HO532 := n0_
         have HB := n1_
         clear n0_ n1_
         have p533 : 0 ≤ (0 : Int) := (by omega)
         have q533 : 0 < (l1.length : Int) := of_decide_eq_true (by first | (with_reducible assumption) | assumption)
         obtain ⟨ad533, e533, hx533_0⟩ := Kd.at_int HR1.out 0 p533 q533
         have hw533_0 := hx533_0
         (try rw [show ((0 : Int)).toNat = 0 from rfl] at hw533_0)
         (try rw [show 0 * 1 = 0 from rfl] at hw533_0)
         (try rw [Addr.add_zero'] at hw533_0)
         cases e533
         have qi533 : (0 < l1.length) = True := eq_true (by omega)
         (try rw [show ((0 : Int)).toNat = 0 from rfl] at hx533_0)
         (try rw [Addr.add_zero'] at hx533_0)
         replace hx533_0 := (HB.out.cell (World.block_lt_of_cell? w _ hx533_0)).trans hx533_0
         replace p533 := eq_true p533
         replace q533 := eq_true q533
         have p534 : 0 ≤ (1 : Int) := (by omega)
         have q534 : 1 < (l1.length : Int) := of_decide_eq_true (by first | (with_reducible assumption) | assumption)
         obtain ⟨ad534, e534, hx534_0⟩ := Kd.at_int HR1.out 1 p534 q534
         have hw534_0 := hx534_0
         (try rw [show ((1 : Int)).toNat = 1 from rfl] at hw534_0)
         (try rw [show 1 * 1 = 1 from rfl] at hw534_0)
         (try simp only [Nat.reduceMul, Nat.reduceEqDiff, Go.Addr.add, ↓reduceIte] at hw534_0)
         obtain rfl : ad533 = ad534 := (by injection e534)
         (try simp only [show (1 : Int).toNat = 1 from rfl, Nat.reduceMul, Nat.reduceEqDiff, Go.Addr.add, ↓reduceIte] at hx534_0)
         have qi534 : (1 < l1.length) = True := eq_true (by omega)
         (try rw [show ((1 : Int)).toNat = 1 from rfl] at hx534_0)
         replace hx534_0 := (HB.out.cell (World.block_lt_of_cell? w _ hx534_0)).trans hx534_0
         replace p534 := eq_true p534
         replace q534 := eq_true q534
         have p34 : 0 ≤ (0 : Int) := (by omega)
         have q34 : (0 : Int) < ((y530.length : Int) : Int) := of_decide_eq_true (by first | (with_reducible assumption) | assumption)
         have qi34 : (0 < y530.length) = True := eq_true (by omega)
         obtain ⟨go34, co34, eo34, gb34, gl34, cl34, HG34⟩ := Kd.R_form HO532.out (by omega)
         (first | cases eo34 | (injection eo34 with ea_ en_ ec_; (first | subst ea_ | (injection ea_ with ea_; subst ea_)); subst ec_; clear en_))
         have GB34 := Aside0.mk gb34
         have GG34 := Aside0.mk HG34
         clear gb34 gl34 HG34
         obtain ⟨hx34_0, hf34_0⟩ := Kd.R_celln 0 HO532.out (0 : Int) p34 q34
         (try rw [show ((0 : Int)).toNat = 0 from rfl] at hx34_0)
         (try simp only [Nat.reduceMul, Nat.zero_mul, Nat.zero_add, Nat.reduceAdd] at hx34_0)
         (try rw [show ((0 : Int)).toNat = 0 from rfl] at hf34_0)
         (try simp only [Nat.reduceMul, Nat.zero_mul, Nat.zero_add, Nat.reduceAdd] at hf34_0)
         replace p34 := eq_true p34
         replace q34 := eq_true q34
         have HP42 := Kd.R_putn HO532.out (0 : Int) (wrap64 ((rd l1 0) + (wrap64 (16 * a5))))
         rw [← Ny535.out] at HP42
         have HQ42 := Aside0.mk HP42
         clear HP42
         have p36 : 0 ≤ (1 : Int) := (by omega)
         have q36 : (1 : Int) < ((y530.length : Int) : Int) := of_decide_eq_true (by first | (with_reducible assumption) | assumption)
         have qi36 : (1 < y530.length) = True := eq_true (by omega)
         obtain ⟨hx36_0, hf36_0⟩ := Kd.R_celln 0 HQ42.out (1 : Int) p36 q36
         (try rw [show ((1 : Int)).toNat = 1 from rfl] at hx36_0)
         (try simp only [Nat.reduceMul, Nat.zero_mul, Nat.zero_add, Nat.reduceAdd] at hx36_0)
         (try rw [show ((1 : Int)).toNat = 1 from rfl] at hf36_0)
         (try simp only [Nat.reduceMul, Nat.zero_mul, Nat.zero_add, Nat.reduceAdd] at hf36_0)
         (try replace hx36_0 := (World.cell?_setCell_other _ _ _ _ (by simp)).symm.trans hx36_0)
         (try simp only [World.frozen?_setCell] at hf36_0)
         replace p36 := eq_true p36
         replace q36 := eq_true q36
         have HP43 := Kd.R_putn HQ42.out (1 : Int) (wrap64 ((rd l1 1) + (wrap64 (16 * a6))))
         rw [← Ny536.out] at HP43
         have HQ43 := Aside0.mk HP43
         clear HP43
         refine start_ (n := 18) (S := fun w' => w'.cell? ad533 = some (.int .i64 (rd l1 0)) ∧ w'.cell? ⟨ad533.block, ad533.off + 1, none⟩ = some (.int .i64 (rd l1 1))) (ds := [15, 17]) #[false, false, false, false, false, false, false, false, false, false, false, false, false, false, false, false, false, false] (by kernel_rfl) rfl rfl ⟨((HB.out.cell (World.block_lt_of_cell? w _ hw533_0)).trans hw533_0), ((HB.out.cell (World.block_lt_of_cell? w _ hw534_0)).trans hw534_0)⟩ (fun hHeld => ?_); refine with_tabW imageeditorlaw18_GradientMoves.tab5 imageeditorlaw18_GradientMoves.bits5 (fun HT_ HW_ => ?_)
         generalize w40.drew = w41 at HO532 HB GG34 HQ42 HQ43 hf34_0 hf36_0 hx34_0 hx36_0 hx533_0 hx534_0 hHeld ⊢
         refine pure_ (i := 0) (N := some 106) (v := ?_) (a' := ?_) #[true, false, false, false, false, false, false, false, false, false, false, false, false, false, false, false, false, false] rfl rfl (any_of HT_.out (by kernel_rfl)) (fun _ _ _ h => h) (Or.inl ⟨by rfl, ?_⟩) ?_ ?_
         rotate_left
         ·intro w'
          go_simp
          with_reducible rfl
         rotate_left
         ·simp only [Act.put, tS_, tZ_, tC_, i64_w, i32_w]
          rfl
         refine pure_ (i := 1) (N := some 107) (v := ?_) (a' := ?_) #[true, true, false, false, false, false, false, false, false, false, false, false, false, false, false, false, false, false] rfl rfl (any_of HT_.out (by kernel_rfl)) (fun _ _ _ h => h) (Or.inl ⟨by rfl, ?_⟩) ?_ ?_
         rotate_left
         ·intro w'
          go_simp
          with_reducible rfl
         rotate_left
         ·simp only [Act.put, tS_, tZ_, tC_, i64_w, i32_w]
          rfl
         refine pure_ (i := 2) (N := some 108) (v := ?_) (a' := ?_) #[true, true, true, false, false, false, false, false, false, false, false, false, false, false, false, false, false, false] rfl rfl (any_of HT_.out (by kernel_rfl)) (fun _ _ _ h => h) (Or.inl ⟨by rfl, ?_⟩) ?_ ?_
         rotate_left
         ·intro w'
          go_simp
          with_reducible rfl
         rotate_left
         ·simp only [Act.put, tS_, tZ_, tC_, i64_w, i32_w]
          rfl
         refine pure_ (i := 3) (N := some 109) (v := ?_) (a' := ?_) #[true, true, true, true, false, false, false, false, false, false, false, false, false, false, false, false, false, false] rfl rfl (any_of HT_.out (by kernel_rfl)) (fun _ _ _ h => h) (Or.inl ⟨by rfl, ?_⟩) ?_ ?_
         rotate_left
         ·intro w'
          go_simp
          with_reducible rfl
         rotate_left
         ·simp only [Act.put, tS_, tZ_, tC_, i64_w, i32_w]
          rfl
         refine pure_ (i := 5) (N := some 111) (v := ?_) (a' := ?_) #[true, true, true, true, false, true, false, false, false, false, false, false, false, false, false, false, false, false] rfl rfl (any_of HT_.out (by kernel_rfl)) (fun _ _ _ h => h) (Or.inl ⟨by rfl, ?_⟩) ?_ ?_
         rotate_left
         ·intro w'
          go_simp
          with_reducible rfl
         rotate_left
         ·simp only [Act.put, tS_, tZ_, tC_, i64_w, i32_w]
          rfl
         refine pure_ (i := 6) (N := some 112) (v := ?_) (a' := ?_) #[true, true, true, true, false, true, true, false, false, false, false, false, false, false, false, false, false, false] rfl rfl (any_of HT_.out (by kernel_rfl)) (fun _ _ _ h => h) (Or.inl ⟨by rfl, ?_⟩) ?_ ?_
         rotate_left
         ·intro w'
          go_simp
          with_reducible rfl
         rotate_left
         ·simp only [Act.put, tS_, tZ_, tC_, i64_w, i32_w]
          rfl
         refine pure_ (i := 8) (N := some 114) (v := ?_) (a' := ?_) #[true, true, true, true, false, true, true, false, true, false, false, false, false, false, false, false, false, false] rfl rfl (any_of HT_.out (by kernel_rfl)) (fun _ _ _ h => h) (Or.inl ⟨by rfl, ?_⟩) ?_ ?_
         rotate_left
         ·intro w'
          go_simp
          with_reducible rfl
         rotate_left
         ·simp only [Act.put, tS_, tZ_, tC_, i64_w, i32_w]
          rfl
         refine pure_ (i := 9) (N := some 115) (v := ?_) (a' := ?_) #[true, true, true, true, false, true, true, false, true, true, false, false, false, false, false, false, false, false] rfl rfl (any_of HT_.out (by kernel_rfl)) (fun _ _ _ h => h) (Or.inl ⟨by rfl, ?_⟩) ?_ ?_
         rotate_left
         ·intro w'
          go_simp
          with_reducible rfl
         rotate_left
         ·simp only [Act.put, tS_, tZ_, tC_, i64_w, i32_w]
          rfl
         refine pure_ (i := 11) (N := some 117) (v := ?_) (a' := ?_) #[true, true, true, true, false, true, true, false, true, true, false, true, false, false, false, false, false, false] rfl rfl (any_of HT_.out (by kernel_rfl)) (fun _ _ _ h => h) (Or.inl ⟨by rfl, ?_⟩) ?_ ?_
         rotate_left
         ·intro w'
          go_simp
          with_reducible rfl
         rotate_left
         ·simp only [Act.put, tS_, tZ_, tC_, i64_w, i32_w]
          rfl
         refine pure_ (i := 12) (N := some 118) (v := ?_) (a' := ?_) #[true, true, true, true, false, true, true, false, true, true, false, true, true, false, false, false, false, false] rfl rfl (any_of HT_.out (by kernel_rfl)) (fun _ _ _ h => h) (Or.inl ⟨by rfl, ?_⟩) ?_ ?_
         rotate_left
         ·intro w'
          go_simp
          with_reducible rfl
         rotate_left
         ·simp only [Act.put, tS_, tZ_, tC_, i64_w, i32_w]
          rfl
         refine take_ (i := 4) (N := some 110) (v := ?_) (a' := ?_) #[true, true, true, true, true, true, true, false, true, true, false, true, true, false, false, false, false, false] rfl rfl (take_ofW HT_.out HW_.out (by kernel_rfl)) (fun _ _ _ h => h) (Or.inl ⟨by rfl, ?_⟩) hHeld ?_ ?_
         rotate_left
         ·rintro w' ⟨s0, s1⟩
          go_simp
          with_reducible rfl
         rotate_left
         ·simp only [Act.put, tS_, tZ_, tC_, i64_w, i32_w]
          rfl
         refine pure_ (i := 7) (N := some 113) (v := ?_) (a' := ?_) #[true, true, true, true, true, true, true, true, true, true, false, true, true, false, false, false, false, false] rfl rfl (any_of HT_.out (by kernel_rfl)) (fun _ _ _ h => h) (Or.inl ⟨by rfl, ?_⟩) ?_ ?_
         rotate_left
         ·intro w'
          go_simp
          with_reducible rfl
         rotate_left
         ·simp only [Act.put, tS_, tZ_, tC_, i64_w, i32_w]
          rfl
         refine take_ (i := 10) (N := some 116) (v := ?_) (a' := ?_) #[true, true, true, true, true, true, true, true, true, true, true, true, true, false, false, false, false, false] rfl rfl (take_ofW HT_.out HW_.out (by kernel_rfl)) (fun _ _ _ h => h) (Or.inl ⟨by rfl, ?_⟩) hHeld ?_ ?_
         rotate_left
         ·rintro w' ⟨s0, s1⟩
          go_simp
          with_reducible rfl
         rotate_left
         ·simp only [Act.put, tS_, tZ_, tC_, i64_w, i32_w]
          rfl
         refine pure_ (i := 13) (N := some 119) (v := ?_) (a' := ?_) #[true, true, true, true, true, true, true, true, true, true, true, true, true, true, false, false, false, false] rfl rfl (any_of HT_.out (by kernel_rfl)) (fun _ _ _ h => h) (Or.inl ⟨by rfl, ?_⟩) ?_ ?_
         rotate_left
         ·intro w'
          go_simp
          with_reducible rfl
         rotate_left
         ·simp only [Act.put, tS_, tZ_, tC_, i64_w, i32_w]
          rfl
         refine pure_ (i := 14) (N := some 120) (v := ?_) (a' := ?_) #[true, true, true, true, true, true, true, true, true, true, true, true, true, true, true, false, false, false] rfl rfl (any_of HT_.out (by kernel_rfl)) (fun _ _ _ h => h) (Or.inl ⟨by rfl, ?_⟩) ?_ ?_
         rotate_left
         ·intro w'
          go_simp
          with_reducible rfl
         rotate_left
         ·simp only [Act.put, tS_, tZ_, tC_, i64_w, i32_w]
          rfl
         refine last_ (i := 15) (N := none) #[true, true, true, true, true, true, true, true, true, true, true, true, true, true, true, true, false, false] rfl rfl (one_of HT_.out (by kernel_rfl)) (by decide) (fun K hK => ?_)
         refine skip_ (w1 := ?_) (by rfl) rfl ?_ ?_
         rotate_left
         ·go_simp
          rfl
         refine hK.out _ _ ?_
         clear hK K
         refine pure_ (i := 16) (N := some 121) (v := ?_) (a' := ?_) #[true, true, true, true, true, true, true, true, true, true, true, true, true, true, true, true, true, false] rfl rfl (any_of HT_.out (by kernel_rfl)) (fun _ _ _ h => h) (Or.inl ⟨by rfl, ?_⟩) ?_ ?_
         rotate_left
         ·intro w'
          go_simp
          with_reducible rfl
         rotate_left
         ·simp only [Act.put, tS_, tZ_, tC_, i64_w, i32_w]
          rfl
         refine last_ (i := 17) (N := none) #[true, true, true, true, true, true, true, true, true, true, true, true, true, true, true, true, true, true] rfl rfl (one_of HT_.out (by kernel_rfl)) (by decide) (fun K hK => ?_)
         refine skip_ (w1 := ?_) (by rfl) rfl ?_ ?_
         rotate_left
         ·go_simp
          rfl
         refine hK.out _ _ ?_
         clear hK K
         refine done_ (done_of HT_.out (by kernel_rfl)) ?_
         go_upto_if 123 with (fail)
         go_cut [] (fun wc => ∃ (kq : Nat) (x16_36 : List Int), Aside0 (imageeditorlaw18_GradientMoves.j1 kq a0 l1 a2 a3 a4 a5 a6 x16_36 = some r) ∧ Aside0 (kq ≤ kj7) ∧ Aside0 (Kd.R (Kd.int .i64) 3 wc w.heap.size (fun _ => True) (.slice (some ⟨go34, 0, none⟩) y530.length co34) x16_36) ∧ Aside0 (Below w.heap.size w wc))
         case first =>
          have H := HC37.out
          clear HC37
          by_cases c44 : a0 = 1
          ·rw [if_pos c44] at H
           have c44b0 : (a0 == 1) = true := beq_iff_eq.mpr c44
           have c44b1 : (a0 != 1) = false := bne_eq_false_iff_eq.mpr c44
           clear c44
           (first | rw [c44b0] | (simp only [i64_w, i32_w]; rw [c44b0]) | skip)
           by_cases c45 : 2 < (l1.length : Int)
           ·rw [if_pos c45] at H
            have c45b0 : decide (2 < (l1.length : Int)) = true := decide_eq_true c45
            have c45b1 : decide (2 < l1.length) = true := decide_eq_true (by omega)
            clear c45
            by_cases c46 : 3 < (l1.length : Int)
            ·rw [if_pos c46] at H
             have c46b0 : decide (3 < (l1.length : Int)) = true := decide_eq_true c46
             have c46b1 : decide (3 < l1.length) = true := decide_eq_true (by omega)
             clear c46
             by_cases c47 : 2 < (y530.length : Int)
             ·rw [if_pos c47] at H
              have c47b0 : decide (2 < (y530.length : Int)) = true := decide_eq_true c47
              have c47b1 : decide (2 < y530.length) = true := decide_eq_true (by omega)
              clear c47
              obtain ⟨y539, hy539⟩ : ∃ y_ : List Int, y_ = (y536.set (2 : Int).toNat (wrap64 ((rd l1 2) + (wrap64 (16 * a5))))) := ⟨_, rfl⟩
              replace H : (if 3 < (y530.length : Int) then (imageeditorlaw18_GradientMoves.j1 kj7 a0 l1 a2 a3 a4 a5 a6 (y539.set (3 : Int).toNat (wrap64 ((rd l1 3) + (wrap64 (16 * a6)))))) else (none)) = some r := by first | (rw [hy539]; with_reducible exact H) | (have H2_ := (Option.bind_some _ _).symm.trans H; rw [hy539]; with_reducible exact H2_) | (have H2_ := (Option.bind_some _ _).symm.trans H; with_reducible exact H2_) | with_reducible exact H | (rw [hy539]; exact H) | exact H
              have Ny539 := Aside0.mk hy539
              clear hy539
              by_cases c49 : 3 < (y530.length : Int)
              ·rw [if_pos c49] at H
               have c49b0 : decide (3 < (y530.length : Int)) = true := decide_eq_true c49
               have c49b1 : decide (3 < y530.length) = true := decide_eq_true (by omega)
               clear c49
               obtain ⟨y540, hy540⟩ : ∃ y_ : List Int, y_ = (y539.set (3 : Int).toNat (wrap64 ((rd l1 3) + (wrap64 (16 * a6))))) := ⟨_, rfl⟩
               replace H : (imageeditorlaw18_GradientMoves.j1 kj7 a0 l1 a2 a3 a4 a5 a6 y540) = some r := by first | (rw [hy540]; with_reducible exact H) | (have H2_ := (Option.bind_some _ _).symm.trans H; rw [hy540]; with_reducible exact H2_) | (have H2_ := (Option.bind_some _ _).symm.trans H; with_reducible exact H2_) | with_reducible exact H | (rw [hy540]; exact H) | exact H
               have Ny540 := Aside0.mk hy540
               clear hy540
               have H' := Aside0.mk H
               clear H
               try go_wp2
               have n0_ : Aside0 (Kd.R (Kd.int .i64) 3 ((w41.setCell ⟨go34, 0, none⟩ (.int .i64 (wrap64 ((rd l1 0) + (wrap64 (16 * a5)))))).setCell ⟨go34, 1, none⟩ (.int .i64 (wrap64 ((rd l1 1) + (wrap64 (16 * a6)))))) w.heap.size (fun _ => True) (.slice (some ⟨go34, 0, none⟩) y530.length co34) y536) := ⟨by (with_reducible repeat (first | apply Kd.R_alloc | apply Kd.R_drewN | apply Kd.R_drew)); exact HQ43.out⟩
               have n1_ : Aside0 (Below w.heap.size w ((w41.setCell ⟨go34, 0, none⟩ (.int .i64 (wrap64 ((rd l1 0) + (wrap64 (16 * a5)))))).setCell ⟨go34, 1, none⟩ (.int .i64 (wrap64 ((rd l1 1) + (wrap64 (16 * a6))))))) := ⟨by repeat (first | (with_reducible first | exact HB.out | apply lA_ | apply lN_ | apply lD_ | refine lS_ ?_ GB34.out | refine lS_ ?_ GB34.out) | exact HB.out)⟩
               (try clear HO532)
               (try clear HB)
               generalize ((w41.setCell ⟨go34, 0, none⟩ (.int .i64 (wrap64 ((rd l1 0) + (wrap64 (16 * a5)))))).setCell ⟨go34, 1, none⟩ (.int .i64 (wrap64 ((rd l1 1) + (wrap64 (16 * a6)))))) = w51 at n0_ n1_ ⊢
               have HO532 := n0_
               have HB := n1_
               clear n0_ n1_
               have n0_ := Aside0.mk (Kd.R_drew HO532.out)
               have n1_ := Aside0.mk (below_drew1 HB.out)
               clear HO532
               clear HB
               have HO532 := n0_
               have HB := n1_
               clear n0_ n1_
               have p537 : 0 ≤ (2 : Int) := (by omega)
               have q537 : 2 < (l1.length : Int) := of_decide_eq_true (by first | (with_reducible assumption) | assumption)
               obtain ⟨ad537, e537, hx537_0⟩ := Kd.at_int HR1.out 2 p537 q537
               have hw537_0 := hx537_0
               (try rw [show ((2 : Int)).toNat = 2 from rfl] at hw537_0)
               (try rw [show 2 * 1 = 2 from rfl] at hw537_0)
               (try simp only [Nat.reduceMul, Nat.reduceEqDiff, Go.Addr.add, ↓reduceIte] at hw537_0)
               obtain rfl : ad533 = ad537 := (by injection e537)
               (try simp only [show (2 : Int).toNat = 2 from rfl, Nat.reduceMul, Nat.reduceEqDiff, Go.Addr.add, ↓reduceIte] at hx537_0)
               have qi537 : (2 < l1.length) = True := eq_true (by omega)
               (try rw [show ((2 : Int)).toNat = 2 from rfl] at hx537_0)
               replace hx537_0 := (HB.out.cell (World.block_lt_of_cell? w _ hx537_0)).trans hx537_0
               replace p537 := eq_true p537
               replace q537 := eq_true q537
               have p538 : 0 ≤ (3 : Int) := (by omega)
               have q538 : 3 < (l1.length : Int) := of_decide_eq_true (by first | (with_reducible assumption) | assumption)
               obtain ⟨ad538, e538, hx538_0⟩ := Kd.at_int HR1.out 3 p538 q538
               have hw538_0 := hx538_0
               (try rw [show ((3 : Int)).toNat = 3 from rfl] at hw538_0)
               (try rw [show 3 * 1 = 3 from rfl] at hw538_0)
               (try simp only [Nat.reduceMul, Nat.reduceEqDiff, Go.Addr.add, ↓reduceIte] at hw538_0)
               obtain rfl : ad533 = ad538 := (by injection e538)
               (try simp only [show (3 : Int).toNat = 3 from rfl, Nat.reduceMul, Nat.reduceEqDiff, Go.Addr.add, ↓reduceIte] at hx538_0)
               have qi538 : (3 < l1.length) = True := eq_true (by omega)
               (try rw [show ((3 : Int)).toNat = 3 from rfl] at hx538_0)
               replace hx538_0 := (HB.out.cell (World.block_lt_of_cell? w _ hx538_0)).trans hx538_0
               replace p538 := eq_true p538
               replace q538 := eq_true q538
               have p48 : 0 ≤ (2 : Int) := (by omega)
               have q48 : (2 : Int) < ((y530.length : Int) : Int) := of_decide_eq_true (by first | (with_reducible assumption) | assumption)
               have qi48 : (2 < y530.length) = True := eq_true (by omega)
               obtain ⟨hx48_0, hf48_0⟩ := Kd.R_celln 0 HO532.out (2 : Int) p48 q48
               (try rw [show ((2 : Int)).toNat = 2 from rfl] at hx48_0)
               (try simp only [Nat.reduceMul, Nat.zero_mul, Nat.zero_add, Nat.reduceAdd] at hx48_0)
               (try rw [show ((2 : Int)).toNat = 2 from rfl] at hf48_0)
               (try simp only [Nat.reduceMul, Nat.zero_mul, Nat.zero_add, Nat.reduceAdd] at hf48_0)
               replace p48 := eq_true p48
               replace q48 := eq_true q48
               have HP53 := Kd.R_putn HO532.out (2 : Int) (wrap64 ((rd l1 2) + (wrap64 (16 * a5))))
               rw [← Ny539.out] at HP53
               have HQ53 := Aside0.mk HP53
               clear HP53
               have p50 : 0 ≤ (3 : Int) := (by omega)
               have q50 : (3 : Int) < ((y530.length : Int) : Int) := of_decide_eq_true (by first | (with_reducible assumption) | assumption)
               have qi50 : (3 < y530.length) = True := eq_true (by omega)
               obtain ⟨hx50_0, hf50_0⟩ := Kd.R_celln 0 HQ53.out (3 : Int) p50 q50
               (try rw [show ((3 : Int)).toNat = 3 from rfl] at hx50_0)
               (try simp only [Nat.reduceMul, Nat.zero_mul, Nat.zero_add, Nat.reduceAdd] at hx50_0)
               (try rw [show ((3 : Int)).toNat = 3 from rfl] at hf50_0)
               (try simp only [Nat.reduceMul, Nat.zero_mul, Nat.zero_add, Nat.reduceAdd] at hf50_0)
               (try replace hx50_0 := (World.cell?_setCell_other _ _ _ _ (by simp)).symm.trans hx50_0)
               (try simp only [World.frozen?_setCell] at hf50_0)
               replace p50 := eq_true p50
               replace q50 := eq_true q50
               have HP54 := Kd.R_putn HQ53.out (3 : Int) (wrap64 ((rd l1 3) + (wrap64 (16 * a6))))
               rw [← Ny540.out] at HP54
               have HQ54 := Aside0.mk HP54
               clear HP54
               refine start_ (n := 18) (S := fun w' => w'.cell? ⟨ad533.block, ad533.off + 2, none⟩ = some (.int .i64 (rd l1 2)) ∧ w'.cell? ⟨ad533.block, ad533.off + 3, none⟩ = some (.int .i64 (rd l1 3))) (ds := [15, 17]) #[false, false, false, false, false, false, false, false, false, false, false, false, false, false, false, false, false, false] (by kernel_rfl) rfl rfl ⟨((HB.out.cell (World.block_lt_of_cell? w _ hw537_0)).trans hw537_0), ((HB.out.cell (World.block_lt_of_cell? w _ hw538_0)).trans hw538_0)⟩ (fun hHeld => ?_); refine with_tabW imageeditorlaw18_GradientMoves.tab7 imageeditorlaw18_GradientMoves.bits7 (fun HT_ HW_ => ?_)
               generalize w51.drew = w52 at HO532 HB HQ43 HQ53 HQ54 hf48_0 hf50_0 hx48_0 hx50_0 hx537_0 hx538_0 hHeld ⊢
               refine pure_ (i := 0) (N := some 124) (v := ?_) (a' := ?_) #[true, false, false, false, false, false, false, false, false, false, false, false, false, false, false, false, false, false] rfl rfl (any_of HT_.out (by kernel_rfl)) (fun _ _ _ h => h) (Or.inl ⟨by rfl, ?_⟩) ?_ ?_
               rotate_left
               ·intro w'
                go_simp
                with_reducible rfl
               rotate_left
               ·simp only [Act.put, tS_, tZ_, tC_, i64_w, i32_w]
                rfl
               refine pure_ (i := 1) (N := some 125) (v := ?_) (a' := ?_) #[true, true, false, false, false, false, false, false, false, false, false, false, false, false, false, false, false, false] rfl rfl (any_of HT_.out (by kernel_rfl)) (fun _ _ _ h => h) (Or.inl ⟨by rfl, ?_⟩) ?_ ?_
               rotate_left
               ·intro w'
                go_simp
                with_reducible rfl
               rotate_left
               ·simp only [Act.put, tS_, tZ_, tC_, i64_w, i32_w]
                rfl
               refine pure_ (i := 2) (N := some 126) (v := ?_) (a' := ?_) #[true, true, true, false, false, false, false, false, false, false, false, false, false, false, false, false, false, false] rfl rfl (any_of HT_.out (by kernel_rfl)) (fun _ _ _ h => h) (Or.inl ⟨by rfl, ?_⟩) ?_ ?_
               rotate_left
               ·intro w'
                go_simp
                with_reducible rfl
               rotate_left
               ·simp only [Act.put, tS_, tZ_, tC_, i64_w, i32_w]
                rfl
               refine pure_ (i := 3) (N := some 127) (v := ?_) (a' := ?_) #[true, true, true, true, false, false, false, false, false, false, false, false, false, false, false, false, false, false] rfl rfl (any_of HT_.out (by kernel_rfl)) (fun _ _ _ h => h) (Or.inl ⟨by rfl, ?_⟩) ?_ ?_
               rotate_left
               ·intro w'
                go_simp
                with_reducible rfl
               rotate_left
               ·simp only [Act.put, tS_, tZ_, tC_, i64_w, i32_w]
                rfl
               refine pure_ (i := 5) (N := some 129) (v := ?_) (a' := ?_) #[true, true, true, true, false, true, false, false, false, false, false, false, false, false, false, false, false, false] rfl rfl (any_of HT_.out (by kernel_rfl)) (fun _ _ _ h => h) (Or.inl ⟨by rfl, ?_⟩) ?_ ?_
               rotate_left
               ·intro w'
                go_simp
                with_reducible rfl
               rotate_left
               ·simp only [Act.put, tS_, tZ_, tC_, i64_w, i32_w]
                rfl
               refine pure_ (i := 6) (N := some 130) (v := ?_) (a' := ?_) #[true, true, true, true, false, true, true, false, false, false, false, false, false, false, false, false, false, false] rfl rfl (any_of HT_.out (by kernel_rfl)) (fun _ _ _ h => h) (Or.inl ⟨by rfl, ?_⟩) ?_ ?_
               rotate_left
               ·intro w'
                go_simp
                with_reducible rfl
               rotate_left
               ·simp only [Act.put, tS_, tZ_, tC_, i64_w, i32_w]
                rfl
               refine pure_ (i := 8) (N := some 132) (v := ?_) (a' := ?_) #[true, true, true, true, false, true, true, false, true, false, false, false, false, false, false, false, false, false] rfl rfl (any_of HT_.out (by kernel_rfl)) (fun _ _ _ h => h) (Or.inl ⟨by rfl, ?_⟩) ?_ ?_
               rotate_left
               ·intro w'
                go_simp
                with_reducible rfl
               rotate_left
               ·simp only [Act.put, tS_, tZ_, tC_, i64_w, i32_w]
                rfl
               refine pure_ (i := 9) (N := some 133) (v := ?_) (a' := ?_) #[true, true, true, true, false, true, true, false, true, true, false, false, false, false, false, false, false, false] rfl rfl (any_of HT_.out (by kernel_rfl)) (fun _ _ _ h => h) (Or.inl ⟨by rfl, ?_⟩) ?_ ?_
               rotate_left
               ·intro w'
                go_simp
                with_reducible rfl
               rotate_left
               ·simp only [Act.put, tS_, tZ_, tC_, i64_w, i32_w]
                rfl
               refine pure_ (i := 11) (N := some 135) (v := ?_) (a' := ?_) #[true, true, true, true, false, true, true, false, true, true, false, true, false, false, false, false, false, false] rfl rfl (any_of HT_.out (by kernel_rfl)) (fun _ _ _ h => h) (Or.inl ⟨by rfl, ?_⟩) ?_ ?_
               rotate_left
               ·intro w'
                go_simp
                with_reducible rfl
               rotate_left
               ·simp only [Act.put, tS_, tZ_, tC_, i64_w, i32_w]
                rfl
               refine pure_ (i := 12) (N := some 136) (v := ?_) (a' := ?_) #[true, true, true, true, false, true, true, false, true, true, false, true, true, false, false, false, false, false] rfl rfl (any_of HT_.out (by kernel_rfl)) (fun _ _ _ h => h) (Or.inl ⟨by rfl, ?_⟩) ?_ ?_
               rotate_left
               ·intro w'
                go_simp
                with_reducible rfl
               rotate_left
               ·simp only [Act.put, tS_, tZ_, tC_, i64_w, i32_w]
                rfl
               refine take_ (i := 4) (N := some 128) (v := ?_) (a' := ?_) #[true, true, true, true, true, true, true, false, true, true, false, true, true, false, false, false, false, false] rfl rfl (take_ofW HT_.out HW_.out (by kernel_rfl)) (fun _ _ _ h => h) (Or.inl ⟨by rfl, ?_⟩) hHeld ?_ ?_
               rotate_left
               ·rintro w' ⟨s0, s1⟩
                go_simp
                with_reducible rfl
               rotate_left
               ·simp only [Act.put, tS_, tZ_, tC_, i64_w, i32_w]
                rfl
               refine pure_ (i := 7) (N := some 131) (v := ?_) (a' := ?_) #[true, true, true, true, true, true, true, true, true, true, false, true, true, false, false, false, false, false] rfl rfl (any_of HT_.out (by kernel_rfl)) (fun _ _ _ h => h) (Or.inl ⟨by rfl, ?_⟩) ?_ ?_
               rotate_left
               ·intro w'
                go_simp
                with_reducible rfl
               rotate_left
               ·simp only [Act.put, tS_, tZ_, tC_, i64_w, i32_w]
                rfl
               refine take_ (i := 10) (N := some 134) (v := ?_) (a' := ?_) #[true, true, true, true, true, true, true, true, true, true, true, true, true, false, false, false, false, false] rfl rfl (take_ofW HT_.out HW_.out (by kernel_rfl)) (fun _ _ _ h => h) (Or.inl ⟨by rfl, ?_⟩) hHeld ?_ ?_
               rotate_left
               ·rintro w' ⟨s0, s1⟩
                go_simp
                with_reducible rfl
               rotate_left
               ·simp only [Act.put, tS_, tZ_, tC_, i64_w, i32_w]
                rfl
               refine pure_ (i := 13) (N := some 137) (v := ?_) (a' := ?_) #[true, true, true, true, true, true, true, true, true, true, true, true, true, true, false, false, false, false] rfl rfl (any_of HT_.out (by kernel_rfl)) (fun _ _ _ h => h) (Or.inl ⟨by rfl, ?_⟩) ?_ ?_
               rotate_left
               ·intro w'
                go_simp
                with_reducible rfl
               rotate_left
               ·simp only [Act.put, tS_, tZ_, tC_, i64_w, i32_w]
                rfl
               refine pure_ (i := 14) (N := some 138) (v := ?_) (a' := ?_) #[true, true, true, true, true, true, true, true, true, true, true, true, true, true, true, false, false, false] rfl rfl (any_of HT_.out (by kernel_rfl)) (fun _ _ _ h => h) (Or.inl ⟨by rfl, ?_⟩) ?_ ?_
               rotate_left
               ·intro w'
                go_simp
                with_reducible rfl
               rotate_left
               ·simp only [Act.put, tS_, tZ_, tC_, i64_w, i32_w]
                rfl
               refine last_ (i := 15) (N := none) #[true, true, true, true, true, true, true, true, true, true, true, true, true, true, true, true, false, false] rfl rfl (one_of HT_.out (by kernel_rfl)) (by decide) (fun K hK => ?_)
               refine skip_ (w1 := ?_) (by rfl) rfl ?_ ?_
               rotate_left
               ·go_simp
                rfl
               refine hK.out _ _ ?_
               clear hK K
               refine pure_ (i := 16) (N := some 139) (v := ?_) (a' := ?_) #[true, true, true, true, true, true, true, true, true, true, true, true, true, true, true, true, true, false] rfl rfl (any_of HT_.out (by kernel_rfl)) (fun _ _ _ h => h) (Or.inl ⟨by rfl, ?_⟩) ?_ ?_
               rotate_left
               ·intro w'
                go_simp
                with_reducible rfl
               rotate_left
               ·simp only [Act.put, tS_, tZ_, tC_, i64_w, i32_w]
                rfl
               refine last_ (i := 17) (N := none) #[true, true, true, true, true, true, true, true, true, true, true, true, true, true, true, true, true, true] rfl rfl (one_of HT_.out (by kernel_rfl)) (by decide) (fun K hK => ?_)
               refine skip_ (w1 := ?_) (by rfl) rfl ?_ ?_
               rotate_left
               ·go_simp
                rfl
               refine hK.out _ _ ?_
               clear hK K
               refine done_ (done_of HT_.out (by kernel_rfl)) ?_
               try go_wp2
               go_meet
               case rel => exact ⟨_, (y540), H', ⟨by have := HJ7.out; first | omega | exact Nat.le_refl _⟩, ⟨by (with_reducible repeat (first | apply Kd.R_alloc | apply Kd.R_drewN | apply Kd.R_drew)); exact HQ54.out⟩, ⟨by repeat (first | (with_reducible first | exact HB.out | apply lA_ | apply lN_ | apply lD_ | refine lS_ ?_ GB34.out | refine lS_ ?_ GB34.out) | exact HB.out)⟩⟩
              ·rw [if_neg c49] at H
               exact absurd H (by simp)
             ·rw [if_neg c47] at H
              exact absurd H (by simp)
            ·rw [if_neg c46] at H
             exact absurd H (by simp)
           ·rw [if_neg c45] at H
            exact absurd H (by simp)
          ·rw [if_neg c44] at H
           have c44b0 : (a0 == 1) = false := beq_eq_false_iff_ne.mpr c44
           have c44b1 : (a0 != 1) = true := bne_iff_ne.mpr c44
           (first | rw [c44b0] | (simp only [i64_w, i32_w]; rw [c44b0]) | skip)
           have H' := Aside0.mk H
           clear H
           go_wp2
           go_meet
           case rel => exact ⟨_, (y536), H', ⟨by have := HJ7.out; first | omega | exact Nat.le_refl _⟩, ⟨by (with_reducible repeat (first | apply Kd.R_alloc | apply Kd.R_drewN | apply Kd.R_drew)); exact HQ43.out⟩, ⟨by repeat (first | (with_reducible first | exact HB.out | apply lA_ | apply lN_ | apply lD_ | refine lS_ ?_ GB34.out | refine lS_ ?_ GB34.out) | exact HB.out)⟩⟩
         case rest =>
          clear HC37
          try clear c1
          try clear c2
          try clear p2
          try clear c3
          try clear p3
          try clear q3
          try clear hx3
          try clear qi3
          try clear c4
          try clear p4
          try clear q4
          try clear hx4
          try clear qi4
          try clear p5
          try clear q5
          try clear hx5
          try clear qi5
          try clear p6
          try clear c9
          try clear c9b0
          try clear c9b1
          try clear c10
          try clear c10b0
          try clear c11
          try clear c11b0
          try clear c12
          try clear c12b0
          try clear c13
          try clear c13b0
          try clear c14
          try clear c14b0
          try clear c15
          try clear c15b0
          try clear c16
          try clear c16b0
          try clear c17
          try clear c17b0
          try clear c18
          try clear c18b0
          try clear c19
          try clear c19b0
          try clear c20
          try clear c20b0
          try clear c21
          try clear c21b0
          try clear c27
          try clear c30
          try clear c31
          try clear c31b0
          try clear c31b1
          try clear c32
          try clear c32b0
          try clear c32b1
          try clear c33
          try clear c33b0
          try clear c33b1
          try clear p34
          try clear q34
          try clear hx34
          try clear qi34
          try clear hf34
          try clear c35
          try clear c35b0
          try clear c35b1
          try clear p36
          try clear q36
          try clear hx36
          try clear qi36
          try clear hf36
          try clear c44
          try clear c44b0
          try clear c44b1
          try clear c45
          try clear c45b0
          try clear c45b1
          try clear c46
          try clear c46b0
          try clear c46b1
          try clear c47
          try clear c47b0
          try clear c47b1
          try clear p48
          try clear q48
          try clear hx48
          try clear qi48
          try clear hf48
          try clear c49
          try clear c49b0
          try clear c49b1
          try clear p50
          try clear q50
          try clear hx50
          try clear qi50
          try clear hf50
          try clear p53
          try clear q53
          try clear hx53
          try clear qi53
          try clear hx34_0
          try clear hx36_0
          try clear hx48_0
          try clear hx50_0
          try clear hx533_0
          try clear hx534_0
          try clear hx537_0
          try clear hx538_0
          try clear p2
          try clear p34
          try clear p36
          try clear p48
          try clear p50
          try clear p533
          try clear p534
          try clear p537
          try clear p538
          try clear p6
          try clear q34
          try clear q36
          try clear q48
          try clear q50
          try clear q533
          try clear q534
          try clear q537
          try clear q538
          obtain ⟨kq, x16_36, HA, HJ36, HO_16, HB⟩ := hcut
          have hl16_36 := (Kd.R_reads' HO_16.out).1
          rw [hl16_36] at HO_16
          (try simp only [hl16_36])
          cases kq with
          | zero => exact absurd HA.out (by simp [imageeditorlaw18_GradientMoves.j1])
          | succ kj36 =>
           have H := HA.out
           clear HA
           simp only [imageeditorlaw18_GradientMoves.j1] at H
           replace H := Option.bind_eq_some_iff.mp H
           obtain ⟨t541, A550, H⟩ := H
           replace H : ((imageeditorref18_Check.f kj36 a0 x16_36 a2 t541).bind fun t544 => (if t544 = 0 then ((gradient_Place.f kj36 a0 x16_36 a2 (wrap64 (a3 + a5)) (wrap64 (a4 + a6))).bind fun t545 => ((gradient_Place.f kj36 a0 l1 a2 a3 a4).bind fun t546 => (if t545 = t546 then ((imageeditorlaw18_awake.f kj36).bind fun t547 => (some t547)) else (none)))) else ((imageeditorlaw18_awake.f kj36).bind fun t548 => (some t548)))) = some r := H
           have A55 := Aside0.mk A550
           clear A550
           replace H := Option.bind_eq_some_iff.mp H
           obtain ⟨t544, A560, H⟩ := H
           replace H : (if t544 = 0 then ((gradient_Place.f kj36 a0 x16_36 a2 (wrap64 (a3 + a5)) (wrap64 (a4 + a6))).bind fun t545 => ((gradient_Place.f kj36 a0 l1 a2 a3 a4).bind fun t546 => (if t545 = t546 then ((imageeditorlaw18_awake.f kj36).bind fun t547 => (some t547)) else (none)))) else ((imageeditorlaw18_awake.f kj36).bind fun t548 => (some t548))) = some r := H
           have A56 := Aside0.mk A560
           clear A560
           by_cases c57 : t544 = 0
           ·rw [if_pos c57] at H
            have c57b0 : (t544 == 0) = true := beq_iff_eq.mpr c57
            have c57b1 : (t544 != 0) = false := bne_eq_false_iff_eq.mpr c57
            clear c57
            replace H := Option.bind_eq_some_iff.mp H
            obtain ⟨t545, A580, H⟩ := H
            replace H : ((gradient_Place.f kj36 a0 l1 a2 a3 a4).bind fun t546 => (if t545 = t546 then ((imageeditorlaw18_awake.f kj36).bind fun t547 => (some t547)) else (none))) = some r := H
            have A58 := Aside0.mk A580
            clear A580
            replace H := Option.bind_eq_some_iff.mp H
            obtain ⟨t546, A590, H⟩ := H
            replace H : (if t545 = t546 then ((imageeditorlaw18_awake.f kj36).bind fun t547 => (some t547)) else (none)) = some r := H
            have A59 := Aside0.mk A590
            clear A590
            by_cases c60 : t545 = t546
            ·rw [if_pos c60] at H
             have c60b0 : (t545 == t546) = true := beq_iff_eq.mpr c60
             have c60b1 : (t545 != t546) = false := bne_eq_false_iff_eq.mpr c60
             clear c60
             replace H := Option.bind_eq_some_iff.mp H
             obtain ⟨t547, A610, H⟩ := H
             replace H : (some t547) = some r := H
             have A61 := Aside0.mk A610
             clear A610
             obtain rfl := Option.some.inj H
             go_wp2_with (first | ((with_reducible refine gate_callee (f := 12) rfl ?_); refine goesL_ (some 143) rfl rfl Try.func12 (by kernel_rfl) rfl #[] rfl (by (try simp only [List.map_toArray, List.map_cons, List.map_nil]); first | done | rfl | (simp only [List.length_drop, List.length_take]; rfl)) ?_; (with_reducible refine (imageeditorlaw18_grays.calls  t541 _ A55.out).mono ?_); rintro e w62 ⟨v542, rfl, ho0, hb⟩; refine ⟨_, rfl, ?_⟩; have n0_ := Aside0.mk (Kd.R_below (by (with_reducible repeat (first | apply Kd.R_alloc | apply Kd.R_drewN | apply Kd.R_drew)); exact HO_16.out) hb); have n1_ := Aside0.mk (Kd.R_lower ho0 (below_size (by repeat (first | (with_reducible first | exact HB.out | apply lA_ | apply lN_ | apply lD_) | exact HB.out)))); have n2_ := Aside0.mk (below_step (by repeat (first | (with_reducible first | exact HB.out | apply lA_ | apply lN_ | apply lD_) | exact HB.out)) hb); clear HO_16; clear HB; have HO_16 := n0_; have HO543 := n1_; have HB := n2_; clear n0_ n1_ n2_; (try clear hb); (try clear hb2); (try clear hk); (try clear hi); (try clear ho0); obtain ⟨Ao63, co63, eo63⟩ := Kd.R_slice HO543.out; subst eo63) | ((with_reducible refine gate_callee (f := 11) rfl ?_); refine goesL_ (some 144) rfl rfl Try.func11 (by kernel_rfl) rfl #[.int .i64 a0, .slice (some ⟨go34, 0, none⟩) x16_36.length co34, .int .i64 a2, .slice Ao63 t541.length co63] rfl (by (try simp only [List.map_toArray, List.map_cons, List.map_nil]); first | done | rfl | (simp only [List.length_drop, List.length_take]; rfl)) ?_; (with_reducible refine (imageeditorref18_Check.calls kj36 a0 _ _ x16_36 a2 _ _ t541 t544 _ ?side1 ?side2 ?side3 ?side4 A56.out).mono ?_); (case side1 => repeat (first | exact (Kd.R_reads' HO_16.out).2.2 | (with_reducible refine Kd.C_alloc ?_ _) | (with_reducible refine Kd.C_drewN ?_ _) | (with_reducible refine Kd.C_drew ?_))); (case side2 => exact (Kd.R_reads' HO_16.out).2.1); (case side3 => repeat (first | exact (Kd.R_reads' HO543.out).2.2 | (with_reducible refine Kd.C_alloc ?_ _) | (with_reducible refine Kd.C_drewN ?_ _) | (with_reducible refine Kd.C_drew ?_))); (case side4 => exact (Kd.R_reads' HO543.out).2.1); rintro e w64 ⟨rfl, hb⟩; refine ⟨_, rfl, ?_⟩; have n0_ := Aside0.mk (Kd.R_below (by (with_reducible repeat (first | apply Kd.R_alloc | apply Kd.R_drewN | apply Kd.R_drew)); exact HO_16.out) hb); have n1_ := Aside0.mk (Kd.R_below (by (with_reducible repeat (first | apply Kd.R_alloc | apply Kd.R_drewN | apply Kd.R_drew)); exact HO543.out) hb); have n2_ := Aside0.mk (below_step (by repeat (first | (with_reducible first | exact HB.out | apply lA_ | apply lN_ | apply lD_) | exact HB.out)) hb); clear HO_16; clear HO543; clear HB; have HO_16 := n0_; have HO543 := n1_; have HB := n2_; clear n0_ n1_ n2_; (try clear hb); (try clear hb2); (try clear hk); (try clear hi)) | ((with_reducible refine gate_callee (f := 14) rfl ?_); refine goesL_ (some 156) rfl rfl Try.func14 (by kernel_rfl) rfl #[.int .i64 a0, .slice (some ⟨go34, 0, none⟩) x16_36.length co34, .int .i64 a2, .int .i64 (wrap64 (a3 + a5)), .int .i64 (wrap64 (a4 + a6))] rfl (by (try simp only [List.map_toArray, List.map_cons, List.map_nil]); first | done | rfl | (simp only [List.length_drop, List.length_take]; rfl)) ?_; (with_reducible refine (gradient_Place.calls kj36 a0 _ _ x16_36 a2 (wrap64 (a3 + a5)) (wrap64 (a4 + a6)) t545 _ ?side1 ?side2 A58.out).mono ?_); (case side1 => repeat (first | exact (Kd.R_reads' HO_16.out).2.2 | (with_reducible refine Kd.C_alloc ?_ _) | (with_reducible refine Kd.C_drewN ?_ _) | (with_reducible refine Kd.C_drew ?_))); (case side2 => exact (Kd.R_reads' HO_16.out).2.1); rintro e w65 ⟨rfl, hb⟩; refine ⟨_, rfl, ?_⟩; have n0_ := Aside0.mk (Kd.R_below (by (with_reducible repeat (first | apply Kd.R_alloc | apply Kd.R_drewN | apply Kd.R_drew)); exact HO_16.out) hb); have n1_ := Aside0.mk (Kd.R_below (by (with_reducible repeat (first | apply Kd.R_alloc | apply Kd.R_drewN | apply Kd.R_drew)); exact HO543.out) hb); have n2_ := Aside0.mk (below_step (by repeat (first | (with_reducible first | exact HB.out | apply lA_ | apply lN_ | apply lD_) | exact HB.out)) hb); clear HO_16; clear HO543; clear HB; have HO_16 := n0_; have HO543 := n1_; have HB := n2_; clear n0_ n1_ n2_; (try clear hb); (try clear hb2); (try clear hk); (try clear hi)) | ((with_reducible refine gate_callee (f := 14) rfl ?_); refine goesL_ (some 162) rfl rfl Try.func14 (by kernel_rfl) rfl #[.int .i64 a0, .slice (some ad533) l1.length c1, .int .i64 a2, .int .i64 a3, .int .i64 a4] rfl (by (try simp only [List.map_toArray, List.map_cons, List.map_nil]); first | done | rfl | (simp only [List.length_drop, List.length_take]; rfl)) ?_; (with_reducible refine (gradient_Place.calls kj36 a0 _ _ l1 a2 a3 a4 t546 _ ?side1 ?side2 A59.out).mono ?_); (case side1 => repeat (first | exact (Kd.C_below HR1.out HB.out) | (with_reducible refine Kd.C_alloc ?_ _) | (with_reducible refine Kd.C_drewN ?_ _) | (with_reducible refine Kd.C_drew ?_))); (case side2 => exact HC1.out); rintro e w66 ⟨rfl, hb⟩; refine ⟨_, rfl, ?_⟩; have n0_ := Aside0.mk (Kd.R_below (by (with_reducible repeat (first | apply Kd.R_alloc | apply Kd.R_drewN | apply Kd.R_drew)); exact HO_16.out) hb); have n1_ := Aside0.mk (Kd.R_below (by (with_reducible repeat (first | apply Kd.R_alloc | apply Kd.R_drewN | apply Kd.R_drew)); exact HO543.out) hb); have n2_ := Aside0.mk (below_step (by repeat (first | (with_reducible first | exact HB.out | apply lA_ | apply lN_ | apply lD_) | exact HB.out)) hb); clear HO_16; clear HO543; clear HB; have HO_16 := n0_; have HO543 := n1_; have HB := n2_; clear n0_ n1_ n2_; (try clear hb); (try clear hb2); (try clear hk); (try clear hi)) | (go_at_call 13; (with_reducible refine (imageeditorlaw18_awake.calls kj36  t547 _ A61.out).mono ?_); rintro e w67 ⟨rfl, hb⟩; have n0_ := Aside0.mk (Kd.R_below (by (with_reducible repeat (first | apply Kd.R_alloc | apply Kd.R_drewN | apply Kd.R_drew)); exact HO_16.out) hb); have n1_ := Aside0.mk (Kd.R_below (by (with_reducible repeat (first | apply Kd.R_alloc | apply Kd.R_drewN | apply Kd.R_drew)); exact HO543.out) hb); have n2_ := Aside0.mk (below_step (by repeat (first | (with_reducible first | exact HB.out | apply lA_ | apply lN_ | apply lD_) | exact HB.out)) hb); clear HO_16; clear HO543; clear HB; have HO_16 := n0_; have HO543 := n1_; have HB := n2_; clear n0_ n1_ n2_; (try clear hb); (try clear hb2); (try clear hk); (try clear hi)))
             go_ret
             exact ⟨by first | rfl | (simp [errW_none, errW_some] <;> rfl) | (simp [*, errW_none, errW_some] <;> rfl), by repeat (first | (with_reducible first | exact HB.out | apply lA_ | apply lN_ | apply lD_) | exact HB.out)⟩
            ·rw [if_neg c60] at H
             exact absurd H (by simp)
           ·rw [if_neg c57] at H
            have c57b0 : (t544 == 0) = false := beq_eq_false_iff_ne.mpr c57
            have c57b1 : (t544 != 0) = true := bne_iff_ne.mpr c57
            replace H := Option.bind_eq_some_iff.mp H
            obtain ⟨t548, A680, H⟩ := H
            replace H : (some t548) = some r := H
            have A68 := Aside0.mk A680
            clear A680
            obtain rfl := Option.some.inj H
            go_wp2_with (first | ((with_reducible refine gate_callee (f := 12) rfl ?_); refine goesL_ (some 143) rfl rfl Try.func12 (by kernel_rfl) rfl #[] rfl (by (try simp only [List.map_toArray, List.map_cons, List.map_nil]); first | done | rfl | (simp only [List.length_drop, List.length_take]; rfl)) ?_; (with_reducible refine (imageeditorlaw18_grays.calls  t541 _ A55.out).mono ?_); rintro e w69 ⟨v542, rfl, ho0, hb⟩; refine ⟨_, rfl, ?_⟩; have n0_ := Aside0.mk (Kd.R_below (by (with_reducible repeat (first | apply Kd.R_alloc | apply Kd.R_drewN | apply Kd.R_drew)); exact HO_16.out) hb); have n1_ := Aside0.mk (Kd.R_lower ho0 (below_size (by repeat (first | (with_reducible first | exact HB.out | apply lA_ | apply lN_ | apply lD_) | exact HB.out)))); have n2_ := Aside0.mk (below_step (by repeat (first | (with_reducible first | exact HB.out | apply lA_ | apply lN_ | apply lD_) | exact HB.out)) hb); clear HO_16; clear HB; have HO_16 := n0_; have HO543 := n1_; have HB := n2_; clear n0_ n1_ n2_; (try clear hb); (try clear hb2); (try clear hk); (try clear hi); (try clear ho0); obtain ⟨Ao70, co70, eo70⟩ := Kd.R_slice HO543.out; subst eo70) | ((with_reducible refine gate_callee (f := 11) rfl ?_); refine goesL_ (some 144) rfl rfl Try.func11 (by kernel_rfl) rfl #[.int .i64 a0, .slice (some ⟨go34, 0, none⟩) x16_36.length co34, .int .i64 a2, .slice Ao70 t541.length co70] rfl (by (try simp only [List.map_toArray, List.map_cons, List.map_nil]); first | done | rfl | (simp only [List.length_drop, List.length_take]; rfl)) ?_; (with_reducible refine (imageeditorref18_Check.calls kj36 a0 _ _ x16_36 a2 _ _ t541 t544 _ ?side1 ?side2 ?side3 ?side4 A56.out).mono ?_); (case side1 => repeat (first | exact (Kd.R_reads' HO_16.out).2.2 | (with_reducible refine Kd.C_alloc ?_ _) | (with_reducible refine Kd.C_drewN ?_ _) | (with_reducible refine Kd.C_drew ?_))); (case side2 => exact (Kd.R_reads' HO_16.out).2.1); (case side3 => repeat (first | exact (Kd.R_reads' HO543.out).2.2 | (with_reducible refine Kd.C_alloc ?_ _) | (with_reducible refine Kd.C_drewN ?_ _) | (with_reducible refine Kd.C_drew ?_))); (case side4 => exact (Kd.R_reads' HO543.out).2.1); rintro e w71 ⟨rfl, hb⟩; refine ⟨_, rfl, ?_⟩; have n0_ := Aside0.mk (Kd.R_below (by (with_reducible repeat (first | apply Kd.R_alloc | apply Kd.R_drewN | apply Kd.R_drew)); exact HO_16.out) hb); have n1_ := Aside0.mk (Kd.R_below (by (with_reducible repeat (first | apply Kd.R_alloc | apply Kd.R_drewN | apply Kd.R_drew)); exact HO543.out) hb); have n2_ := Aside0.mk (below_step (by repeat (first | (with_reducible first | exact HB.out | apply lA_ | apply lN_ | apply lD_) | exact HB.out)) hb); clear HO_16; clear HO543; clear HB; have HO_16 := n0_; have HO543 := n1_; have HB := n2_; clear n0_ n1_ n2_; (try clear hb); (try clear hb2); (try clear hk); (try clear hi)) | ((with_reducible refine gate_callee (f := 13) rfl ?_); refine goesL_ (some 146) rfl rfl Try.func13 (by kernel_rfl) rfl #[] rfl (by (try simp only [List.map_toArray, List.map_cons, List.map_nil]); first | done | rfl | (simp only [List.length_drop, List.length_take]; rfl)) ?_; (with_reducible refine (imageeditorlaw18_awake.calls kj36  t548 _ A68.out).mono ?_); rintro e w72 ⟨rfl, hb⟩; refine ⟨_, rfl, ?_⟩; have n0_ := Aside0.mk (Kd.R_below (by (with_reducible repeat (first | apply Kd.R_alloc | apply Kd.R_drewN | apply Kd.R_drew)); exact HO_16.out) hb); have n1_ := Aside0.mk (Kd.R_below (by (with_reducible repeat (first | apply Kd.R_alloc | apply Kd.R_drewN | apply Kd.R_drew)); exact HO543.out) hb); have n2_ := Aside0.mk (below_step (by repeat (first | (with_reducible first | exact HB.out | apply lA_ | apply lN_ | apply lD_) | exact HB.out)) hb); clear HO_16; clear HO543; clear HB; have HO_16 := n0_; have HO543 := n1_; have HB := n2_; clear n0_ n1_ n2_; (try clear hb); (try clear hb2); (try clear hk); (try clear hi)))
            go_ret
            exact ⟨by first | rfl | (simp [errW_none, errW_some] <;> rfl) | (simp [*, errW_none, errW_some] <;> rfl), by repeat (first | (with_reducible first | exact HB.out | apply lA_ | apply lN_ | apply lD_) | exact HB.out)⟩
        ·rw [if_neg c35] at H
         exact absurd H (by simp)
       ·rw [if_neg c33] at H
        exact absurd H (by simp)
      ·rw [if_neg c32] at H
       exact absurd H (by simp)
     ·rw [if_neg c31] at H
      exact absurd H (by simp)
    ·rw [if_neg c30] at H
     exact absurd H (by simp)

/-- THE ONE PURE STATEMENT of imageeditorlaw18_GradientMoves: yours. -/
def imageeditorlaw18_GradientMoves.Pure : Prop := ∀ (a0 : Int) (l1 : List Int) (a2 : Int) (a3 : Int) (a4 : Int) (a5 : Int) (a6 : Int), (Lit.int .i64 a0).wf = true → l1.length ≤ maxLen → l1.length * 8 ≤ 140737488351232 → (∀ x ∈ l1, (Lit.int .i64 x).wf = true) → (Lit.int .i64 a2).wf = true → (Lit.int .i64 a3).wf = true → (Lit.int .i64 a4).wf = true → (Lit.int .i64 a5).wf = true → (Lit.int .i64 a6).wf = true → ∃ k, imageeditorlaw18_GradientMoves.f k a0 l1 a2 a3 a4 a5 a6 = some true
theorem imageeditorlaw18_GradientMoves.walk (P : imageeditorlaw18_GradientMoves.Pure) (a0 : Int) (a1 : Option Addr) (len1 cap1 : Nat) (z1 : List Int) (a2 : Int) (a3 : Int) (a4 : Int) (a5 : Int) (a6 : Int) (w : World) (w0 : (Lit.int .i64 a0).wf = true) (w1 : (a1 = none ∧ len1 = 0 ∧ cap1 = 0 ∧ z1 = []) ∨ ∃ x, a1 = some x ∧ len1 ≤ cap1 ∧ cap1 ≤ maxLen ∧ z1.length = cap1 ∧ (∀ i, i < z1.length → w.cell? (x.add i) = some (.int .i64 (z1.getD i 0))) ∧ ∀ n ∈ z1, (Lit.int .i64 n).wf = true) (y1 : len1 * 8 ≤ 140737488351232) (w2 : (Lit.int .i64 a2).wf = true) (w3 : (Lit.int .i64 a3).wf = true) (w4 : (Lit.int .i64 a4).wf = true) (w5 : (Lit.int .i64 a5).wf = true) (w6 : (Lit.int .i64 a6).wf = true) :
  Calls Try.prog 9 #[.int .i64 a0, .slice a1 len1 cap1, .int .i64 a2, .int .i64 a3, .int .i64 a4, .int .i64 a5, .int .i64 a6] w fun e w' => e = .returned (.bool true) ∧ Below w.heap.size w w' := by
 obtain ⟨l1, rfl, hr1, hm1, hw1, hc1⟩ := ReadsInt.ofRowC w1
 obtain ⟨k, h⟩ := P a0 l1 a2 a3 a4 a5 a6 w0 hm1 y1 hw1 w2 w3 w4 w5 w6
 refine (imageeditorlaw18_GradientMoves.calls k a0 _ _ l1 a2 a3 a4 a5 a6 true w (Kd.C_of_reads (d := (0 : Int)) (h1 := fun _ => rfl) hr1) hc1 h).mono ?_
 rintro e w' ⟨rfl, hd⟩
 exact ⟨rfl, hd⟩


end Go.Proofs.Ytmlcobnidfkhfaa.Q
