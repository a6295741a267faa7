/- Each Go function of the law as a Lean function, with the proof that its call comes to just that, for every input; written by hp.py, a program of this session over the kit own print of the translation. -/
import Derived.Test.YtmlcobnidfkhfaaQ0
import Derived.Test.YtmlcobnidfkhfaaQ8
import Derived.Test.YtmlcobnidfkhfaaQ13
namespace Go.Proofs.Ytmlcobnidfkhfaa.Q
open Go.RowKit Go.Proofs.YtmlcobnidfkhfaaW.PrintWords Go.Proofs.YtmlcobnidfkhfaaW.PrintLast Go.Proofs.YtmlcobnidfkhfaaW.PrintMore
attribute [local go_sem] max2_int min2_int max_two min_two max_three min_three max_four min_four   -- for this text's walks alone
set_option linter.unusedVariables false
set_option linter.unusedSimpArgs false
open Go.Proofs.Ytmlcobnidfkhfaa.Clo Go.Proofs.Ytmlcobnidfkhfaa.Mk0

/-! ### imageeditorlaw18_GradientMirrors: function 10 -/
mutual
def imageeditorlaw18_GradientMirrors.j0 : Nat → Bool → Int → Int → Int → Int → Int → Int → Bool → Option (Bool)
 | 0, _, _, _, _, _, _, _, _ => none
 | k + 1, x0, x1, x2, x3, x4, x5, x6, x77 => if x77 = true then ((imageeditorlaw18_awake.f k).bind fun t549 => (some t549)) else (if x0 = true then (imageeditorlaw18_GradientMirrors.j1 k x1 x2 x3 x4 x5 x6 4) else (imageeditorlaw18_GradientMirrors.j1 k x1 x2 x3 x4 x5 x6 2))
def imageeditorlaw18_GradientMirrors.j1 : Nat → Int → Int → Int → Int → Int → Int → Int → Option (Bool)
 | 0, _, _, _, _, _, _, _ => none
 | k + 1, x1, x2, x3, x4, x5, x6, x17 => (some (([wrap64 ((wrap64 (16 * x1)) + 8), wrap64 ((wrap64 (16 * x2)) + 8), x3] : List Int) : List Int)).bind fun y550 => ((gradient_Place.f k x17 y550 x4 (wrap64 (x1 + x5)) (wrap64 (x2 + x6))).bind fun t553 => ((gradient_Place.f k x17 y550 x4 (wrap64 (x1 - x5)) (wrap64 (x2 + x6))).bind fun t554 => (if t554 = t553 then ((gradient_Place.f k x17 y550 x4 (wrap64 (x1 + x5)) (wrap64 (x2 - x6))).bind fun t555 => (if t555 = t553 then ((gradient_Place.f k x17 y550 x4 (wrap64 (x1 + x6)) (wrap64 (x2 + x5))).bind fun t556 => (if t556 = t553 then ((imageeditorlaw18_awake.f k).bind fun t557 => (some t557)) else (none))) else (none))) else (none))))
end
def imageeditorlaw18_GradientMirrors.f (k : Nat) (a0 : Bool) (a1 : Int) (a2 : Int) (a3 : Int) (a4 : Int) (a5 : Int) (a6 : Int) : Option (Bool) := if a1 < (-65535) then (imageeditorlaw18_GradientMirrors.j0 k a0 a1 a2 a3 a4 a5 a6 true) else (if a1 > 65535 then (imageeditorlaw18_GradientMirrors.j0 k a0 a1 a2 a3 a4 a5 a6 true) else (if a2 < (-65535) then (imageeditorlaw18_GradientMirrors.j0 k a0 a1 a2 a3 a4 a5 a6 true) else (if a2 > 65535 then (imageeditorlaw18_GradientMirrors.j0 k a0 a1 a2 a3 a4 a5 a6 true) else (if a5 < (-524288) then (imageeditorlaw18_GradientMirrors.j0 k a0 a1 a2 a3 a4 a5 a6 true) else (if a5 > 524288 then (imageeditorlaw18_GradientMirrors.j0 k a0 a1 a2 a3 a4 a5 a6 true) else (if a6 < (-524288) then (imageeditorlaw18_GradientMirrors.j0 k a0 a1 a2 a3 a4 a5 a6 true) else (if a6 > 524288 then (imageeditorlaw18_GradientMirrors.j0 k a0 a1 a2 a3 a4 a5 a6 true) else (if a3 < 0 then (imageeditorlaw18_GradientMirrors.j0 k a0 a1 a2 a3 a4 a5 a6 true) else (if a3 > 1048576 then (imageeditorlaw18_GradientMirrors.j0 k a0 a1 a2 a3 a4 a5 a6 true) else (if a4 < 0 then (imageeditorlaw18_GradientMirrors.j0 k a0 a1 a2 a3 a4 a5 a6 true) else (imageeditorlaw18_GradientMirrors.j0 k a0 a1 a2 a3 a4 a5 a6 (decide (a4 > 2)))))))))))))
theorem imageeditorlaw18_GradientMirrors.mono_l : ∀ k, (∀ y0 y1 y2 y3 y4 y5 y6 y7, LeO (imageeditorlaw18_GradientMirrors.j0 k y0 y1 y2 y3 y4 y5 y6 y7) (imageeditorlaw18_GradientMirrors.j0 (k + 1) y0 y1 y2 y3 y4 y5 y6 y7)) ∧ (∀ y0 y1 y2 y3 y4 y5 y6, LeO (imageeditorlaw18_GradientMirrors.j1 k y0 y1 y2 y3 y4 y5 y6) (imageeditorlaw18_GradientMirrors.j1 (k + 1) y0 y1 y2 y3 y4 y5 y6))
 | 0 => ⟨fun _ _ _ _ _ _ _ _ r h => by simp [imageeditorlaw18_GradientMirrors.j0] at h, fun _ _ _ _ _ _ _ r h => by simp [imageeditorlaw18_GradientMirrors.j1] at h⟩
 | k + 1 => by
  obtain ⟨ih0, ih1⟩ := imageeditorlaw18_GradientMirrors.mono_l k
  refine ⟨?_, ?_⟩
  ·intro y0 y1 y2 y3 y4 y5 y6 y7
   unfold imageeditorlaw18_GradientMirrors.j0
   repeat' first
   | (with_reducible exact ih0 _ _ _ _ _ _ _ _)
   | (with_reducible exact ih1 _ _ _ _ _ _ _)
   | (with_reducible exact gradient_Place.mono _ _ _ _ _ _)
   | (with_reducible exact imageeditorlaw18_awake.mono _)
   | (with_reducible exact LeO.refl _)
   | (with_reducible exact LeO.none _)
   | (with_reducible refine LeO.ite ?_ ?_)
   | (with_reducible refine LeO.bind ?_ (fun _ => ?_))
  ·intro y0 y1 y2 y3 y4 y5 y6
   unfold imageeditorlaw18_GradientMirrors.j1
   repeat' first
   | (with_reducible exact ih0 _ _ _ _ _ _ _ _)
   | (with_reducible exact ih1 _ _ _ _ _ _ _)
   | (with_reducible exact gradient_Place.mono _ _ _ _ _ _)
   | (with_reducible exact imageeditorlaw18_awake.mono _)
   | (with_reducible exact LeO.refl _)
   | (with_reducible exact LeO.none _)
   | (with_reducible refine LeO.ite ?_ ?_)
   | (with_reducible refine LeO.bind ?_ (fun _ => ?_))
theorem imageeditorlaw18_GradientMirrors.mono : ∀ a0 a1 a2 a3 a4 a5 a6 k, LeO (imageeditorlaw18_GradientMirrors.f k a0 a1 a2 a3 a4 a5 a6) (imageeditorlaw18_GradientMirrors.f (k + 1) a0 a1 a2 a3 a4 a5 a6) := by
 intro a0 a1 a2 a3 a4 a5 a6 k
 obtain ⟨ih0, ih1⟩ := imageeditorlaw18_GradientMirrors.mono_l k
 unfold imageeditorlaw18_GradientMirrors.f
 repeat' first
   | (with_reducible exact ih0 _ _ _ _ _ _ _ _)
   | (with_reducible exact ih1 _ _ _ _ _ _ _)
   | (with_reducible exact gradient_Place.mono _ _ _ _ _ _)
   | (with_reducible exact imageeditorlaw18_awake.mono _)
   | (with_reducible exact LeO.refl _)
   | (with_reducible exact LeO.none _)
   | (with_reducible refine LeO.ite ?_ ?_)
   | (with_reducible refine LeO.bind ?_ (fun _ => ?_))
set_option maxHeartbeats 8000000 in
set_option maxRecDepth 100000 in
theorem imageeditorlaw18_GradientMirrors.calls (k : Nat) (a0 : Bool) (a1 : Int) (a2 : Int) (a3 : Int) (a4 : Int) (a5 : Int) (a6 : Int) (r : Bool) (w : World) (h : imageeditorlaw18_GradientMirrors.f k a0 a1 a2 a3 a4 a5 a6 = some r) :
  Calls Try.prog 10 #[.bool a0, .int .i64 a1, .int .i64 a2, .int .i64 a3, .int .i64 a4, .int .i64 a5, .int .i64 a6] w fun e w' => e = .returned (.bool r) ∧ Below w.heap.size w w' := by
 have HB := Aside0.mk (Below.refl w.heap.size w)
 have H : (if a1 < (-65535) then (imageeditorlaw18_GradientMirrors.j0 k a0 a1 a2 a3 a4 a5 a6 true) else (if a1 > 65535 then (imageeditorlaw18_GradientMirrors.j0 k a0 a1 a2 a3 a4 a5 a6 true) else (if a2 < (-65535) then (imageeditorlaw18_GradientMirrors.j0 k a0 a1 a2 a3 a4 a5 a6 true) else (if a2 > 65535 then (imageeditorlaw18_GradientMirrors.j0 k a0 a1 a2 a3 a4 a5 a6 true) else (if a5 < (-524288) then (imageeditorlaw18_GradientMirrors.j0 k a0 a1 a2 a3 a4 a5 a6 true) else (if a5 > 524288 then (imageeditorlaw18_GradientMirrors.j0 k a0 a1 a2 a3 a4 a5 a6 true) else (if a6 < (-524288) then (imageeditorlaw18_GradientMirrors.j0 k a0 a1 a2 a3 a4 a5 a6 true) else (if a6 > 524288 then (imageeditorlaw18_GradientMirrors.j0 k a0 a1 a2 a3 a4 a5 a6 true) else (if a3 < 0 then (imageeditorlaw18_GradientMirrors.j0 k a0 a1 a2 a3 a4 a5 a6 true) else (if a3 > 1048576 then (imageeditorlaw18_GradientMirrors.j0 k a0 a1 a2 a3 a4 a5 a6 true) else (if a4 < 0 then (imageeditorlaw18_GradientMirrors.j0 k a0 a1 a2 a3 a4 a5 a6 true) else (imageeditorlaw18_GradientMirrors.j0 k a0 a1 a2 a3 a4 a5 a6 (decide (a4 > 2)))))))))))))) = some r := h
 clear h
 have HC8 := Aside0.mk H
 clear H
 go_enter Try.func10, Try.ntmps10
 go_upto_region 2 with (fail)
 go_cut [77] (fun v77 wc => ∃ (kq : Nat) (x77_7 : Bool), v77 = .bool x77_7 ∧ Aside0 (imageeditorlaw18_GradientMirrors.j0 kq a0 a1 a2 a3 a4 a5 a6 x77_7 = some r) ∧ Aside0 (kq ≤ k) ∧ Aside0 (Below w.heap.size w wc))
 case first =>
  have H := HC8.out
  clear HC8
  by_cases c9 : a1 < (-65535)
  ·rw [if_pos c9] at H
   have c9b0 : decide (a1 < (-65535)) = true := decide_eq_true c9
   clear c9
   (first | rw [c9b0] | (simp only [i64_w, i32_w]; rw [c9b0]) | skip)
   have H' := Aside0.mk H
   clear H
   go_wp2
   go_meet
   case rel => exact ⟨_, (true), (by first | rfl | (simp; done) | (simp [*]; done)), H', ⟨by first | omega | exact Nat.le_refl _⟩, ⟨by repeat (first | (with_reducible first | exact HB.out | apply lA_ | apply lN_ | apply lD_) | exact HB.out)⟩⟩
  ·rw [if_neg c9] at H
   have c9b0 : decide (a1 < (-65535)) = false := decide_eq_false c9
   clear c9
   (first | rw [c9b0] | (simp only [i64_w, i32_w]; rw [c9b0]) | skip)
   by_cases c10 : a1 > 65535
   ·rw [if_pos c10] at H
    have c10b0 : decide (65535 < a1) = true := decide_eq_true c10
    clear c10
    have H' := Aside0.mk H
    clear H
    go_wp2
    go_meet
    case rel => exact ⟨_, (true), (by first | rfl | (simp; done) | (simp [*]; done)), H', ⟨by first | omega | exact Nat.le_refl _⟩, ⟨by repeat (first | (with_reducible first | exact HB.out | apply lA_ | apply lN_ | apply lD_) | exact HB.out)⟩⟩
   ·rw [if_neg c10] at H
    have c10b0 : decide (65535 < a1) = false := decide_eq_false c10
    clear c10
    by_cases c11 : a2 < (-65535)
    ·rw [if_pos c11] at H
     have c11b0 : decide (a2 < (-65535)) = true := decide_eq_true c11
     clear c11
     have H' := Aside0.mk H
     clear H
     go_wp2
     go_meet
     case rel => exact ⟨_, (true), (by first | rfl | (simp; done) | (simp [*]; done)), H', ⟨by first | omega | exact Nat.le_refl _⟩, ⟨by repeat (first | (with_reducible first | exact HB.out | apply lA_ | apply lN_ | apply lD_) | exact HB.out)⟩⟩
    ·rw [if_neg c11] at H
     have c11b0 : decide (a2 < (-65535)) = false := decide_eq_false c11
     clear c11
     by_cases c12 : a2 > 65535
     ·rw [if_pos c12] at H
      have c12b0 : decide (65535 < a2) = true := decide_eq_true c12
      clear c12
      have H' := Aside0.mk H
      clear H
      go_wp2
      go_meet
      case rel => exact ⟨_, (true), (by first | rfl | (simp; done) | (simp [*]; done)), H', ⟨by first | omega | exact Nat.le_refl _⟩, ⟨by repeat (first | (with_reducible first | exact HB.out | apply lA_ | apply lN_ | apply lD_) | exact HB.out)⟩⟩
     ·rw [if_neg c12] at H
      have c12b0 : decide (65535 < a2) = false := decide_eq_false c12
      clear c12
      by_cases c13 : a5 < (-524288)
      ·rw [if_pos c13] at H
       have c13b0 : decide (a5 < (-524288)) = true := decide_eq_true c13
       clear c13
       have H' := Aside0.mk H
       clear H
       go_wp2
       go_meet
       case rel => exact ⟨_, (true), (by first | rfl | (simp; done) | (simp [*]; done)), H', ⟨by first | omega | exact Nat.le_refl _⟩, ⟨by repeat (first | (with_reducible first | exact HB.out | apply lA_ | apply lN_ | apply lD_) | exact HB.out)⟩⟩
      ·rw [if_neg c13] at H
       have c13b0 : decide (a5 < (-524288)) = false := decide_eq_false c13
       clear c13
       by_cases c14 : a5 > 524288
       ·rw [if_pos c14] at H
        have c14b0 : decide (524288 < a5) = true := decide_eq_true c14
        clear c14
        have H' := Aside0.mk H
        clear H
        go_wp2
        go_meet
        case rel => exact ⟨_, (true), (by first | rfl | (simp; done) | (simp [*]; done)), H', ⟨by first | omega | exact Nat.le_refl _⟩, ⟨by repeat (first | (with_reducible first | exact HB.out | apply lA_ | apply lN_ | apply lD_) | exact HB.out)⟩⟩
       ·rw [if_neg c14] at H
        have c14b0 : decide (524288 < a5) = false := decide_eq_false c14
        clear c14
        by_cases c15 : a6 < (-524288)
        ·rw [if_pos c15] at H
         have c15b0 : decide (a6 < (-524288)) = true := decide_eq_true c15
         clear c15
         have H' := Aside0.mk H
         clear H
         go_wp2
         go_meet
         case rel => exact ⟨_, (true), (by first | rfl | (simp; done) | (simp [*]; done)), H', ⟨by first | omega | exact Nat.le_refl _⟩, ⟨by repeat (first | (with_reducible first | exact HB.out | apply lA_ | apply lN_ | apply lD_) | exact HB.out)⟩⟩
        ·rw [if_neg c15] at H
         have c15b0 : decide (a6 < (-524288)) = false := decide_eq_false c15
         clear c15
         by_cases c16 : a6 > 524288
         ·rw [if_pos c16] at H
          have c16b0 : decide (524288 < a6) = true := decide_eq_true c16
          clear c16
          have H' := Aside0.mk H
          clear H
          go_wp2
          go_meet
          case rel => exact ⟨_, (true), (by first | rfl | (simp; done) | (simp [*]; done)), H', ⟨by first | omega | exact Nat.le_refl _⟩, ⟨by repeat (first | (with_reducible first | exact HB.out | apply lA_ | apply lN_ | apply lD_) | exact HB.out)⟩⟩
         ·rw [if_neg c16] at H
          have c16b0 : decide (524288 < a6) = false := decide_eq_false c16
          clear c16
          by_cases c17 : a3 < 0
          ·rw [if_pos c17] at H
           have c17b0 : decide (a3 < 0) = true := decide_eq_true c17
           clear c17
           have H' := Aside0.mk H
           clear H
           go_wp2
           go_meet
           case rel => exact ⟨_, (true), (by first | rfl | (simp; done) | (simp [*]; done)), H', ⟨by first | omega | exact Nat.le_refl _⟩, ⟨by repeat (first | (with_reducible first | exact HB.out | apply lA_ | apply lN_ | apply lD_) | exact HB.out)⟩⟩
          ·rw [if_neg c17] at H
           have c17b0 : decide (a3 < 0) = false := decide_eq_false c17
           clear c17
           by_cases c18 : a3 > 1048576
           ·rw [if_pos c18] at H
            have c18b0 : decide (1048576 < a3) = true := decide_eq_true c18
            clear c18
            have H' := Aside0.mk H
            clear H
            go_wp2
            go_meet
            case rel => exact ⟨_, (true), (by first | rfl | (simp; done) | (simp [*]; done)), H', ⟨by first | omega | exact Nat.le_refl _⟩, ⟨by repeat (first | (with_reducible first | exact HB.out | apply lA_ | apply lN_ | apply lD_) | exact HB.out)⟩⟩
           ·rw [if_neg c18] at H
            have c18b0 : decide (1048576 < a3) = false := decide_eq_false c18
            clear c18
            by_cases c19 : a4 < 0
            ·rw [if_pos c19] at H
             have c19b0 : decide (a4 < 0) = true := decide_eq_true c19
             clear c19
             have H' := Aside0.mk H
             clear H
             go_wp2
             go_meet
             case rel => exact ⟨_, (true), (by first | rfl | (simp; done) | (simp [*]; done)), H', ⟨by first | omega | exact Nat.le_refl _⟩, ⟨by repeat (first | (with_reducible first | exact HB.out | apply lA_ | apply lN_ | apply lD_) | exact HB.out)⟩⟩
            ·rw [if_neg c19] at H
             have c19b0 : decide (a4 < 0) = false := decide_eq_false c19
             clear c19
             have H' := Aside0.mk H
             clear H
             go_wp2
             go_meet
             case rel => exact ⟨_, (decide (a4 > 2)), (by first | rfl | (simp; done) | (simp [*]; done)), H', ⟨by first | omega | exact Nat.le_refl _⟩, ⟨by repeat (first | (with_reducible first | exact HB.out | apply lA_ | apply lN_ | apply lD_) | exact HB.out)⟩⟩
 case rest =>
  clear HC8
  try clear c1
  try clear p2
  try clear c9
  try clear c9b0
  try clear c10
  try clear c10b0
  try clear c11
  try clear c11b0
  try clear c12
  try clear c12b0
  try clear c13
  try clear c13b0
  try clear c14
  try clear c14b0
  try clear c15
  try clear c15b0
  try clear c16
  try clear c16b0
  try clear c17
  try clear c17b0
  try clear c18
  try clear c18b0
  try clear c19
  try clear c19b0
  obtain ⟨kq, x77_7, rfl, HA, HJ7, HB⟩ := hcut
  cases kq with
  | zero => exact absurd HA.out (by simp [imageeditorlaw18_GradientMirrors.j0])
  | succ kj7 =>
   have H := HA.out
   clear HA
   simp only [imageeditorlaw18_GradientMirrors.j0] at H
   by_cases c20 : x77_7 = true
   ·subst c20
    have H1 : ((imageeditorlaw18_awake.f kj7).bind fun t549 => (some t549)) = some r := by rw [if_pos rfl] at H; exact H
    clear H
    have H := H1
    clear H1
    replace H := Option.bind_eq_some_iff.mp H
    obtain ⟨t549, A210, H⟩ := H
    replace H : (some t549) = some r := H
    have A21 := Aside0.mk A210
    clear A210
    obtain rfl := Option.some.inj H
    go_wp2_with (first | ((with_reducible refine gate_callee (f := 13) rfl ?_); refine goesL_ (some 78) rfl rfl Try.func13 (by kernel_rfl) rfl #[] rfl (by (try simp only [List.map_toArray, List.map_cons, List.map_nil]); first | done | rfl | (simp only [List.length_drop, List.length_take]; rfl)) ?_; (with_reducible refine (imageeditorlaw18_awake.calls kj7  t549 _ A21.out).mono ?_); rintro e w22 ⟨rfl, hb⟩; refine ⟨_, rfl, ?_⟩; have n0_ := Aside0.mk (below_step (by repeat (first | (with_reducible first | exact HB.out | apply lA_ | apply lN_ | apply lD_) | exact HB.out)) hb); clear HB; have HB := n0_; clear n0_; (try clear hb); (try clear hb2); (try clear hk); (try clear hi)))
    go_ret
    exact ⟨by first | rfl | (simp [errW_none, errW_some] <;> rfl) | (simp [*, errW_none, errW_some] <;> rfl), by repeat (first | (with_reducible first | exact HB.out | apply lA_ | apply lN_ | apply lD_) | exact HB.out)⟩
   ·replace c20 := Bool.eq_false_iff.mpr c20
    subst c20
    have H1 : (if a0 = true then (imageeditorlaw18_GradientMirrors.j1 kj7 a1 a2 a3 a4 a5 a6 4) else (imageeditorlaw18_GradientMirrors.j1 kj7 a1 a2 a3 a4 a5 a6 2)) = some r := by rw [if_neg (show ¬ (false = true) by decide)] at H; exact H
    clear H
    have H := H1
    clear H1
    have HC23 := Aside0.mk H
    clear H
    go_upto_if 79 with (fail)
    go_cut [17] (fun v17 wc => ∃ (kq : Nat) (x17_22 : Int), v17 = .int .i64 x17_22 ∧ Aside0 (imageeditorlaw18_GradientMirrors.j1 kq a1 a2 a3 a4 a5 a6 x17_22 = some r) ∧ Aside0 (kq ≤ kj7) ∧ Aside0 (Below w.heap.size w wc))
    case first =>
     have H := HC23.out
     clear HC23
     by_cases c24 : a0 = true
     ·subst c24
      have H1 : (imageeditorlaw18_GradientMirrors.j1 kj7 a1 a2 a3 a4 a5 a6 4) = some r := by rw [if_pos rfl] at H; exact H
      clear H
      have H := H1
      clear H1
      have H' := Aside0.mk H
      clear H
      go_wp2
      go_meet
      case rel => exact ⟨_, (4), (by first | rfl | (simp; done) | (simp [*]; done)), H', ⟨by have := HJ7.out; first | omega | exact Nat.le_refl _⟩, ⟨by repeat (first | (with_reducible first | exact HB.out | apply lA_ | apply lN_ | apply lD_) | exact HB.out)⟩⟩
     ·replace c24 := Bool.eq_false_iff.mpr c24
      subst c24
      have H1 : (imageeditorlaw18_GradientMirrors.j1 kj7 a1 a2 a3 a4 a5 a6 2) = some r := by rw [if_neg (show ¬ (false = true) by decide)] at H; exact H
      clear H
      have H := H1
      clear H1
      have H' := Aside0.mk H
      clear H
      go_wp2
      go_meet
      case rel => exact ⟨_, (2), (by first | rfl | (simp; done) | (simp [*]; done)), H', ⟨by have := HJ7.out; first | omega | exact Nat.le_refl _⟩, ⟨by repeat (first | (with_reducible first | exact HB.out | apply lA_ | apply lN_ | apply lD_) | exact HB.out)⟩⟩
    case rest =>
     clear HC23
     try clear c1
     try clear c2
     try clear p2
     try clear c9
     try clear c9b0
     try clear c10
     try clear c10b0
     try clear c11
     try clear c11b0
     try clear c12
     try clear c12b0
     try clear c13
     try clear c13b0
     try clear c14
     try clear c14b0
     try clear c15
     try clear c15b0
     try clear c16
     try clear c16b0
     try clear c17
     try clear c17b0
     try clear c18
     try clear c18b0
     try clear c19
     try clear c19b0
     try clear c20
     try clear c24
     try clear p2
     obtain ⟨kq, x17_22, rfl, HA, HJ22, HB⟩ := hcut
     cases kq with
     | zero => exact absurd HA.out (by simp [imageeditorlaw18_GradientMirrors.j1])
     | succ kj22 =>
      have H := HA.out
      clear HA
      simp only [imageeditorlaw18_GradientMirrors.j1] at H
      obtain ⟨y550, hy550⟩ : ∃ y_ : List Int, y_ = (([wrap64 ((wrap64 (16 * a1)) + 8), wrap64 ((wrap64 (16 * a2)) + 8), a3] : List Int)) := ⟨_, rfl⟩
      replace H : ((gradient_Place.f kj22 x17_22 y550 a4 (wrap64 (a1 + a5)) (wrap64 (a2 + a6))).bind fun t553 => ((gradient_Place.f kj22 x17_22 y550 a4 (wrap64 (a1 - a5)) (wrap64 (a2 + a6))).bind fun t554 => (if t554 = t553 then ((gradient_Place.f kj22 x17_22 y550 a4 (wrap64 (a1 + a5)) (wrap64 (a2 - a6))).bind fun t555 => (if t555 = t553 then ((gradient_Place.f kj22 x17_22 y550 a4 (wrap64 (a1 + a6)) (wrap64 (a2 + a5))).bind fun t556 => (if t556 = t553 then ((imageeditorlaw18_awake.f kj22).bind fun t557 => (some t557)) else (none))) else (none))) else (none)))) = some r := by first | (rw [hy550]; with_reducible exact H) | (have H2_ := (Option.bind_some _ _).symm.trans H; rw [hy550]; with_reducible exact H2_) | (have H2_ := (Option.bind_some _ _).symm.trans H; with_reducible exact H2_) | with_reducible exact H | (rw [hy550]; exact H) | exact H
      have Ny550 := Aside0.mk hy550
      clear hy550
      replace H := Option.bind_eq_some_iff.mp H
      obtain ⟨t553, A250, H⟩ := H
      replace H : ((gradient_Place.f kj22 x17_22 y550 a4 (wrap64 (a1 - a5)) (wrap64 (a2 + a6))).bind fun t554 => (if t554 = t553 then ((gradient_Place.f kj22 x17_22 y550 a4 (wrap64 (a1 + a5)) (wrap64 (a2 - a6))).bind fun t555 => (if t555 = t553 then ((gradient_Place.f kj22 x17_22 y550 a4 (wrap64 (a1 + a6)) (wrap64 (a2 + a5))).bind fun t556 => (if t556 = t553 then ((imageeditorlaw18_awake.f kj22).bind fun t557 => (some t557)) else (none))) else (none))) else (none))) = some r := H
      have A25 := Aside0.mk A250
      clear A250
      replace H := Option.bind_eq_some_iff.mp H
      obtain ⟨t554, A260, H⟩ := H
      replace H : (if t554 = t553 then ((gradient_Place.f kj22 x17_22 y550 a4 (wrap64 (a1 + a5)) (wrap64 (a2 - a6))).bind fun t555 => (if t555 = t553 then ((gradient_Place.f kj22 x17_22 y550 a4 (wrap64 (a1 + a6)) (wrap64 (a2 + a5))).bind fun t556 => (if t556 = t553 then ((imageeditorlaw18_awake.f kj22).bind fun t557 => (some t557)) else (none))) else (none))) else (none)) = some r := H
      have A26 := Aside0.mk A260
      clear A260
      by_cases c27 : t554 = t553
      ·rw [if_pos c27] at H
       have c27b0 : (t554 == t553) = true := beq_iff_eq.mpr c27
       have c27b1 : (t554 != t553) = false := bne_eq_false_iff_eq.mpr c27
       clear c27
       replace H := Option.bind_eq_some_iff.mp H
       obtain ⟨t555, A280, H⟩ := H
       replace H : (if t555 = t553 then ((gradient_Place.f kj22 x17_22 y550 a4 (wrap64 (a1 + a6)) (wrap64 (a2 + a5))).bind fun t556 => (if t556 = t553 then ((imageeditorlaw18_awake.f kj22).bind fun t557 => (some t557)) else (none))) else (none)) = some r := H
       have A28 := Aside0.mk A280
       clear A280
       by_cases c29 : t555 = t553
       ·rw [if_pos c29] at H
        have c29b0 : (t555 == t553) = true := beq_iff_eq.mpr c29
        have c29b1 : (t555 != t553) = false := bne_eq_false_iff_eq.mpr c29
        clear c29
        replace H := Option.bind_eq_some_iff.mp H
        obtain ⟨t556, A300, H⟩ := H
        replace H : (if t556 = t553 then ((imageeditorlaw18_awake.f kj22).bind fun t557 => (some t557)) else (none)) = some r := H
        have A30 := Aside0.mk A300
        clear A300
        by_cases c31 : t556 = t553
        ·rw [if_pos c31] at H
         have c31b0 : (t556 == t553) = true := beq_iff_eq.mpr c31
         have c31b1 : (t556 != t553) = false := bne_eq_false_iff_eq.mpr c31
         clear c31
         replace H := Option.bind_eq_some_iff.mp H
         obtain ⟨t557, A320, H⟩ := H
         replace H : (some t557) = some r := H
         have A32 := Aside0.mk A320
         clear A320
         obtain rfl := Option.some.inj H
         go_wp2_with (first | ((with_reducible refine gate_dst (N := 87) rfl ?_); refine Kd.R_lit (Kd.int .i64) _ 3 ?hg (N := 87) ?hd (xs := ([wrap64 ((wrap64 (16 * a1)) + 8), wrap64 ((wrap64 (16 * a2)) + 8), a3] : List Int)) (inner := [.int .i64 (wrap64 ((wrap64 (16 * a1)) + 8)), .int .i64 (wrap64 ((wrap64 (16 * a2)) + 8)), .int .i64 a3]) (ok := fun _ => True) (okp := fun _ => True) ?hr ?hp (fun _ hk => hk) trivial (Below.refl _ _) (Nat.le_refl _) (by simp) ?_; (case hd => rfl); (case hg => rfl); (case hr => first | (go_simp; done) | (go_simp; rfl)); (case hp => exact (Reps.one (show Kd.M (Kd.int .i64) _ _ _ (wrap64 ((wrap64 (16 * a1)) + 8)) [.int .i64 (wrap64 ((wrap64 (16 * a1)) + 8))] from rfl) (Reps.one (show Kd.M (Kd.int .i64) _ _ _ (wrap64 ((wrap64 (16 * a2)) + 8)) [.int .i64 (wrap64 ((wrap64 (16 * a2)) + 8))] from rfl) (Reps.one (show Kd.M (Kd.int .i64) _ _ _ a3 [.int .i64 a3] from rfl) (Reps.none _ _))))); intro v551 w33 ho34 hb hg_ hnew_; clear hg_ hnew_; (first | rw [← Ny550.out] at ho34 | (simp only [Int.reduceToNat] at ho34; rw [← Ny550.out] at ho34)); have n0_ := Aside0.mk (Kd.R_lower ho34 (below_size (by repeat (first | (with_reducible first | exact HB.out | apply lA_ | apply lN_ | apply lD_) | exact HB.out)))); have n1_ := Aside0.mk (below_step (by repeat (first | (with_reducible first | exact HB.out | apply lA_ | apply lN_ | apply lD_) | exact HB.out)) hb); clear HB; have HO552 := n0_; have HB := n1_; clear n0_ n1_; clear hb ho34; obtain ⟨Ao35, co35, eo35⟩ := Kd.R_slice HO552.out; subst eo35) | ((with_reducible refine gate_callee (f := 14) rfl ?_); refine goesL_ (some 97) rfl rfl Try.func14 (by kernel_rfl) rfl #[.int .i64 x17_22, .slice Ao35 y550.length co35, .int .i64 a4, .int .i64 (wrap64 (a1 + a5)), .int .i64 (wrap64 (a2 + a6))] rfl (by (try simp only [List.map_toArray, List.map_cons, List.map_nil]); first | done | rfl | (simp only [List.length_drop, List.length_take]; rfl)) ?_; (with_reducible refine (gradient_Place.calls kj22 x17_22 _ _ y550 a4 (wrap64 (a1 + a5)) (wrap64 (a2 + a6)) t553 _ ?side1 ?side2 A25.out).mono ?_); (case side1 => repeat (first | exact (Kd.R_reads' HO552.out).2.2 | (with_reducible refine Kd.C_alloc ?_ _) | (with_reducible refine Kd.C_drewN ?_ _) | (with_reducible refine Kd.C_drew ?_))); (case side2 => exact (Kd.R_reads' HO552.out).2.1); rintro e w36 ⟨rfl, hb⟩; refine ⟨_, rfl, ?_⟩; have n0_ := Aside0.mk (Kd.R_below (by (with_reducible repeat (first | apply Kd.R_alloc | apply Kd.R_drewN | apply Kd.R_drew)); exact HO552.out) hb); have n1_ := Aside0.mk (below_step (by repeat (first | (with_reducible first | exact HB.out | apply lA_ | apply lN_ | apply lD_) | exact HB.out)) hb); clear HO552; clear HB; have HO552 := n0_; have HB := n1_; clear n0_ n1_; (try clear hb); (try clear hb2); (try clear hk); (try clear hi)) | ((with_reducible refine gate_callee (f := 14) rfl ?_); refine goesL_ (some 107) rfl rfl Try.func14 (by kernel_rfl) rfl #[.int .i64 x17_22, .slice Ao35 y550.length co35, .int .i64 a4, .int .i64 (wrap64 (a1 - a5)), .int .i64 (wrap64 (a2 + a6))] rfl (by (try simp only [List.map_toArray, List.map_cons, List.map_nil]); first | done | rfl | (simp only [List.length_drop, List.length_take]; rfl)) ?_; (with_reducible refine (gradient_Place.calls kj22 x17_22 _ _ y550 a4 (wrap64 (a1 - a5)) (wrap64 (a2 + a6)) t554 _ ?side1 ?side2 A26.out).mono ?_); (case side1 => repeat (first | exact (Kd.R_reads' HO552.out).2.2 | (with_reducible refine Kd.C_alloc ?_ _) | (with_reducible refine Kd.C_drewN ?_ _) | (with_reducible refine Kd.C_drew ?_))); (case side2 => exact (Kd.R_reads' HO552.out).2.1); rintro e w37 ⟨rfl, hb⟩; refine ⟨_, rfl, ?_⟩; have n0_ := Aside0.mk (Kd.R_below (by (with_reducible repeat (first | apply Kd.R_alloc | apply Kd.R_drewN | apply Kd.R_drew)); exact HO552.out) hb); have n1_ := Aside0.mk (below_step (by repeat (first | (with_reducible first | exact HB.out | apply lA_ | apply lN_ | apply lD_) | exact HB.out)) hb); clear HO552; clear HB; have HO552 := n0_; have HB := n1_; clear n0_ n1_; (try clear hb); (try clear hb2); (try clear hk); (try clear hi)) | (go_at_call 14; (with_reducible refine (gradient_Place.calls kj22 x17_22 _ _ y550 a4 (wrap64 (a1 + a5)) (wrap64 (a2 - a6)) t555 _ ?side1 ?side2 A28.out).mono ?_); (case side1 => repeat (first | exact (Kd.R_reads' HO552.out).2.2 | (with_reducible refine Kd.C_alloc ?_ _) | (with_reducible refine Kd.C_drewN ?_ _) | (with_reducible refine Kd.C_drew ?_))); (case side2 => exact (Kd.R_reads' HO552.out).2.1); rintro e w38 ⟨rfl, hb⟩; have n0_ := Aside0.mk (Kd.R_below (by (with_reducible repeat (first | apply Kd.R_alloc | apply Kd.R_drewN | apply Kd.R_drew)); exact HO552.out) hb); have n1_ := Aside0.mk (below_step (by repeat (first | (with_reducible first | exact HB.out | apply lA_ | apply lN_ | apply lD_) | exact HB.out)) hb); clear HO552; clear HB; have HO552 := n0_; have HB := n1_; clear n0_ n1_; (try clear hb); (try clear hb2); (try clear hk); (try clear hi)) | (go_at_call 14; (with_reducible refine (gradient_Place.calls kj22 x17_22 _ _ y550 a4 (wrap64 (a1 + a6)) (wrap64 (a2 + a5)) t556 _ ?side1 ?side2 A30.out).mono ?_); (case side1 => repeat (first | exact (Kd.R_reads' HO552.out).2.2 | (with_reducible refine Kd.C_alloc ?_ _) | (with_reducible refine Kd.C_drewN ?_ _) | (with_reducible refine Kd.C_drew ?_))); (case side2 => exact (Kd.R_reads' HO552.out).2.1); rintro e w39 ⟨rfl, hb⟩; have n0_ := Aside0.mk (Kd.R_below (by (with_reducible repeat (first | apply Kd.R_alloc | apply Kd.R_drewN | apply Kd.R_drew)); exact HO552.out) hb); have n1_ := Aside0.mk (below_step (by repeat (first | (with_reducible first | exact HB.out | apply lA_ | apply lN_ | apply lD_) | exact HB.out)) hb); clear HO552; clear HB; have HO552 := n0_; have HB := n1_; clear n0_ n1_; (try clear hb); (try clear hb2); (try clear hk); (try clear hi)) | (go_at_call 13; (with_reducible refine (imageeditorlaw18_awake.calls kj22  t557 _ A32.out).mono ?_); rintro e w40 ⟨rfl, hb⟩; have n0_ := Aside0.mk (Kd.R_below (by (with_reducible repeat (first | apply Kd.R_alloc | apply Kd.R_drewN | apply Kd.R_drew)); exact HO552.out) hb); have n1_ := Aside0.mk (below_step (by repeat (first | (with_reducible first | exact HB.out | apply lA_ | apply lN_ | apply lD_) | exact HB.out)) hb); clear HO552; clear HB; have HO552 := n0_; have HB := n1_; clear n0_ n1_; (try clear hb); (try clear hb2); (try clear hk); (try clear hi)))
         go_ret
         exact ⟨by first | rfl | (simp [errW_none, errW_some] <;> rfl) | (simp [*, errW_none, errW_some] <;> rfl), by repeat (first | (with_reducible first | exact HB.out | apply lA_ | apply lN_ | apply lD_) | exact HB.out)⟩
        ·rw [if_neg c31] at H
         exact absurd H (by simp)
       ·rw [if_neg c29] at H
        exact absurd H (by simp)
      ·rw [if_neg c27] at H
       exact absurd H (by simp)

/-- THE ONE PURE STATEMENT of imageeditorlaw18_GradientMirrors: yours. -/
def imageeditorlaw18_GradientMirrors.Pure : Prop := ∀ (a0 : Bool) (a1 : Int) (a2 : Int) (a3 : Int) (a4 : Int) (a5 : Int) (a6 : Int), (Lit.int .i64 a1).wf = true → (Lit.int .i64 a2).wf = true → (Lit.int .i64 a3).wf = true → (Lit.int .i64 a4).wf = true → (Lit.int .i64 a5).wf = true → (Lit.int .i64 a6).wf = true → ∃ k, imageeditorlaw18_GradientMirrors.f k a0 a1 a2 a3 a4 a5 a6 = some true
theorem imageeditorlaw18_GradientMirrors.walk (P : imageeditorlaw18_GradientMirrors.Pure) (a0 : Bool) (a1 : Int) (a2 : Int) (a3 : Int) (a4 : Int) (a5 : Int) (a6 : Int) (w : World) (w1 : (Lit.int .i64 a1).wf = true) (w2 : (Lit.int .i64 a2).wf = true) (w3 : (Lit.int .i64 a3).wf = true) (w4 : (Lit.int .i64 a4).wf = true) (w5 : (Lit.int .i64 a5).wf = true) (w6 : (Lit.int .i64 a6).wf = true) :
  Calls Try.prog 10 #[.bool a0, .int .i64 a1, .int .i64 a2, .int .i64 a3, .int .i64 a4, .int .i64 a5, .int .i64 a6] w fun e w' => e = .returned (.bool true) ∧ Below w.heap.size w w' := by
 obtain ⟨k, h⟩ := P a0 a1 a2 a3 a4 a5 a6 w1 w2 w3 w4 w5 w6
 refine (imageeditorlaw18_GradientMirrors.calls k a0 a1 a2 a3 a4 a5 a6 true w h).mono ?_
 rintro e w' ⟨rfl, hd⟩
 exact ⟨rfl, hd⟩


end Go.Proofs.Ytmlcobnidfkhfaa.Q
