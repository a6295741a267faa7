/- Each Go function of the law as a Lean function, with the proof that its call comes to just that, for every input; written by hp.py, a program of this session over the kit own print of the translation. -/
import Derived.Test.YtgciphmmfbgkeaaQ0
import Derived.Test.YtgciphmmfbgkeaaQ1
import Derived.Test.YtgciphmmfbgkeaaQ7
import Derived.Test.YtgciphmmfbgkeaaQ12
import Derived.Test.YtgciphmmfbgkeaaQ12r
namespace Go.Proofs.Ytgciphmmfbgkeaa.Q
open Go.RowKit Go.Proofs.YtgciphmmfbgkeaaW.PrintWords Go.Proofs.YtgciphmmfbgkeaaW.PrintLast Go.Proofs.YtgciphmmfbgkeaaW.PrintMore
attribute [local go_sem] max2_int min2_int max_two min_two max_three min_three max_four min_four   -- for this text's walks alone
set_option linter.unusedVariables false
set_option linter.unusedSimpArgs false
open Go.Proofs.Ytgciphmmfbgkeaa.Clo Go.Proofs.Ytgciphmmfbgkeaa.Sin0

attribute [local go_sem high] eqA23
/-! ### imageeditorlaw12_AffineMakes: function 4 -/
def imageeditorlaw12_AffineMakes.f (k : Nat) (a0 : Int) (a1 : Int) (a2 : Int) : Option (Bool) := (affine_Same.f).bind fun bt374 => ((imageeditorref12_Same.f).bind fun bt380 => (if (bt374.1 == bt380.1 && (bt374.2.1 == bt380.2.1 && (bt374.2.2.1 == bt380.2.2.1 && (bt374.2.2.2.1 == bt380.2.2.2.1 && (bt374.2.2.2.2.1 == bt380.2.2.2.2.1 && (bt374.2.2.2.2.2 == bt380.2.2.2.2.2)))))) = true then ((affine_Move.f a0 a1).bind fun bt386 => ((imageeditorref12_Move.f a0 a1).bind fun bt392 => (if (bt386.1 == bt392.1 && (bt386.2.1 == bt392.2.1 && (bt386.2.2.1 == bt392.2.2.1 && (bt386.2.2.2.1 == bt392.2.2.2.1 && (bt386.2.2.2.2.1 == bt392.2.2.2.2.1 && (bt386.2.2.2.2.2 == bt392.2.2.2.2.2)))))) = true then ((affine_Scale.f a0 a1).bind fun bt398 => ((imageeditorref12_Scale.f a0 a1).bind fun bt404 => (if (bt398.1 == bt404.1 && (bt398.2.1 == bt404.2.1 && (bt398.2.2.1 == bt404.2.2.1 && (bt398.2.2.2.1 == bt404.2.2.2.1 && (bt398.2.2.2.2.1 == bt404.2.2.2.2.1 && (bt398.2.2.2.2.2 == bt404.2.2.2.2.2)))))) = true then ((affine_Rotate.f k a2).bind fun bt410 => ((imageeditorref12_Rotate.f k a2).bind fun bt416 => (if (bt410.1 == bt416.1 && (bt410.2.1 == bt416.2.1 && (bt410.2.2.1 == bt416.2.2.1 && (bt410.2.2.2.1 == bt416.2.2.2.1 && (bt410.2.2.2.2.1 == bt416.2.2.2.2.1 && (bt410.2.2.2.2.2 == bt416.2.2.2.2.2)))))) = true then ((imageeditorlaw12_awake.f k).bind fun t422 => (some t422)) else (none)))) else (none)))) else (none)))) else (none)))
theorem imageeditorlaw12_AffineMakes.mono : ∀ a0 a1 a2 k, LeO (imageeditorlaw12_AffineMakes.f k a0 a1 a2) (imageeditorlaw12_AffineMakes.f (k + 1) a0 a1 a2) := by
  intro a0 a1 a2 k
  unfold imageeditorlaw12_AffineMakes.f
  repeat' first
      | (with_reducible exact affine_Rotate.mono _ _)
      | (with_reducible exact imageeditorlaw12_awake.mono _)
      | (with_reducible exact imageeditorref12_Rotate.mono _ _)
      | (with_reducible exact LeO.refl _)
      | (with_reducible exact LeO.none _)
      | (with_reducible refine LeO.ite ?_ ?_)
      | (with_reducible refine LeO.bind ?_ (fun _ => ?_))
      | exact affine_Rotate.mono _ _
      | exact imageeditorlaw12_awake.mono _
      | exact imageeditorref12_Rotate.mono _ _
      | exact LeO.none _
      | refine LeO.ite ?_ ?_
      | refine LeO.bind ?_ (fun _ => ?_)
set_option maxHeartbeats 8000000 in
set_option maxRecDepth 100000 in
theorem imageeditorlaw12_AffineMakes.calls (k : Nat) (a0 : Int) (a1 : Int) (a2 : Int) (r : Bool) (w : World) (h : imageeditorlaw12_AffineMakes.f k a0 a1 a2 = some r) :
    Calls Try.prog 4 #[.int .i64 a0, .int .i64 a1, .int .i64 a2] w fun e w' => e = .returned (.bool r) ∧ Below w.heap.size w w' := by
  have HB := Aside0.mk (Below.refl w.heap.size w)
  have H : ((affine_Same.f).bind fun bt374 => ((imageeditorref12_Same.f).bind fun bt380 => (if (bt374.1 == bt380.1 && (bt374.2.1 == bt380.2.1 && (bt374.2.2.1 == bt380.2.2.1 && (bt374.2.2.2.1 == bt380.2.2.2.1 && (bt374.2.2.2.2.1 == bt380.2.2.2.2.1 && (bt374.2.2.2.2.2 == bt380.2.2.2.2.2)))))) = true then ((affine_Move.f a0 a1).bind fun bt386 => ((imageeditorref12_Move.f a0 a1).bind fun bt392 => (if (bt386.1 == bt392.1 && (bt386.2.1 == bt392.2.1 && (bt386.2.2.1 == bt392.2.2.1 && (bt386.2.2.2.1 == bt392.2.2.2.1 && (bt386.2.2.2.2.1 == bt392.2.2.2.2.1 && (bt386.2.2.2.2.2 == bt392.2.2.2.2.2)))))) = true then ((affine_Scale.f a0 a1).bind fun bt398 => ((imageeditorref12_Scale.f a0 a1).bind fun bt404 => (if (bt398.1 == bt404.1 && (bt398.2.1 == bt404.2.1 && (bt398.2.2.1 == bt404.2.2.1 && (bt398.2.2.2.1 == bt404.2.2.2.1 && (bt398.2.2.2.2.1 == bt404.2.2.2.2.1 && (bt398.2.2.2.2.2 == bt404.2.2.2.2.2)))))) = true then ((affine_Rotate.f k a2).bind fun bt410 => ((imageeditorref12_Rotate.f k a2).bind fun bt416 => (if (bt410.1 == bt416.1 && (bt410.2.1 == bt416.2.1 && (bt410.2.2.1 == bt416.2.2.1 && (bt410.2.2.2.1 == bt416.2.2.2.1 && (bt410.2.2.2.2.1 == bt416.2.2.2.2.1 && (bt410.2.2.2.2.2 == bt416.2.2.2.2.2)))))) = true then ((imageeditorlaw12_awake.f k).bind fun t422 => (some t422)) else (none)))) else (none)))) else (none)))) else (none)))) = some r := h
  clear h
  replace H := Option.bind_eq_some_iff.mp H
  obtain ⟨⟨t374, t375, t376, t377, t378, t379⟩, A40, H⟩ := H
  replace H : ((imageeditorref12_Same.f).bind fun bt380 => (if (t374 == bt380.1 && (t375 == bt380.2.1 && (t376 == bt380.2.2.1 && (t377 == bt380.2.2.2.1 && (t378 == bt380.2.2.2.2.1 && (t379 == bt380.2.2.2.2.2)))))) = true then ((affine_Move.f a0 a1).bind fun bt386 => ((imageeditorref12_Move.f a0 a1).bind fun bt392 => (if (bt386.1 == bt392.1 && (bt386.2.1 == bt392.2.1 && (bt386.2.2.1 == bt392.2.2.1 && (bt386.2.2.2.1 == bt392.2.2.2.1 && (bt386.2.2.2.2.1 == bt392.2.2.2.2.1 && (bt386.2.2.2.2.2 == bt392.2.2.2.2.2)))))) = true then ((affine_Scale.f a0 a1).bind fun bt398 => ((imageeditorref12_Scale.f a0 a1).bind fun bt404 => (if (bt398.1 == bt404.1 && (bt398.2.1 == bt404.2.1 && (bt398.2.2.1 == bt404.2.2.1 && (bt398.2.2.2.1 == bt404.2.2.2.1 && (bt398.2.2.2.2.1 == bt404.2.2.2.2.1 && (bt398.2.2.2.2.2 == bt404.2.2.2.2.2)))))) = true then ((affine_Rotate.f k a2).bind fun bt410 => ((imageeditorref12_Rotate.f k a2).bind fun bt416 => (if (bt410.1 == bt416.1 && (bt410.2.1 == bt416.2.1 && (bt410.2.2.1 == bt416.2.2.1 && (bt410.2.2.2.1 == bt416.2.2.2.1 && (bt410.2.2.2.2.1 == bt416.2.2.2.2.1 && (bt410.2.2.2.2.2 == bt416.2.2.2.2.2)))))) = true then ((imageeditorlaw12_awake.f k).bind fun t422 => (some t422)) else (none)))) else (none)))) else (none)))) else (none))) = some r := H
  have A4 := Aside0.mk A40
  clear A40
  replace H := Option.bind_eq_some_iff.mp H
  obtain ⟨⟨t380, t381, t382, t383, t384, t385⟩, A50, H⟩ := H
  replace H : (if (t374 == t380 && (t375 == t381 && (t376 == t382 && (t377 == t383 && (t378 == t384 && (t379 == t385)))))) = true then ((affine_Move.f a0 a1).bind fun bt386 => ((imageeditorref12_Move.f a0 a1).bind fun bt392 => (if (bt386.1 == bt392.1 && (bt386.2.1 == bt392.2.1 && (bt386.2.2.1 == bt392.2.2.1 && (bt386.2.2.2.1 == bt392.2.2.2.1 && (bt386.2.2.2.2.1 == bt392.2.2.2.2.1 && (bt386.2.2.2.2.2 == bt392.2.2.2.2.2)))))) = true then ((affine_Scale.f a0 a1).bind fun bt398 => ((imageeditorref12_Scale.f a0 a1).bind fun bt404 => (if (bt398.1 == bt404.1 && (bt398.2.1 == bt404.2.1 && (bt398.2.2.1 == bt404.2.2.1 && (bt398.2.2.2.1 == bt404.2.2.2.1 && (bt398.2.2.2.2.1 == bt404.2.2.2.2.1 && (bt398.2.2.2.2.2 == bt404.2.2.2.2.2)))))) = true then ((affine_Rotate.f k a2).bind fun bt410 => ((imageeditorref12_Rotate.f k a2).bind fun bt416 => (if (bt410.1 == bt416.1 && (bt410.2.1 == bt416.2.1 && (bt410.2.2.1 == bt416.2.2.1 && (bt410.2.2.2.1 == bt416.2.2.2.1 && (bt410.2.2.2.2.1 == bt416.2.2.2.2.1 && (bt410.2.2.2.2.2 == bt416.2.2.2.2.2)))))) = true then ((imageeditorlaw12_awake.f k).bind fun t422 => (some t422)) else (none)))) else (none)))) else (none)))) else (none)) = some r := H
  have A5 := Aside0.mk A50
  clear A50
  by_cases c6 : (t374 == t380 && (t375 == t381 && (t376 == t382 && (t377 == t383 && (t378 == t384 && (t379 == t385)))))) = true
  · rw [if_pos c6] at H
    have c6b0 : (t374 == t380 && (t375 == t381 && (t376 == t382 && (t377 == t383 && (t378 == t384 && (t379 == t385)))))) = true := c6
    (try (have c6b1 : decide (t374 = t380 && (t375 == t381 && (t376 == t382 && (t377 == t383 && (t378 == t384 && (t379 == t385)))))) = true := by simpa using c6))
    (try (have c6b2 : (t374 == t380 && (t375 == t381 && (t376 == t382 && (t377 == t383 && (t378 == t384 && (t379 == t385)))))) = true := by simpa using c6))
    clear c6
    replace H := Option.bind_eq_some_iff.mp H
    obtain ⟨⟨t386, t387, t388, t389, t390, t391⟩, A70, H⟩ := H
    replace H : ((imageeditorref12_Move.f a0 a1).bind fun bt392 => (if (t386 == bt392.1 && (t387 == bt392.2.1 && (t388 == bt392.2.2.1 && (t389 == bt392.2.2.2.1 && (t390 == bt392.2.2.2.2.1 && (t391 == bt392.2.2.2.2.2)))))) = true then ((affine_Scale.f a0 a1).bind fun bt398 => ((imageeditorref12_Scale.f a0 a1).bind fun bt404 => (if (bt398.1 == bt404.1 && (bt398.2.1 == bt404.2.1 && (bt398.2.2.1 == bt404.2.2.1 && (bt398.2.2.2.1 == bt404.2.2.2.1 && (bt398.2.2.2.2.1 == bt404.2.2.2.2.1 && (bt398.2.2.2.2.2 == bt404.2.2.2.2.2)))))) = true then ((affine_Rotate.f k a2).bind fun bt410 => ((imageeditorref12_Rotate.f k a2).bind fun bt416 => (if (bt410.1 == bt416.1 && (bt410.2.1 == bt416.2.1 && (bt410.2.2.1 == bt416.2.2.1 && (bt410.2.2.2.1 == bt416.2.2.2.1 && (bt410.2.2.2.2.1 == bt416.2.2.2.2.1 && (bt410.2.2.2.2.2 == bt416.2.2.2.2.2)))))) = true then ((imageeditorlaw12_awake.f k).bind fun t422 => (some t422)) else (none)))) else (none)))) else (none))) = some r := H
    have A7 := Aside0.mk A70
    clear A70
    replace H := Option.bind_eq_some_iff.mp H
    obtain ⟨⟨t392, t393, t394, t395, t396, t397⟩, A80, H⟩ := H
    replace H : (if (t386 == t392 && (t387 == t393 && (t388 == t394 && (t389 == t395 && (t390 == t396 && (t391 == t397)))))) = true then ((affine_Scale.f a0 a1).bind fun bt398 => ((imageeditorref12_Scale.f a0 a1).bind fun bt404 => (if (bt398.1 == bt404.1 && (bt398.2.1 == bt404.2.1 && (bt398.2.2.1 == bt404.2.2.1 && (bt398.2.2.2.1 == bt404.2.2.2.1 && (bt398.2.2.2.2.1 == bt404.2.2.2.2.1 && (bt398.2.2.2.2.2 == bt404.2.2.2.2.2)))))) = true then ((affine_Rotate.f k a2).bind fun bt410 => ((imageeditorref12_Rotate.f k a2).bind fun bt416 => (if (bt410.1 == bt416.1 && (bt410.2.1 == bt416.2.1 && (bt410.2.2.1 == bt416.2.2.1 && (bt410.2.2.2.1 == bt416.2.2.2.1 && (bt410.2.2.2.2.1 == bt416.2.2.2.2.1 && (bt410.2.2.2.2.2 == bt416.2.2.2.2.2)))))) = true then ((imageeditorlaw12_awake.f k).bind fun t422 => (some t422)) else (none)))) else (none)))) else (none)) = some r := H
    have A8 := Aside0.mk A80
    clear A80
    by_cases c9 : (t386 == t392 && (t387 == t393 && (t388 == t394 && (t389 == t395 && (t390 == t396 && (t391 == t397)))))) = true
    · rw [if_pos c9] at H
      have c9b0 : (t386 == t392 && (t387 == t393 && (t388 == t394 && (t389 == t395 && (t390 == t396 && (t391 == t397)))))) = true := c9
      (try (have c9b1 : decide (t386 = t392 && (t387 == t393 && (t388 == t394 && (t389 == t395 && (t390 == t396 && (t391 == t397)))))) = true := by simpa using c9))
      (try (have c9b2 : (t386 == t392 && (t387 == t393 && (t388 == t394 && (t389 == t395 && (t390 == t396 && (t391 == t397)))))) = true := by simpa using c9))
      clear c9
      replace H := Option.bind_eq_some_iff.mp H
      obtain ⟨⟨t398, t399, t400, t401, t402, t403⟩, A100, H⟩ := H
      replace H : ((imageeditorref12_Scale.f a0 a1).bind fun bt404 => (if (t398 == bt404.1 && (t399 == bt404.2.1 && (t400 == bt404.2.2.1 && (t401 == bt404.2.2.2.1 && (t402 == bt404.2.2.2.2.1 && (t403 == bt404.2.2.2.2.2)))))) = true then ((affine_Rotate.f k a2).bind fun bt410 => ((imageeditorref12_Rotate.f k a2).bind fun bt416 => (if (bt410.1 == bt416.1 && (bt410.2.1 == bt416.2.1 && (bt410.2.2.1 == bt416.2.2.1 && (bt410.2.2.2.1 == bt416.2.2.2.1 && (bt410.2.2.2.2.1 == bt416.2.2.2.2.1 && (bt410.2.2.2.2.2 == bt416.2.2.2.2.2)))))) = true then ((imageeditorlaw12_awake.f k).bind fun t422 => (some t422)) else (none)))) else (none))) = some r := H
      have A10 := Aside0.mk A100
      clear A100
      replace H := Option.bind_eq_some_iff.mp H
      obtain ⟨⟨t404, t405, t406, t407, t408, t409⟩, A110, H⟩ := H
      replace H : (if (t398 == t404 && (t399 == t405 && (t400 == t406 && (t401 == t407 && (t402 == t408 && (t403 == t409)))))) = true then ((affine_Rotate.f k a2).bind fun bt410 => ((imageeditorref12_Rotate.f k a2).bind fun bt416 => (if (bt410.1 == bt416.1 && (bt410.2.1 == bt416.2.1 && (bt410.2.2.1 == bt416.2.2.1 && (bt410.2.2.2.1 == bt416.2.2.2.1 && (bt410.2.2.2.2.1 == bt416.2.2.2.2.1 && (bt410.2.2.2.2.2 == bt416.2.2.2.2.2)))))) = true then ((imageeditorlaw12_awake.f k).bind fun t422 => (some t422)) else (none)))) else (none)) = some r := H
      have A11 := Aside0.mk A110
      clear A110
      by_cases c12 : (t398 == t404 && (t399 == t405 && (t400 == t406 && (t401 == t407 && (t402 == t408 && (t403 == t409)))))) = true
      · rw [if_pos c12] at H
        have c12b0 : (t398 == t404 && (t399 == t405 && (t400 == t406 && (t401 == t407 && (t402 == t408 && (t403 == t409)))))) = true := c12
        (try (have c12b1 : decide (t398 = t404 && (t399 == t405 && (t400 == t406 && (t401 == t407 && (t402 == t408 && (t403 == t409)))))) = true := by simpa using c12))
        (try (have c12b2 : (t398 == t404 && (t399 == t405 && (t400 == t406 && (t401 == t407 && (t402 == t408 && (t403 == t409)))))) = true := by simpa using c12))
        clear c12
        replace H := Option.bind_eq_some_iff.mp H
        obtain ⟨⟨t410, t411, t412, t413, t414, t415⟩, A130, H⟩ := H
        replace H : ((imageeditorref12_Rotate.f k a2).bind fun bt416 => (if (t410 == bt416.1 && (t411 == bt416.2.1 && (t412 == bt416.2.2.1 && (t413 == bt416.2.2.2.1 && (t414 == bt416.2.2.2.2.1 && (t415 == bt416.2.2.2.2.2)))))) = true then ((imageeditorlaw12_awake.f k).bind fun t422 => (some t422)) else (none))) = some r := H
        have A13 := Aside0.mk A130
        clear A130
        replace H := Option.bind_eq_some_iff.mp H
        obtain ⟨⟨t416, t417, t418, t419, t420, t421⟩, A140, H⟩ := H
        replace H : (if (t410 == t416 && (t411 == t417 && (t412 == t418 && (t413 == t419 && (t414 == t420 && (t415 == t421)))))) = true then ((imageeditorlaw12_awake.f k).bind fun t422 => (some t422)) else (none)) = some r := H
        have A14 := Aside0.mk A140
        clear A140
        by_cases c15 : (t410 == t416 && (t411 == t417 && (t412 == t418 && (t413 == t419 && (t414 == t420 && (t415 == t421)))))) = true
        · rw [if_pos c15] at H
          have c15b0 : (t410 == t416 && (t411 == t417 && (t412 == t418 && (t413 == t419 && (t414 == t420 && (t415 == t421)))))) = true := c15
          (try (have c15b1 : decide (t410 = t416 && (t411 == t417 && (t412 == t418 && (t413 == t419 && (t414 == t420 && (t415 == t421)))))) = true := by simpa using c15))
          (try (have c15b2 : (t410 == t416 && (t411 == t417 && (t412 == t418 && (t413 == t419 && (t414 == t420 && (t415 == t421)))))) = true := by simpa using c15))
          clear c15
          replace H := Option.bind_eq_some_iff.mp H
          obtain ⟨t422, A160, H⟩ := H
          replace H : (some t422) = some r := H
          have A16 := Aside0.mk A160
          clear A160
          obtain rfl := Option.some.inj H
          go_enter Try.func4, Try.ntmps4
          go_wp2_with (first | ((with_reducible refine gate_callee (f := 15) rfl ?_); refine goesL_ (some 7) rfl rfl Try.func15 (by kernel_rfl) rfl #[] rfl (by (try simp only [List.map_toArray, List.map_cons, List.map_nil]); first | done | rfl | (simp only [List.length_drop, List.length_take]; rfl)) ?_; (with_reducible refine (affine_Same.calls  t374 t375 t376 t377 t378 t379 _ A4.out).mono ?_); rintro e w17 ⟨rfl, hb⟩; refine ⟨_, rfl, ?_⟩; have n0_ := Aside0.mk (below_step (by repeat (first | (with_reducible first | exact HB.out | apply below_alloc | apply pw_below_drewN | apply below_drew1) | exact HB.out)) hb); clear HB; have HB := n0_; clear n0_; (try clear hb); (try clear hb2); (try clear hk); (try clear hi)) | ((with_reducible refine gate_callee (f := 16) rfl ?_); refine goesL_ (some 8) rfl rfl Try.func16 (by kernel_rfl) rfl #[] rfl (by (try simp only [List.map_toArray, List.map_cons, List.map_nil]); first | done | rfl | (simp only [List.length_drop, List.length_take]; rfl)) ?_; (with_reducible refine (imageeditorref12_Same.calls  t380 t381 t382 t383 t384 t385 _ A5.out).mono ?_); rintro e w18 ⟨rfl, hb⟩; refine ⟨_, rfl, ?_⟩; have n0_ := Aside0.mk (below_step (by repeat (first | (with_reducible first | exact HB.out | apply below_alloc | apply pw_below_drewN | apply below_drew1) | exact HB.out)) hb); clear HB; have HB := n0_; clear n0_; (try clear hb); (try clear hb2); (try clear hk); (try clear hi)) | (go_at_call 17; (with_reducible refine (affine_Move.calls a0 a1 t386 t387 t388 t389 t390 t391 _ A7.out).mono ?_); rintro e w19 ⟨rfl, hb⟩; have n0_ := Aside0.mk (below_step (by repeat (first | (with_reducible first | exact HB.out | apply below_alloc | apply pw_below_drewN | apply below_drew1) | exact HB.out)) hb); clear HB; have HB := n0_; clear n0_; (try clear hb); (try clear hb2); (try clear hk); (try clear hi)) | (go_at_call 18; (with_reducible refine (imageeditorref12_Move.calls a0 a1 t392 t393 t394 t395 t396 t397 _ A8.out).mono ?_); rintro e w20 ⟨rfl, hb⟩; have n0_ := Aside0.mk (below_step (by repeat (first | (with_reducible first | exact HB.out | apply below_alloc | apply pw_below_drewN | apply below_drew1) | exact HB.out)) hb); clear HB; have HB := n0_; clear n0_; (try clear hb); (try clear hb2); (try clear hk); (try clear hi)) | (go_at_call 19; (with_reducible refine (affine_Scale.calls a0 a1 t398 t399 t400 t401 t402 t403 _ A10.out).mono ?_); rintro e w21 ⟨rfl, hb⟩; have n0_ := Aside0.mk (below_step (by repeat (first | (with_reducible first | exact HB.out | apply below_alloc | apply pw_below_drewN | apply below_drew1) | exact HB.out)) hb); clear HB; have HB := n0_; clear n0_; (try clear hb); (try clear hb2); (try clear hk); (try clear hi)) | (go_at_call 20; (with_reducible refine (imageeditorref12_Scale.calls a0 a1 t404 t405 t406 t407 t408 t409 _ A11.out).mono ?_); rintro e w22 ⟨rfl, hb⟩; have n0_ := Aside0.mk (below_step (by repeat (first | (with_reducible first | exact HB.out | apply below_alloc | apply pw_below_drewN | apply below_drew1) | exact HB.out)) hb); clear HB; have HB := n0_; clear n0_; (try clear hb); (try clear hb2); (try clear hk); (try clear hi)) | (go_at_call 21; (with_reducible refine (affine_Rotate.calls k a2 t410 t411 t412 t413 t414 t415 _ A13.out).mono ?_); rintro e w23 ⟨rfl, hb⟩; have n0_ := Aside0.mk (below_step (by repeat (first | (with_reducible first | exact HB.out | apply below_alloc | apply pw_below_drewN | apply below_drew1) | exact HB.out)) hb); clear HB; have HB := n0_; clear n0_; (try clear hb); (try clear hb2); (try clear hk); (try clear hi)) | (go_at_call 22; (with_reducible refine (imageeditorref12_Rotate.calls k a2 t416 t417 t418 t419 t420 t421 _ A14.out).mono ?_); rintro e w24 ⟨rfl, hb⟩; have n0_ := Aside0.mk (below_step (by repeat (first | (with_reducible first | exact HB.out | apply below_alloc | apply pw_below_drewN | apply below_drew1) | exact HB.out)) hb); clear HB; have HB := n0_; clear n0_; (try clear hb); (try clear hb2); (try clear hk); (try clear hi)) | (go_at_call 14; (with_reducible refine (imageeditorlaw12_awake.calls k  t422 _ A16.out).mono ?_); rintro e w25 ⟨rfl, hb⟩; have n0_ := Aside0.mk (below_step (by repeat (first | (with_reducible first | exact HB.out | apply below_alloc | apply pw_below_drewN | apply below_drew1) | exact HB.out)) hb); clear HB; have HB := n0_; clear n0_; (try clear hb); (try clear hb2); (try clear hk); (try clear hi)))
          go_ret
          exact ⟨by first | rfl | (simp [errW_none, errW_some] <;> rfl) | (simp [*, errW_none, errW_some] <;> rfl), by repeat (first | (with_reducible first | exact HB.out | apply below_alloc | apply pw_below_drewN | apply below_drew1) | exact HB.out)⟩
        · rw [if_neg c15] at H
          exact absurd H (by simp)
      · rw [if_neg c12] at H
        exact absurd H (by simp)
    · rw [if_neg c9] at H
      exact absurd H (by simp)
  · rw [if_neg c6] at H
    exact absurd H (by simp)

/-- THE ONE PURE STATEMENT of imageeditorlaw12_AffineMakes: yours. -/
def imageeditorlaw12_AffineMakes.Pure : Prop := ∀ (a0 : Int) (a1 : Int) (a2 : Int), (Lit.int .i64 a0).wf = true → (Lit.int .i64 a1).wf = true → (Lit.int .i64 a2).wf = true → ∃ k, imageeditorlaw12_AffineMakes.f k a0 a1 a2 = some true
theorem imageeditorlaw12_AffineMakes.walk (P : imageeditorlaw12_AffineMakes.Pure) (a0 : Int) (a1 : Int) (a2 : Int) (w : World) (w0 : (Lit.int .i64 a0).wf = true) (w1 : (Lit.int .i64 a1).wf = true) (w2 : (Lit.int .i64 a2).wf = true) :
    Calls Try.prog 4 #[.int .i64 a0, .int .i64 a1, .int .i64 a2] w fun e w' => e = .returned (.bool true) ∧ Below w.heap.size w w' := by
  obtain ⟨k, h⟩ := P a0 a1 a2 w0 w1 w2
  refine (imageeditorlaw12_AffineMakes.calls k a0 a1 a2 true w h).mono ?_
  rintro e w' ⟨rfl, hd⟩
  exact ⟨rfl, hd⟩


end Go.Proofs.Ytgciphmmfbgkeaa.Q
