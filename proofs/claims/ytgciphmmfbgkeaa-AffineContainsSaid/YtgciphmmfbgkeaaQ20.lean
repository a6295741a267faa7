/- Each Go function of the law as a Lean function, with the proof that its call comes to just that, for every input; written by hp.py, a program of this session over the kit own print of the translation. -/
import Derived.Test.YtgciphmmfbgkeaaGg
import Derived.Test.YtgciphmmfbgkeaaQ0
import Derived.Test.YtgciphmmfbgkeaaQ3
import Derived.Test.YtgciphmmfbgkeaaQ6
import Derived.Test.YtgciphmmfbgkeaaQ11
import Derived.Test.YtgciphmmfbgkeaaQ12
import Derived.Test.YtgciphmmfbgkeaaQ15
import Derived.Test.YtgciphmmfbgkeaaQ17
namespace Go.Proofs.Ytgciphmmfbgkeaa.Q
open Go.RowKit Go.Proofs.YtgciphmmfbgkeaaW.PrintWords Go.Proofs.YtgciphmmfbgkeaaW.PrintLast Go.Proofs.YtgciphmmfbgkeaaW.PrintMore
attribute [local go_sem] max2_int min2_int max_two min_two max_three min_three max_four min_four   -- for this text's walks alone
set_option linter.unusedVariables false
set_option linter.unusedSimpArgs false
open Go.Proofs.Ytgciphmmfbgkeaa.Clo Go.Proofs.Ytgciphmmfbgkeaa.Sin0

attribute [local go_sem high] eqA44
/-! ### imageeditorlaw12_AffineContains: function 9 -/
mutual
def imageeditorlaw12_AffineContains.j0 : Nat → Bool → Int → Int → Int → Int → Int → Int → Int → Int → Int → Int → Int → Int → Option (Bool)
  | 0, _, _, _, _, _, _, _, _, _, _, _, _, _ => none
  | k + 1, x79, x596000, x596001, x596002, x596003, x596004, x596005, x597000, x597001, x597002, x597003, x598000, x598001 => if x79 = true then ((imageeditorlaw12_awake.f k).bind fun t603 => (some t603)) else ((affine_Box.f k x596000 x596001 x596002 x596003 x596004 x596005 x597000 x597001 x597002 x597003).bind fun bt604 => (if bt604.2.2.2.2 = 0 then ((imageeditorlaw12_within.f k 1048576 (([bt604.1, bt604.2.1, bt604.2.2.1, bt604.2.2.2.1] : List Int))).bind fun t613 => (if t613 = true then (if bt604.2.2.1 < 0 then (imageeditorlaw12_AffineContains.j1 k true x596000 x596001 x596002 x596003 x596004 x596005 x598000 x598001 bt604.1 bt604.2.1 bt604.2.2.1 bt604.2.2.2.1) else (imageeditorlaw12_AffineContains.j1 k (decide (bt604.2.2.2.1 < 0)) x596000 x596001 x596002 x596003 x596004 x596005 x598000 x598001 bt604.1 bt604.2.1 bt604.2.2.1 bt604.2.2.2.1)) else (imageeditorlaw12_AffineContains.j1 k true x596000 x596001 x596002 x596003 x596004 x596005 x598000 x598001 bt604.1 bt604.2.1 bt604.2.2.1 bt604.2.2.2.1))) else (imageeditorlaw12_AffineContains.j1 k true x596000 x596001 x596002 x596003 x596004 x596005 x598000 x598001 bt604.1 bt604.2.1 bt604.2.2.1 bt604.2.2.2.1)))
def imageeditorlaw12_AffineContains.j1 : Nat → Bool → Int → Int → Int → Int → Int → Int → Int → Int → Int → Int → Int → Int → Option (Bool)
  | 0, _, _, _, _, _, _, _, _, _, _, _, _, _ => none
  | k + 1, x111, x596000, x596001, x596002, x596003, x596004, x596005, x598000, x598001, x610000, x610001, x610002, x610003 => if x111 = true then (none) else (if x610002 = 0 then (imageeditorlaw12_AffineContains.j2 k true x596000 x596001 x596002 x596003 x596004 x596005 x598000 x598001 x610000 x610001 x610002 x610003) else (imageeditorlaw12_AffineContains.j2 k (x610003 == 0) x596000 x596001 x596002 x596003 x596004 x596005 x598000 x598001 x610000 x610001 x610002 x610003))
def imageeditorlaw12_AffineContains.j2 : Nat → Bool → Int → Int → Int → Int → Int → Int → Int → Int → Int → Int → Int → Int → Option (Bool)
  | 0, _, _, _, _, _, _, _, _, _, _, _, _, _ => none
  | k + 1, x119, x596000, x596001, x596002, x596003, x596004, x596005, x598000, x598001, x610000, x610001, x610002, x610003 => if x119 = true then (if (x610000 == 0 && (x610001 == 0 && (x610002 == 0 && (x610003 == 0)))) = true then ((imageeditorlaw12_awake.f k).bind fun t614 => (some t614)) else (none)) else ((affine_Apply.f k x596000 x596001 x596002 x596003 x596004 x596005 x598000 x598001).bind fun bt615 => (if bt615.1 ≥ (wrap64 (x610000 * 65536)) then (if bt615.1 ≤ (wrap64 ((wrap64 (x610000 + x610002)) * 65536)) then (if bt615.2 ≥ (wrap64 (x610001 * 65536)) then (if bt615.2 ≤ (wrap64 ((wrap64 (x610001 + x610003)) * 65536)) then ((imageeditorlaw12_awake.f k).bind fun t618 => (some t618)) else (none)) else (none)) else (none)) else (none)))
end
def imageeditorlaw12_AffineContains.f (k : Nat) (a0_0 : Int) (a0_1 : Int) (a0_2 : Int) (a0_3 : Int) (a0_4 : Int) (a0_5 : Int) (a1_0 : Int) (a1_1 : Int) (a1_2 : Int) (a1_3 : Int) (a2_0 : Int) (a2_1 : Int) : Option (Bool) := (imageeditorlaw12_small.f k a0_0 a0_1 a0_2 a0_3 a0_4 a0_5 16777216).bind fun t598 => (if t598 = true then ((imageeditorlaw12_within.f k 256 (([a1_0, a1_1] : List Int))).bind fun t602 => (if t602 = true then (if a1_2 < 1 then (imageeditorlaw12_AffineContains.j0 k true a0_0 a0_1 a0_2 a0_3 a0_4 a0_5 a1_0 a1_1 a1_2 a1_3 a2_0 a2_1) else (if a1_2 > 256 then (imageeditorlaw12_AffineContains.j0 k true a0_0 a0_1 a0_2 a0_3 a0_4 a0_5 a1_0 a1_1 a1_2 a1_3 a2_0 a2_1) else (if a1_3 < 1 then (imageeditorlaw12_AffineContains.j0 k true a0_0 a0_1 a0_2 a0_3 a0_4 a0_5 a1_0 a1_1 a1_2 a1_3 a2_0 a2_1) else (if a1_3 > 256 then (imageeditorlaw12_AffineContains.j0 k true a0_0 a0_1 a0_2 a0_3 a0_4 a0_5 a1_0 a1_1 a1_2 a1_3 a2_0 a2_1) else (if a2_0 < (wrap64 (a1_0 * 65536)) then (imageeditorlaw12_AffineContains.j0 k true a0_0 a0_1 a0_2 a0_3 a0_4 a0_5 a1_0 a1_1 a1_2 a1_3 a2_0 a2_1) else (if a2_1 < (wrap64 (a1_1 * 65536)) then (imageeditorlaw12_AffineContains.j0 k true a0_0 a0_1 a0_2 a0_3 a0_4 a0_5 a1_0 a1_1 a1_2 a1_3 a2_0 a2_1) else (if a2_0 > (wrap64 ((wrap64 (a1_0 + a1_2)) * 65536)) then (imageeditorlaw12_AffineContains.j0 k true a0_0 a0_1 a0_2 a0_3 a0_4 a0_5 a1_0 a1_1 a1_2 a1_3 a2_0 a2_1) else (imageeditorlaw12_AffineContains.j0 k (decide (a2_1 > (wrap64 ((wrap64 (a1_1 + a1_3)) * 65536)))) a0_0 a0_1 a0_2 a0_3 a0_4 a0_5 a1_0 a1_1 a1_2 a1_3 a2_0 a2_1)))))))) else (imageeditorlaw12_AffineContains.j0 k true a0_0 a0_1 a0_2 a0_3 a0_4 a0_5 a1_0 a1_1 a1_2 a1_3 a2_0 a2_1))) else (imageeditorlaw12_AffineContains.j0 k true a0_0 a0_1 a0_2 a0_3 a0_4 a0_5 a1_0 a1_1 a1_2 a1_3 a2_0 a2_1))
theorem imageeditorlaw12_AffineContains.mono_l : ∀ k, (∀ y0 y1 y2 y3 y4 y5 y6 y7 y8 y9 y10 y11 y12, LeO (imageeditorlaw12_AffineContains.j0 k y0 y1 y2 y3 y4 y5 y6 y7 y8 y9 y10 y11 y12) (imageeditorlaw12_AffineContains.j0 (k + 1) y0 y1 y2 y3 y4 y5 y6 y7 y8 y9 y10 y11 y12)) ∧ (∀ y0 y1 y2 y3 y4 y5 y6 y7 y8 y9 y10 y11 y12, LeO (imageeditorlaw12_AffineContains.j1 k y0 y1 y2 y3 y4 y5 y6 y7 y8 y9 y10 y11 y12) (imageeditorlaw12_AffineContains.j1 (k + 1) y0 y1 y2 y3 y4 y5 y6 y7 y8 y9 y10 y11 y12)) ∧ (∀ y0 y1 y2 y3 y4 y5 y6 y7 y8 y9 y10 y11 y12, LeO (imageeditorlaw12_AffineContains.j2 k y0 y1 y2 y3 y4 y5 y6 y7 y8 y9 y10 y11 y12) (imageeditorlaw12_AffineContains.j2 (k + 1) y0 y1 y2 y3 y4 y5 y6 y7 y8 y9 y10 y11 y12))
  | 0 => ⟨fun _ _ _ _ _ _ _ _ _ _ _ _ _ r h => by simp [imageeditorlaw12_AffineContains.j0] at h, fun _ _ _ _ _ _ _ _ _ _ _ _ _ r h => by simp [imageeditorlaw12_AffineContains.j1] at h, fun _ _ _ _ _ _ _ _ _ _ _ _ _ r h => by simp [imageeditorlaw12_AffineContains.j2] at h⟩
  | k + 1 => by
    obtain ⟨ih0, ih1, ih2⟩ := imageeditorlaw12_AffineContains.mono_l k
    refine ⟨?_, ?_, ?_⟩
    · intro y0 y1 y2 y3 y4 y5 y6 y7 y8 y9 y10 y11 y12
      unfold imageeditorlaw12_AffineContains.j0
      repeat' first
      | (with_reducible exact ih0 _ _ _ _ _ _ _ _ _ _ _ _ _)
      | (with_reducible exact ih1 _ _ _ _ _ _ _ _ _ _ _ _ _)
      | (with_reducible exact ih2 _ _ _ _ _ _ _ _ _ _ _ _ _)
      | (with_reducible exact affine_Apply.mono _ _ _ _ _ _ _ _ _)
      | (with_reducible exact affine_Box.mono _ _ _ _ _ _ _ _ _ _ _)
      | (with_reducible exact imageeditorlaw12_awake.mono _)
      | (with_reducible exact imageeditorlaw12_small.mono _ _ _ _ _ _ _ _)
      | (with_reducible exact imageeditorlaw12_within.mono _ _ _)
      | (with_reducible exact LeO.refl _)
      | (with_reducible exact LeO.none _)
      | (with_reducible refine LeO.ite ?_ ?_)
      | (with_reducible refine LeO.bind ?_ (fun _ => ?_))
      | exact ih0 _ _ _ _ _ _ _ _ _ _ _ _ _
      | exact ih1 _ _ _ _ _ _ _ _ _ _ _ _ _
      | exact ih2 _ _ _ _ _ _ _ _ _ _ _ _ _
      | exact affine_Apply.mono _ _ _ _ _ _ _ _ _
      | exact affine_Box.mono _ _ _ _ _ _ _ _ _ _ _
      | exact imageeditorlaw12_awake.mono _
      | exact imageeditorlaw12_small.mono _ _ _ _ _ _ _ _
      | exact imageeditorlaw12_within.mono _ _ _
      | exact LeO.none _
      | refine LeO.ite ?_ ?_
      | refine LeO.bind ?_ (fun _ => ?_)
    · intro y0 y1 y2 y3 y4 y5 y6 y7 y8 y9 y10 y11 y12
      unfold imageeditorlaw12_AffineContains.j1
      repeat' first
      | (with_reducible exact ih0 _ _ _ _ _ _ _ _ _ _ _ _ _)
      | (with_reducible exact ih1 _ _ _ _ _ _ _ _ _ _ _ _ _)
      | (with_reducible exact ih2 _ _ _ _ _ _ _ _ _ _ _ _ _)
      | (with_reducible exact affine_Apply.mono _ _ _ _ _ _ _ _ _)
      | (with_reducible exact affine_Box.mono _ _ _ _ _ _ _ _ _ _ _)
      | (with_reducible exact imageeditorlaw12_awake.mono _)
      | (with_reducible exact imageeditorlaw12_small.mono _ _ _ _ _ _ _ _)
      | (with_reducible exact imageeditorlaw12_within.mono _ _ _)
      | (with_reducible exact LeO.refl _)
      | (with_reducible exact LeO.none _)
      | (with_reducible refine LeO.ite ?_ ?_)
      | (with_reducible refine LeO.bind ?_ (fun _ => ?_))
      | exact ih0 _ _ _ _ _ _ _ _ _ _ _ _ _
      | exact ih1 _ _ _ _ _ _ _ _ _ _ _ _ _
      | exact ih2 _ _ _ _ _ _ _ _ _ _ _ _ _
      | exact affine_Apply.mono _ _ _ _ _ _ _ _ _
      | exact affine_Box.mono _ _ _ _ _ _ _ _ _ _ _
      | exact imageeditorlaw12_awake.mono _
      | exact imageeditorlaw12_small.mono _ _ _ _ _ _ _ _
      | exact imageeditorlaw12_within.mono _ _ _
      | exact LeO.none _
      | refine LeO.ite ?_ ?_
      | refine LeO.bind ?_ (fun _ => ?_)
    · intro y0 y1 y2 y3 y4 y5 y6 y7 y8 y9 y10 y11 y12
      unfold imageeditorlaw12_AffineContains.j2
      repeat' first
      | (with_reducible exact ih0 _ _ _ _ _ _ _ _ _ _ _ _ _)
      | (with_reducible exact ih1 _ _ _ _ _ _ _ _ _ _ _ _ _)
      | (with_reducible exact ih2 _ _ _ _ _ _ _ _ _ _ _ _ _)
      | (with_reducible exact affine_Apply.mono _ _ _ _ _ _ _ _ _)
      | (with_reducible exact affine_Box.mono _ _ _ _ _ _ _ _ _ _ _)
      | (with_reducible exact imageeditorlaw12_awake.mono _)
      | (with_reducible exact imageeditorlaw12_small.mono _ _ _ _ _ _ _ _)
      | (with_reducible exact imageeditorlaw12_within.mono _ _ _)
      | (with_reducible exact LeO.refl _)
      | (with_reducible exact LeO.none _)
      | (with_reducible refine LeO.ite ?_ ?_)
      | (with_reducible refine LeO.bind ?_ (fun _ => ?_))
      | exact ih0 _ _ _ _ _ _ _ _ _ _ _ _ _
      | exact ih1 _ _ _ _ _ _ _ _ _ _ _ _ _
      | exact ih2 _ _ _ _ _ _ _ _ _ _ _ _ _
      | exact affine_Apply.mono _ _ _ _ _ _ _ _ _
      | exact affine_Box.mono _ _ _ _ _ _ _ _ _ _ _
      | exact imageeditorlaw12_awake.mono _
      | exact imageeditorlaw12_small.mono _ _ _ _ _ _ _ _
      | exact imageeditorlaw12_within.mono _ _ _
      | exact LeO.none _
      | refine LeO.ite ?_ ?_
      | refine LeO.bind ?_ (fun _ => ?_)
theorem imageeditorlaw12_AffineContains.mono : ∀ a0 a1 a2 a3 a4 a5 a6 a7 a8 a9 a10 a11 k, LeO (imageeditorlaw12_AffineContains.f k a0 a1 a2 a3 a4 a5 a6 a7 a8 a9 a10 a11) (imageeditorlaw12_AffineContains.f (k + 1) a0 a1 a2 a3 a4 a5 a6 a7 a8 a9 a10 a11) := by
  intro a0 a1 a2 a3 a4 a5 a6 a7 a8 a9 a10 a11 k
  obtain ⟨ih0, ih1, ih2⟩ := imageeditorlaw12_AffineContains.mono_l k
  unfold imageeditorlaw12_AffineContains.f
  repeat' first
      | (with_reducible exact ih0 _ _ _ _ _ _ _ _ _ _ _ _ _)
      | (with_reducible exact ih1 _ _ _ _ _ _ _ _ _ _ _ _ _)
      | (with_reducible exact ih2 _ _ _ _ _ _ _ _ _ _ _ _ _)
      | (with_reducible exact affine_Apply.mono _ _ _ _ _ _ _ _ _)
      | (with_reducible exact affine_Box.mono _ _ _ _ _ _ _ _ _ _ _)
      | (with_reducible exact imageeditorlaw12_awake.mono _)
      | (with_reducible exact imageeditorlaw12_small.mono _ _ _ _ _ _ _ _)
      | (with_reducible exact imageeditorlaw12_within.mono _ _ _)
      | (with_reducible exact LeO.refl _)
      | (with_reducible exact LeO.none _)
      | (with_reducible refine LeO.ite ?_ ?_)
      | (with_reducible refine LeO.bind ?_ (fun _ => ?_))
      | exact ih0 _ _ _ _ _ _ _ _ _ _ _ _ _
      | exact ih1 _ _ _ _ _ _ _ _ _ _ _ _ _
      | exact ih2 _ _ _ _ _ _ _ _ _ _ _ _ _
      | exact affine_Apply.mono _ _ _ _ _ _ _ _ _
      | exact affine_Box.mono _ _ _ _ _ _ _ _ _ _ _
      | exact imageeditorlaw12_awake.mono _
      | exact imageeditorlaw12_small.mono _ _ _ _ _ _ _ _
      | exact imageeditorlaw12_within.mono _ _ _
      | exact LeO.none _
      | refine LeO.ite ?_ ?_
      | refine LeO.bind ?_ (fun _ => ?_)
set_option maxHeartbeats 8000000 in
set_option maxRecDepth 100000 in
theorem imageeditorlaw12_AffineContains.calls (k : Nat) (a0_0 : Int) (a0_1 : Int) (a0_2 : Int) (a0_3 : Int) (a0_4 : Int) (a0_5 : Int) (a1_0 : Int) (a1_1 : Int) (a1_2 : Int) (a1_3 : Int) (a2_0 : Int) (a2_1 : Int) (r : Bool) (w : World) (h : imageeditorlaw12_AffineContains.f k a0_0 a0_1 a0_2 a0_3 a0_4 a0_5 a1_0 a1_1 a1_2 a1_3 a2_0 a2_1 = some r) :
    Calls Try.prog 9 #[.agg #[.int .i64 a0_0, .int .i64 a0_1, .int .i64 a0_2, .int .i64 a0_3, .int .i64 a0_4, .int .i64 a0_5], .agg #[.int .i64 a1_0, .int .i64 a1_1, .int .i64 a1_2, .int .i64 a1_3], .agg #[.int .i64 a2_0, .int .i64 a2_1]] w fun e w' => e = .returned (.bool r) ∧ Below w.heap.size w w' := by
  have hu23 := Try.underlying23
  have hu44 := Try.underlying44
  have hu25 := Try.underlying25
  have HB := Aside0.mk (Below.refl w.heap.size w)
  have H : ((imageeditorlaw12_small.f k a0_0 a0_1 a0_2 a0_3 a0_4 a0_5 16777216).bind fun t598 => (if t598 = true then ((imageeditorlaw12_within.f k 256 (([a1_0, a1_1] : List Int))).bind fun t602 => (if t602 = true then (if a1_2 < 1 then (imageeditorlaw12_AffineContains.j0 k true a0_0 a0_1 a0_2 a0_3 a0_4 a0_5 a1_0 a1_1 a1_2 a1_3 a2_0 a2_1) else (if a1_2 > 256 then (imageeditorlaw12_AffineContains.j0 k true a0_0 a0_1 a0_2 a0_3 a0_4 a0_5 a1_0 a1_1 a1_2 a1_3 a2_0 a2_1) else (if a1_3 < 1 then (imageeditorlaw12_AffineContains.j0 k true a0_0 a0_1 a0_2 a0_3 a0_4 a0_5 a1_0 a1_1 a1_2 a1_3 a2_0 a2_1) else (if a1_3 > 256 then (imageeditorlaw12_AffineContains.j0 k true a0_0 a0_1 a0_2 a0_3 a0_4 a0_5 a1_0 a1_1 a1_2 a1_3 a2_0 a2_1) else (if a2_0 < (wrap64 (a1_0 * 65536)) then (imageeditorlaw12_AffineContains.j0 k true a0_0 a0_1 a0_2 a0_3 a0_4 a0_5 a1_0 a1_1 a1_2 a1_3 a2_0 a2_1) else (if a2_1 < (wrap64 (a1_1 * 65536)) then (imageeditorlaw12_AffineContains.j0 k true a0_0 a0_1 a0_2 a0_3 a0_4 a0_5 a1_0 a1_1 a1_2 a1_3 a2_0 a2_1) else (if a2_0 > (wrap64 ((wrap64 (a1_0 + a1_2)) * 65536)) then (imageeditorlaw12_AffineContains.j0 k true a0_0 a0_1 a0_2 a0_3 a0_4 a0_5 a1_0 a1_1 a1_2 a1_3 a2_0 a2_1) else (imageeditorlaw12_AffineContains.j0 k (decide (a2_1 > (wrap64 ((wrap64 (a1_1 + a1_3)) * 65536)))) a0_0 a0_1 a0_2 a0_3 a0_4 a0_5 a1_0 a1_1 a1_2 a1_3 a2_0 a2_1)))))))) else (imageeditorlaw12_AffineContains.j0 k true a0_0 a0_1 a0_2 a0_3 a0_4 a0_5 a1_0 a1_1 a1_2 a1_3 a2_0 a2_1))) else (imageeditorlaw12_AffineContains.j0 k true a0_0 a0_1 a0_2 a0_3 a0_4 a0_5 a1_0 a1_1 a1_2 a1_3 a2_0 a2_1))) = some r := h
  clear h
  have HC4 := Aside0.mk H
  clear H
  go_enter Try.func9, Try.ntmps9
  (try simp only [List.append])
  go_upto_region 1 with (first | ((with_reducible refine gate_dst (N := 3) rfl ?_); (try (refine gate_grd (by rfl) ?_; dsimp only)); refine box_event ?hg (N := 3) ?hd (cs := #[.int .i64 a0_0, .int .i64 a0_1, .int .i64 a0_2, .int .i64 a0_3, .int .i64 a0_4, .int .i64 a0_5]) (t := 23) ?hr ?_; (case hd => rfl); (case hg => rfl); (case hr => first | (go_simp; done) | (go_simp; rfl)); intro gb595 hg w5 hbox hb; have n0_ := Aside0.mk (below_step (by repeat (first | (with_reducible first | exact HB.out | apply lA_ | apply lN_ | apply lD_) | exact HB.out)) hb); have n1_ := Aside0.mk (hbox); have n2_ := Aside0.mk ((by rw [hg]; exact (below_size (by repeat (first | (with_reducible first | exact HB.out | apply lA_ | apply lN_ | apply lD_) | exact HB.out))) : w.heap.size ≤ gb595)); have n3_ := Aside0.mk ((by rw [hg]; exact (below_size (by repeat (first | (with_reducible first | exact HB.out | apply lA_ | apply lN_ | apply lD_) | exact HB.out))) : w.heap.size ≤ gb595)); clear HB; have HB := n0_; have BK595 := n1_; have GW595 := n2_; have GE595 := n3_; clear n0_ n1_ n2_ n3_; clear hb hbox hg) | ((with_reducible refine gate_dst (N := 4) rfl ?_); (try (refine gate_grd (by rfl) ?_; dsimp only)); refine box_event ?hg (N := 4) ?hd (cs := #[.int .i64 a1_0, .int .i64 a1_1, .int .i64 a1_2, .int .i64 a1_3]) (t := 44) ?hr ?_; (case hd => rfl); (case hg => rfl); (case hr => first | (go_simp; done) | (go_simp; rfl)); intro gb596 hg w6 hbox hb; have n0_ := Aside0.mk (blk_below (g := gb595) (o := .cells #[.int .i64 a0_0, .int .i64 a0_1, .int .i64 a0_2, .int .i64 a0_3, .int .i64 a0_4, .int .i64 a0_5] 23 (0, 0)) (by (with_reducible repeat (first | refine bN_ ?_ _ | refine bD_ ?_ | refine bA_ ?_ _)); exact BK595.out) hb); have n1_ := Aside0.mk (below_step (by repeat (first | (with_reducible first | exact HB.out | apply lA_ | apply lN_ | apply lD_ | refine lS_ ?_ GE595.out) | exact HB.out)) hb); have n2_ := Aside0.mk (hbox); have n3_ := Aside0.mk ((by rw [hg]; exact (below_size (by repeat (first | (with_reducible first | exact HB.out | apply lA_ | apply lN_ | apply lD_ | refine lS_ ?_ GE595.out) | exact HB.out))) : w.heap.size ≤ gb596)); have n4_ := Aside0.mk ((by rw [hg]; exact (below_size (by repeat (first | (with_reducible first | exact HB.out | apply lA_ | apply lN_ | apply lD_ | refine lS_ ?_ GE595.out) | exact HB.out))) : w.heap.size ≤ gb596)); have n5_ := Aside0.mk ((by rw [hg]; exact Nat.ne_of_lt (blk_lt (g := gb595) (o := .cells #[.int .i64 a0_0, .int .i64 a0_1, .int .i64 a0_2, .int .i64 a0_3, .int .i64 a0_4, .int .i64 a0_5] 23 (0, 0)) (by (with_reducible repeat (first | refine bN_ ?_ _ | refine bD_ ?_ | refine bA_ ?_ _)); exact BK595.out)) : gb595 ≠ gb596)); have n6_ := Aside0.mk ((by rw [hg]; exact Nat.ne_of_gt (blk_lt (g := gb595) (o := .cells #[.int .i64 a0_0, .int .i64 a0_1, .int .i64 a0_2, .int .i64 a0_3, .int .i64 a0_4, .int .i64 a0_5] 23 (0, 0)) (by (with_reducible repeat (first | refine bN_ ?_ _ | refine bD_ ?_ | refine bA_ ?_ _)); exact BK595.out)) : gb596 ≠ gb595)); clear BK595; clear HB; have BK595 := n0_; have HB := n1_; have BK596 := n2_; have GW596 := n3_; have GE596 := n4_; have NB595_596 := n5_; have NB596_595 := n6_; clear n0_ n1_ n2_ n3_ n4_ n5_ n6_; clear hb hbox hg) | ((with_reducible refine gate_dst (N := 5) rfl ?_); (try (refine gate_grd (by rfl) ?_; dsimp only)); refine box_event ?hg (N := 5) ?hd (cs := #[.int .i64 a2_0, .int .i64 a2_1]) (t := 25) ?hr ?_; (case hd => rfl); (case hg => rfl); (case hr => first | (go_simp; done) | (go_simp; rfl)); intro gb597 hg w7 hbox hb; have n0_ := Aside0.mk (blk_below (g := gb595) (o := .cells #[.int .i64 a0_0, .int .i64 a0_1, .int .i64 a0_2, .int .i64 a0_3, .int .i64 a0_4, .int .i64 a0_5] 23 (0, 0)) (by (with_reducible repeat (first | refine bN_ ?_ _ | refine bD_ ?_ | refine bA_ ?_ _)); exact BK595.out) hb); have n1_ := Aside0.mk (blk_below (g := gb596) (o := .cells #[.int .i64 a1_0, .int .i64 a1_1, .int .i64 a1_2, .int .i64 a1_3] 44 (0, 0)) (by (with_reducible repeat (first | refine bN_ ?_ _ | refine bD_ ?_ | refine bA_ ?_ _)); exact BK596.out) hb); have n2_ := Aside0.mk (below_step (by repeat (first | (with_reducible first | exact HB.out | apply lA_ | apply lN_ | apply lD_ | refine lS_ ?_ GE595.out | refine lS_ ?_ GE596.out) | exact HB.out)) hb); have n3_ := Aside0.mk (hbox); have n4_ := Aside0.mk ((by rw [hg]; exact (below_size (by repeat (first | (with_reducible first | exact HB.out | apply lA_ | apply lN_ | apply lD_ | refine lS_ ?_ GE595.out | refine lS_ ?_ GE596.out) | exact HB.out))) : w.heap.size ≤ gb597)); have n5_ := Aside0.mk ((by rw [hg]; exact (below_size (by repeat (first | (with_reducible first | exact HB.out | apply lA_ | apply lN_ | apply lD_ | refine lS_ ?_ GE595.out | refine lS_ ?_ GE596.out) | exact HB.out))) : w.heap.size ≤ gb597)); have n6_ := Aside0.mk ((by rw [hg]; exact Nat.ne_of_lt (blk_lt (g := gb595) (o := .cells #[.int .i64 a0_0, .int .i64 a0_1, .int .i64 a0_2, .int .i64 a0_3, .int .i64 a0_4, .int .i64 a0_5] 23 (0, 0)) (by (with_reducible repeat (first | refine bN_ ?_ _ | refine bD_ ?_ | refine bA_ ?_ _)); exact BK595.out)) : gb595 ≠ gb597)); have n7_ := Aside0.mk ((by rw [hg]; exact Nat.ne_of_gt (blk_lt (g := gb595) (o := .cells #[.int .i64 a0_0, .int .i64 a0_1, .int .i64 a0_2, .int .i64 a0_3, .int .i64 a0_4, .int .i64 a0_5] 23 (0, 0)) (by (with_reducible repeat (first | refine bN_ ?_ _ | refine bD_ ?_ | refine bA_ ?_ _)); exact BK595.out)) : gb597 ≠ gb595)); have n8_ := Aside0.mk ((by rw [hg]; exact Nat.ne_of_lt (blk_lt (g := gb596) (o := .cells #[.int .i64 a1_0, .int .i64 a1_1, .int .i64 a1_2, .int .i64 a1_3] 44 (0, 0)) (by (with_reducible repeat (first | refine bN_ ?_ _ | refine bD_ ?_ | refine bA_ ?_ _)); exact BK596.out)) : gb596 ≠ gb597)); have n9_ := Aside0.mk ((by rw [hg]; exact Nat.ne_of_gt (blk_lt (g := gb596) (o := .cells #[.int .i64 a1_0, .int .i64 a1_1, .int .i64 a1_2, .int .i64 a1_3] 44 (0, 0)) (by (with_reducible repeat (first | refine bN_ ?_ _ | refine bD_ ?_ | refine bA_ ?_ _)); exact BK596.out)) : gb597 ≠ gb596)); clear BK595; clear BK596; clear HB; have BK595 := n0_; have BK596 := n1_; have HB := n2_; have BK597 := n3_; have GW597 := n4_; have GE597 := n5_; have NB595_597 := n6_; have NB597_595 := n7_; have NB596_597 := n8_; have NB597_596 := n9_; clear n0_ n1_ n2_ n3_ n4_ n5_ n6_ n7_ n8_ n9_; clear hb hbox hg))
  (try simp only [Act.put, tS_, tZ_, tC_])
  go_cut [79] (fun v79 wc => ∃ (kq : Nat) (x79_3 : Bool), v79 = .bool x79_3 ∧ Aside0 (imageeditorlaw12_AffineContains.j0 kq x79_3 a0_0 a0_1 a0_2 a0_3 a0_4 a0_5 a1_0 a1_1 a1_2 a1_3 a2_0 a2_1 = some r) ∧ Aside0 (kq ≤ k) ∧ Aside0 (wc.heap[gb595]? = some (.cells #[.int .i64 a0_0, .int .i64 a0_1, .int .i64 a0_2, .int .i64 a0_3, .int .i64 a0_4, .int .i64 a0_5] 23 (0, 0))) ∧ Aside0 (wc.heap[gb596]? = some (.cells #[.int .i64 a1_0, .int .i64 a1_1, .int .i64 a1_2, .int .i64 a1_3] 44 (0, 0))) ∧ Aside0 (wc.heap[gb597]? = some (.cells #[.int .i64 a2_0, .int .i64 a2_1] 25 (0, 0))) ∧ Aside0 (Below w.heap.size w wc))
  case first =>
    have H := HC4.out
    clear HC4
    replace H := Option.bind_eq_some_iff.mp H
    obtain ⟨t598, A80, H⟩ := H
    replace H : (if t598 = true then ((imageeditorlaw12_within.f k 256 (([a1_0, a1_1] : List Int))).bind fun t602 => (if t602 = true then (if a1_2 < 1 then (imageeditorlaw12_AffineContains.j0 k true a0_0 a0_1 a0_2 a0_3 a0_4 a0_5 a1_0 a1_1 a1_2 a1_3 a2_0 a2_1) else (if a1_2 > 256 then (imageeditorlaw12_AffineContains.j0 k true a0_0 a0_1 a0_2 a0_3 a0_4 a0_5 a1_0 a1_1 a1_2 a1_3 a2_0 a2_1) else (if a1_3 < 1 then (imageeditorlaw12_AffineContains.j0 k true a0_0 a0_1 a0_2 a0_3 a0_4 a0_5 a1_0 a1_1 a1_2 a1_3 a2_0 a2_1) else (if a1_3 > 256 then (imageeditorlaw12_AffineContains.j0 k true a0_0 a0_1 a0_2 a0_3 a0_4 a0_5 a1_0 a1_1 a1_2 a1_3 a2_0 a2_1) else (if a2_0 < (wrap64 (a1_0 * 65536)) then (imageeditorlaw12_AffineContains.j0 k true a0_0 a0_1 a0_2 a0_3 a0_4 a0_5 a1_0 a1_1 a1_2 a1_3 a2_0 a2_1) else (if a2_1 < (wrap64 (a1_1 * 65536)) then (imageeditorlaw12_AffineContains.j0 k true a0_0 a0_1 a0_2 a0_3 a0_4 a0_5 a1_0 a1_1 a1_2 a1_3 a2_0 a2_1) else (if a2_0 > (wrap64 ((wrap64 (a1_0 + a1_2)) * 65536)) then (imageeditorlaw12_AffineContains.j0 k true a0_0 a0_1 a0_2 a0_3 a0_4 a0_5 a1_0 a1_1 a1_2 a1_3 a2_0 a2_1) else (imageeditorlaw12_AffineContains.j0 k (decide (a2_1 > (wrap64 ((wrap64 (a1_1 + a1_3)) * 65536)))) a0_0 a0_1 a0_2 a0_3 a0_4 a0_5 a1_0 a1_1 a1_2 a1_3 a2_0 a2_1)))))))) else (imageeditorlaw12_AffineContains.j0 k true a0_0 a0_1 a0_2 a0_3 a0_4 a0_5 a1_0 a1_1 a1_2 a1_3 a2_0 a2_1))) else (imageeditorlaw12_AffineContains.j0 k true a0_0 a0_1 a0_2 a0_3 a0_4 a0_5 a1_0 a1_1 a1_2 a1_3 a2_0 a2_1)) = some r := H
    have A8 := Aside0.mk A80
    clear A80
    by_cases c9 : t598 = true
    · subst c9
      have H1 : ((imageeditorlaw12_within.f k 256 (([a1_0, a1_1] : List Int))).bind fun t602 => (if t602 = true then (if a1_2 < 1 then (imageeditorlaw12_AffineContains.j0 k true a0_0 a0_1 a0_2 a0_3 a0_4 a0_5 a1_0 a1_1 a1_2 a1_3 a2_0 a2_1) else (if a1_2 > 256 then (imageeditorlaw12_AffineContains.j0 k true a0_0 a0_1 a0_2 a0_3 a0_4 a0_5 a1_0 a1_1 a1_2 a1_3 a2_0 a2_1) else (if a1_3 < 1 then (imageeditorlaw12_AffineContains.j0 k true a0_0 a0_1 a0_2 a0_3 a0_4 a0_5 a1_0 a1_1 a1_2 a1_3 a2_0 a2_1) else (if a1_3 > 256 then (imageeditorlaw12_AffineContains.j0 k true a0_0 a0_1 a0_2 a0_3 a0_4 a0_5 a1_0 a1_1 a1_2 a1_3 a2_0 a2_1) else (if a2_0 < (wrap64 (a1_0 * 65536)) then (imageeditorlaw12_AffineContains.j0 k true a0_0 a0_1 a0_2 a0_3 a0_4 a0_5 a1_0 a1_1 a1_2 a1_3 a2_0 a2_1) else (if a2_1 < (wrap64 (a1_1 * 65536)) then (imageeditorlaw12_AffineContains.j0 k true a0_0 a0_1 a0_2 a0_3 a0_4 a0_5 a1_0 a1_1 a1_2 a1_3 a2_0 a2_1) else (if a2_0 > (wrap64 ((wrap64 (a1_0 + a1_2)) * 65536)) then (imageeditorlaw12_AffineContains.j0 k true a0_0 a0_1 a0_2 a0_3 a0_4 a0_5 a1_0 a1_1 a1_2 a1_3 a2_0 a2_1) else (imageeditorlaw12_AffineContains.j0 k (decide (a2_1 > (wrap64 ((wrap64 (a1_1 + a1_3)) * 65536)))) a0_0 a0_1 a0_2 a0_3 a0_4 a0_5 a1_0 a1_1 a1_2 a1_3 a2_0 a2_1)))))))) else (imageeditorlaw12_AffineContains.j0 k true a0_0 a0_1 a0_2 a0_3 a0_4 a0_5 a1_0 a1_1 a1_2 a1_3 a2_0 a2_1))) = some r := by rw [if_pos rfl] at H; exact H
      clear H
      have H := H1
      clear H1
      obtain ⟨y599, hy599⟩ : ∃ y_ : List Int, y_ = (([a1_0, a1_1] : List Int)) := ⟨_, rfl⟩
      replace H : ((imageeditorlaw12_within.f k 256 y599).bind fun t602 => (if t602 = true then (if a1_2 < 1 then (imageeditorlaw12_AffineContains.j0 k true a0_0 a0_1 a0_2 a0_3 a0_4 a0_5 a1_0 a1_1 a1_2 a1_3 a2_0 a2_1) else (if a1_2 > 256 then (imageeditorlaw12_AffineContains.j0 k true a0_0 a0_1 a0_2 a0_3 a0_4 a0_5 a1_0 a1_1 a1_2 a1_3 a2_0 a2_1) else (if a1_3 < 1 then (imageeditorlaw12_AffineContains.j0 k true a0_0 a0_1 a0_2 a0_3 a0_4 a0_5 a1_0 a1_1 a1_2 a1_3 a2_0 a2_1) else (if a1_3 > 256 then (imageeditorlaw12_AffineContains.j0 k true a0_0 a0_1 a0_2 a0_3 a0_4 a0_5 a1_0 a1_1 a1_2 a1_3 a2_0 a2_1) else (if a2_0 < (wrap64 (a1_0 * 65536)) then (imageeditorlaw12_AffineContains.j0 k true a0_0 a0_1 a0_2 a0_3 a0_4 a0_5 a1_0 a1_1 a1_2 a1_3 a2_0 a2_1) else (if a2_1 < (wrap64 (a1_1 * 65536)) then (imageeditorlaw12_AffineContains.j0 k true a0_0 a0_1 a0_2 a0_3 a0_4 a0_5 a1_0 a1_1 a1_2 a1_3 a2_0 a2_1) else (if a2_0 > (wrap64 ((wrap64 (a1_0 + a1_2)) * 65536)) then (imageeditorlaw12_AffineContains.j0 k true a0_0 a0_1 a0_2 a0_3 a0_4 a0_5 a1_0 a1_1 a1_2 a1_3 a2_0 a2_1) else (imageeditorlaw12_AffineContains.j0 k (decide (a2_1 > (wrap64 ((wrap64 (a1_1 + a1_3)) * 65536)))) a0_0 a0_1 a0_2 a0_3 a0_4 a0_5 a1_0 a1_1 a1_2 a1_3 a2_0 a2_1)))))))) else (imageeditorlaw12_AffineContains.j0 k true a0_0 a0_1 a0_2 a0_3 a0_4 a0_5 a1_0 a1_1 a1_2 a1_3 a2_0 a2_1))) = some r := by first | (rw [hy599]; with_reducible exact H) | (have H2_ := (Option.bind_some _ _).symm.trans H; rw [hy599]; with_reducible exact H2_) | (have H2_ := (Option.bind_some _ _).symm.trans H; with_reducible exact H2_) | with_reducible exact H | (rw [hy599]; exact H) | exact H
      have Ny599 := Aside0.mk hy599
      clear hy599
      replace H := Option.bind_eq_some_iff.mp H
      obtain ⟨t602, A100, H⟩ := H
      replace H : (if t602 = true then (if a1_2 < 1 then (imageeditorlaw12_AffineContains.j0 k true a0_0 a0_1 a0_2 a0_3 a0_4 a0_5 a1_0 a1_1 a1_2 a1_3 a2_0 a2_1) else (if a1_2 > 256 then (imageeditorlaw12_AffineContains.j0 k true a0_0 a0_1 a0_2 a0_3 a0_4 a0_5 a1_0 a1_1 a1_2 a1_3 a2_0 a2_1) else (if a1_3 < 1 then (imageeditorlaw12_AffineContains.j0 k true a0_0 a0_1 a0_2 a0_3 a0_4 a0_5 a1_0 a1_1 a1_2 a1_3 a2_0 a2_1) else (if a1_3 > 256 then (imageeditorlaw12_AffineContains.j0 k true a0_0 a0_1 a0_2 a0_3 a0_4 a0_5 a1_0 a1_1 a1_2 a1_3 a2_0 a2_1) else (if a2_0 < (wrap64 (a1_0 * 65536)) then (imageeditorlaw12_AffineContains.j0 k true a0_0 a0_1 a0_2 a0_3 a0_4 a0_5 a1_0 a1_1 a1_2 a1_3 a2_0 a2_1) else (if a2_1 < (wrap64 (a1_1 * 65536)) then (imageeditorlaw12_AffineContains.j0 k true a0_0 a0_1 a0_2 a0_3 a0_4 a0_5 a1_0 a1_1 a1_2 a1_3 a2_0 a2_1) else (if a2_0 > (wrap64 ((wrap64 (a1_0 + a1_2)) * 65536)) then (imageeditorlaw12_AffineContains.j0 k true a0_0 a0_1 a0_2 a0_3 a0_4 a0_5 a1_0 a1_1 a1_2 a1_3 a2_0 a2_1) else (imageeditorlaw12_AffineContains.j0 k (decide (a2_1 > (wrap64 ((wrap64 (a1_1 + a1_3)) * 65536)))) a0_0 a0_1 a0_2 a0_3 a0_4 a0_5 a1_0 a1_1 a1_2 a1_3 a2_0 a2_1)))))))) else (imageeditorlaw12_AffineContains.j0 k true a0_0 a0_1 a0_2 a0_3 a0_4 a0_5 a1_0 a1_1 a1_2 a1_3 a2_0 a2_1)) = some r := H
      have A10 := Aside0.mk A100
      clear A100
      by_cases c11 : t602 = true
      · subst c11
        have H1 : (if a1_2 < 1 then (imageeditorlaw12_AffineContains.j0 k true a0_0 a0_1 a0_2 a0_3 a0_4 a0_5 a1_0 a1_1 a1_2 a1_3 a2_0 a2_1) else (if a1_2 > 256 then (imageeditorlaw12_AffineContains.j0 k true a0_0 a0_1 a0_2 a0_3 a0_4 a0_5 a1_0 a1_1 a1_2 a1_3 a2_0 a2_1) else (if a1_3 < 1 then (imageeditorlaw12_AffineContains.j0 k true a0_0 a0_1 a0_2 a0_3 a0_4 a0_5 a1_0 a1_1 a1_2 a1_3 a2_0 a2_1) else (if a1_3 > 256 then (imageeditorlaw12_AffineContains.j0 k true a0_0 a0_1 a0_2 a0_3 a0_4 a0_5 a1_0 a1_1 a1_2 a1_3 a2_0 a2_1) else (if a2_0 < (wrap64 (a1_0 * 65536)) then (imageeditorlaw12_AffineContains.j0 k true a0_0 a0_1 a0_2 a0_3 a0_4 a0_5 a1_0 a1_1 a1_2 a1_3 a2_0 a2_1) else (if a2_1 < (wrap64 (a1_1 * 65536)) then (imageeditorlaw12_AffineContains.j0 k true a0_0 a0_1 a0_2 a0_3 a0_4 a0_5 a1_0 a1_1 a1_2 a1_3 a2_0 a2_1) else (if a2_0 > (wrap64 ((wrap64 (a1_0 + a1_2)) * 65536)) then (imageeditorlaw12_AffineContains.j0 k true a0_0 a0_1 a0_2 a0_3 a0_4 a0_5 a1_0 a1_1 a1_2 a1_3 a2_0 a2_1) else (imageeditorlaw12_AffineContains.j0 k (decide (a2_1 > (wrap64 ((wrap64 (a1_1 + a1_3)) * 65536)))) a0_0 a0_1 a0_2 a0_3 a0_4 a0_5 a1_0 a1_1 a1_2 a1_3 a2_0 a2_1)))))))) = some r := by rw [if_pos rfl] at H; exact H
        clear H
        have H := H1
        clear H1
        by_cases c12 : a1_2 < 1
        · rw [if_pos c12] at H
          have c12b0 : decide (a1_2 < 1) = true := decide_eq_true c12
          clear c12
          (first | rw [c12b0] | (simp only [i64_w, i32_w]; rw [c12b0]) | skip)
          have H' := Aside0.mk H
          clear H
          have hnb13 := NB595_596.out
          have hnc13 := NB596_595.out
          have hnb14 := NB595_597.out
          have hnc14 := NB597_595.out
          have hcz15_0 : w7.cell? ⟨gb595, 0, none⟩ = some (.int .i64 a0_0) := (blk_cell BK595.out 0).trans rfl
          have hcz15_1 : w7.cell? ⟨gb595, 1, none⟩ = some (.int .i64 a0_1) := (blk_cell BK595.out 1).trans rfl
          have hcz15_2 : w7.cell? ⟨gb595, 2, none⟩ = some (.int .i64 a0_2) := (blk_cell BK595.out 2).trans rfl
          have hcz15_3 : w7.cell? ⟨gb595, 3, none⟩ = some (.int .i64 a0_3) := (blk_cell BK595.out 3).trans rfl
          have hcz15_4 : w7.cell? ⟨gb595, 4, none⟩ = some (.int .i64 a0_4) := (blk_cell BK595.out 4).trans rfl
          have hcz15_5 : w7.cell? ⟨gb595, 5, none⟩ = some (.int .i64 a0_5) := (blk_cell BK595.out 5).trans rfl
          have hfz15_0 := blk_frozen BK595.out 0
          have hfz15_1 := blk_frozen BK595.out 1
          have hfz15_2 := blk_frozen BK595.out 2
          have hfz15_3 := blk_frozen BK595.out 3
          have hfz15_4 := blk_frozen BK595.out 4
          have hfz15_5 := blk_frozen BK595.out 5
          go_wp2_with (first | ((with_reducible refine gate_callee (f := 27) rfl ?_); refine goesL_ (some 11) rfl rfl Try.func27 (by kernel_rfl) rfl #[.agg #[.int .i64 a0_0, .int .i64 a0_1, .int .i64 a0_2, .int .i64 a0_3, .int .i64 a0_4, .int .i64 a0_5], .int .i64 16777216] rfl (by (try simp only [List.map_toArray, List.map_cons, List.map_nil]); first | done | rfl | (simp only [List.length_drop, List.length_take]; rfl)) ?_; (with_reducible refine (imageeditorlaw12_small.calls k a0_0 a0_1 a0_2 a0_3 a0_4 a0_5 16777216 true _ A8.out).mono ?_); rintro e w16 ⟨rfl, hb⟩; refine ⟨_, rfl, ?_⟩; have n0_ := Aside0.mk (blk_below (g := gb595) (o := .cells #[.int .i64 a0_0, .int .i64 a0_1, .int .i64 a0_2, .int .i64 a0_3, .int .i64 a0_4, .int .i64 a0_5] 23 (0, 0)) (by (with_reducible repeat (first | refine bN_ ?_ _ | refine bD_ ?_ | refine bA_ ?_ _)); exact BK595.out) hb); have n1_ := Aside0.mk (blk_below (g := gb596) (o := .cells #[.int .i64 a1_0, .int .i64 a1_1, .int .i64 a1_2, .int .i64 a1_3] 44 (0, 0)) (by (with_reducible repeat (first | refine bN_ ?_ _ | refine bD_ ?_ | refine bA_ ?_ _)); exact BK596.out) hb); have n2_ := Aside0.mk (blk_below (g := gb597) (o := .cells #[.int .i64 a2_0, .int .i64 a2_1] 25 (0, 0)) (by (with_reducible repeat (first | refine bN_ ?_ _ | refine bD_ ?_ | refine bA_ ?_ _)); exact BK597.out) hb); have n3_ := Aside0.mk (below_step (by repeat (first | (with_reducible first | exact HB.out | apply lA_ | apply lN_ | apply lD_ | refine lS_ ?_ GE595.out | refine lS_ ?_ GE596.out | refine lS_ ?_ GE597.out) | exact HB.out)) hb); clear BK595; clear BK596; clear BK597; clear HB; have BK595 := n0_; have BK596 := n1_; have BK597 := n2_; have HB := n3_; clear n0_ n1_ n2_ n3_; (try clear hb); (try clear hb2); (try clear hk); (try clear hi); have hnb17 := NB596_597.out; have hnc17 := NB597_596.out; have hcz18_0 : w16.cell? ⟨gb596, 0, none⟩ = some (.int .i64 a1_0) := (blk_cell BK596.out 0).trans rfl; have hcz18_1 : w16.cell? ⟨gb596, 1, none⟩ = some (.int .i64 a1_1) := (blk_cell BK596.out 1).trans rfl; have hcz18_2 : w16.cell? ⟨gb596, 2, none⟩ = some (.int .i64 a1_2) := (blk_cell BK596.out 2).trans rfl; have hcz18_3 : w16.cell? ⟨gb596, 3, none⟩ = some (.int .i64 a1_3) := (blk_cell BK596.out 3).trans rfl; have hfz18_0 := blk_frozen BK596.out 0; have hfz18_1 := blk_frozen BK596.out 1; have hfz18_2 := blk_frozen BK596.out 2; have hfz18_3 := blk_frozen BK596.out 3) | ((with_reducible refine gate_dst (N := 18) rfl ?_); (try (refine gate_grd (by rfl) ?_; dsimp only)); refine Kd.R_lit (Kd.int .i64) _ 3 ?hg (N := 18) ?hd (xs := ([a1_0, a1_1] : List Int)) (inner := [.int .i64 a1_0, .int .i64 a1_1]) (ok := fun _ => True) (okp := fun _ => True) ?hr ?hp (fun _ hk => hk) trivial (Below.refl _ _) (Nat.le_refl _) (by simp) ?_; (case hd => rfl); (case hg => rfl); (case hr => first | (go_simp; done) | (go_simp; rfl)); (case hp => exact (Reps.one (show Kd.M (Kd.int .i64) _ _ _ a1_0 [.int .i64 a1_0] from rfl) (Reps.one (show Kd.M (Kd.int .i64) _ _ _ a1_1 [.int .i64 a1_1] from rfl) (Reps.none _ _)))); intro v600 w19 ho20 hb hg_ hnew_; clear hg_ hnew_; (first | rw [← Ny599.out] at ho20 | (simp only [Int.reduceToNat] at ho20; rw [← Ny599.out] at ho20)); have n0_ := Aside0.mk (Kd.R_lower ho20 (below_size (by repeat (first | (with_reducible first | exact HB.out | apply lA_ | apply lN_ | apply lD_ | refine lS_ ?_ GE595.out | refine lS_ ?_ GE596.out | refine lS_ ?_ GE597.out) | exact HB.out)))); have n1_ := Aside0.mk (blk_below (g := gb595) (o := .cells #[.int .i64 a0_0, .int .i64 a0_1, .int .i64 a0_2, .int .i64 a0_3, .int .i64 a0_4, .int .i64 a0_5] 23 (0, 0)) (by (with_reducible repeat (first | refine bN_ ?_ _ | refine bD_ ?_ | refine bA_ ?_ _)); exact BK595.out) hb); have n2_ := Aside0.mk (blk_below (g := gb596) (o := .cells #[.int .i64 a1_0, .int .i64 a1_1, .int .i64 a1_2, .int .i64 a1_3] 44 (0, 0)) (by (with_reducible repeat (first | refine bN_ ?_ _ | refine bD_ ?_ | refine bA_ ?_ _)); exact BK596.out) hb); have n3_ := Aside0.mk (blk_below (g := gb597) (o := .cells #[.int .i64 a2_0, .int .i64 a2_1] 25 (0, 0)) (by (with_reducible repeat (first | refine bN_ ?_ _ | refine bD_ ?_ | refine bA_ ?_ _)); exact BK597.out) hb); have n4_ := Aside0.mk (below_step (by repeat (first | (with_reducible first | exact HB.out | apply lA_ | apply lN_ | apply lD_ | refine lS_ ?_ GE595.out | refine lS_ ?_ GE596.out | refine lS_ ?_ GE597.out) | exact HB.out)) hb); clear BK595; clear BK596; clear BK597; clear HB; have HO601 := n0_; have BK595 := n1_; have BK596 := n2_; have BK597 := n3_; have HB := n4_; clear n0_ n1_ n2_ n3_ n4_; clear hb ho20; obtain ⟨Ao21, co21, eo21⟩ := Kd.R_slice HO601.out; subst eo21) | (go_at_call 25; (with_reducible refine (imageeditorlaw12_within.calls k 256 _ _ y599 true _ ?side1 ?side2 A10.out).mono ?_); (case side1 => repeat (first | exact (Kd.R_reads' HO601.out).2.2 | (with_reducible refine Kd.C_alloc ?_ _) | (with_reducible refine Kd.C_drewN ?_ _) | (with_reducible refine Kd.C_drew ?_))); (case side2 => exact (Kd.R_reads' HO601.out).2.1); rintro e w' ⟨rfl, ⟨nd, rfl⟩⟩; have hcz22_0 : w19.cell? ⟨gb596, 0, none⟩ = some (.int .i64 a1_0) := (blk_cell BK596.out 0).trans rfl; have hcz22_1 : w19.cell? ⟨gb596, 1, none⟩ = some (.int .i64 a1_1) := (blk_cell BK596.out 1).trans rfl; have hcz22_2 : w19.cell? ⟨gb596, 2, none⟩ = some (.int .i64 a1_2) := (blk_cell BK596.out 2).trans rfl; have hcz22_3 : w19.cell? ⟨gb596, 3, none⟩ = some (.int .i64 a1_3) := (blk_cell BK596.out 3).trans rfl; have hfz22_0 := blk_frozen BK596.out 0; have hfz22_1 := blk_frozen BK596.out 1; have hfz22_2 := blk_frozen BK596.out 2; have hfz22_3 := blk_frozen BK596.out 3))
          go_meet
          case rel => exact ⟨_, (true), (by first | rfl | (simp; done) | (simp [*]; done)), H', ⟨by first | omega | exact Nat.le_refl _⟩, ⟨by (with_reducible repeat (first | refine bN_ ?_ _ | refine bD_ ?_ | refine bA_ ?_ _)); exact BK595.out⟩, ⟨by (with_reducible repeat (first | refine bN_ ?_ _ | refine bD_ ?_ | refine bA_ ?_ _)); exact BK596.out⟩, ⟨by (with_reducible repeat (first | refine bN_ ?_ _ | refine bD_ ?_ | refine bA_ ?_ _)); exact BK597.out⟩, ⟨by repeat (first | (with_reducible first | exact HB.out | apply lA_ | apply lN_ | apply lD_ | refine lS_ ?_ GE595.out | refine lS_ ?_ GE596.out | refine lS_ ?_ GE597.out) | exact HB.out)⟩⟩
        · rw [if_neg c12] at H
          have c12b0 : decide (a1_2 < 1) = false := decide_eq_false c12
          clear c12
          (first | rw [c12b0] | (simp only [i64_w, i32_w]; rw [c12b0]) | skip)
          by_cases c23 : a1_2 > 256
          · rw [if_pos c23] at H
            have c23b0 : decide (256 < a1_2) = true := decide_eq_true c23
            clear c23
            have H' := Aside0.mk H
            clear H
            have hnb24 := NB595_596.out
            have hnc24 := NB596_595.out
            have hnb25 := NB595_597.out
            have hnc25 := NB597_595.out
            have hcz26_0 : w7.cell? ⟨gb595, 0, none⟩ = some (.int .i64 a0_0) := (blk_cell BK595.out 0).trans rfl
            have hcz26_1 : w7.cell? ⟨gb595, 1, none⟩ = some (.int .i64 a0_1) := (blk_cell BK595.out 1).trans rfl
            have hcz26_2 : w7.cell? ⟨gb595, 2, none⟩ = some (.int .i64 a0_2) := (blk_cell BK595.out 2).trans rfl
            have hcz26_3 : w7.cell? ⟨gb595, 3, none⟩ = some (.int .i64 a0_3) := (blk_cell BK595.out 3).trans rfl
            have hcz26_4 : w7.cell? ⟨gb595, 4, none⟩ = some (.int .i64 a0_4) := (blk_cell BK595.out 4).trans rfl
            have hcz26_5 : w7.cell? ⟨gb595, 5, none⟩ = some (.int .i64 a0_5) := (blk_cell BK595.out 5).trans rfl
            have hfz26_0 := blk_frozen BK595.out 0
            have hfz26_1 := blk_frozen BK595.out 1
            have hfz26_2 := blk_frozen BK595.out 2
            have hfz26_3 := blk_frozen BK595.out 3
            have hfz26_4 := blk_frozen BK595.out 4
            have hfz26_5 := blk_frozen BK595.out 5
            go_wp2_with (first | ((with_reducible refine gate_callee (f := 27) rfl ?_); refine goesL_ (some 11) rfl rfl Try.func27 (by kernel_rfl) rfl #[.agg #[.int .i64 a0_0, .int .i64 a0_1, .int .i64 a0_2, .int .i64 a0_3, .int .i64 a0_4, .int .i64 a0_5], .int .i64 16777216] rfl (by (try simp only [List.map_toArray, List.map_cons, List.map_nil]); first | done | rfl | (simp only [List.length_drop, List.length_take]; rfl)) ?_; (with_reducible refine (imageeditorlaw12_small.calls k a0_0 a0_1 a0_2 a0_3 a0_4 a0_5 16777216 true _ A8.out).mono ?_); rintro e w27 ⟨rfl, hb⟩; refine ⟨_, rfl, ?_⟩; have n0_ := Aside0.mk (blk_below (g := gb595) (o := .cells #[.int .i64 a0_0, .int .i64 a0_1, .int .i64 a0_2, .int .i64 a0_3, .int .i64 a0_4, .int .i64 a0_5] 23 (0, 0)) (by (with_reducible repeat (first | refine bN_ ?_ _ | refine bD_ ?_ | refine bA_ ?_ _)); exact BK595.out) hb); have n1_ := Aside0.mk (blk_below (g := gb596) (o := .cells #[.int .i64 a1_0, .int .i64 a1_1, .int .i64 a1_2, .int .i64 a1_3] 44 (0, 0)) (by (with_reducible repeat (first | refine bN_ ?_ _ | refine bD_ ?_ | refine bA_ ?_ _)); exact BK596.out) hb); have n2_ := Aside0.mk (blk_below (g := gb597) (o := .cells #[.int .i64 a2_0, .int .i64 a2_1] 25 (0, 0)) (by (with_reducible repeat (first | refine bN_ ?_ _ | refine bD_ ?_ | refine bA_ ?_ _)); exact BK597.out) hb); have n3_ := Aside0.mk (below_step (by repeat (first | (with_reducible first | exact HB.out | apply lA_ | apply lN_ | apply lD_ | refine lS_ ?_ GE595.out | refine lS_ ?_ GE596.out | refine lS_ ?_ GE597.out) | exact HB.out)) hb); clear BK595; clear BK596; clear BK597; clear HB; have BK595 := n0_; have BK596 := n1_; have BK597 := n2_; have HB := n3_; clear n0_ n1_ n2_ n3_; (try clear hb); (try clear hb2); (try clear hk); (try clear hi); have hnb28 := NB596_597.out; have hnc28 := NB597_596.out; have hcz29_0 : w27.cell? ⟨gb596, 0, none⟩ = some (.int .i64 a1_0) := (blk_cell BK596.out 0).trans rfl; have hcz29_1 : w27.cell? ⟨gb596, 1, none⟩ = some (.int .i64 a1_1) := (blk_cell BK596.out 1).trans rfl; have hcz29_2 : w27.cell? ⟨gb596, 2, none⟩ = some (.int .i64 a1_2) := (blk_cell BK596.out 2).trans rfl; have hcz29_3 : w27.cell? ⟨gb596, 3, none⟩ = some (.int .i64 a1_3) := (blk_cell BK596.out 3).trans rfl; have hfz29_0 := blk_frozen BK596.out 0; have hfz29_1 := blk_frozen BK596.out 1; have hfz29_2 := blk_frozen BK596.out 2; have hfz29_3 := blk_frozen BK596.out 3) | ((with_reducible refine gate_dst (N := 18) rfl ?_); (try (refine gate_grd (by rfl) ?_; dsimp only)); refine Kd.R_lit (Kd.int .i64) _ 3 ?hg (N := 18) ?hd (xs := ([a1_0, a1_1] : List Int)) (inner := [.int .i64 a1_0, .int .i64 a1_1]) (ok := fun _ => True) (okp := fun _ => True) ?hr ?hp (fun _ hk => hk) trivial (Below.refl _ _) (Nat.le_refl _) (by simp) ?_; (case hd => rfl); (case hg => rfl); (case hr => first | (go_simp; done) | (go_simp; rfl)); (case hp => exact (Reps.one (show Kd.M (Kd.int .i64) _ _ _ a1_0 [.int .i64 a1_0] from rfl) (Reps.one (show Kd.M (Kd.int .i64) _ _ _ a1_1 [.int .i64 a1_1] from rfl) (Reps.none _ _)))); intro v600 w30 ho31 hb hg_ hnew_; clear hg_ hnew_; (first | rw [← Ny599.out] at ho31 | (simp only [Int.reduceToNat] at ho31; rw [← Ny599.out] at ho31)); have n0_ := Aside0.mk (Kd.R_lower ho31 (below_size (by repeat (first | (with_reducible first | exact HB.out | apply lA_ | apply lN_ | apply lD_ | refine lS_ ?_ GE595.out | refine lS_ ?_ GE596.out | refine lS_ ?_ GE597.out) | exact HB.out)))); have n1_ := Aside0.mk (blk_below (g := gb595) (o := .cells #[.int .i64 a0_0, .int .i64 a0_1, .int .i64 a0_2, .int .i64 a0_3, .int .i64 a0_4, .int .i64 a0_5] 23 (0, 0)) (by (with_reducible repeat (first | refine bN_ ?_ _ | refine bD_ ?_ | refine bA_ ?_ _)); exact BK595.out) hb); have n2_ := Aside0.mk (blk_below (g := gb596) (o := .cells #[.int .i64 a1_0, .int .i64 a1_1, .int .i64 a1_2, .int .i64 a1_3] 44 (0, 0)) (by (with_reducible repeat (first | refine bN_ ?_ _ | refine bD_ ?_ | refine bA_ ?_ _)); exact BK596.out) hb); have n3_ := Aside0.mk (blk_below (g := gb597) (o := .cells #[.int .i64 a2_0, .int .i64 a2_1] 25 (0, 0)) (by (with_reducible repeat (first | refine bN_ ?_ _ | refine bD_ ?_ | refine bA_ ?_ _)); exact BK597.out) hb); have n4_ := Aside0.mk (below_step (by repeat (first | (with_reducible first | exact HB.out | apply lA_ | apply lN_ | apply lD_ | refine lS_ ?_ GE595.out | refine lS_ ?_ GE596.out | refine lS_ ?_ GE597.out) | exact HB.out)) hb); clear BK595; clear BK596; clear BK597; clear HB; have HO601 := n0_; have BK595 := n1_; have BK596 := n2_; have BK597 := n3_; have HB := n4_; clear n0_ n1_ n2_ n3_ n4_; clear hb ho31; obtain ⟨Ao32, co32, eo32⟩ := Kd.R_slice HO601.out; subst eo32) | (go_at_call 25; (with_reducible refine (imageeditorlaw12_within.calls k 256 _ _ y599 true _ ?side1 ?side2 A10.out).mono ?_); (case side1 => repeat (first | exact (Kd.R_reads' HO601.out).2.2 | (with_reducible refine Kd.C_alloc ?_ _) | (with_reducible refine Kd.C_drewN ?_ _) | (with_reducible refine Kd.C_drew ?_))); (case side2 => exact (Kd.R_reads' HO601.out).2.1); rintro e w' ⟨rfl, ⟨nd, rfl⟩⟩; have hcz33_0 : w30.cell? ⟨gb596, 0, none⟩ = some (.int .i64 a1_0) := (blk_cell BK596.out 0).trans rfl; have hcz33_1 : w30.cell? ⟨gb596, 1, none⟩ = some (.int .i64 a1_1) := (blk_cell BK596.out 1).trans rfl; have hcz33_2 : w30.cell? ⟨gb596, 2, none⟩ = some (.int .i64 a1_2) := (blk_cell BK596.out 2).trans rfl; have hcz33_3 : w30.cell? ⟨gb596, 3, none⟩ = some (.int .i64 a1_3) := (blk_cell BK596.out 3).trans rfl; have hfz33_0 := blk_frozen BK596.out 0; have hfz33_1 := blk_frozen BK596.out 1; have hfz33_2 := blk_frozen BK596.out 2; have hfz33_3 := blk_frozen BK596.out 3))
            go_meet
            case rel => exact ⟨_, (true), (by first | rfl | (simp; done) | (simp [*]; done)), H', ⟨by first | omega | exact Nat.le_refl _⟩, ⟨by (with_reducible repeat (first | refine bN_ ?_ _ | refine bD_ ?_ | refine bA_ ?_ _)); exact BK595.out⟩, ⟨by (with_reducible repeat (first | refine bN_ ?_ _ | refine bD_ ?_ | refine bA_ ?_ _)); exact BK596.out⟩, ⟨by (with_reducible repeat (first | refine bN_ ?_ _ | refine bD_ ?_ | refine bA_ ?_ _)); exact BK597.out⟩, ⟨by repeat (first | (with_reducible first | exact HB.out | apply lA_ | apply lN_ | apply lD_ | refine lS_ ?_ GE595.out | refine lS_ ?_ GE596.out | refine lS_ ?_ GE597.out) | exact HB.out)⟩⟩
          · rw [if_neg c23] at H
            have c23b0 : decide (256 < a1_2) = false := decide_eq_false c23
            clear c23
            by_cases c34 : a1_3 < 1
            · rw [if_pos c34] at H
              have c34b0 : decide (a1_3 < 1) = true := decide_eq_true c34
              clear c34
              have H' := Aside0.mk H
              clear H
              have hnb35 := NB595_596.out
              have hnc35 := NB596_595.out
              have hnb36 := NB595_597.out
              have hnc36 := NB597_595.out
              have hcz37_0 : w7.cell? ⟨gb595, 0, none⟩ = some (.int .i64 a0_0) := (blk_cell BK595.out 0).trans rfl
              have hcz37_1 : w7.cell? ⟨gb595, 1, none⟩ = some (.int .i64 a0_1) := (blk_cell BK595.out 1).trans rfl
              have hcz37_2 : w7.cell? ⟨gb595, 2, none⟩ = some (.int .i64 a0_2) := (blk_cell BK595.out 2).trans rfl
              have hcz37_3 : w7.cell? ⟨gb595, 3, none⟩ = some (.int .i64 a0_3) := (blk_cell BK595.out 3).trans rfl
              have hcz37_4 : w7.cell? ⟨gb595, 4, none⟩ = some (.int .i64 a0_4) := (blk_cell BK595.out 4).trans rfl
              have hcz37_5 : w7.cell? ⟨gb595, 5, none⟩ = some (.int .i64 a0_5) := (blk_cell BK595.out 5).trans rfl
              have hfz37_0 := blk_frozen BK595.out 0
              have hfz37_1 := blk_frozen BK595.out 1
              have hfz37_2 := blk_frozen BK595.out 2
              have hfz37_3 := blk_frozen BK595.out 3
              have hfz37_4 := blk_frozen BK595.out 4
              have hfz37_5 := blk_frozen BK595.out 5
              go_wp2_with (first | ((with_reducible refine gate_callee (f := 27) rfl ?_); refine goesL_ (some 11) rfl rfl Try.func27 (by kernel_rfl) rfl #[.agg #[.int .i64 a0_0, .int .i64 a0_1, .int .i64 a0_2, .int .i64 a0_3, .int .i64 a0_4, .int .i64 a0_5], .int .i64 16777216] rfl (by (try simp only [List.map_toArray, List.map_cons, List.map_nil]); first | done | rfl | (simp only [List.length_drop, List.length_take]; rfl)) ?_; (with_reducible refine (imageeditorlaw12_small.calls k a0_0 a0_1 a0_2 a0_3 a0_4 a0_5 16777216 true _ A8.out).mono ?_); rintro e w38 ⟨rfl, hb⟩; refine ⟨_, rfl, ?_⟩; have n0_ := Aside0.mk (blk_below (g := gb595) (o := .cells #[.int .i64 a0_0, .int .i64 a0_1, .int .i64 a0_2, .int .i64 a0_3, .int .i64 a0_4, .int .i64 a0_5] 23 (0, 0)) (by (with_reducible repeat (first | refine bN_ ?_ _ | refine bD_ ?_ | refine bA_ ?_ _)); exact BK595.out) hb); have n1_ := Aside0.mk (blk_below (g := gb596) (o := .cells #[.int .i64 a1_0, .int .i64 a1_1, .int .i64 a1_2, .int .i64 a1_3] 44 (0, 0)) (by (with_reducible repeat (first | refine bN_ ?_ _ | refine bD_ ?_ | refine bA_ ?_ _)); exact BK596.out) hb); have n2_ := Aside0.mk (blk_below (g := gb597) (o := .cells #[.int .i64 a2_0, .int .i64 a2_1] 25 (0, 0)) (by (with_reducible repeat (first | refine bN_ ?_ _ | refine bD_ ?_ | refine bA_ ?_ _)); exact BK597.out) hb); have n3_ := Aside0.mk (below_step (by repeat (first | (with_reducible first | exact HB.out | apply lA_ | apply lN_ | apply lD_ | refine lS_ ?_ GE595.out | refine lS_ ?_ GE596.out | refine lS_ ?_ GE597.out) | exact HB.out)) hb); clear BK595; clear BK596; clear BK597; clear HB; have BK595 := n0_; have BK596 := n1_; have BK597 := n2_; have HB := n3_; clear n0_ n1_ n2_ n3_; (try clear hb); (try clear hb2); (try clear hk); (try clear hi); have hnb39 := NB596_597.out; have hnc39 := NB597_596.out; have hcz40_0 : w38.cell? ⟨gb596, 0, none⟩ = some (.int .i64 a1_0) := (blk_cell BK596.out 0).trans rfl; have hcz40_1 : w38.cell? ⟨gb596, 1, none⟩ = some (.int .i64 a1_1) := (blk_cell BK596.out 1).trans rfl; have hcz40_2 : w38.cell? ⟨gb596, 2, none⟩ = some (.int .i64 a1_2) := (blk_cell BK596.out 2).trans rfl; have hcz40_3 : w38.cell? ⟨gb596, 3, none⟩ = some (.int .i64 a1_3) := (blk_cell BK596.out 3).trans rfl; have hfz40_0 := blk_frozen BK596.out 0; have hfz40_1 := blk_frozen BK596.out 1; have hfz40_2 := blk_frozen BK596.out 2; have hfz40_3 := blk_frozen BK596.out 3) | ((with_reducible refine gate_dst (N := 18) rfl ?_); (try (refine gate_grd (by rfl) ?_; dsimp only)); refine Kd.R_lit (Kd.int .i64) _ 3 ?hg (N := 18) ?hd (xs := ([a1_0, a1_1] : List Int)) (inner := [.int .i64 a1_0, .int .i64 a1_1]) (ok := fun _ => True) (okp := fun _ => True) ?hr ?hp (fun _ hk => hk) trivial (Below.refl _ _) (Nat.le_refl _) (by simp) ?_; (case hd => rfl); (case hg => rfl); (case hr => first | (go_simp; done) | (go_simp; rfl)); (case hp => exact (Reps.one (show Kd.M (Kd.int .i64) _ _ _ a1_0 [.int .i64 a1_0] from rfl) (Reps.one (show Kd.M (Kd.int .i64) _ _ _ a1_1 [.int .i64 a1_1] from rfl) (Reps.none _ _)))); intro v600 w41 ho42 hb hg_ hnew_; clear hg_ hnew_; (first | rw [← Ny599.out] at ho42 | (simp only [Int.reduceToNat] at ho42; rw [← Ny599.out] at ho42)); have n0_ := Aside0.mk (Kd.R_lower ho42 (below_size (by repeat (first | (with_reducible first | exact HB.out | apply lA_ | apply lN_ | apply lD_ | refine lS_ ?_ GE595.out | refine lS_ ?_ GE596.out | refine lS_ ?_ GE597.out) | exact HB.out)))); have n1_ := Aside0.mk (blk_below (g := gb595) (o := .cells #[.int .i64 a0_0, .int .i64 a0_1, .int .i64 a0_2, .int .i64 a0_3, .int .i64 a0_4, .int .i64 a0_5] 23 (0, 0)) (by (with_reducible repeat (first | refine bN_ ?_ _ | refine bD_ ?_ | refine bA_ ?_ _)); exact BK595.out) hb); have n2_ := Aside0.mk (blk_below (g := gb596) (o := .cells #[.int .i64 a1_0, .int .i64 a1_1, .int .i64 a1_2, .int .i64 a1_3] 44 (0, 0)) (by (with_reducible repeat (first | refine bN_ ?_ _ | refine bD_ ?_ | refine bA_ ?_ _)); exact BK596.out) hb); have n3_ := Aside0.mk (blk_below (g := gb597) (o := .cells #[.int .i64 a2_0, .int .i64 a2_1] 25 (0, 0)) (by (with_reducible repeat (first | refine bN_ ?_ _ | refine bD_ ?_ | refine bA_ ?_ _)); exact BK597.out) hb); have n4_ := Aside0.mk (below_step (by repeat (first | (with_reducible first | exact HB.out | apply lA_ | apply lN_ | apply lD_ | refine lS_ ?_ GE595.out | refine lS_ ?_ GE596.out | refine lS_ ?_ GE597.out) | exact HB.out)) hb); clear BK595; clear BK596; clear BK597; clear HB; have HO601 := n0_; have BK595 := n1_; have BK596 := n2_; have BK597 := n3_; have HB := n4_; clear n0_ n1_ n2_ n3_ n4_; clear hb ho42; obtain ⟨Ao43, co43, eo43⟩ := Kd.R_slice HO601.out; subst eo43) | (go_at_call 25; (with_reducible refine (imageeditorlaw12_within.calls k 256 _ _ y599 true _ ?side1 ?side2 A10.out).mono ?_); (case side1 => repeat (first | exact (Kd.R_reads' HO601.out).2.2 | (with_reducible refine Kd.C_alloc ?_ _) | (with_reducible refine Kd.C_drewN ?_ _) | (with_reducible refine Kd.C_drew ?_))); (case side2 => exact (Kd.R_reads' HO601.out).2.1); rintro e w' ⟨rfl, ⟨nd, rfl⟩⟩; have hcz44_0 : w41.cell? ⟨gb596, 0, none⟩ = some (.int .i64 a1_0) := (blk_cell BK596.out 0).trans rfl; have hcz44_1 : w41.cell? ⟨gb596, 1, none⟩ = some (.int .i64 a1_1) := (blk_cell BK596.out 1).trans rfl; have hcz44_2 : w41.cell? ⟨gb596, 2, none⟩ = some (.int .i64 a1_2) := (blk_cell BK596.out 2).trans rfl; have hcz44_3 : w41.cell? ⟨gb596, 3, none⟩ = some (.int .i64 a1_3) := (blk_cell BK596.out 3).trans rfl; have hfz44_0 := blk_frozen BK596.out 0; have hfz44_1 := blk_frozen BK596.out 1; have hfz44_2 := blk_frozen BK596.out 2; have hfz44_3 := blk_frozen BK596.out 3))
              go_meet
              case rel => exact ⟨_, (true), (by first | rfl | (simp; done) | (simp [*]; done)), H', ⟨by first | omega | exact Nat.le_refl _⟩, ⟨by (with_reducible repeat (first | refine bN_ ?_ _ | refine bD_ ?_ | refine bA_ ?_ _)); exact BK595.out⟩, ⟨by (with_reducible repeat (first | refine bN_ ?_ _ | refine bD_ ?_ | refine bA_ ?_ _)); exact BK596.out⟩, ⟨by (with_reducible repeat (first | refine bN_ ?_ _ | refine bD_ ?_ | refine bA_ ?_ _)); exact BK597.out⟩, ⟨by repeat (first | (with_reducible first | exact HB.out | apply lA_ | apply lN_ | apply lD_ | refine lS_ ?_ GE595.out | refine lS_ ?_ GE596.out | refine lS_ ?_ GE597.out) | exact HB.out)⟩⟩
            · rw [if_neg c34] at H
              have c34b0 : decide (a1_3 < 1) = false := decide_eq_false c34
              clear c34
              by_cases c45 : a1_3 > 256
              · rw [if_pos c45] at H
                have c45b0 : decide (256 < a1_3) = true := decide_eq_true c45
                clear c45
                have H' := Aside0.mk H
                clear H
                have hnb46 := NB595_596.out
                have hnc46 := NB596_595.out
                have hnb47 := NB595_597.out
                have hnc47 := NB597_595.out
                have hcz48_0 : w7.cell? ⟨gb595, 0, none⟩ = some (.int .i64 a0_0) := (blk_cell BK595.out 0).trans rfl
                have hcz48_1 : w7.cell? ⟨gb595, 1, none⟩ = some (.int .i64 a0_1) := (blk_cell BK595.out 1).trans rfl
                have hcz48_2 : w7.cell? ⟨gb595, 2, none⟩ = some (.int .i64 a0_2) := (blk_cell BK595.out 2).trans rfl
                have hcz48_3 : w7.cell? ⟨gb595, 3, none⟩ = some (.int .i64 a0_3) := (blk_cell BK595.out 3).trans rfl
                have hcz48_4 : w7.cell? ⟨gb595, 4, none⟩ = some (.int .i64 a0_4) := (blk_cell BK595.out 4).trans rfl
                have hcz48_5 : w7.cell? ⟨gb595, 5, none⟩ = some (.int .i64 a0_5) := (blk_cell BK595.out 5).trans rfl
                have hfz48_0 := blk_frozen BK595.out 0
                have hfz48_1 := blk_frozen BK595.out 1
                have hfz48_2 := blk_frozen BK595.out 2
                have hfz48_3 := blk_frozen BK595.out 3
                have hfz48_4 := blk_frozen BK595.out 4
                have hfz48_5 := blk_frozen BK595.out 5
                go_wp2_with (first | ((with_reducible refine gate_callee (f := 27) rfl ?_); refine goesL_ (some 11) rfl rfl Try.func27 (by kernel_rfl) rfl #[.agg #[.int .i64 a0_0, .int .i64 a0_1, .int .i64 a0_2, .int .i64 a0_3, .int .i64 a0_4, .int .i64 a0_5], .int .i64 16777216] rfl (by (try simp only [List.map_toArray, List.map_cons, List.map_nil]); first | done | rfl | (simp only [List.length_drop, List.length_take]; rfl)) ?_; (with_reducible refine (imageeditorlaw12_small.calls k a0_0 a0_1 a0_2 a0_3 a0_4 a0_5 16777216 true _ A8.out).mono ?_); rintro e w49 ⟨rfl, hb⟩; refine ⟨_, rfl, ?_⟩; have n0_ := Aside0.mk (blk_below (g := gb595) (o := .cells #[.int .i64 a0_0, .int .i64 a0_1, .int .i64 a0_2, .int .i64 a0_3, .int .i64 a0_4, .int .i64 a0_5] 23 (0, 0)) (by (with_reducible repeat (first | refine bN_ ?_ _ | refine bD_ ?_ | refine bA_ ?_ _)); exact BK595.out) hb); have n1_ := Aside0.mk (blk_below (g := gb596) (o := .cells #[.int .i64 a1_0, .int .i64 a1_1, .int .i64 a1_2, .int .i64 a1_3] 44 (0, 0)) (by (with_reducible repeat (first | refine bN_ ?_ _ | refine bD_ ?_ | refine bA_ ?_ _)); exact BK596.out) hb); have n2_ := Aside0.mk (blk_below (g := gb597) (o := .cells #[.int .i64 a2_0, .int .i64 a2_1] 25 (0, 0)) (by (with_reducible repeat (first | refine bN_ ?_ _ | refine bD_ ?_ | refine bA_ ?_ _)); exact BK597.out) hb); have n3_ := Aside0.mk (below_step (by repeat (first | (with_reducible first | exact HB.out | apply lA_ | apply lN_ | apply lD_ | refine lS_ ?_ GE595.out | refine lS_ ?_ GE596.out | refine lS_ ?_ GE597.out) | exact HB.out)) hb); clear BK595; clear BK596; clear BK597; clear HB; have BK595 := n0_; have BK596 := n1_; have BK597 := n2_; have HB := n3_; clear n0_ n1_ n2_ n3_; (try clear hb); (try clear hb2); (try clear hk); (try clear hi); have hnb50 := NB596_597.out; have hnc50 := NB597_596.out; have hcz51_0 : w49.cell? ⟨gb596, 0, none⟩ = some (.int .i64 a1_0) := (blk_cell BK596.out 0).trans rfl; have hcz51_1 : w49.cell? ⟨gb596, 1, none⟩ = some (.int .i64 a1_1) := (blk_cell BK596.out 1).trans rfl; have hcz51_2 : w49.cell? ⟨gb596, 2, none⟩ = some (.int .i64 a1_2) := (blk_cell BK596.out 2).trans rfl; have hcz51_3 : w49.cell? ⟨gb596, 3, none⟩ = some (.int .i64 a1_3) := (blk_cell BK596.out 3).trans rfl; have hfz51_0 := blk_frozen BK596.out 0; have hfz51_1 := blk_frozen BK596.out 1; have hfz51_2 := blk_frozen BK596.out 2; have hfz51_3 := blk_frozen BK596.out 3) | ((with_reducible refine gate_dst (N := 18) rfl ?_); (try (refine gate_grd (by rfl) ?_; dsimp only)); refine Kd.R_lit (Kd.int .i64) _ 3 ?hg (N := 18) ?hd (xs := ([a1_0, a1_1] : List Int)) (inner := [.int .i64 a1_0, .int .i64 a1_1]) (ok := fun _ => True) (okp := fun _ => True) ?hr ?hp (fun _ hk => hk) trivial (Below.refl _ _) (Nat.le_refl _) (by simp) ?_; (case hd => rfl); (case hg => rfl); (case hr => first | (go_simp; done) | (go_simp; rfl)); (case hp => exact (Reps.one (show Kd.M (Kd.int .i64) _ _ _ a1_0 [.int .i64 a1_0] from rfl) (Reps.one (show Kd.M (Kd.int .i64) _ _ _ a1_1 [.int .i64 a1_1] from rfl) (Reps.none _ _)))); intro v600 w52 ho53 hb hg_ hnew_; clear hg_ hnew_; (first | rw [← Ny599.out] at ho53 | (simp only [Int.reduceToNat] at ho53; rw [← Ny599.out] at ho53)); have n0_ := Aside0.mk (Kd.R_lower ho53 (below_size (by repeat (first | (with_reducible first | exact HB.out | apply lA_ | apply lN_ | apply lD_ | refine lS_ ?_ GE595.out | refine lS_ ?_ GE596.out | refine lS_ ?_ GE597.out) | exact HB.out)))); have n1_ := Aside0.mk (blk_below (g := gb595) (o := .cells #[.int .i64 a0_0, .int .i64 a0_1, .int .i64 a0_2, .int .i64 a0_3, .int .i64 a0_4, .int .i64 a0_5] 23 (0, 0)) (by (with_reducible repeat (first | refine bN_ ?_ _ | refine bD_ ?_ | refine bA_ ?_ _)); exact BK595.out) hb); have n2_ := Aside0.mk (blk_below (g := gb596) (o := .cells #[.int .i64 a1_0, .int .i64 a1_1, .int .i64 a1_2, .int .i64 a1_3] 44 (0, 0)) (by (with_reducible repeat (first | refine bN_ ?_ _ | refine bD_ ?_ | refine bA_ ?_ _)); exact BK596.out) hb); have n3_ := Aside0.mk (blk_below (g := gb597) (o := .cells #[.int .i64 a2_0, .int .i64 a2_1] 25 (0, 0)) (by (with_reducible repeat (first | refine bN_ ?_ _ | refine bD_ ?_ | refine bA_ ?_ _)); exact BK597.out) hb); have n4_ := Aside0.mk (below_step (by repeat (first | (with_reducible first | exact HB.out | apply lA_ | apply lN_ | apply lD_ | refine lS_ ?_ GE595.out | refine lS_ ?_ GE596.out | refine lS_ ?_ GE597.out) | exact HB.out)) hb); clear BK595; clear BK596; clear BK597; clear HB; have HO601 := n0_; have BK595 := n1_; have BK596 := n2_; have BK597 := n3_; have HB := n4_; clear n0_ n1_ n2_ n3_ n4_; clear hb ho53; obtain ⟨Ao54, co54, eo54⟩ := Kd.R_slice HO601.out; subst eo54) | (go_at_call 25; (with_reducible refine (imageeditorlaw12_within.calls k 256 _ _ y599 true _ ?side1 ?side2 A10.out).mono ?_); (case side1 => repeat (first | exact (Kd.R_reads' HO601.out).2.2 | (with_reducible refine Kd.C_alloc ?_ _) | (with_reducible refine Kd.C_drewN ?_ _) | (with_reducible refine Kd.C_drew ?_))); (case side2 => exact (Kd.R_reads' HO601.out).2.1); rintro e w' ⟨rfl, ⟨nd, rfl⟩⟩; have hcz55_0 : w52.cell? ⟨gb596, 0, none⟩ = some (.int .i64 a1_0) := (blk_cell BK596.out 0).trans rfl; have hcz55_1 : w52.cell? ⟨gb596, 1, none⟩ = some (.int .i64 a1_1) := (blk_cell BK596.out 1).trans rfl; have hcz55_2 : w52.cell? ⟨gb596, 2, none⟩ = some (.int .i64 a1_2) := (blk_cell BK596.out 2).trans rfl; have hcz55_3 : w52.cell? ⟨gb596, 3, none⟩ = some (.int .i64 a1_3) := (blk_cell BK596.out 3).trans rfl; have hfz55_0 := blk_frozen BK596.out 0; have hfz55_1 := blk_frozen BK596.out 1; have hfz55_2 := blk_frozen BK596.out 2; have hfz55_3 := blk_frozen BK596.out 3))
                go_meet
                case rel => exact ⟨_, (true), (by first | rfl | (simp; done) | (simp [*]; done)), H', ⟨by first | omega | exact Nat.le_refl _⟩, ⟨by (with_reducible repeat (first | refine bN_ ?_ _ | refine bD_ ?_ | refine bA_ ?_ _)); exact BK595.out⟩, ⟨by (with_reducible repeat (first | refine bN_ ?_ _ | refine bD_ ?_ | refine bA_ ?_ _)); exact BK596.out⟩, ⟨by (with_reducible repeat (first | refine bN_ ?_ _ | refine bD_ ?_ | refine bA_ ?_ _)); exact BK597.out⟩, ⟨by repeat (first | (with_reducible first | exact HB.out | apply lA_ | apply lN_ | apply lD_ | refine lS_ ?_ GE595.out | refine lS_ ?_ GE596.out | refine lS_ ?_ GE597.out) | exact HB.out)⟩⟩
              · rw [if_neg c45] at H
                have c45b0 : decide (256 < a1_3) = false := decide_eq_false c45
                clear c45
                by_cases c56 : a2_0 < (wrap64 (a1_0 * 65536))
                · rw [if_pos c56] at H
                  have c56b0 : decide (a2_0 < (wrap64 (a1_0 * 65536))) = true := decide_eq_true c56
                  clear c56
                  have H' := Aside0.mk H
                  clear H
                  have hnb57 := NB595_596.out
                  have hnc57 := NB596_595.out
                  have hnb58 := NB595_597.out
                  have hnc58 := NB597_595.out
                  have hcz59_0 : w7.cell? ⟨gb595, 0, none⟩ = some (.int .i64 a0_0) := (blk_cell BK595.out 0).trans rfl
                  have hcz59_1 : w7.cell? ⟨gb595, 1, none⟩ = some (.int .i64 a0_1) := (blk_cell BK595.out 1).trans rfl
                  have hcz59_2 : w7.cell? ⟨gb595, 2, none⟩ = some (.int .i64 a0_2) := (blk_cell BK595.out 2).trans rfl
                  have hcz59_3 : w7.cell? ⟨gb595, 3, none⟩ = some (.int .i64 a0_3) := (blk_cell BK595.out 3).trans rfl
                  have hcz59_4 : w7.cell? ⟨gb595, 4, none⟩ = some (.int .i64 a0_4) := (blk_cell BK595.out 4).trans rfl
                  have hcz59_5 : w7.cell? ⟨gb595, 5, none⟩ = some (.int .i64 a0_5) := (blk_cell BK595.out 5).trans rfl
                  have hfz59_0 := blk_frozen BK595.out 0
                  have hfz59_1 := blk_frozen BK595.out 1
                  have hfz59_2 := blk_frozen BK595.out 2
                  have hfz59_3 := blk_frozen BK595.out 3
                  have hfz59_4 := blk_frozen BK595.out 4
                  have hfz59_5 := blk_frozen BK595.out 5
                  go_wp2_with (first | ((with_reducible refine gate_callee (f := 27) rfl ?_); refine goesL_ (some 11) rfl rfl Try.func27 (by kernel_rfl) rfl #[.agg #[.int .i64 a0_0, .int .i64 a0_1, .int .i64 a0_2, .int .i64 a0_3, .int .i64 a0_4, .int .i64 a0_5], .int .i64 16777216] rfl (by (try simp only [List.map_toArray, List.map_cons, List.map_nil]); first | done | rfl | (simp only [List.length_drop, List.length_take]; rfl)) ?_; (with_reducible refine (imageeditorlaw12_small.calls k a0_0 a0_1 a0_2 a0_3 a0_4 a0_5 16777216 true _ A8.out).mono ?_); rintro e w60 ⟨rfl, hb⟩; refine ⟨_, rfl, ?_⟩; have n0_ := Aside0.mk (blk_below (g := gb595) (o := .cells #[.int .i64 a0_0, .int .i64 a0_1, .int .i64 a0_2, .int .i64 a0_3, .int .i64 a0_4, .int .i64 a0_5] 23 (0, 0)) (by (with_reducible repeat (first | refine bN_ ?_ _ | refine bD_ ?_ | refine bA_ ?_ _)); exact BK595.out) hb); have n1_ := Aside0.mk (blk_below (g := gb596) (o := .cells #[.int .i64 a1_0, .int .i64 a1_1, .int .i64 a1_2, .int .i64 a1_3] 44 (0, 0)) (by (with_reducible repeat (first | refine bN_ ?_ _ | refine bD_ ?_ | refine bA_ ?_ _)); exact BK596.out) hb); have n2_ := Aside0.mk (blk_below (g := gb597) (o := .cells #[.int .i64 a2_0, .int .i64 a2_1] 25 (0, 0)) (by (with_reducible repeat (first | refine bN_ ?_ _ | refine bD_ ?_ | refine bA_ ?_ _)); exact BK597.out) hb); have n3_ := Aside0.mk (below_step (by repeat (first | (with_reducible first | exact HB.out | apply lA_ | apply lN_ | apply lD_ | refine lS_ ?_ GE595.out | refine lS_ ?_ GE596.out | refine lS_ ?_ GE597.out) | exact HB.out)) hb); clear BK595; clear BK596; clear BK597; clear HB; have BK595 := n0_; have BK596 := n1_; have BK597 := n2_; have HB := n3_; clear n0_ n1_ n2_ n3_; (try clear hb); (try clear hb2); (try clear hk); (try clear hi); have hnb61 := NB596_597.out; have hnc61 := NB597_596.out; have hcz62_0 : w60.cell? ⟨gb596, 0, none⟩ = some (.int .i64 a1_0) := (blk_cell BK596.out 0).trans rfl; have hcz62_1 : w60.cell? ⟨gb596, 1, none⟩ = some (.int .i64 a1_1) := (blk_cell BK596.out 1).trans rfl; have hcz62_2 : w60.cell? ⟨gb596, 2, none⟩ = some (.int .i64 a1_2) := (blk_cell BK596.out 2).trans rfl; have hcz62_3 : w60.cell? ⟨gb596, 3, none⟩ = some (.int .i64 a1_3) := (blk_cell BK596.out 3).trans rfl; have hfz62_0 := blk_frozen BK596.out 0; have hfz62_1 := blk_frozen BK596.out 1; have hfz62_2 := blk_frozen BK596.out 2; have hfz62_3 := blk_frozen BK596.out 3) | ((with_reducible refine gate_dst (N := 18) rfl ?_); (try (refine gate_grd (by rfl) ?_; dsimp only)); refine Kd.R_lit (Kd.int .i64) _ 3 ?hg (N := 18) ?hd (xs := ([a1_0, a1_1] : List Int)) (inner := [.int .i64 a1_0, .int .i64 a1_1]) (ok := fun _ => True) (okp := fun _ => True) ?hr ?hp (fun _ hk => hk) trivial (Below.refl _ _) (Nat.le_refl _) (by simp) ?_; (case hd => rfl); (case hg => rfl); (case hr => first | (go_simp; done) | (go_simp; rfl)); (case hp => exact (Reps.one (show Kd.M (Kd.int .i64) _ _ _ a1_0 [.int .i64 a1_0] from rfl) (Reps.one (show Kd.M (Kd.int .i64) _ _ _ a1_1 [.int .i64 a1_1] from rfl) (Reps.none _ _)))); intro v600 w63 ho64 hb hg_ hnew_; clear hg_ hnew_; (first | rw [← Ny599.out] at ho64 | (simp only [Int.reduceToNat] at ho64; rw [← Ny599.out] at ho64)); have n0_ := Aside0.mk (Kd.R_lower ho64 (below_size (by repeat (first | (with_reducible first | exact HB.out | apply lA_ | apply lN_ | apply lD_ | refine lS_ ?_ GE595.out | refine lS_ ?_ GE596.out | refine lS_ ?_ GE597.out) | exact HB.out)))); have n1_ := Aside0.mk (blk_below (g := gb595) (o := .cells #[.int .i64 a0_0, .int .i64 a0_1, .int .i64 a0_2, .int .i64 a0_3, .int .i64 a0_4, .int .i64 a0_5] 23 (0, 0)) (by (with_reducible repeat (first | refine bN_ ?_ _ | refine bD_ ?_ | refine bA_ ?_ _)); exact BK595.out) hb); have n2_ := Aside0.mk (blk_below (g := gb596) (o := .cells #[.int .i64 a1_0, .int .i64 a1_1, .int .i64 a1_2, .int .i64 a1_3] 44 (0, 0)) (by (with_reducible repeat (first | refine bN_ ?_ _ | refine bD_ ?_ | refine bA_ ?_ _)); exact BK596.out) hb); have n3_ := Aside0.mk (blk_below (g := gb597) (o := .cells #[.int .i64 a2_0, .int .i64 a2_1] 25 (0, 0)) (by (with_reducible repeat (first | refine bN_ ?_ _ | refine bD_ ?_ | refine bA_ ?_ _)); exact BK597.out) hb); have n4_ := Aside0.mk (below_step (by repeat (first | (with_reducible first | exact HB.out | apply lA_ | apply lN_ | apply lD_ | refine lS_ ?_ GE595.out | refine lS_ ?_ GE596.out | refine lS_ ?_ GE597.out) | exact HB.out)) hb); clear BK595; clear BK596; clear BK597; clear HB; have HO601 := n0_; have BK595 := n1_; have BK596 := n2_; have BK597 := n3_; have HB := n4_; clear n0_ n1_ n2_ n3_ n4_; clear hb ho64; obtain ⟨Ao65, co65, eo65⟩ := Kd.R_slice HO601.out; subst eo65) | (go_at_call 25; (with_reducible refine (imageeditorlaw12_within.calls k 256 _ _ y599 true _ ?side1 ?side2 A10.out).mono ?_); (case side1 => repeat (first | exact (Kd.R_reads' HO601.out).2.2 | (with_reducible refine Kd.C_alloc ?_ _) | (with_reducible refine Kd.C_drewN ?_ _) | (with_reducible refine Kd.C_drew ?_))); (case side2 => exact (Kd.R_reads' HO601.out).2.1); rintro e w' ⟨rfl, ⟨nd, rfl⟩⟩; have hcz66_0 : w63.cell? ⟨gb596, 0, none⟩ = some (.int .i64 a1_0) := (blk_cell BK596.out 0).trans rfl; have hcz66_1 : w63.cell? ⟨gb596, 1, none⟩ = some (.int .i64 a1_1) := (blk_cell BK596.out 1).trans rfl; have hcz66_2 : w63.cell? ⟨gb596, 2, none⟩ = some (.int .i64 a1_2) := (blk_cell BK596.out 2).trans rfl; have hcz66_3 : w63.cell? ⟨gb596, 3, none⟩ = some (.int .i64 a1_3) := (blk_cell BK596.out 3).trans rfl; have hfz66_0 := blk_frozen BK596.out 0; have hfz66_1 := blk_frozen BK596.out 1; have hfz66_2 := blk_frozen BK596.out 2; have hfz66_3 := blk_frozen BK596.out 3; have hcz67_0 : w63.cell? ⟨gb597, 0, none⟩ = some (.int .i64 a2_0) := (blk_cell BK597.out 0).trans rfl; have hcz67_1 : w63.cell? ⟨gb597, 1, none⟩ = some (.int .i64 a2_1) := (blk_cell BK597.out 1).trans rfl; have hfz67_0 := blk_frozen BK597.out 0; have hfz67_1 := blk_frozen BK597.out 1))
                  go_meet
                  case rel => exact ⟨_, (true), (by first | rfl | (simp; done) | (simp [*]; done)), H', ⟨by first | omega | exact Nat.le_refl _⟩, ⟨by (with_reducible repeat (first | refine bN_ ?_ _ | refine bD_ ?_ | refine bA_ ?_ _)); exact BK595.out⟩, ⟨by (with_reducible repeat (first | refine bN_ ?_ _ | refine bD_ ?_ | refine bA_ ?_ _)); exact BK596.out⟩, ⟨by (with_reducible repeat (first | refine bN_ ?_ _ | refine bD_ ?_ | refine bA_ ?_ _)); exact BK597.out⟩, ⟨by repeat (first | (with_reducible first | exact HB.out | apply lA_ | apply lN_ | apply lD_ | refine lS_ ?_ GE595.out | refine lS_ ?_ GE596.out | refine lS_ ?_ GE597.out) | exact HB.out)⟩⟩
                · rw [if_neg c56] at H
                  have c56b0 : decide (a2_0 < (wrap64 (a1_0 * 65536))) = false := decide_eq_false c56
                  clear c56
                  by_cases c68 : a2_1 < (wrap64 (a1_1 * 65536))
                  · rw [if_pos c68] at H
                    have c68b0 : decide (a2_1 < (wrap64 (a1_1 * 65536))) = true := decide_eq_true c68
                    clear c68
                    have H' := Aside0.mk H
                    clear H
                    have hnb69 := NB595_596.out
                    have hnc69 := NB596_595.out
                    have hnb70 := NB595_597.out
                    have hnc70 := NB597_595.out
                    have hcz71_0 : w7.cell? ⟨gb595, 0, none⟩ = some (.int .i64 a0_0) := (blk_cell BK595.out 0).trans rfl
                    have hcz71_1 : w7.cell? ⟨gb595, 1, none⟩ = some (.int .i64 a0_1) := (blk_cell BK595.out 1).trans rfl
                    have hcz71_2 : w7.cell? ⟨gb595, 2, none⟩ = some (.int .i64 a0_2) := (blk_cell BK595.out 2).trans rfl
                    have hcz71_3 : w7.cell? ⟨gb595, 3, none⟩ = some (.int .i64 a0_3) := (blk_cell BK595.out 3).trans rfl
                    have hcz71_4 : w7.cell? ⟨gb595, 4, none⟩ = some (.int .i64 a0_4) := (blk_cell BK595.out 4).trans rfl
                    have hcz71_5 : w7.cell? ⟨gb595, 5, none⟩ = some (.int .i64 a0_5) := (blk_cell BK595.out 5).trans rfl
                    have hfz71_0 := blk_frozen BK595.out 0
                    have hfz71_1 := blk_frozen BK595.out 1
                    have hfz71_2 := blk_frozen BK595.out 2
                    have hfz71_3 := blk_frozen BK595.out 3
                    have hfz71_4 := blk_frozen BK595.out 4
                    have hfz71_5 := blk_frozen BK595.out 5
                    go_wp2_with (first | ((with_reducible refine gate_callee (f := 27) rfl ?_); refine goesL_ (some 11) rfl rfl Try.func27 (by kernel_rfl) rfl #[.agg #[.int .i64 a0_0, .int .i64 a0_1, .int .i64 a0_2, .int .i64 a0_3, .int .i64 a0_4, .int .i64 a0_5], .int .i64 16777216] rfl (by (try simp only [List.map_toArray, List.map_cons, List.map_nil]); first | done | rfl | (simp only [List.length_drop, List.length_take]; rfl)) ?_; (with_reducible refine (imageeditorlaw12_small.calls k a0_0 a0_1 a0_2 a0_3 a0_4 a0_5 16777216 true _ A8.out).mono ?_); rintro e w72 ⟨rfl, hb⟩; refine ⟨_, rfl, ?_⟩; have n0_ := Aside0.mk (blk_below (g := gb595) (o := .cells #[.int .i64 a0_0, .int .i64 a0_1, .int .i64 a0_2, .int .i64 a0_3, .int .i64 a0_4, .int .i64 a0_5] 23 (0, 0)) (by (with_reducible repeat (first | refine bN_ ?_ _ | refine bD_ ?_ | refine bA_ ?_ _)); exact BK595.out) hb); have n1_ := Aside0.mk (blk_below (g := gb596) (o := .cells #[.int .i64 a1_0, .int .i64 a1_1, .int .i64 a1_2, .int .i64 a1_3] 44 (0, 0)) (by (with_reducible repeat (first | refine bN_ ?_ _ | refine bD_ ?_ | refine bA_ ?_ _)); exact BK596.out) hb); have n2_ := Aside0.mk (blk_below (g := gb597) (o := .cells #[.int .i64 a2_0, .int .i64 a2_1] 25 (0, 0)) (by (with_reducible repeat (first | refine bN_ ?_ _ | refine bD_ ?_ | refine bA_ ?_ _)); exact BK597.out) hb); have n3_ := Aside0.mk (below_step (by repeat (first | (with_reducible first | exact HB.out | apply lA_ | apply lN_ | apply lD_ | refine lS_ ?_ GE595.out | refine lS_ ?_ GE596.out | refine lS_ ?_ GE597.out) | exact HB.out)) hb); clear BK595; clear BK596; clear BK597; clear HB; have BK595 := n0_; have BK596 := n1_; have BK597 := n2_; have HB := n3_; clear n0_ n1_ n2_ n3_; (try clear hb); (try clear hb2); (try clear hk); (try clear hi); have hnb73 := NB596_597.out; have hnc73 := NB597_596.out; have hcz74_0 : w72.cell? ⟨gb596, 0, none⟩ = some (.int .i64 a1_0) := (blk_cell BK596.out 0).trans rfl; have hcz74_1 : w72.cell? ⟨gb596, 1, none⟩ = some (.int .i64 a1_1) := (blk_cell BK596.out 1).trans rfl; have hcz74_2 : w72.cell? ⟨gb596, 2, none⟩ = some (.int .i64 a1_2) := (blk_cell BK596.out 2).trans rfl; have hcz74_3 : w72.cell? ⟨gb596, 3, none⟩ = some (.int .i64 a1_3) := (blk_cell BK596.out 3).trans rfl; have hfz74_0 := blk_frozen BK596.out 0; have hfz74_1 := blk_frozen BK596.out 1; have hfz74_2 := blk_frozen BK596.out 2; have hfz74_3 := blk_frozen BK596.out 3) | ((with_reducible refine gate_dst (N := 18) rfl ?_); (try (refine gate_grd (by rfl) ?_; dsimp only)); refine Kd.R_lit (Kd.int .i64) _ 3 ?hg (N := 18) ?hd (xs := ([a1_0, a1_1] : List Int)) (inner := [.int .i64 a1_0, .int .i64 a1_1]) (ok := fun _ => True) (okp := fun _ => True) ?hr ?hp (fun _ hk => hk) trivial (Below.refl _ _) (Nat.le_refl _) (by simp) ?_; (case hd => rfl); (case hg => rfl); (case hr => first | (go_simp; done) | (go_simp; rfl)); (case hp => exact (Reps.one (show Kd.M (Kd.int .i64) _ _ _ a1_0 [.int .i64 a1_0] from rfl) (Reps.one (show Kd.M (Kd.int .i64) _ _ _ a1_1 [.int .i64 a1_1] from rfl) (Reps.none _ _)))); intro v600 w75 ho76 hb hg_ hnew_; clear hg_ hnew_; (first | rw [← Ny599.out] at ho76 | (simp only [Int.reduceToNat] at ho76; rw [← Ny599.out] at ho76)); have n0_ := Aside0.mk (Kd.R_lower ho76 (below_size (by repeat (first | (with_reducible first | exact HB.out | apply lA_ | apply lN_ | apply lD_ | refine lS_ ?_ GE595.out | refine lS_ ?_ GE596.out | refine lS_ ?_ GE597.out) | exact HB.out)))); have n1_ := Aside0.mk (blk_below (g := gb595) (o := .cells #[.int .i64 a0_0, .int .i64 a0_1, .int .i64 a0_2, .int .i64 a0_3, .int .i64 a0_4, .int .i64 a0_5] 23 (0, 0)) (by (with_reducible repeat (first | refine bN_ ?_ _ | refine bD_ ?_ | refine bA_ ?_ _)); exact BK595.out) hb); have n2_ := Aside0.mk (blk_below (g := gb596) (o := .cells #[.int .i64 a1_0, .int .i64 a1_1, .int .i64 a1_2, .int .i64 a1_3] 44 (0, 0)) (by (with_reducible repeat (first | refine bN_ ?_ _ | refine bD_ ?_ | refine bA_ ?_ _)); exact BK596.out) hb); have n3_ := Aside0.mk (blk_below (g := gb597) (o := .cells #[.int .i64 a2_0, .int .i64 a2_1] 25 (0, 0)) (by (with_reducible repeat (first | refine bN_ ?_ _ | refine bD_ ?_ | refine bA_ ?_ _)); exact BK597.out) hb); have n4_ := Aside0.mk (below_step (by repeat (first | (with_reducible first | exact HB.out | apply lA_ | apply lN_ | apply lD_ | refine lS_ ?_ GE595.out | refine lS_ ?_ GE596.out | refine lS_ ?_ GE597.out) | exact HB.out)) hb); clear BK595; clear BK596; clear BK597; clear HB; have HO601 := n0_; have BK595 := n1_; have BK596 := n2_; have BK597 := n3_; have HB := n4_; clear n0_ n1_ n2_ n3_ n4_; clear hb ho76; obtain ⟨Ao77, co77, eo77⟩ := Kd.R_slice HO601.out; subst eo77) | (go_at_call 25; (with_reducible refine (imageeditorlaw12_within.calls k 256 _ _ y599 true _ ?side1 ?side2 A10.out).mono ?_); (case side1 => repeat (first | exact (Kd.R_reads' HO601.out).2.2 | (with_reducible refine Kd.C_alloc ?_ _) | (with_reducible refine Kd.C_drewN ?_ _) | (with_reducible refine Kd.C_drew ?_))); (case side2 => exact (Kd.R_reads' HO601.out).2.1); rintro e w' ⟨rfl, ⟨nd, rfl⟩⟩; have hcz78_0 : w75.cell? ⟨gb596, 0, none⟩ = some (.int .i64 a1_0) := (blk_cell BK596.out 0).trans rfl; have hcz78_1 : w75.cell? ⟨gb596, 1, none⟩ = some (.int .i64 a1_1) := (blk_cell BK596.out 1).trans rfl; have hcz78_2 : w75.cell? ⟨gb596, 2, none⟩ = some (.int .i64 a1_2) := (blk_cell BK596.out 2).trans rfl; have hcz78_3 : w75.cell? ⟨gb596, 3, none⟩ = some (.int .i64 a1_3) := (blk_cell BK596.out 3).trans rfl; have hfz78_0 := blk_frozen BK596.out 0; have hfz78_1 := blk_frozen BK596.out 1; have hfz78_2 := blk_frozen BK596.out 2; have hfz78_3 := blk_frozen BK596.out 3; have hcz79_0 : w75.cell? ⟨gb597, 0, none⟩ = some (.int .i64 a2_0) := (blk_cell BK597.out 0).trans rfl; have hcz79_1 : w75.cell? ⟨gb597, 1, none⟩ = some (.int .i64 a2_1) := (blk_cell BK597.out 1).trans rfl; have hfz79_0 := blk_frozen BK597.out 0; have hfz79_1 := blk_frozen BK597.out 1))
                    go_meet
                    case rel => exact ⟨_, (true), (by first | rfl | (simp; done) | (simp [*]; done)), H', ⟨by first | omega | exact Nat.le_refl _⟩, ⟨by (with_reducible repeat (first | refine bN_ ?_ _ | refine bD_ ?_ | refine bA_ ?_ _)); exact BK595.out⟩, ⟨by (with_reducible repeat (first | refine bN_ ?_ _ | refine bD_ ?_ | refine bA_ ?_ _)); exact BK596.out⟩, ⟨by (with_reducible repeat (first | refine bN_ ?_ _ | refine bD_ ?_ | refine bA_ ?_ _)); exact BK597.out⟩, ⟨by repeat (first | (with_reducible first | exact HB.out | apply lA_ | apply lN_ | apply lD_ | refine lS_ ?_ GE595.out | refine lS_ ?_ GE596.out | refine lS_ ?_ GE597.out) | exact HB.out)⟩⟩
                  · rw [if_neg c68] at H
                    have c68b0 : decide (a2_1 < (wrap64 (a1_1 * 65536))) = false := decide_eq_false c68
                    clear c68
                    by_cases c80 : a2_0 > (wrap64 ((wrap64 (a1_0 + a1_2)) * 65536))
                    · rw [if_pos c80] at H
                      have c80b0 : decide ((wrap64 ((wrap64 (a1_0 + a1_2)) * 65536)) < a2_0) = true := decide_eq_true c80
                      clear c80
                      have H' := Aside0.mk H
                      clear H
                      have hnb81 := NB595_596.out
                      have hnc81 := NB596_595.out
                      have hnb82 := NB595_597.out
                      have hnc82 := NB597_595.out
                      have hcz83_0 : w7.cell? ⟨gb595, 0, none⟩ = some (.int .i64 a0_0) := (blk_cell BK595.out 0).trans rfl
                      have hcz83_1 : w7.cell? ⟨gb595, 1, none⟩ = some (.int .i64 a0_1) := (blk_cell BK595.out 1).trans rfl
                      have hcz83_2 : w7.cell? ⟨gb595, 2, none⟩ = some (.int .i64 a0_2) := (blk_cell BK595.out 2).trans rfl
                      have hcz83_3 : w7.cell? ⟨gb595, 3, none⟩ = some (.int .i64 a0_3) := (blk_cell BK595.out 3).trans rfl
                      have hcz83_4 : w7.cell? ⟨gb595, 4, none⟩ = some (.int .i64 a0_4) := (blk_cell BK595.out 4).trans rfl
                      have hcz83_5 : w7.cell? ⟨gb595, 5, none⟩ = some (.int .i64 a0_5) := (blk_cell BK595.out 5).trans rfl
                      have hfz83_0 := blk_frozen BK595.out 0
                      have hfz83_1 := blk_frozen BK595.out 1
                      have hfz83_2 := blk_frozen BK595.out 2
                      have hfz83_3 := blk_frozen BK595.out 3
                      have hfz83_4 := blk_frozen BK595.out 4
                      have hfz83_5 := blk_frozen BK595.out 5
                      go_wp2_with (first | ((with_reducible refine gate_callee (f := 27) rfl ?_); refine goesL_ (some 11) rfl rfl Try.func27 (by kernel_rfl) rfl #[.agg #[.int .i64 a0_0, .int .i64 a0_1, .int .i64 a0_2, .int .i64 a0_3, .int .i64 a0_4, .int .i64 a0_5], .int .i64 16777216] rfl (by (try simp only [List.map_toArray, List.map_cons, List.map_nil]); first | done | rfl | (simp only [List.length_drop, List.length_take]; rfl)) ?_; (with_reducible refine (imageeditorlaw12_small.calls k a0_0 a0_1 a0_2 a0_3 a0_4 a0_5 16777216 true _ A8.out).mono ?_); rintro e w84 ⟨rfl, hb⟩; refine ⟨_, rfl, ?_⟩; have n0_ := Aside0.mk (blk_below (g := gb595) (o := .cells #[.int .i64 a0_0, .int .i64 a0_1, .int .i64 a0_2, .int .i64 a0_3, .int .i64 a0_4, .int .i64 a0_5] 23 (0, 0)) (by (with_reducible repeat (first | refine bN_ ?_ _ | refine bD_ ?_ | refine bA_ ?_ _)); exact BK595.out) hb); have n1_ := Aside0.mk (blk_below (g := gb596) (o := .cells #[.int .i64 a1_0, .int .i64 a1_1, .int .i64 a1_2, .int .i64 a1_3] 44 (0, 0)) (by (with_reducible repeat (first | refine bN_ ?_ _ | refine bD_ ?_ | refine bA_ ?_ _)); exact BK596.out) hb); have n2_ := Aside0.mk (blk_below (g := gb597) (o := .cells #[.int .i64 a2_0, .int .i64 a2_1] 25 (0, 0)) (by (with_reducible repeat (first | refine bN_ ?_ _ | refine bD_ ?_ | refine bA_ ?_ _)); exact BK597.out) hb); have n3_ := Aside0.mk (below_step (by repeat (first | (with_reducible first | exact HB.out | apply lA_ | apply lN_ | apply lD_ | refine lS_ ?_ GE595.out | refine lS_ ?_ GE596.out | refine lS_ ?_ GE597.out) | exact HB.out)) hb); clear BK595; clear BK596; clear BK597; clear HB; have BK595 := n0_; have BK596 := n1_; have BK597 := n2_; have HB := n3_; clear n0_ n1_ n2_ n3_; (try clear hb); (try clear hb2); (try clear hk); (try clear hi); have hnb85 := NB596_597.out; have hnc85 := NB597_596.out; have hcz86_0 : w84.cell? ⟨gb596, 0, none⟩ = some (.int .i64 a1_0) := (blk_cell BK596.out 0).trans rfl; have hcz86_1 : w84.cell? ⟨gb596, 1, none⟩ = some (.int .i64 a1_1) := (blk_cell BK596.out 1).trans rfl; have hcz86_2 : w84.cell? ⟨gb596, 2, none⟩ = some (.int .i64 a1_2) := (blk_cell BK596.out 2).trans rfl; have hcz86_3 : w84.cell? ⟨gb596, 3, none⟩ = some (.int .i64 a1_3) := (blk_cell BK596.out 3).trans rfl; have hfz86_0 := blk_frozen BK596.out 0; have hfz86_1 := blk_frozen BK596.out 1; have hfz86_2 := blk_frozen BK596.out 2; have hfz86_3 := blk_frozen BK596.out 3) | ((with_reducible refine gate_dst (N := 18) rfl ?_); (try (refine gate_grd (by rfl) ?_; dsimp only)); refine Kd.R_lit (Kd.int .i64) _ 3 ?hg (N := 18) ?hd (xs := ([a1_0, a1_1] : List Int)) (inner := [.int .i64 a1_0, .int .i64 a1_1]) (ok := fun _ => True) (okp := fun _ => True) ?hr ?hp (fun _ hk => hk) trivial (Below.refl _ _) (Nat.le_refl _) (by simp) ?_; (case hd => rfl); (case hg => rfl); (case hr => first | (go_simp; done) | (go_simp; rfl)); (case hp => exact (Reps.one (show Kd.M (Kd.int .i64) _ _ _ a1_0 [.int .i64 a1_0] from rfl) (Reps.one (show Kd.M (Kd.int .i64) _ _ _ a1_1 [.int .i64 a1_1] from rfl) (Reps.none _ _)))); intro v600 w87 ho88 hb hg_ hnew_; clear hg_ hnew_; (first | rw [← Ny599.out] at ho88 | (simp only [Int.reduceToNat] at ho88; rw [← Ny599.out] at ho88)); have n0_ := Aside0.mk (Kd.R_lower ho88 (below_size (by repeat (first | (with_reducible first | exact HB.out | apply lA_ | apply lN_ | apply lD_ | refine lS_ ?_ GE595.out | refine lS_ ?_ GE596.out | refine lS_ ?_ GE597.out) | exact HB.out)))); have n1_ := Aside0.mk (blk_below (g := gb595) (o := .cells #[.int .i64 a0_0, .int .i64 a0_1, .int .i64 a0_2, .int .i64 a0_3, .int .i64 a0_4, .int .i64 a0_5] 23 (0, 0)) (by (with_reducible repeat (first | refine bN_ ?_ _ | refine bD_ ?_ | refine bA_ ?_ _)); exact BK595.out) hb); have n2_ := Aside0.mk (blk_below (g := gb596) (o := .cells #[.int .i64 a1_0, .int .i64 a1_1, .int .i64 a1_2, .int .i64 a1_3] 44 (0, 0)) (by (with_reducible repeat (first | refine bN_ ?_ _ | refine bD_ ?_ | refine bA_ ?_ _)); exact BK596.out) hb); have n3_ := Aside0.mk (blk_below (g := gb597) (o := .cells #[.int .i64 a2_0, .int .i64 a2_1] 25 (0, 0)) (by (with_reducible repeat (first | refine bN_ ?_ _ | refine bD_ ?_ | refine bA_ ?_ _)); exact BK597.out) hb); have n4_ := Aside0.mk (below_step (by repeat (first | (with_reducible first | exact HB.out | apply lA_ | apply lN_ | apply lD_ | refine lS_ ?_ GE595.out | refine lS_ ?_ GE596.out | refine lS_ ?_ GE597.out) | exact HB.out)) hb); clear BK595; clear BK596; clear BK597; clear HB; have HO601 := n0_; have BK595 := n1_; have BK596 := n2_; have BK597 := n3_; have HB := n4_; clear n0_ n1_ n2_ n3_ n4_; clear hb ho88; obtain ⟨Ao89, co89, eo89⟩ := Kd.R_slice HO601.out; subst eo89) | (go_at_call 25; (with_reducible refine (imageeditorlaw12_within.calls k 256 _ _ y599 true _ ?side1 ?side2 A10.out).mono ?_); (case side1 => repeat (first | exact (Kd.R_reads' HO601.out).2.2 | (with_reducible refine Kd.C_alloc ?_ _) | (with_reducible refine Kd.C_drewN ?_ _) | (with_reducible refine Kd.C_drew ?_))); (case side2 => exact (Kd.R_reads' HO601.out).2.1); rintro e w' ⟨rfl, ⟨nd, rfl⟩⟩; have hcz90_0 : w87.cell? ⟨gb596, 0, none⟩ = some (.int .i64 a1_0) := (blk_cell BK596.out 0).trans rfl; have hcz90_1 : w87.cell? ⟨gb596, 1, none⟩ = some (.int .i64 a1_1) := (blk_cell BK596.out 1).trans rfl; have hcz90_2 : w87.cell? ⟨gb596, 2, none⟩ = some (.int .i64 a1_2) := (blk_cell BK596.out 2).trans rfl; have hcz90_3 : w87.cell? ⟨gb596, 3, none⟩ = some (.int .i64 a1_3) := (blk_cell BK596.out 3).trans rfl; have hfz90_0 := blk_frozen BK596.out 0; have hfz90_1 := blk_frozen BK596.out 1; have hfz90_2 := blk_frozen BK596.out 2; have hfz90_3 := blk_frozen BK596.out 3; have hcz91_0 : w87.cell? ⟨gb597, 0, none⟩ = some (.int .i64 a2_0) := (blk_cell BK597.out 0).trans rfl; have hcz91_1 : w87.cell? ⟨gb597, 1, none⟩ = some (.int .i64 a2_1) := (blk_cell BK597.out 1).trans rfl; have hfz91_0 := blk_frozen BK597.out 0; have hfz91_1 := blk_frozen BK597.out 1))
                      go_meet
                      case rel => exact ⟨_, (true), (by first | rfl | (simp; done) | (simp [*]; done)), H', ⟨by first | omega | exact Nat.le_refl _⟩, ⟨by (with_reducible repeat (first | refine bN_ ?_ _ | refine bD_ ?_ | refine bA_ ?_ _)); exact BK595.out⟩, ⟨by (with_reducible repeat (first | refine bN_ ?_ _ | refine bD_ ?_ | refine bA_ ?_ _)); exact BK596.out⟩, ⟨by (with_reducible repeat (first | refine bN_ ?_ _ | refine bD_ ?_ | refine bA_ ?_ _)); exact BK597.out⟩, ⟨by repeat (first | (with_reducible first | exact HB.out | apply lA_ | apply lN_ | apply lD_ | refine lS_ ?_ GE595.out | refine lS_ ?_ GE596.out | refine lS_ ?_ GE597.out) | exact HB.out)⟩⟩
                    · rw [if_neg c80] at H
                      have c80b0 : decide ((wrap64 ((wrap64 (a1_0 + a1_2)) * 65536)) < a2_0) = false := decide_eq_false c80
                      clear c80
                      have H' := Aside0.mk H
                      clear H
                      have hnb92 := NB595_596.out
                      have hnc92 := NB596_595.out
                      have hnb93 := NB595_597.out
                      have hnc93 := NB597_595.out
                      have hcz94_0 : w7.cell? ⟨gb595, 0, none⟩ = some (.int .i64 a0_0) := (blk_cell BK595.out 0).trans rfl
                      have hcz94_1 : w7.cell? ⟨gb595, 1, none⟩ = some (.int .i64 a0_1) := (blk_cell BK595.out 1).trans rfl
                      have hcz94_2 : w7.cell? ⟨gb595, 2, none⟩ = some (.int .i64 a0_2) := (blk_cell BK595.out 2).trans rfl
                      have hcz94_3 : w7.cell? ⟨gb595, 3, none⟩ = some (.int .i64 a0_3) := (blk_cell BK595.out 3).trans rfl
                      have hcz94_4 : w7.cell? ⟨gb595, 4, none⟩ = some (.int .i64 a0_4) := (blk_cell BK595.out 4).trans rfl
                      have hcz94_5 : w7.cell? ⟨gb595, 5, none⟩ = some (.int .i64 a0_5) := (blk_cell BK595.out 5).trans rfl
                      have hfz94_0 := blk_frozen BK595.out 0
                      have hfz94_1 := blk_frozen BK595.out 1
                      have hfz94_2 := blk_frozen BK595.out 2
                      have hfz94_3 := blk_frozen BK595.out 3
                      have hfz94_4 := blk_frozen BK595.out 4
                      have hfz94_5 := blk_frozen BK595.out 5
                      go_wp2_with (first | ((with_reducible refine gate_callee (f := 27) rfl ?_); refine goesL_ (some 11) rfl rfl Try.func27 (by kernel_rfl) rfl #[.agg #[.int .i64 a0_0, .int .i64 a0_1, .int .i64 a0_2, .int .i64 a0_3, .int .i64 a0_4, .int .i64 a0_5], .int .i64 16777216] rfl (by (try simp only [List.map_toArray, List.map_cons, List.map_nil]); first | done | rfl | (simp only [List.length_drop, List.length_take]; rfl)) ?_; (with_reducible refine (imageeditorlaw12_small.calls k a0_0 a0_1 a0_2 a0_3 a0_4 a0_5 16777216 true _ A8.out).mono ?_); rintro e w95 ⟨rfl, hb⟩; refine ⟨_, rfl, ?_⟩; have n0_ := Aside0.mk (blk_below (g := gb595) (o := .cells #[.int .i64 a0_0, .int .i64 a0_1, .int .i64 a0_2, .int .i64 a0_3, .int .i64 a0_4, .int .i64 a0_5] 23 (0, 0)) (by (with_reducible repeat (first | refine bN_ ?_ _ | refine bD_ ?_ | refine bA_ ?_ _)); exact BK595.out) hb); have n1_ := Aside0.mk (blk_below (g := gb596) (o := .cells #[.int .i64 a1_0, .int .i64 a1_1, .int .i64 a1_2, .int .i64 a1_3] 44 (0, 0)) (by (with_reducible repeat (first | refine bN_ ?_ _ | refine bD_ ?_ | refine bA_ ?_ _)); exact BK596.out) hb); have n2_ := Aside0.mk (blk_below (g := gb597) (o := .cells #[.int .i64 a2_0, .int .i64 a2_1] 25 (0, 0)) (by (with_reducible repeat (first | refine bN_ ?_ _ | refine bD_ ?_ | refine bA_ ?_ _)); exact BK597.out) hb); have n3_ := Aside0.mk (below_step (by repeat (first | (with_reducible first | exact HB.out | apply lA_ | apply lN_ | apply lD_ | refine lS_ ?_ GE595.out | refine lS_ ?_ GE596.out | refine lS_ ?_ GE597.out) | exact HB.out)) hb); clear BK595; clear BK596; clear BK597; clear HB; have BK595 := n0_; have BK596 := n1_; have BK597 := n2_; have HB := n3_; clear n0_ n1_ n2_ n3_; (try clear hb); (try clear hb2); (try clear hk); (try clear hi); have hnb96 := NB596_597.out; have hnc96 := NB597_596.out; have hcz97_0 : w95.cell? ⟨gb596, 0, none⟩ = some (.int .i64 a1_0) := (blk_cell BK596.out 0).trans rfl; have hcz97_1 : w95.cell? ⟨gb596, 1, none⟩ = some (.int .i64 a1_1) := (blk_cell BK596.out 1).trans rfl; have hcz97_2 : w95.cell? ⟨gb596, 2, none⟩ = some (.int .i64 a1_2) := (blk_cell BK596.out 2).trans rfl; have hcz97_3 : w95.cell? ⟨gb596, 3, none⟩ = some (.int .i64 a1_3) := (blk_cell BK596.out 3).trans rfl; have hfz97_0 := blk_frozen BK596.out 0; have hfz97_1 := blk_frozen BK596.out 1; have hfz97_2 := blk_frozen BK596.out 2; have hfz97_3 := blk_frozen BK596.out 3) | ((with_reducible refine gate_dst (N := 18) rfl ?_); (try (refine gate_grd (by rfl) ?_; dsimp only)); refine Kd.R_lit (Kd.int .i64) _ 3 ?hg (N := 18) ?hd (xs := ([a1_0, a1_1] : List Int)) (inner := [.int .i64 a1_0, .int .i64 a1_1]) (ok := fun _ => True) (okp := fun _ => True) ?hr ?hp (fun _ hk => hk) trivial (Below.refl _ _) (Nat.le_refl _) (by simp) ?_; (case hd => rfl); (case hg => rfl); (case hr => first | (go_simp; done) | (go_simp; rfl)); (case hp => exact (Reps.one (show Kd.M (Kd.int .i64) _ _ _ a1_0 [.int .i64 a1_0] from rfl) (Reps.one (show Kd.M (Kd.int .i64) _ _ _ a1_1 [.int .i64 a1_1] from rfl) (Reps.none _ _)))); intro v600 w98 ho99 hb hg_ hnew_; clear hg_ hnew_; (first | rw [← Ny599.out] at ho99 | (simp only [Int.reduceToNat] at ho99; rw [← Ny599.out] at ho99)); have n0_ := Aside0.mk (Kd.R_lower ho99 (below_size (by repeat (first | (with_reducible first | exact HB.out | apply lA_ | apply lN_ | apply lD_ | refine lS_ ?_ GE595.out | refine lS_ ?_ GE596.out | refine lS_ ?_ GE597.out) | exact HB.out)))); have n1_ := Aside0.mk (blk_below (g := gb595) (o := .cells #[.int .i64 a0_0, .int .i64 a0_1, .int .i64 a0_2, .int .i64 a0_3, .int .i64 a0_4, .int .i64 a0_5] 23 (0, 0)) (by (with_reducible repeat (first | refine bN_ ?_ _ | refine bD_ ?_ | refine bA_ ?_ _)); exact BK595.out) hb); have n2_ := Aside0.mk (blk_below (g := gb596) (o := .cells #[.int .i64 a1_0, .int .i64 a1_1, .int .i64 a1_2, .int .i64 a1_3] 44 (0, 0)) (by (with_reducible repeat (first | refine bN_ ?_ _ | refine bD_ ?_ | refine bA_ ?_ _)); exact BK596.out) hb); have n3_ := Aside0.mk (blk_below (g := gb597) (o := .cells #[.int .i64 a2_0, .int .i64 a2_1] 25 (0, 0)) (by (with_reducible repeat (first | refine bN_ ?_ _ | refine bD_ ?_ | refine bA_ ?_ _)); exact BK597.out) hb); have n4_ := Aside0.mk (below_step (by repeat (first | (with_reducible first | exact HB.out | apply lA_ | apply lN_ | apply lD_ | refine lS_ ?_ GE595.out | refine lS_ ?_ GE596.out | refine lS_ ?_ GE597.out) | exact HB.out)) hb); clear BK595; clear BK596; clear BK597; clear HB; have HO601 := n0_; have BK595 := n1_; have BK596 := n2_; have BK597 := n3_; have HB := n4_; clear n0_ n1_ n2_ n3_ n4_; clear hb ho99; obtain ⟨Ao100, co100, eo100⟩ := Kd.R_slice HO601.out; subst eo100) | (go_at_call 25; (with_reducible refine (imageeditorlaw12_within.calls k 256 _ _ y599 true _ ?side1 ?side2 A10.out).mono ?_); (case side1 => repeat (first | exact (Kd.R_reads' HO601.out).2.2 | (with_reducible refine Kd.C_alloc ?_ _) | (with_reducible refine Kd.C_drewN ?_ _) | (with_reducible refine Kd.C_drew ?_))); (case side2 => exact (Kd.R_reads' HO601.out).2.1); rintro e w' ⟨rfl, ⟨nd, rfl⟩⟩; have hcz101_0 : w98.cell? ⟨gb596, 0, none⟩ = some (.int .i64 a1_0) := (blk_cell BK596.out 0).trans rfl; have hcz101_1 : w98.cell? ⟨gb596, 1, none⟩ = some (.int .i64 a1_1) := (blk_cell BK596.out 1).trans rfl; have hcz101_2 : w98.cell? ⟨gb596, 2, none⟩ = some (.int .i64 a1_2) := (blk_cell BK596.out 2).trans rfl; have hcz101_3 : w98.cell? ⟨gb596, 3, none⟩ = some (.int .i64 a1_3) := (blk_cell BK596.out 3).trans rfl; have hfz101_0 := blk_frozen BK596.out 0; have hfz101_1 := blk_frozen BK596.out 1; have hfz101_2 := blk_frozen BK596.out 2; have hfz101_3 := blk_frozen BK596.out 3; have hcz102_0 : w98.cell? ⟨gb597, 0, none⟩ = some (.int .i64 a2_0) := (blk_cell BK597.out 0).trans rfl; have hcz102_1 : w98.cell? ⟨gb597, 1, none⟩ = some (.int .i64 a2_1) := (blk_cell BK597.out 1).trans rfl; have hfz102_0 := blk_frozen BK597.out 0; have hfz102_1 := blk_frozen BK597.out 1))
                      go_meet
                      case rel => exact ⟨_, (decide (a2_1 > (wrap64 ((wrap64 (a1_1 + a1_3)) * 65536)))), (by first | rfl | (simp; done) | (simp [*]; done)), H', ⟨by first | omega | exact Nat.le_refl _⟩, ⟨by (with_reducible repeat (first | refine bN_ ?_ _ | refine bD_ ?_ | refine bA_ ?_ _)); exact BK595.out⟩, ⟨by (with_reducible repeat (first | refine bN_ ?_ _ | refine bD_ ?_ | refine bA_ ?_ _)); exact BK596.out⟩, ⟨by (with_reducible repeat (first | refine bN_ ?_ _ | refine bD_ ?_ | refine bA_ ?_ _)); exact BK597.out⟩, ⟨by repeat (first | (with_reducible first | exact HB.out | apply lA_ | apply lN_ | apply lD_ | refine lS_ ?_ GE595.out | refine lS_ ?_ GE596.out | refine lS_ ?_ GE597.out) | exact HB.out)⟩⟩
      · replace c11 := Bool.eq_false_iff.mpr c11
        subst c11
        have H1 : (imageeditorlaw12_AffineContains.j0 k true a0_0 a0_1 a0_2 a0_3 a0_4 a0_5 a1_0 a1_1 a1_2 a1_3 a2_0 a2_1) = some r := by rw [if_neg (show ¬ (false = true) by decide)] at H; exact H
        clear H
        have H := H1
        clear H1
        have H' := Aside0.mk H
        clear H
        have hnb103 := NB595_596.out
        have hnc103 := NB596_595.out
        have hnb104 := NB595_597.out
        have hnc104 := NB597_595.out
        have hcz105_0 : w7.cell? ⟨gb595, 0, none⟩ = some (.int .i64 a0_0) := (blk_cell BK595.out 0).trans rfl
        have hcz105_1 : w7.cell? ⟨gb595, 1, none⟩ = some (.int .i64 a0_1) := (blk_cell BK595.out 1).trans rfl
        have hcz105_2 : w7.cell? ⟨gb595, 2, none⟩ = some (.int .i64 a0_2) := (blk_cell BK595.out 2).trans rfl
        have hcz105_3 : w7.cell? ⟨gb595, 3, none⟩ = some (.int .i64 a0_3) := (blk_cell BK595.out 3).trans rfl
        have hcz105_4 : w7.cell? ⟨gb595, 4, none⟩ = some (.int .i64 a0_4) := (blk_cell BK595.out 4).trans rfl
        have hcz105_5 : w7.cell? ⟨gb595, 5, none⟩ = some (.int .i64 a0_5) := (blk_cell BK595.out 5).trans rfl
        have hfz105_0 := blk_frozen BK595.out 0
        have hfz105_1 := blk_frozen BK595.out 1
        have hfz105_2 := blk_frozen BK595.out 2
        have hfz105_3 := blk_frozen BK595.out 3
        have hfz105_4 := blk_frozen BK595.out 4
        have hfz105_5 := blk_frozen BK595.out 5
        go_wp2_with (first | ((with_reducible refine gate_callee (f := 27) rfl ?_); refine goesL_ (some 11) rfl rfl Try.func27 (by kernel_rfl) rfl #[.agg #[.int .i64 a0_0, .int .i64 a0_1, .int .i64 a0_2, .int .i64 a0_3, .int .i64 a0_4, .int .i64 a0_5], .int .i64 16777216] rfl (by (try simp only [List.map_toArray, List.map_cons, List.map_nil]); first | done | rfl | (simp only [List.length_drop, List.length_take]; rfl)) ?_; (with_reducible refine (imageeditorlaw12_small.calls k a0_0 a0_1 a0_2 a0_3 a0_4 a0_5 16777216 true _ A8.out).mono ?_); rintro e w106 ⟨rfl, hb⟩; refine ⟨_, rfl, ?_⟩; have n0_ := Aside0.mk (blk_below (g := gb595) (o := .cells #[.int .i64 a0_0, .int .i64 a0_1, .int .i64 a0_2, .int .i64 a0_3, .int .i64 a0_4, .int .i64 a0_5] 23 (0, 0)) (by (with_reducible repeat (first | refine bN_ ?_ _ | refine bD_ ?_ | refine bA_ ?_ _)); exact BK595.out) hb); have n1_ := Aside0.mk (blk_below (g := gb596) (o := .cells #[.int .i64 a1_0, .int .i64 a1_1, .int .i64 a1_2, .int .i64 a1_3] 44 (0, 0)) (by (with_reducible repeat (first | refine bN_ ?_ _ | refine bD_ ?_ | refine bA_ ?_ _)); exact BK596.out) hb); have n2_ := Aside0.mk (blk_below (g := gb597) (o := .cells #[.int .i64 a2_0, .int .i64 a2_1] 25 (0, 0)) (by (with_reducible repeat (first | refine bN_ ?_ _ | refine bD_ ?_ | refine bA_ ?_ _)); exact BK597.out) hb); have n3_ := Aside0.mk (below_step (by repeat (first | (with_reducible first | exact HB.out | apply lA_ | apply lN_ | apply lD_ | refine lS_ ?_ GE595.out | refine lS_ ?_ GE596.out | refine lS_ ?_ GE597.out) | exact HB.out)) hb); clear BK595; clear BK596; clear BK597; clear HB; have BK595 := n0_; have BK596 := n1_; have BK597 := n2_; have HB := n3_; clear n0_ n1_ n2_ n3_; (try clear hb); (try clear hb2); (try clear hk); (try clear hi); have hnb107 := NB596_597.out; have hnc107 := NB597_596.out; have hcz108_0 : w106.cell? ⟨gb596, 0, none⟩ = some (.int .i64 a1_0) := (blk_cell BK596.out 0).trans rfl; have hcz108_1 : w106.cell? ⟨gb596, 1, none⟩ = some (.int .i64 a1_1) := (blk_cell BK596.out 1).trans rfl; have hcz108_2 : w106.cell? ⟨gb596, 2, none⟩ = some (.int .i64 a1_2) := (blk_cell BK596.out 2).trans rfl; have hcz108_3 : w106.cell? ⟨gb596, 3, none⟩ = some (.int .i64 a1_3) := (blk_cell BK596.out 3).trans rfl; have hfz108_0 := blk_frozen BK596.out 0; have hfz108_1 := blk_frozen BK596.out 1; have hfz108_2 := blk_frozen BK596.out 2; have hfz108_3 := blk_frozen BK596.out 3) | ((with_reducible refine gate_dst (N := 18) rfl ?_); (try (refine gate_grd (by rfl) ?_; dsimp only)); refine Kd.R_lit (Kd.int .i64) _ 3 ?hg (N := 18) ?hd (xs := ([a1_0, a1_1] : List Int)) (inner := [.int .i64 a1_0, .int .i64 a1_1]) (ok := fun _ => True) (okp := fun _ => True) ?hr ?hp (fun _ hk => hk) trivial (Below.refl _ _) (Nat.le_refl _) (by simp) ?_; (case hd => rfl); (case hg => rfl); (case hr => first | (go_simp; done) | (go_simp; rfl)); (case hp => exact (Reps.one (show Kd.M (Kd.int .i64) _ _ _ a1_0 [.int .i64 a1_0] from rfl) (Reps.one (show Kd.M (Kd.int .i64) _ _ _ a1_1 [.int .i64 a1_1] from rfl) (Reps.none _ _)))); intro v600 w109 ho110 hb hg_ hnew_; clear hg_ hnew_; (first | rw [← Ny599.out] at ho110 | (simp only [Int.reduceToNat] at ho110; rw [← Ny599.out] at ho110)); have n0_ := Aside0.mk (Kd.R_lower ho110 (below_size (by repeat (first | (with_reducible first | exact HB.out | apply lA_ | apply lN_ | apply lD_ | refine lS_ ?_ GE595.out | refine lS_ ?_ GE596.out | refine lS_ ?_ GE597.out) | exact HB.out)))); have n1_ := Aside0.mk (blk_below (g := gb595) (o := .cells #[.int .i64 a0_0, .int .i64 a0_1, .int .i64 a0_2, .int .i64 a0_3, .int .i64 a0_4, .int .i64 a0_5] 23 (0, 0)) (by (with_reducible repeat (first | refine bN_ ?_ _ | refine bD_ ?_ | refine bA_ ?_ _)); exact BK595.out) hb); have n2_ := Aside0.mk (blk_below (g := gb596) (o := .cells #[.int .i64 a1_0, .int .i64 a1_1, .int .i64 a1_2, .int .i64 a1_3] 44 (0, 0)) (by (with_reducible repeat (first | refine bN_ ?_ _ | refine bD_ ?_ | refine bA_ ?_ _)); exact BK596.out) hb); have n3_ := Aside0.mk (blk_below (g := gb597) (o := .cells #[.int .i64 a2_0, .int .i64 a2_1] 25 (0, 0)) (by (with_reducible repeat (first | refine bN_ ?_ _ | refine bD_ ?_ | refine bA_ ?_ _)); exact BK597.out) hb); have n4_ := Aside0.mk (below_step (by repeat (first | (with_reducible first | exact HB.out | apply lA_ | apply lN_ | apply lD_ | refine lS_ ?_ GE595.out | refine lS_ ?_ GE596.out | refine lS_ ?_ GE597.out) | exact HB.out)) hb); clear BK595; clear BK596; clear BK597; clear HB; have HO601 := n0_; have BK595 := n1_; have BK596 := n2_; have BK597 := n3_; have HB := n4_; clear n0_ n1_ n2_ n3_ n4_; clear hb ho110; obtain ⟨Ao111, co111, eo111⟩ := Kd.R_slice HO601.out; subst eo111) | (go_at_call 25; (with_reducible refine (imageeditorlaw12_within.calls k 256 _ _ y599 false _ ?side1 ?side2 A10.out).mono ?_); (case side1 => repeat (first | exact (Kd.R_reads' HO601.out).2.2 | (with_reducible refine Kd.C_alloc ?_ _) | (with_reducible refine Kd.C_drewN ?_ _) | (with_reducible refine Kd.C_drew ?_))); (case side2 => exact (Kd.R_reads' HO601.out).2.1); rintro e w' ⟨rfl, ⟨nd, rfl⟩⟩))
        go_meet
        case rel => exact ⟨_, (true), (by first | rfl | (simp; done) | (simp [*]; done)), H', ⟨by first | omega | exact Nat.le_refl _⟩, ⟨by (with_reducible repeat (first | refine bN_ ?_ _ | refine bD_ ?_ | refine bA_ ?_ _)); exact BK595.out⟩, ⟨by (with_reducible repeat (first | refine bN_ ?_ _ | refine bD_ ?_ | refine bA_ ?_ _)); exact BK596.out⟩, ⟨by (with_reducible repeat (first | refine bN_ ?_ _ | refine bD_ ?_ | refine bA_ ?_ _)); exact BK597.out⟩, ⟨by repeat (first | (with_reducible first | exact HB.out | apply lA_ | apply lN_ | apply lD_ | refine lS_ ?_ GE595.out | refine lS_ ?_ GE596.out | refine lS_ ?_ GE597.out) | exact HB.out)⟩⟩
    · replace c9 := Bool.eq_false_iff.mpr c9
      subst c9
      have H1 : (imageeditorlaw12_AffineContains.j0 k true a0_0 a0_1 a0_2 a0_3 a0_4 a0_5 a1_0 a1_1 a1_2 a1_3 a2_0 a2_1) = some r := by rw [if_neg (show ¬ (false = true) by decide)] at H; exact H
      clear H
      have H := H1
      clear H1
      have H' := Aside0.mk H
      clear H
      have hnb112 := NB595_596.out
      have hnc112 := NB596_595.out
      have hnb113 := NB595_597.out
      have hnc113 := NB597_595.out
      have hcz114_0 : w7.cell? ⟨gb595, 0, none⟩ = some (.int .i64 a0_0) := (blk_cell BK595.out 0).trans rfl
      have hcz114_1 : w7.cell? ⟨gb595, 1, none⟩ = some (.int .i64 a0_1) := (blk_cell BK595.out 1).trans rfl
      have hcz114_2 : w7.cell? ⟨gb595, 2, none⟩ = some (.int .i64 a0_2) := (blk_cell BK595.out 2).trans rfl
      have hcz114_3 : w7.cell? ⟨gb595, 3, none⟩ = some (.int .i64 a0_3) := (blk_cell BK595.out 3).trans rfl
      have hcz114_4 : w7.cell? ⟨gb595, 4, none⟩ = some (.int .i64 a0_4) := (blk_cell BK595.out 4).trans rfl
      have hcz114_5 : w7.cell? ⟨gb595, 5, none⟩ = some (.int .i64 a0_5) := (blk_cell BK595.out 5).trans rfl
      have hfz114_0 := blk_frozen BK595.out 0
      have hfz114_1 := blk_frozen BK595.out 1
      have hfz114_2 := blk_frozen BK595.out 2
      have hfz114_3 := blk_frozen BK595.out 3
      have hfz114_4 := blk_frozen BK595.out 4
      have hfz114_5 := blk_frozen BK595.out 5
      go_wp2_with (first | ((with_reducible refine gate_callee (f := 27) rfl ?_); refine goesL_ (some 11) rfl rfl Try.func27 (by kernel_rfl) rfl #[.agg #[.int .i64 a0_0, .int .i64 a0_1, .int .i64 a0_2, .int .i64 a0_3, .int .i64 a0_4, .int .i64 a0_5], .int .i64 16777216] rfl (by (try simp only [List.map_toArray, List.map_cons, List.map_nil]); first | done | rfl | (simp only [List.length_drop, List.length_take]; rfl)) ?_; (with_reducible refine (imageeditorlaw12_small.calls k a0_0 a0_1 a0_2 a0_3 a0_4 a0_5 16777216 false _ A8.out).mono ?_); rintro e w115 ⟨rfl, hb⟩; refine ⟨_, rfl, ?_⟩; have n0_ := Aside0.mk (blk_below (g := gb595) (o := .cells #[.int .i64 a0_0, .int .i64 a0_1, .int .i64 a0_2, .int .i64 a0_3, .int .i64 a0_4, .int .i64 a0_5] 23 (0, 0)) (by (with_reducible repeat (first | refine bN_ ?_ _ | refine bD_ ?_ | refine bA_ ?_ _)); exact BK595.out) hb); have n1_ := Aside0.mk (blk_below (g := gb596) (o := .cells #[.int .i64 a1_0, .int .i64 a1_1, .int .i64 a1_2, .int .i64 a1_3] 44 (0, 0)) (by (with_reducible repeat (first | refine bN_ ?_ _ | refine bD_ ?_ | refine bA_ ?_ _)); exact BK596.out) hb); have n2_ := Aside0.mk (blk_below (g := gb597) (o := .cells #[.int .i64 a2_0, .int .i64 a2_1] 25 (0, 0)) (by (with_reducible repeat (first | refine bN_ ?_ _ | refine bD_ ?_ | refine bA_ ?_ _)); exact BK597.out) hb); have n3_ := Aside0.mk (below_step (by repeat (first | (with_reducible first | exact HB.out | apply lA_ | apply lN_ | apply lD_ | refine lS_ ?_ GE595.out | refine lS_ ?_ GE596.out | refine lS_ ?_ GE597.out) | exact HB.out)) hb); clear BK595; clear BK596; clear BK597; clear HB; have BK595 := n0_; have BK596 := n1_; have BK597 := n2_; have HB := n3_; clear n0_ n1_ n2_ n3_; (try clear hb); (try clear hb2); (try clear hk); (try clear hi)))
      go_meet
      case rel => exact ⟨_, (true), (by first | rfl | (simp; done) | (simp [*]; done)), H', ⟨by first | omega | exact Nat.le_refl _⟩, ⟨by (with_reducible repeat (first | refine bN_ ?_ _ | refine bD_ ?_ | refine bA_ ?_ _)); exact BK595.out⟩, ⟨by (with_reducible repeat (first | refine bN_ ?_ _ | refine bD_ ?_ | refine bA_ ?_ _)); exact BK596.out⟩, ⟨by (with_reducible repeat (first | refine bN_ ?_ _ | refine bD_ ?_ | refine bA_ ?_ _)); exact BK597.out⟩, ⟨by repeat (first | (with_reducible first | exact HB.out | apply lA_ | apply lN_ | apply lD_ | refine lS_ ?_ GE595.out | refine lS_ ?_ GE596.out | refine lS_ ?_ GE597.out) | exact HB.out)⟩⟩
  clear HC4
  try clear c1
  try clear c2
  try clear p2
  try clear c3
  try clear c4
  try clear c5
  try clear c6
  try clear p6
  try clear c7
  try clear c8
  try clear c9
  try clear c10
  try clear c11
  try clear c12
  try clear c12b0
  try clear c13
  try clear c14
  try clear c17
  try clear c23
  try clear c23b0
  try clear c24
  try clear c25
  try clear c27
  try clear c28
  try clear c34
  try clear c34b0
  try clear c35
  try clear c36
  try clear c39
  try clear c45
  try clear c45b0
  try clear c46
  try clear c47
  try clear c50
  try clear c56
  try clear c56b0
  try clear c57
  try clear c58
  try clear c61
  try clear p64
  try clear c68
  try clear c68b0
  try clear c69
  try clear c70
  try clear c73
  try clear c80
  try clear c80b0
  try clear c81
  try clear c82
  try clear c85
  try clear c92
  try clear c93
  try clear c96
  try clear c103
  try clear c104
  try clear c107
  try clear c112
  try clear c113
  try clear hcz101_0
  try clear hcz101_1
  try clear hcz101_2
  try clear hcz101_3
  try clear hcz102_0
  try clear hcz102_1
  try clear hcz105_0
  try clear hcz105_1
  try clear hcz105_2
  try clear hcz105_3
  try clear hcz105_4
  try clear hcz105_5
  try clear hcz108_0
  try clear hcz108_1
  try clear hcz108_2
  try clear hcz108_3
  try clear hcz114_0
  try clear hcz114_1
  try clear hcz114_2
  try clear hcz114_3
  try clear hcz114_4
  try clear hcz114_5
  try clear hcz15_0
  try clear hcz15_1
  try clear hcz15_2
  try clear hcz15_3
  try clear hcz15_4
  try clear hcz15_5
  try clear hcz18_0
  try clear hcz18_1
  try clear hcz18_2
  try clear hcz18_3
  try clear hcz22_0
  try clear hcz22_1
  try clear hcz22_2
  try clear hcz22_3
  try clear hcz26_0
  try clear hcz26_1
  try clear hcz26_2
  try clear hcz26_3
  try clear hcz26_4
  try clear hcz26_5
  try clear hcz29_0
  try clear hcz29_1
  try clear hcz29_2
  try clear hcz29_3
  try clear hcz33_0
  try clear hcz33_1
  try clear hcz33_2
  try clear hcz33_3
  try clear hcz37_0
  try clear hcz37_1
  try clear hcz37_2
  try clear hcz37_3
  try clear hcz37_4
  try clear hcz37_5
  try clear hcz40_0
  try clear hcz40_1
  try clear hcz40_2
  try clear hcz40_3
  try clear hcz44_0
  try clear hcz44_1
  try clear hcz44_2
  try clear hcz44_3
  try clear hcz48_0
  try clear hcz48_1
  try clear hcz48_2
  try clear hcz48_3
  try clear hcz48_4
  try clear hcz48_5
  try clear hcz51_0
  try clear hcz51_1
  try clear hcz51_2
  try clear hcz51_3
  try clear hcz55_0
  try clear hcz55_1
  try clear hcz55_2
  try clear hcz55_3
  try clear hcz59_0
  try clear hcz59_1
  try clear hcz59_2
  try clear hcz59_3
  try clear hcz59_4
  try clear hcz59_5
  try clear hcz62_0
  try clear hcz62_1
  try clear hcz62_2
  try clear hcz62_3
  try clear hcz66_0
  try clear hcz66_1
  try clear hcz66_2
  try clear hcz66_3
  try clear hcz67_0
  try clear hcz67_1
  try clear hcz71_0
  try clear hcz71_1
  try clear hcz71_2
  try clear hcz71_3
  try clear hcz71_4
  try clear hcz71_5
  try clear hcz74_0
  try clear hcz74_1
  try clear hcz74_2
  try clear hcz74_3
  try clear hcz78_0
  try clear hcz78_1
  try clear hcz78_2
  try clear hcz78_3
  try clear hcz79_0
  try clear hcz79_1
  try clear hcz83_0
  try clear hcz83_1
  try clear hcz83_2
  try clear hcz83_3
  try clear hcz83_4
  try clear hcz83_5
  try clear hcz86_0
  try clear hcz86_1
  try clear hcz86_2
  try clear hcz86_3
  try clear hcz90_0
  try clear hcz90_1
  try clear hcz90_2
  try clear hcz90_3
  try clear hcz91_0
  try clear hcz91_1
  try clear hcz94_0
  try clear hcz94_1
  try clear hcz94_2
  try clear hcz94_3
  try clear hcz94_4
  try clear hcz94_5
  try clear hcz97_0
  try clear hcz97_1
  try clear hcz97_2
  try clear hcz97_3
  try clear hfz101_0
  try clear hfz101_1
  try clear hfz101_2
  try clear hfz101_3
  try clear hfz102_0
  try clear hfz102_1
  try clear hfz105_0
  try clear hfz105_1
  try clear hfz105_2
  try clear hfz105_3
  try clear hfz105_4
  try clear hfz105_5
  try clear hfz108_0
  try clear hfz108_1
  try clear hfz108_2
  try clear hfz108_3
  try clear hfz114_0
  try clear hfz114_1
  try clear hfz114_2
  try clear hfz114_3
  try clear hfz114_4
  try clear hfz114_5
  try clear hfz15_0
  try clear hfz15_1
  try clear hfz15_2
  try clear hfz15_3
  try clear hfz15_4
  try clear hfz15_5
  try clear hfz18_0
  try clear hfz18_1
  try clear hfz18_2
  try clear hfz18_3
  try clear hfz22_0
  try clear hfz22_1
  try clear hfz22_2
  try clear hfz22_3
  try clear hfz26_0
  try clear hfz26_1
  try clear hfz26_2
  try clear hfz26_3
  try clear hfz26_4
  try clear hfz26_5
  try clear hfz29_0
  try clear hfz29_1
  try clear hfz29_2
  try clear hfz29_3
  try clear hfz33_0
  try clear hfz33_1
  try clear hfz33_2
  try clear hfz33_3
  try clear hfz37_0
  try clear hfz37_1
  try clear hfz37_2
  try clear hfz37_3
  try clear hfz37_4
  try clear hfz37_5
  try clear hfz40_0
  try clear hfz40_1
  try clear hfz40_2
  try clear hfz40_3
  try clear hfz44_0
  try clear hfz44_1
  try clear hfz44_2
  try clear hfz44_3
  try clear hfz48_0
  try clear hfz48_1
  try clear hfz48_2
  try clear hfz48_3
  try clear hfz48_4
  try clear hfz48_5
  try clear hfz51_0
  try clear hfz51_1
  try clear hfz51_2
  try clear hfz51_3
  try clear hfz55_0
  try clear hfz55_1
  try clear hfz55_2
  try clear hfz55_3
  try clear hfz59_0
  try clear hfz59_1
  try clear hfz59_2
  try clear hfz59_3
  try clear hfz59_4
  try clear hfz59_5
  try clear hfz62_0
  try clear hfz62_1
  try clear hfz62_2
  try clear hfz62_3
  try clear hfz66_0
  try clear hfz66_1
  try clear hfz66_2
  try clear hfz66_3
  try clear hfz67_0
  try clear hfz67_1
  try clear hfz71_0
  try clear hfz71_1
  try clear hfz71_2
  try clear hfz71_3
  try clear hfz71_4
  try clear hfz71_5
  try clear hfz74_0
  try clear hfz74_1
  try clear hfz74_2
  try clear hfz74_3
  try clear hfz78_0
  try clear hfz78_1
  try clear hfz78_2
  try clear hfz78_3
  try clear hfz79_0
  try clear hfz79_1
  try clear hfz83_0
  try clear hfz83_1
  try clear hfz83_2
  try clear hfz83_3
  try clear hfz83_4
  try clear hfz83_5
  try clear hfz86_0
  try clear hfz86_1
  try clear hfz86_2
  try clear hfz86_3
  try clear hfz90_0
  try clear hfz90_1
  try clear hfz90_2
  try clear hfz90_3
  try clear hfz91_0
  try clear hfz91_1
  try clear hfz94_0
  try clear hfz94_1
  try clear hfz94_2
  try clear hfz94_3
  try clear hfz94_4
  try clear hfz94_5
  try clear hfz97_0
  try clear hfz97_1
  try clear hfz97_2
  try clear hfz97_3
  obtain ⟨kq, x79_3, rfl, HA, HJ3, BK595, BK596, BK597, HB⟩ := hcut
  cases kq with
  | zero => exact absurd HA.out (by simp [imageeditorlaw12_AffineContains.j0])
  | succ kj3 =>
    have H := HA.out
    clear HA
    simp only [imageeditorlaw12_AffineContains.j0] at H
    by_cases c116 : x79_3 = true
    · subst c116
      have H1 : ((imageeditorlaw12_awake.f kj3).bind fun t603 => (some t603)) = some r := by rw [if_pos rfl] at H; exact H
      clear H
      have H := H1
      clear H1
      replace H := Option.bind_eq_some_iff.mp H
      obtain ⟨t603, A1170, H⟩ := H
      replace H : (some t603) = some r := H
      have A117 := Aside0.mk A1170
      clear A1170
      obtain rfl := Option.some.inj H
      go_wp2_with (first | ((with_reducible refine gate_callee (f := 14) rfl ?_); refine goesL_ (some 80) rfl rfl Try.func14 (by kernel_rfl) rfl #[] rfl (by (try simp only [List.map_toArray, List.map_cons, List.map_nil]); first | done | rfl | (simp only [List.length_drop, List.length_take]; rfl)) ?_; (with_reducible refine (imageeditorlaw12_awake.calls kj3  t603 _ A117.out).mono ?_); rintro e w118 ⟨rfl, hb⟩; refine ⟨_, rfl, ?_⟩; have n0_ := Aside0.mk (blk_below (g := gb595) (o := .cells #[.int .i64 a0_0, .int .i64 a0_1, .int .i64 a0_2, .int .i64 a0_3, .int .i64 a0_4, .int .i64 a0_5] 23 (0, 0)) (by (with_reducible repeat (first | refine bN_ ?_ _ | refine bD_ ?_ | refine bA_ ?_ _)); exact BK595.out) hb); have n1_ := Aside0.mk (blk_below (g := gb596) (o := .cells #[.int .i64 a1_0, .int .i64 a1_1, .int .i64 a1_2, .int .i64 a1_3] 44 (0, 0)) (by (with_reducible repeat (first | refine bN_ ?_ _ | refine bD_ ?_ | refine bA_ ?_ _)); exact BK596.out) hb); have n2_ := Aside0.mk (blk_below (g := gb597) (o := .cells #[.int .i64 a2_0, .int .i64 a2_1] 25 (0, 0)) (by (with_reducible repeat (first | refine bN_ ?_ _ | refine bD_ ?_ | refine bA_ ?_ _)); exact BK597.out) hb); have n3_ := Aside0.mk (below_step (by repeat (first | (with_reducible first | exact HB.out | apply lA_ | apply lN_ | apply lD_ | refine lS_ ?_ GE595.out | refine lS_ ?_ GE596.out | refine lS_ ?_ GE597.out) | exact HB.out)) hb); clear BK595; clear BK596; clear BK597; clear HB; have BK595 := n0_; have BK596 := n1_; have BK597 := n2_; have HB := n3_; clear n0_ n1_ n2_ n3_; (try clear hb); (try clear hb2); (try clear hk); (try clear hi)))
      go_ret
      exact ⟨by first | rfl | (simp [errW_none, errW_some] <;> rfl) | (simp [*, errW_none, errW_some] <;> rfl), by repeat (first | (with_reducible first | exact HB.out | apply lA_ | apply lN_ | apply lD_ | refine lS_ ?_ GE595.out | refine lS_ ?_ GE596.out | refine lS_ ?_ GE597.out) | exact HB.out)⟩
    · replace c116 := Bool.eq_false_iff.mpr c116
      subst c116
      have H1 : ((affine_Box.f kj3 a0_0 a0_1 a0_2 a0_3 a0_4 a0_5 a1_0 a1_1 a1_2 a1_3).bind fun bt604 => (if bt604.2.2.2.2 = 0 then ((imageeditorlaw12_within.f kj3 1048576 (([bt604.1, bt604.2.1, bt604.2.2.1, bt604.2.2.2.1] : List Int))).bind fun t613 => (if t613 = true then (if bt604.2.2.1 < 0 then (imageeditorlaw12_AffineContains.j1 kj3 true a0_0 a0_1 a0_2 a0_3 a0_4 a0_5 a2_0 a2_1 bt604.1 bt604.2.1 bt604.2.2.1 bt604.2.2.2.1) else (imageeditorlaw12_AffineContains.j1 kj3 (decide (bt604.2.2.2.1 < 0)) a0_0 a0_1 a0_2 a0_3 a0_4 a0_5 a2_0 a2_1 bt604.1 bt604.2.1 bt604.2.2.1 bt604.2.2.2.1)) else (imageeditorlaw12_AffineContains.j1 kj3 true a0_0 a0_1 a0_2 a0_3 a0_4 a0_5 a2_0 a2_1 bt604.1 bt604.2.1 bt604.2.2.1 bt604.2.2.2.1))) else (imageeditorlaw12_AffineContains.j1 kj3 true a0_0 a0_1 a0_2 a0_3 a0_4 a0_5 a2_0 a2_1 bt604.1 bt604.2.1 bt604.2.2.1 bt604.2.2.2.1))) = some r := by rw [if_neg (show ¬ (false = true) by decide)] at H; exact H
      clear H
      have H := H1
      clear H1
      replace H := Option.bind_eq_some_iff.mp H
      obtain ⟨⟨t604, t605, t606, t607, t608⟩, A1190, H⟩ := H
      replace H : (if t608 = 0 then ((imageeditorlaw12_within.f kj3 1048576 (([t604, t605, t606, t607] : List Int))).bind fun t613 => (if t613 = true then (if t606 < 0 then (imageeditorlaw12_AffineContains.j1 kj3 true a0_0 a0_1 a0_2 a0_3 a0_4 a0_5 a2_0 a2_1 t604 t605 t606 t607) else (imageeditorlaw12_AffineContains.j1 kj3 (decide (t607 < 0)) a0_0 a0_1 a0_2 a0_3 a0_4 a0_5 a2_0 a2_1 t604 t605 t606 t607)) else (imageeditorlaw12_AffineContains.j1 kj3 true a0_0 a0_1 a0_2 a0_3 a0_4 a0_5 a2_0 a2_1 t604 t605 t606 t607))) else (imageeditorlaw12_AffineContains.j1 kj3 true a0_0 a0_1 a0_2 a0_3 a0_4 a0_5 a2_0 a2_1 t604 t605 t606 t607)) = some r := H
      have A119 := Aside0.mk A1190
      clear A1190
      have HC120 := Aside0.mk H
      clear H
      have hnb121 := NB595_596.out
      have hnc121 := NB596_595.out
      have hnb122 := NB595_597.out
      have hnc122 := NB597_595.out
      have hcz123_0 : wc.cell? ⟨gb595, 0, none⟩ = some (.int .i64 a0_0) := (blk_cell BK595.out 0).trans rfl
      have hcz123_1 : wc.cell? ⟨gb595, 1, none⟩ = some (.int .i64 a0_1) := (blk_cell BK595.out 1).trans rfl
      have hcz123_2 : wc.cell? ⟨gb595, 2, none⟩ = some (.int .i64 a0_2) := (blk_cell BK595.out 2).trans rfl
      have hcz123_3 : wc.cell? ⟨gb595, 3, none⟩ = some (.int .i64 a0_3) := (blk_cell BK595.out 3).trans rfl
      have hcz123_4 : wc.cell? ⟨gb595, 4, none⟩ = some (.int .i64 a0_4) := (blk_cell BK595.out 4).trans rfl
      have hcz123_5 : wc.cell? ⟨gb595, 5, none⟩ = some (.int .i64 a0_5) := (blk_cell BK595.out 5).trans rfl
      have hfz123_0 := blk_frozen BK595.out 0
      have hfz123_1 := blk_frozen BK595.out 1
      have hfz123_2 := blk_frozen BK595.out 2
      have hfz123_3 := blk_frozen BK595.out 3
      have hfz123_4 := blk_frozen BK595.out 4
      have hfz123_5 := blk_frozen BK595.out 5
      have hnb124 := NB596_597.out
      have hnc124 := NB597_596.out
      have hcz125_0 : wc.cell? ⟨gb596, 0, none⟩ = some (.int .i64 a1_0) := (blk_cell BK596.out 0).trans rfl
      have hcz125_1 : wc.cell? ⟨gb596, 1, none⟩ = some (.int .i64 a1_1) := (blk_cell BK596.out 1).trans rfl
      have hcz125_2 : wc.cell? ⟨gb596, 2, none⟩ = some (.int .i64 a1_2) := (blk_cell BK596.out 2).trans rfl
      have hcz125_3 : wc.cell? ⟨gb596, 3, none⟩ = some (.int .i64 a1_3) := (blk_cell BK596.out 3).trans rfl
      have hfz125_0 := blk_frozen BK596.out 0
      have hfz125_1 := blk_frozen BK596.out 1
      have hfz125_2 := blk_frozen BK596.out 2
      have hfz125_3 := blk_frozen BK596.out 3
      go_upto_region 4 with (first | ((with_reducible refine gate_callee (f := 28) rfl ?_); refine goesL_ (some 84) rfl rfl Try.func28 (by kernel_rfl) rfl #[.agg #[.int .i64 a0_0, .int .i64 a0_1, .int .i64 a0_2, .int .i64 a0_3, .int .i64 a0_4, .int .i64 a0_5], .agg #[.int .i64 a1_0, .int .i64 a1_1, .int .i64 a1_2, .int .i64 a1_3]] rfl (by (try simp only [List.map_toArray, List.map_cons, List.map_nil]); first | done | rfl | (simp only [List.length_drop, List.length_take]; rfl)) ?_; (with_reducible refine (affine_Box.calls kj3 a0_0 a0_1 a0_2 a0_3 a0_4 a0_5 a1_0 a1_1 a1_2 a1_3 t604 t605 t606 t607 t608 _ A119.out).mono ?_); rintro e w126 ⟨rfl, hb⟩; refine ⟨_, rfl, ?_⟩; have n0_ := Aside0.mk (blk_below (g := gb595) (o := .cells #[.int .i64 a0_0, .int .i64 a0_1, .int .i64 a0_2, .int .i64 a0_3, .int .i64 a0_4, .int .i64 a0_5] 23 (0, 0)) (by (with_reducible repeat (first | refine bN_ ?_ _ | refine bD_ ?_ | refine bA_ ?_ _)); exact BK595.out) hb); have n1_ := Aside0.mk (blk_below (g := gb596) (o := .cells #[.int .i64 a1_0, .int .i64 a1_1, .int .i64 a1_2, .int .i64 a1_3] 44 (0, 0)) (by (with_reducible repeat (first | refine bN_ ?_ _ | refine bD_ ?_ | refine bA_ ?_ _)); exact BK596.out) hb); have n2_ := Aside0.mk (blk_below (g := gb597) (o := .cells #[.int .i64 a2_0, .int .i64 a2_1] 25 (0, 0)) (by (with_reducible repeat (first | refine bN_ ?_ _ | refine bD_ ?_ | refine bA_ ?_ _)); exact BK597.out) hb); have n3_ := Aside0.mk (below_step (by repeat (first | (with_reducible first | exact HB.out | apply lA_ | apply lN_ | apply lD_ | refine lS_ ?_ GE595.out | refine lS_ ?_ GE596.out | refine lS_ ?_ GE597.out) | exact HB.out)) hb); clear BK595; clear BK596; clear BK597; clear HB; have BK595 := n0_; have BK596 := n1_; have BK597 := n2_; have HB := n3_; clear n0_ n1_ n2_ n3_; (try clear hb); (try clear hb2); (try clear hk); (try clear hi)) | ((with_reducible refine gate_dst (N := 7) rfl ?_); (try (refine gate_grd (by rfl) ?_; dsimp only)); refine box_event ?hg (N := 7) ?hd (cs := #[.int .i64 0, .int .i64 0, .int .i64 0, .int .i64 0]) (t := 44) ?hr ?_; (case hd => rfl); (case hg => rfl); (case hr => first | (go_simp; done) | (go_simp; rfl)); intro gb609 hg w127 hbox hb; have n0_ := Aside0.mk (blk_below (g := gb595) (o := .cells #[.int .i64 a0_0, .int .i64 a0_1, .int .i64 a0_2, .int .i64 a0_3, .int .i64 a0_4, .int .i64 a0_5] 23 (0, 0)) (by (with_reducible repeat (first | refine bN_ ?_ _ | refine bD_ ?_ | refine bA_ ?_ _)); exact BK595.out) hb); have n1_ := Aside0.mk (blk_below (g := gb596) (o := .cells #[.int .i64 a1_0, .int .i64 a1_1, .int .i64 a1_2, .int .i64 a1_3] 44 (0, 0)) (by (with_reducible repeat (first | refine bN_ ?_ _ | refine bD_ ?_ | refine bA_ ?_ _)); exact BK596.out) hb); have n2_ := Aside0.mk (blk_below (g := gb597) (o := .cells #[.int .i64 a2_0, .int .i64 a2_1] 25 (0, 0)) (by (with_reducible repeat (first | refine bN_ ?_ _ | refine bD_ ?_ | refine bA_ ?_ _)); exact BK597.out) hb); have n3_ := Aside0.mk (below_step (by repeat (first | (with_reducible first | exact HB.out | apply lA_ | apply lN_ | apply lD_ | refine lS_ ?_ GE595.out | refine lS_ ?_ GE596.out | refine lS_ ?_ GE597.out) | exact HB.out)) hb); have n4_ := Aside0.mk (hbox); have n5_ := Aside0.mk ((by rw [hg]; exact (below_size (by repeat (first | (with_reducible first | exact HB.out | apply lA_ | apply lN_ | apply lD_ | refine lS_ ?_ GE595.out | refine lS_ ?_ GE596.out | refine lS_ ?_ GE597.out) | exact HB.out))) : w.heap.size ≤ gb609)); have n6_ := Aside0.mk ((by rw [hg]; exact (below_size (by repeat (first | (with_reducible first | exact HB.out | apply lA_ | apply lN_ | apply lD_ | refine lS_ ?_ GE595.out | refine lS_ ?_ GE596.out | refine lS_ ?_ GE597.out) | exact HB.out))) : w.heap.size ≤ gb609)); have n7_ := Aside0.mk ((by rw [hg]; exact Nat.ne_of_lt (blk_lt (g := gb595) (o := .cells #[.int .i64 a0_0, .int .i64 a0_1, .int .i64 a0_2, .int .i64 a0_3, .int .i64 a0_4, .int .i64 a0_5] 23 (0, 0)) (by (with_reducible repeat (first | refine bN_ ?_ _ | refine bD_ ?_ | refine bA_ ?_ _)); exact BK595.out)) : gb595 ≠ gb609)); have n8_ := Aside0.mk ((by rw [hg]; exact Nat.ne_of_gt (blk_lt (g := gb595) (o := .cells #[.int .i64 a0_0, .int .i64 a0_1, .int .i64 a0_2, .int .i64 a0_3, .int .i64 a0_4, .int .i64 a0_5] 23 (0, 0)) (by (with_reducible repeat (first | refine bN_ ?_ _ | refine bD_ ?_ | refine bA_ ?_ _)); exact BK595.out)) : gb609 ≠ gb595)); have n9_ := Aside0.mk ((by rw [hg]; exact Nat.ne_of_lt (blk_lt (g := gb596) (o := .cells #[.int .i64 a1_0, .int .i64 a1_1, .int .i64 a1_2, .int .i64 a1_3] 44 (0, 0)) (by (with_reducible repeat (first | refine bN_ ?_ _ | refine bD_ ?_ | refine bA_ ?_ _)); exact BK596.out)) : gb596 ≠ gb609)); have n10_ := Aside0.mk ((by rw [hg]; exact Nat.ne_of_gt (blk_lt (g := gb596) (o := .cells #[.int .i64 a1_0, .int .i64 a1_1, .int .i64 a1_2, .int .i64 a1_3] 44 (0, 0)) (by (with_reducible repeat (first | refine bN_ ?_ _ | refine bD_ ?_ | refine bA_ ?_ _)); exact BK596.out)) : gb609 ≠ gb596)); have n11_ := Aside0.mk ((by rw [hg]; exact Nat.ne_of_lt (blk_lt (g := gb597) (o := .cells #[.int .i64 a2_0, .int .i64 a2_1] 25 (0, 0)) (by (with_reducible repeat (first | refine bN_ ?_ _ | refine bD_ ?_ | refine bA_ ?_ _)); exact BK597.out)) : gb597 ≠ gb609)); have n12_ := Aside0.mk ((by rw [hg]; exact Nat.ne_of_gt (blk_lt (g := gb597) (o := .cells #[.int .i64 a2_0, .int .i64 a2_1] 25 (0, 0)) (by (with_reducible repeat (first | refine bN_ ?_ _ | refine bD_ ?_ | refine bA_ ?_ _)); exact BK597.out)) : gb609 ≠ gb597)); clear BK595; clear BK596; clear BK597; clear HB; have BK595 := n0_; have BK596 := n1_; have BK597 := n2_; have HB := n3_; have BK609 := n4_; have GW609 := n5_; have GE609 := n6_; have NB595_609 := n7_; have NB609_595 := n8_; have NB596_609 := n9_; have NB609_596 := n10_; have NB597_609 := n11_; have NB609_597 := n12_; clear n0_ n1_ n2_ n3_ n4_ n5_ n6_ n7_ n8_ n9_ n10_ n11_ n12_; clear hb hbox hg; have hnb128 := NB609_595.out; have hnc128 := NB595_609.out; have hnb129 := NB609_596.out; have hnc129 := NB596_609.out; have hnb130 := NB609_597.out; have hnc130 := NB597_609.out; have hcz131_0 : w127.cell? ⟨gb609, 0, none⟩ = some (.int .i64 0) := (blk_cell BK609.out 0).trans rfl; have hcz131_1 : w127.cell? ⟨gb609, 1, none⟩ = some (.int .i64 0) := (blk_cell BK609.out 1).trans rfl; have hcz131_2 : w127.cell? ⟨gb609, 2, none⟩ = some (.int .i64 0) := (blk_cell BK609.out 2).trans rfl; have hcz131_3 : w127.cell? ⟨gb609, 3, none⟩ = some (.int .i64 0) := (blk_cell BK609.out 3).trans rfl; have hfz131_0 := blk_frozen BK609.out 0; have hfz131_1 := blk_frozen BK609.out 1; have hfz131_2 := blk_frozen BK609.out 2; have hfz131_3 := blk_frozen BK609.out 3))
      (try simp only [Act.put, tS_, tZ_, tC_])
      go_cut [111] (fun v111 wc => ∃ (kq : Nat) (x111_119 : Bool), v111 = .bool x111_119 ∧ Aside0 (imageeditorlaw12_AffineContains.j1 kq x111_119 a0_0 a0_1 a0_2 a0_3 a0_4 a0_5 a2_0 a2_1 t604 t605 t606 t607 = some r) ∧ Aside0 (kq ≤ kj3) ∧ Aside0 (wc.heap[gb595]? = some (.cells #[.int .i64 a0_0, .int .i64 a0_1, .int .i64 a0_2, .int .i64 a0_3, .int .i64 a0_4, .int .i64 a0_5] 23 (0, 0))) ∧ Aside0 (wc.heap[gb596]? = some (.cells #[.int .i64 a1_0, .int .i64 a1_1, .int .i64 a1_2, .int .i64 a1_3] 44 (0, 0))) ∧ Aside0 (wc.heap[gb597]? = some (.cells #[.int .i64 a2_0, .int .i64 a2_1] 25 (0, 0))) ∧ Aside0 (wc.heap[gb609]? = some (.cells #[.int .i64 t604, .int .i64 t605, .int .i64 t606, .int .i64 t607] 44 (0, 0))) ∧ Aside0 (Below w.heap.size w wc))
      case first =>
        have H := HC120.out
        clear HC120
        by_cases c132 : t608 = 0
        · rw [if_pos c132] at H
          have c132b0 : (t608 == 0) = true := beq_iff_eq.mpr c132
          have c132b1 : (t608 != 0) = false := bne_eq_false_iff_eq.mpr c132
          clear c132
          (first | rw [c132b0] | (simp only [i64_w, i32_w]; rw [c132b0]) | skip)
          obtain ⟨y610, hy610⟩ : ∃ y_ : List Int, y_ = (([t604, t605, t606, t607] : List Int)) := ⟨_, rfl⟩
          replace H : ((imageeditorlaw12_within.f kj3 1048576 y610).bind fun t613 => (if t613 = true then (if t606 < 0 then (imageeditorlaw12_AffineContains.j1 kj3 true a0_0 a0_1 a0_2 a0_3 a0_4 a0_5 a2_0 a2_1 t604 t605 t606 t607) else (imageeditorlaw12_AffineContains.j1 kj3 (decide (t607 < 0)) a0_0 a0_1 a0_2 a0_3 a0_4 a0_5 a2_0 a2_1 t604 t605 t606 t607)) else (imageeditorlaw12_AffineContains.j1 kj3 true a0_0 a0_1 a0_2 a0_3 a0_4 a0_5 a2_0 a2_1 t604 t605 t606 t607))) = some r := by first | (rw [hy610]; with_reducible exact H) | (have H2_ := (Option.bind_some _ _).symm.trans H; rw [hy610]; with_reducible exact H2_) | (have H2_ := (Option.bind_some _ _).symm.trans H; with_reducible exact H2_) | with_reducible exact H | (rw [hy610]; exact H) | exact H
          have Ny610 := Aside0.mk hy610
          clear hy610
          replace H := Option.bind_eq_some_iff.mp H
          obtain ⟨t613, A1330, H⟩ := H
          replace H : (if t613 = true then (if t606 < 0 then (imageeditorlaw12_AffineContains.j1 kj3 true a0_0 a0_1 a0_2 a0_3 a0_4 a0_5 a2_0 a2_1 t604 t605 t606 t607) else (imageeditorlaw12_AffineContains.j1 kj3 (decide (t607 < 0)) a0_0 a0_1 a0_2 a0_3 a0_4 a0_5 a2_0 a2_1 t604 t605 t606 t607)) else (imageeditorlaw12_AffineContains.j1 kj3 true a0_0 a0_1 a0_2 a0_3 a0_4 a0_5 a2_0 a2_1 t604 t605 t606 t607)) = some r := H
          have A133 := Aside0.mk A1330
          clear A1330
          by_cases c134 : t613 = true
          · subst c134
            have H1 : (if t606 < 0 then (imageeditorlaw12_AffineContains.j1 kj3 true a0_0 a0_1 a0_2 a0_3 a0_4 a0_5 a2_0 a2_1 t604 t605 t606 t607) else (imageeditorlaw12_AffineContains.j1 kj3 (decide (t607 < 0)) a0_0 a0_1 a0_2 a0_3 a0_4 a0_5 a2_0 a2_1 t604 t605 t606 t607)) = some r := by rw [if_pos rfl] at H; exact H
            clear H
            have H := H1
            clear H1
            by_cases c135 : t606 < 0
            · rw [if_pos c135] at H
              have c135b0 : decide (t606 < 0) = true := decide_eq_true c135
              clear c135
              have H' := Aside0.mk H
              clear H
              have hnb136 := NB609_595.out
              have hnc136 := NB595_609.out
              have hnb137 := NB609_596.out
              have hnc137 := NB596_609.out
              have hnb138 := NB609_597.out
              have hnc138 := NB597_609.out
              have hcz139_0 : w127.cell? ⟨gb609, 0, none⟩ = some (.int .i64 0) := (blk_cell BK609.out 0).trans rfl
              have hcz139_1 : w127.cell? ⟨gb609, 1, none⟩ = some (.int .i64 0) := (blk_cell BK609.out 1).trans rfl
              have hcz139_2 : w127.cell? ⟨gb609, 2, none⟩ = some (.int .i64 0) := (blk_cell BK609.out 2).trans rfl
              have hcz139_3 : w127.cell? ⟨gb609, 3, none⟩ = some (.int .i64 0) := (blk_cell BK609.out 3).trans rfl
              have hfz139_0 := blk_frozen BK609.out 0
              have hfz139_1 := blk_frozen BK609.out 1
              have hfz139_2 := blk_frozen BK609.out 2
              have hfz139_3 := blk_frozen BK609.out 3
              go_wp2_with (first | ((with_reducible refine gate_dst (N := 98) rfl ?_); (try (refine gate_grd (by rfl) ?_; dsimp only)); refine Kd.R_lit (Kd.int .i64) _ 3 ?hg (N := 98) ?hd (xs := ([t604, t605, t606, t607] : List Int)) (inner := [.int .i64 t604, .int .i64 t605, .int .i64 t606, .int .i64 t607]) (ok := fun _ => True) (okp := fun _ => True) ?hr ?hp (fun _ hk => hk) trivial (Below.refl _ _) (Nat.le_refl _) (by simp) ?_; (case hd => rfl); (case hg => rfl); (case hr => first | (go_simp; done) | (go_simp; rfl)); (case hp => exact (Reps.one (show Kd.M (Kd.int .i64) _ _ _ t604 [.int .i64 t604] from rfl) (Reps.one (show Kd.M (Kd.int .i64) _ _ _ t605 [.int .i64 t605] from rfl) (Reps.one (show Kd.M (Kd.int .i64) _ _ _ t606 [.int .i64 t606] from rfl) (Reps.one (show Kd.M (Kd.int .i64) _ _ _ t607 [.int .i64 t607] from rfl) (Reps.none _ _)))))); intro v611 w140 ho141 hb hg_ hnew_; clear hg_ hnew_; (first | rw [← Ny610.out] at ho141 | (simp only [Int.reduceToNat] at ho141; rw [← Ny610.out] at ho141)); have n0_ := Aside0.mk (Kd.R_lower ho141 (below_size (by repeat (first | (with_reducible first | exact HB.out | apply lA_ | apply lN_ | apply lD_ | refine lS_ ?_ GE595.out | refine lS_ ?_ GE596.out | refine lS_ ?_ GE597.out | refine lS_ ?_ GE609.out) | exact HB.out)))); have n1_ := Aside0.mk (blk_below (g := gb595) (o := .cells #[.int .i64 a0_0, .int .i64 a0_1, .int .i64 a0_2, .int .i64 a0_3, .int .i64 a0_4, .int .i64 a0_5] 23 (0, 0)) (by (with_reducible repeat (first | refine bN_ ?_ _ | refine bD_ ?_ | refine bA_ ?_ _)); refine blk_far ?_ NB595_609.out _; (with_reducible repeat (first | refine bN_ ?_ _ | refine bD_ ?_ | refine bA_ ?_ _)); refine blk_far ?_ NB595_609.out _; (with_reducible repeat (first | refine bN_ ?_ _ | refine bD_ ?_ | refine bA_ ?_ _)); refine blk_far ?_ NB595_609.out _; (with_reducible repeat (first | refine bN_ ?_ _ | refine bD_ ?_ | refine bA_ ?_ _)); refine blk_far ?_ NB595_609.out _; (with_reducible repeat (first | refine bN_ ?_ _ | refine bD_ ?_ | refine bA_ ?_ _)); exact BK595.out) hb); have n2_ := Aside0.mk (blk_below (g := gb596) (o := .cells #[.int .i64 a1_0, .int .i64 a1_1, .int .i64 a1_2, .int .i64 a1_3] 44 (0, 0)) (by (with_reducible repeat (first | refine bN_ ?_ _ | refine bD_ ?_ | refine bA_ ?_ _)); refine blk_far ?_ NB596_609.out _; (with_reducible repeat (first | refine bN_ ?_ _ | refine bD_ ?_ | refine bA_ ?_ _)); refine blk_far ?_ NB596_609.out _; (with_reducible repeat (first | refine bN_ ?_ _ | refine bD_ ?_ | refine bA_ ?_ _)); refine blk_far ?_ NB596_609.out _; (with_reducible repeat (first | refine bN_ ?_ _ | refine bD_ ?_ | refine bA_ ?_ _)); refine blk_far ?_ NB596_609.out _; (with_reducible repeat (first | refine bN_ ?_ _ | refine bD_ ?_ | refine bA_ ?_ _)); exact BK596.out) hb); have n3_ := Aside0.mk (blk_below (g := gb597) (o := .cells #[.int .i64 a2_0, .int .i64 a2_1] 25 (0, 0)) (by (with_reducible repeat (first | refine bN_ ?_ _ | refine bD_ ?_ | refine bA_ ?_ _)); refine blk_far ?_ NB597_609.out _; (with_reducible repeat (first | refine bN_ ?_ _ | refine bD_ ?_ | refine bA_ ?_ _)); refine blk_far ?_ NB597_609.out _; (with_reducible repeat (first | refine bN_ ?_ _ | refine bD_ ?_ | refine bA_ ?_ _)); refine blk_far ?_ NB597_609.out _; (with_reducible repeat (first | refine bN_ ?_ _ | refine bD_ ?_ | refine bA_ ?_ _)); refine blk_far ?_ NB597_609.out _; (with_reducible repeat (first | refine bN_ ?_ _ | refine bD_ ?_ | refine bA_ ?_ _)); exact BK597.out) hb); have n4_ := Aside0.mk (blk_below (g := gb609) (o := .cells #[.int .i64 t604, .int .i64 t605, .int .i64 t606, .int .i64 t607] 44 (0, 0)) (by (with_reducible repeat (first | refine bN_ ?_ _ | refine bD_ ?_ | refine bA_ ?_ _)); refine blk_put (cs := #[.int .i64 t604, .int .i64 t605, .int .i64 t606, .int .i64 0]) ?_ 3 _ rfl; (with_reducible repeat (first | refine bN_ ?_ _ | refine bD_ ?_ | refine bA_ ?_ _)); refine blk_put (cs := #[.int .i64 t604, .int .i64 t605, .int .i64 0, .int .i64 0]) ?_ 2 _ rfl; (with_reducible repeat (first | refine bN_ ?_ _ | refine bD_ ?_ | refine bA_ ?_ _)); refine blk_put (cs := #[.int .i64 t604, .int .i64 0, .int .i64 0, .int .i64 0]) ?_ 1 _ rfl; (with_reducible repeat (first | refine bN_ ?_ _ | refine bD_ ?_ | refine bA_ ?_ _)); refine blk_put (cs := #[.int .i64 0, .int .i64 0, .int .i64 0, .int .i64 0]) ?_ 0 _ rfl; (with_reducible repeat (first | refine bN_ ?_ _ | refine bD_ ?_ | refine bA_ ?_ _)); exact BK609.out) hb); have n5_ := Aside0.mk (below_step (by repeat (first | (with_reducible first | exact HB.out | apply lA_ | apply lN_ | apply lD_ | refine lS_ ?_ GE595.out | refine lS_ ?_ GE596.out | refine lS_ ?_ GE597.out | refine lS_ ?_ GE609.out) | exact HB.out)) hb); clear BK595; clear BK596; clear BK597; clear BK609; clear HB; have HO612 := n0_; have BK595 := n1_; have BK596 := n2_; have BK597 := n3_; have BK609 := n4_; have HB := n5_; clear n0_ n1_ n2_ n3_ n4_ n5_; clear hb ho141; obtain ⟨Ao142, co142, eo142⟩ := Kd.R_slice HO612.out; subst eo142) | (go_at_call 25; (with_reducible refine (imageeditorlaw12_within.calls kj3 1048576 _ _ y610 true _ ?side1 ?side2 A133.out).mono ?_); (case side1 => repeat (first | exact (Kd.R_reads' HO612.out).2.2 | (with_reducible refine Kd.C_alloc ?_ _) | (with_reducible refine Kd.C_drewN ?_ _) | (with_reducible refine Kd.C_drew ?_))); (case side2 => exact (Kd.R_reads' HO612.out).2.1); rintro e w' ⟨rfl, ⟨nd, rfl⟩⟩; have hcz143_0 : w140.cell? ⟨gb609, 0, none⟩ = some (.int .i64 t604) := (blk_cell BK609.out 0).trans rfl; have hcz143_1 : w140.cell? ⟨gb609, 1, none⟩ = some (.int .i64 t605) := (blk_cell BK609.out 1).trans rfl; have hcz143_2 : w140.cell? ⟨gb609, 2, none⟩ = some (.int .i64 t606) := (blk_cell BK609.out 2).trans rfl; have hcz143_3 : w140.cell? ⟨gb609, 3, none⟩ = some (.int .i64 t607) := (blk_cell BK609.out 3).trans rfl; have hfz143_0 := blk_frozen BK609.out 0; have hfz143_1 := blk_frozen BK609.out 1; have hfz143_2 := blk_frozen BK609.out 2; have hfz143_3 := blk_frozen BK609.out 3))
              go_meet
              case rel => exact ⟨_, (true), (by first | rfl | (simp; done) | (simp [*]; done)), H', ⟨by have := HJ3.out; first | omega | exact Nat.le_refl _⟩, ⟨by (with_reducible repeat (first | refine bN_ ?_ _ | refine bD_ ?_ | refine bA_ ?_ _)); exact BK595.out⟩, ⟨by (with_reducible repeat (first | refine bN_ ?_ _ | refine bD_ ?_ | refine bA_ ?_ _)); exact BK596.out⟩, ⟨by (with_reducible repeat (first | refine bN_ ?_ _ | refine bD_ ?_ | refine bA_ ?_ _)); exact BK597.out⟩, ⟨by (with_reducible repeat (first | refine bN_ ?_ _ | refine bD_ ?_ | refine bA_ ?_ _)); exact BK609.out⟩, ⟨by repeat (first | (with_reducible first | exact HB.out | apply lA_ | apply lN_ | apply lD_ | refine lS_ ?_ GE595.out | refine lS_ ?_ GE596.out | refine lS_ ?_ GE597.out | refine lS_ ?_ GE609.out) | exact HB.out)⟩⟩
            · rw [if_neg c135] at H
              have c135b0 : decide (t606 < 0) = false := decide_eq_false c135
              clear c135
              have H' := Aside0.mk H
              clear H
              have hnb144 := NB609_595.out
              have hnc144 := NB595_609.out
              have hnb145 := NB609_596.out
              have hnc145 := NB596_609.out
              have hnb146 := NB609_597.out
              have hnc146 := NB597_609.out
              have hcz147_0 : w127.cell? ⟨gb609, 0, none⟩ = some (.int .i64 0) := (blk_cell BK609.out 0).trans rfl
              have hcz147_1 : w127.cell? ⟨gb609, 1, none⟩ = some (.int .i64 0) := (blk_cell BK609.out 1).trans rfl
              have hcz147_2 : w127.cell? ⟨gb609, 2, none⟩ = some (.int .i64 0) := (blk_cell BK609.out 2).trans rfl
              have hcz147_3 : w127.cell? ⟨gb609, 3, none⟩ = some (.int .i64 0) := (blk_cell BK609.out 3).trans rfl
              have hfz147_0 := blk_frozen BK609.out 0
              have hfz147_1 := blk_frozen BK609.out 1
              have hfz147_2 := blk_frozen BK609.out 2
              have hfz147_3 := blk_frozen BK609.out 3
              go_wp2_with (first | ((with_reducible refine gate_dst (N := 98) rfl ?_); (try (refine gate_grd (by rfl) ?_; dsimp only)); refine Kd.R_lit (Kd.int .i64) _ 3 ?hg (N := 98) ?hd (xs := ([t604, t605, t606, t607] : List Int)) (inner := [.int .i64 t604, .int .i64 t605, .int .i64 t606, .int .i64 t607]) (ok := fun _ => True) (okp := fun _ => True) ?hr ?hp (fun _ hk => hk) trivial (Below.refl _ _) (Nat.le_refl _) (by simp) ?_; (case hd => rfl); (case hg => rfl); (case hr => first | (go_simp; done) | (go_simp; rfl)); (case hp => exact (Reps.one (show Kd.M (Kd.int .i64) _ _ _ t604 [.int .i64 t604] from rfl) (Reps.one (show Kd.M (Kd.int .i64) _ _ _ t605 [.int .i64 t605] from rfl) (Reps.one (show Kd.M (Kd.int .i64) _ _ _ t606 [.int .i64 t606] from rfl) (Reps.one (show Kd.M (Kd.int .i64) _ _ _ t607 [.int .i64 t607] from rfl) (Reps.none _ _)))))); intro v611 w148 ho149 hb hg_ hnew_; clear hg_ hnew_; (first | rw [← Ny610.out] at ho149 | (simp only [Int.reduceToNat] at ho149; rw [← Ny610.out] at ho149)); have n0_ := Aside0.mk (Kd.R_lower ho149 (below_size (by repeat (first | (with_reducible first | exact HB.out | apply lA_ | apply lN_ | apply lD_ | refine lS_ ?_ GE595.out | refine lS_ ?_ GE596.out | refine lS_ ?_ GE597.out | refine lS_ ?_ GE609.out) | exact HB.out)))); have n1_ := Aside0.mk (blk_below (g := gb595) (o := .cells #[.int .i64 a0_0, .int .i64 a0_1, .int .i64 a0_2, .int .i64 a0_3, .int .i64 a0_4, .int .i64 a0_5] 23 (0, 0)) (by (with_reducible repeat (first | refine bN_ ?_ _ | refine bD_ ?_ | refine bA_ ?_ _)); refine blk_far ?_ NB595_609.out _; (with_reducible repeat (first | refine bN_ ?_ _ | refine bD_ ?_ | refine bA_ ?_ _)); refine blk_far ?_ NB595_609.out _; (with_reducible repeat (first | refine bN_ ?_ _ | refine bD_ ?_ | refine bA_ ?_ _)); refine blk_far ?_ NB595_609.out _; (with_reducible repeat (first | refine bN_ ?_ _ | refine bD_ ?_ | refine bA_ ?_ _)); refine blk_far ?_ NB595_609.out _; (with_reducible repeat (first | refine bN_ ?_ _ | refine bD_ ?_ | refine bA_ ?_ _)); exact BK595.out) hb); have n2_ := Aside0.mk (blk_below (g := gb596) (o := .cells #[.int .i64 a1_0, .int .i64 a1_1, .int .i64 a1_2, .int .i64 a1_3] 44 (0, 0)) (by (with_reducible repeat (first | refine bN_ ?_ _ | refine bD_ ?_ | refine bA_ ?_ _)); refine blk_far ?_ NB596_609.out _; (with_reducible repeat (first | refine bN_ ?_ _ | refine bD_ ?_ | refine bA_ ?_ _)); refine blk_far ?_ NB596_609.out _; (with_reducible repeat (first | refine bN_ ?_ _ | refine bD_ ?_ | refine bA_ ?_ _)); refine blk_far ?_ NB596_609.out _; (with_reducible repeat (first | refine bN_ ?_ _ | refine bD_ ?_ | refine bA_ ?_ _)); refine blk_far ?_ NB596_609.out _; (with_reducible repeat (first | refine bN_ ?_ _ | refine bD_ ?_ | refine bA_ ?_ _)); exact BK596.out) hb); have n3_ := Aside0.mk (blk_below (g := gb597) (o := .cells #[.int .i64 a2_0, .int .i64 a2_1] 25 (0, 0)) (by (with_reducible repeat (first | refine bN_ ?_ _ | refine bD_ ?_ | refine bA_ ?_ _)); refine blk_far ?_ NB597_609.out _; (with_reducible repeat (first | refine bN_ ?_ _ | refine bD_ ?_ | refine bA_ ?_ _)); refine blk_far ?_ NB597_609.out _; (with_reducible repeat (first | refine bN_ ?_ _ | refine bD_ ?_ | refine bA_ ?_ _)); refine blk_far ?_ NB597_609.out _; (with_reducible repeat (first | refine bN_ ?_ _ | refine bD_ ?_ | refine bA_ ?_ _)); refine blk_far ?_ NB597_609.out _; (with_reducible repeat (first | refine bN_ ?_ _ | refine bD_ ?_ | refine bA_ ?_ _)); exact BK597.out) hb); have n4_ := Aside0.mk (blk_below (g := gb609) (o := .cells #[.int .i64 t604, .int .i64 t605, .int .i64 t606, .int .i64 t607] 44 (0, 0)) (by (with_reducible repeat (first | refine bN_ ?_ _ | refine bD_ ?_ | refine bA_ ?_ _)); refine blk_put (cs := #[.int .i64 t604, .int .i64 t605, .int .i64 t606, .int .i64 0]) ?_ 3 _ rfl; (with_reducible repeat (first | refine bN_ ?_ _ | refine bD_ ?_ | refine bA_ ?_ _)); refine blk_put (cs := #[.int .i64 t604, .int .i64 t605, .int .i64 0, .int .i64 0]) ?_ 2 _ rfl; (with_reducible repeat (first | refine bN_ ?_ _ | refine bD_ ?_ | refine bA_ ?_ _)); refine blk_put (cs := #[.int .i64 t604, .int .i64 0, .int .i64 0, .int .i64 0]) ?_ 1 _ rfl; (with_reducible repeat (first | refine bN_ ?_ _ | refine bD_ ?_ | refine bA_ ?_ _)); refine blk_put (cs := #[.int .i64 0, .int .i64 0, .int .i64 0, .int .i64 0]) ?_ 0 _ rfl; (with_reducible repeat (first | refine bN_ ?_ _ | refine bD_ ?_ | refine bA_ ?_ _)); exact BK609.out) hb); have n5_ := Aside0.mk (below_step (by repeat (first | (with_reducible first | exact HB.out | apply lA_ | apply lN_ | apply lD_ | refine lS_ ?_ GE595.out | refine lS_ ?_ GE596.out | refine lS_ ?_ GE597.out | refine lS_ ?_ GE609.out) | exact HB.out)) hb); clear BK595; clear BK596; clear BK597; clear BK609; clear HB; have HO612 := n0_; have BK595 := n1_; have BK596 := n2_; have BK597 := n3_; have BK609 := n4_; have HB := n5_; clear n0_ n1_ n2_ n3_ n4_ n5_; clear hb ho149; obtain ⟨Ao150, co150, eo150⟩ := Kd.R_slice HO612.out; subst eo150) | (go_at_call 25; (with_reducible refine (imageeditorlaw12_within.calls kj3 1048576 _ _ y610 true _ ?side1 ?side2 A133.out).mono ?_); (case side1 => repeat (first | exact (Kd.R_reads' HO612.out).2.2 | (with_reducible refine Kd.C_alloc ?_ _) | (with_reducible refine Kd.C_drewN ?_ _) | (with_reducible refine Kd.C_drew ?_))); (case side2 => exact (Kd.R_reads' HO612.out).2.1); rintro e w' ⟨rfl, ⟨nd, rfl⟩⟩; have hcz151_0 : w148.cell? ⟨gb609, 0, none⟩ = some (.int .i64 t604) := (blk_cell BK609.out 0).trans rfl; have hcz151_1 : w148.cell? ⟨gb609, 1, none⟩ = some (.int .i64 t605) := (blk_cell BK609.out 1).trans rfl; have hcz151_2 : w148.cell? ⟨gb609, 2, none⟩ = some (.int .i64 t606) := (blk_cell BK609.out 2).trans rfl; have hcz151_3 : w148.cell? ⟨gb609, 3, none⟩ = some (.int .i64 t607) := (blk_cell BK609.out 3).trans rfl; have hfz151_0 := blk_frozen BK609.out 0; have hfz151_1 := blk_frozen BK609.out 1; have hfz151_2 := blk_frozen BK609.out 2; have hfz151_3 := blk_frozen BK609.out 3))
              go_meet
              case rel => exact ⟨_, (decide (t607 < 0)), (by first | rfl | (simp; done) | (simp [*]; done)), H', ⟨by have := HJ3.out; first | omega | exact Nat.le_refl _⟩, ⟨by (with_reducible repeat (first | refine bN_ ?_ _ | refine bD_ ?_ | refine bA_ ?_ _)); exact BK595.out⟩, ⟨by (with_reducible repeat (first | refine bN_ ?_ _ | refine bD_ ?_ | refine bA_ ?_ _)); exact BK596.out⟩, ⟨by (with_reducible repeat (first | refine bN_ ?_ _ | refine bD_ ?_ | refine bA_ ?_ _)); exact BK597.out⟩, ⟨by (with_reducible repeat (first | refine bN_ ?_ _ | refine bD_ ?_ | refine bA_ ?_ _)); exact BK609.out⟩, ⟨by repeat (first | (with_reducible first | exact HB.out | apply lA_ | apply lN_ | apply lD_ | refine lS_ ?_ GE595.out | refine lS_ ?_ GE596.out | refine lS_ ?_ GE597.out | refine lS_ ?_ GE609.out) | exact HB.out)⟩⟩
          · replace c134 := Bool.eq_false_iff.mpr c134
            subst c134
            have H1 : (imageeditorlaw12_AffineContains.j1 kj3 true a0_0 a0_1 a0_2 a0_3 a0_4 a0_5 a2_0 a2_1 t604 t605 t606 t607) = some r := by rw [if_neg (show ¬ (false = true) by decide)] at H; exact H
            clear H
            have H := H1
            clear H1
            have H' := Aside0.mk H
            clear H
            have hnb152 := NB609_595.out
            have hnc152 := NB595_609.out
            have hnb153 := NB609_596.out
            have hnc153 := NB596_609.out
            have hnb154 := NB609_597.out
            have hnc154 := NB597_609.out
            have hcz155_0 : w127.cell? ⟨gb609, 0, none⟩ = some (.int .i64 0) := (blk_cell BK609.out 0).trans rfl
            have hcz155_1 : w127.cell? ⟨gb609, 1, none⟩ = some (.int .i64 0) := (blk_cell BK609.out 1).trans rfl
            have hcz155_2 : w127.cell? ⟨gb609, 2, none⟩ = some (.int .i64 0) := (blk_cell BK609.out 2).trans rfl
            have hcz155_3 : w127.cell? ⟨gb609, 3, none⟩ = some (.int .i64 0) := (blk_cell BK609.out 3).trans rfl
            have hfz155_0 := blk_frozen BK609.out 0
            have hfz155_1 := blk_frozen BK609.out 1
            have hfz155_2 := blk_frozen BK609.out 2
            have hfz155_3 := blk_frozen BK609.out 3
            go_wp2_with (first | ((with_reducible refine gate_dst (N := 98) rfl ?_); (try (refine gate_grd (by rfl) ?_; dsimp only)); refine Kd.R_lit (Kd.int .i64) _ 3 ?hg (N := 98) ?hd (xs := ([t604, t605, t606, t607] : List Int)) (inner := [.int .i64 t604, .int .i64 t605, .int .i64 t606, .int .i64 t607]) (ok := fun _ => True) (okp := fun _ => True) ?hr ?hp (fun _ hk => hk) trivial (Below.refl _ _) (Nat.le_refl _) (by simp) ?_; (case hd => rfl); (case hg => rfl); (case hr => first | (go_simp; done) | (go_simp; rfl)); (case hp => exact (Reps.one (show Kd.M (Kd.int .i64) _ _ _ t604 [.int .i64 t604] from rfl) (Reps.one (show Kd.M (Kd.int .i64) _ _ _ t605 [.int .i64 t605] from rfl) (Reps.one (show Kd.M (Kd.int .i64) _ _ _ t606 [.int .i64 t606] from rfl) (Reps.one (show Kd.M (Kd.int .i64) _ _ _ t607 [.int .i64 t607] from rfl) (Reps.none _ _)))))); intro v611 w156 ho157 hb hg_ hnew_; clear hg_ hnew_; (first | rw [← Ny610.out] at ho157 | (simp only [Int.reduceToNat] at ho157; rw [← Ny610.out] at ho157)); have n0_ := Aside0.mk (Kd.R_lower ho157 (below_size (by repeat (first | (with_reducible first | exact HB.out | apply lA_ | apply lN_ | apply lD_ | refine lS_ ?_ GE595.out | refine lS_ ?_ GE596.out | refine lS_ ?_ GE597.out | refine lS_ ?_ GE609.out) | exact HB.out)))); have n1_ := Aside0.mk (blk_below (g := gb595) (o := .cells #[.int .i64 a0_0, .int .i64 a0_1, .int .i64 a0_2, .int .i64 a0_3, .int .i64 a0_4, .int .i64 a0_5] 23 (0, 0)) (by (with_reducible repeat (first | refine bN_ ?_ _ | refine bD_ ?_ | refine bA_ ?_ _)); refine blk_far ?_ NB595_609.out _; (with_reducible repeat (first | refine bN_ ?_ _ | refine bD_ ?_ | refine bA_ ?_ _)); refine blk_far ?_ NB595_609.out _; (with_reducible repeat (first | refine bN_ ?_ _ | refine bD_ ?_ | refine bA_ ?_ _)); refine blk_far ?_ NB595_609.out _; (with_reducible repeat (first | refine bN_ ?_ _ | refine bD_ ?_ | refine bA_ ?_ _)); refine blk_far ?_ NB595_609.out _; (with_reducible repeat (first | refine bN_ ?_ _ | refine bD_ ?_ | refine bA_ ?_ _)); exact BK595.out) hb); have n2_ := Aside0.mk (blk_below (g := gb596) (o := .cells #[.int .i64 a1_0, .int .i64 a1_1, .int .i64 a1_2, .int .i64 a1_3] 44 (0, 0)) (by (with_reducible repeat (first | refine bN_ ?_ _ | refine bD_ ?_ | refine bA_ ?_ _)); refine blk_far ?_ NB596_609.out _; (with_reducible repeat (first | refine bN_ ?_ _ | refine bD_ ?_ | refine bA_ ?_ _)); refine blk_far ?_ NB596_609.out _; (with_reducible repeat (first | refine bN_ ?_ _ | refine bD_ ?_ | refine bA_ ?_ _)); refine blk_far ?_ NB596_609.out _; (with_reducible repeat (first | refine bN_ ?_ _ | refine bD_ ?_ | refine bA_ ?_ _)); refine blk_far ?_ NB596_609.out _; (with_reducible repeat (first | refine bN_ ?_ _ | refine bD_ ?_ | refine bA_ ?_ _)); exact BK596.out) hb); have n3_ := Aside0.mk (blk_below (g := gb597) (o := .cells #[.int .i64 a2_0, .int .i64 a2_1] 25 (0, 0)) (by (with_reducible repeat (first | refine bN_ ?_ _ | refine bD_ ?_ | refine bA_ ?_ _)); refine blk_far ?_ NB597_609.out _; (with_reducible repeat (first | refine bN_ ?_ _ | refine bD_ ?_ | refine bA_ ?_ _)); refine blk_far ?_ NB597_609.out _; (with_reducible repeat (first | refine bN_ ?_ _ | refine bD_ ?_ | refine bA_ ?_ _)); refine blk_far ?_ NB597_609.out _; (with_reducible repeat (first | refine bN_ ?_ _ | refine bD_ ?_ | refine bA_ ?_ _)); refine blk_far ?_ NB597_609.out _; (with_reducible repeat (first | refine bN_ ?_ _ | refine bD_ ?_ | refine bA_ ?_ _)); exact BK597.out) hb); have n4_ := Aside0.mk (blk_below (g := gb609) (o := .cells #[.int .i64 t604, .int .i64 t605, .int .i64 t606, .int .i64 t607] 44 (0, 0)) (by (with_reducible repeat (first | refine bN_ ?_ _ | refine bD_ ?_ | refine bA_ ?_ _)); refine blk_put (cs := #[.int .i64 t604, .int .i64 t605, .int .i64 t606, .int .i64 0]) ?_ 3 _ rfl; (with_reducible repeat (first | refine bN_ ?_ _ | refine bD_ ?_ | refine bA_ ?_ _)); refine blk_put (cs := #[.int .i64 t604, .int .i64 t605, .int .i64 0, .int .i64 0]) ?_ 2 _ rfl; (with_reducible repeat (first | refine bN_ ?_ _ | refine bD_ ?_ | refine bA_ ?_ _)); refine blk_put (cs := #[.int .i64 t604, .int .i64 0, .int .i64 0, .int .i64 0]) ?_ 1 _ rfl; (with_reducible repeat (first | refine bN_ ?_ _ | refine bD_ ?_ | refine bA_ ?_ _)); refine blk_put (cs := #[.int .i64 0, .int .i64 0, .int .i64 0, .int .i64 0]) ?_ 0 _ rfl; (with_reducible repeat (first | refine bN_ ?_ _ | refine bD_ ?_ | refine bA_ ?_ _)); exact BK609.out) hb); have n5_ := Aside0.mk (below_step (by repeat (first | (with_reducible first | exact HB.out | apply lA_ | apply lN_ | apply lD_ | refine lS_ ?_ GE595.out | refine lS_ ?_ GE596.out | refine lS_ ?_ GE597.out | refine lS_ ?_ GE609.out) | exact HB.out)) hb); clear BK595; clear BK596; clear BK597; clear BK609; clear HB; have HO612 := n0_; have BK595 := n1_; have BK596 := n2_; have BK597 := n3_; have BK609 := n4_; have HB := n5_; clear n0_ n1_ n2_ n3_ n4_ n5_; clear hb ho157; obtain ⟨Ao158, co158, eo158⟩ := Kd.R_slice HO612.out; subst eo158) | (go_at_call 25; (with_reducible refine (imageeditorlaw12_within.calls kj3 1048576 _ _ y610 false _ ?side1 ?side2 A133.out).mono ?_); (case side1 => repeat (first | exact (Kd.R_reads' HO612.out).2.2 | (with_reducible refine Kd.C_alloc ?_ _) | (with_reducible refine Kd.C_drewN ?_ _) | (with_reducible refine Kd.C_drew ?_))); (case side2 => exact (Kd.R_reads' HO612.out).2.1); rintro e w' ⟨rfl, ⟨nd, rfl⟩⟩))
            go_meet
            case rel => exact ⟨_, (true), (by first | rfl | (simp; done) | (simp [*]; done)), H', ⟨by have := HJ3.out; first | omega | exact Nat.le_refl _⟩, ⟨by (with_reducible repeat (first | refine bN_ ?_ _ | refine bD_ ?_ | refine bA_ ?_ _)); exact BK595.out⟩, ⟨by (with_reducible repeat (first | refine bN_ ?_ _ | refine bD_ ?_ | refine bA_ ?_ _)); exact BK596.out⟩, ⟨by (with_reducible repeat (first | refine bN_ ?_ _ | refine bD_ ?_ | refine bA_ ?_ _)); exact BK597.out⟩, ⟨by (with_reducible repeat (first | refine bN_ ?_ _ | refine bD_ ?_ | refine bA_ ?_ _)); exact BK609.out⟩, ⟨by repeat (first | (with_reducible first | exact HB.out | apply lA_ | apply lN_ | apply lD_ | refine lS_ ?_ GE595.out | refine lS_ ?_ GE596.out | refine lS_ ?_ GE597.out | refine lS_ ?_ GE609.out) | exact HB.out)⟩⟩
        · rw [if_neg c132] at H
          have c132b0 : (t608 == 0) = false := beq_eq_false_iff_ne.mpr c132
          have c132b1 : (t608 != 0) = true := bne_iff_ne.mpr c132
          (first | rw [c132b0] | (simp only [i64_w, i32_w]; rw [c132b0]) | skip)
          have H' := Aside0.mk H
          clear H
          go_wp2
          go_meet
          case rel => exact ⟨_, (true), (by first | rfl | (simp; done) | (simp [*]; done)), H', ⟨by have := HJ3.out; first | omega | exact Nat.le_refl _⟩, ⟨by (with_reducible repeat (first | refine bN_ ?_ _ | refine bD_ ?_ | refine bA_ ?_ _)); refine blk_far ?_ NB595_609.out _; (with_reducible repeat (first | refine bN_ ?_ _ | refine bD_ ?_ | refine bA_ ?_ _)); refine blk_far ?_ NB595_609.out _; (with_reducible repeat (first | refine bN_ ?_ _ | refine bD_ ?_ | refine bA_ ?_ _)); refine blk_far ?_ NB595_609.out _; (with_reducible repeat (first | refine bN_ ?_ _ | refine bD_ ?_ | refine bA_ ?_ _)); refine blk_far ?_ NB595_609.out _; (with_reducible repeat (first | refine bN_ ?_ _ | refine bD_ ?_ | refine bA_ ?_ _)); exact BK595.out⟩, ⟨by (with_reducible repeat (first | refine bN_ ?_ _ | refine bD_ ?_ | refine bA_ ?_ _)); refine blk_far ?_ NB596_609.out _; (with_reducible repeat (first | refine bN_ ?_ _ | refine bD_ ?_ | refine bA_ ?_ _)); refine blk_far ?_ NB596_609.out _; (with_reducible repeat (first | refine bN_ ?_ _ | refine bD_ ?_ | refine bA_ ?_ _)); refine blk_far ?_ NB596_609.out _; (with_reducible repeat (first | refine bN_ ?_ _ | refine bD_ ?_ | refine bA_ ?_ _)); refine blk_far ?_ NB596_609.out _; (with_reducible repeat (first | refine bN_ ?_ _ | refine bD_ ?_ | refine bA_ ?_ _)); exact BK596.out⟩, ⟨by (with_reducible repeat (first | refine bN_ ?_ _ | refine bD_ ?_ | refine bA_ ?_ _)); refine blk_far ?_ NB597_609.out _; (with_reducible repeat (first | refine bN_ ?_ _ | refine bD_ ?_ | refine bA_ ?_ _)); refine blk_far ?_ NB597_609.out _; (with_reducible repeat (first | refine bN_ ?_ _ | refine bD_ ?_ | refine bA_ ?_ _)); refine blk_far ?_ NB597_609.out _; (with_reducible repeat (first | refine bN_ ?_ _ | refine bD_ ?_ | refine bA_ ?_ _)); refine blk_far ?_ NB597_609.out _; (with_reducible repeat (first | refine bN_ ?_ _ | refine bD_ ?_ | refine bA_ ?_ _)); exact BK597.out⟩, ⟨by (with_reducible repeat (first | refine bN_ ?_ _ | refine bD_ ?_ | refine bA_ ?_ _)); refine blk_put (cs := #[.int .i64 t604, .int .i64 t605, .int .i64 t606, .int .i64 0]) ?_ 3 _ rfl; (with_reducible repeat (first | refine bN_ ?_ _ | refine bD_ ?_ | refine bA_ ?_ _)); refine blk_put (cs := #[.int .i64 t604, .int .i64 t605, .int .i64 0, .int .i64 0]) ?_ 2 _ rfl; (with_reducible repeat (first | refine bN_ ?_ _ | refine bD_ ?_ | refine bA_ ?_ _)); refine blk_put (cs := #[.int .i64 t604, .int .i64 0, .int .i64 0, .int .i64 0]) ?_ 1 _ rfl; (with_reducible repeat (first | refine bN_ ?_ _ | refine bD_ ?_ | refine bA_ ?_ _)); refine blk_put (cs := #[.int .i64 0, .int .i64 0, .int .i64 0, .int .i64 0]) ?_ 0 _ rfl; (with_reducible repeat (first | refine bN_ ?_ _ | refine bD_ ?_ | refine bA_ ?_ _)); exact BK609.out⟩, ⟨by repeat (first | (with_reducible first | exact HB.out | apply lA_ | apply lN_ | apply lD_ | refine lS_ ?_ GE595.out | refine lS_ ?_ GE596.out | refine lS_ ?_ GE597.out | refine lS_ ?_ GE609.out) | exact HB.out)⟩⟩
      clear HC120
      try clear c1
      try clear c2
      try clear p2
      try clear c3
      try clear c4
      try clear c5
      try clear c6
      try clear p6
      try clear c7
      try clear c8
      try clear c9
      try clear c10
      try clear c11
      try clear c12
      try clear c12b0
      try clear c13
      try clear c14
      try clear c15
      try clear c17
      try clear c23
      try clear c23b0
      try clear c24
      try clear c25
      try clear c27
      try clear c28
      try clear c34
      try clear c34b0
      try clear c35
      try clear c36
      try clear c39
      try clear c45
      try clear c45b0
      try clear c46
      try clear c47
      try clear c50
      try clear c56
      try clear c56b0
      try clear c57
      try clear c58
      try clear c61
      try clear p64
      try clear c68
      try clear c68b0
      try clear c69
      try clear c70
      try clear c73
      try clear c80
      try clear c80b0
      try clear c81
      try clear c82
      try clear c85
      try clear c92
      try clear c93
      try clear c96
      try clear c103
      try clear c104
      try clear c107
      try clear c112
      try clear c113
      try clear c116
      try clear c121
      try clear c122
      try clear c124
      try clear c128
      try clear c129
      try clear c130
      try clear c132
      try clear c132b0
      try clear c132b1
      try clear c134
      try clear c135
      try clear c135b0
      try clear c136
      try clear c137
      try clear c138
      try clear c144
      try clear c145
      try clear c146
      try clear c152
      try clear c153
      try clear c154
      try clear hcz101_0
      try clear hcz101_1
      try clear hcz101_2
      try clear hcz101_3
      try clear hcz102_0
      try clear hcz102_1
      try clear hcz105_0
      try clear hcz105_1
      try clear hcz105_2
      try clear hcz105_3
      try clear hcz105_4
      try clear hcz105_5
      try clear hcz108_0
      try clear hcz108_1
      try clear hcz108_2
      try clear hcz108_3
      try clear hcz114_0
      try clear hcz114_1
      try clear hcz114_2
      try clear hcz114_3
      try clear hcz114_4
      try clear hcz114_5
      try clear hcz123_0
      try clear hcz123_1
      try clear hcz123_2
      try clear hcz123_3
      try clear hcz123_4
      try clear hcz123_5
      try clear hcz125_0
      try clear hcz125_1
      try clear hcz125_2
      try clear hcz125_3
      try clear hcz131_0
      try clear hcz131_1
      try clear hcz131_2
      try clear hcz131_3
      try clear hcz139_0
      try clear hcz139_1
      try clear hcz139_2
      try clear hcz139_3
      try clear hcz143_0
      try clear hcz143_1
      try clear hcz143_2
      try clear hcz143_3
      try clear hcz147_0
      try clear hcz147_1
      try clear hcz147_2
      try clear hcz147_3
      try clear hcz151_0
      try clear hcz151_1
      try clear hcz151_2
      try clear hcz151_3
      try clear hcz155_0
      try clear hcz155_1
      try clear hcz155_2
      try clear hcz155_3
      try clear hcz15_0
      try clear hcz15_1
      try clear hcz15_2
      try clear hcz15_3
      try clear hcz15_4
      try clear hcz15_5
      try clear hcz18_0
      try clear hcz18_1
      try clear hcz18_2
      try clear hcz18_3
      try clear hcz22_0
      try clear hcz22_1
      try clear hcz22_2
      try clear hcz22_3
      try clear hcz26_0
      try clear hcz26_1
      try clear hcz26_2
      try clear hcz26_3
      try clear hcz26_4
      try clear hcz26_5
      try clear hcz29_0
      try clear hcz29_1
      try clear hcz29_2
      try clear hcz29_3
      try clear hcz33_0
      try clear hcz33_1
      try clear hcz33_2
      try clear hcz33_3
      try clear hcz37_0
      try clear hcz37_1
      try clear hcz37_2
      try clear hcz37_3
      try clear hcz37_4
      try clear hcz37_5
      try clear hcz40_0
      try clear hcz40_1
      try clear hcz40_2
      try clear hcz40_3
      try clear hcz44_0
      try clear hcz44_1
      try clear hcz44_2
      try clear hcz44_3
      try clear hcz48_0
      try clear hcz48_1
      try clear hcz48_2
      try clear hcz48_3
      try clear hcz48_4
      try clear hcz48_5
      try clear hcz51_0
      try clear hcz51_1
      try clear hcz51_2
      try clear hcz51_3
      try clear hcz55_0
      try clear hcz55_1
      try clear hcz55_2
      try clear hcz55_3
      try clear hcz59_0
      try clear hcz59_1
      try clear hcz59_2
      try clear hcz59_3
      try clear hcz59_4
      try clear hcz59_5
      try clear hcz62_0
      try clear hcz62_1
      try clear hcz62_2
      try clear hcz62_3
      try clear hcz66_0
      try clear hcz66_1
      try clear hcz66_2
      try clear hcz66_3
      try clear hcz67_0
      try clear hcz67_1
      try clear hcz71_0
      try clear hcz71_1
      try clear hcz71_2
      try clear hcz71_3
      try clear hcz71_4
      try clear hcz71_5
      try clear hcz74_0
      try clear hcz74_1
      try clear hcz74_2
      try clear hcz74_3
      try clear hcz78_0
      try clear hcz78_1
      try clear hcz78_2
      try clear hcz78_3
      try clear hcz79_0
      try clear hcz79_1
      try clear hcz83_0
      try clear hcz83_1
      try clear hcz83_2
      try clear hcz83_3
      try clear hcz83_4
      try clear hcz83_5
      try clear hcz86_0
      try clear hcz86_1
      try clear hcz86_2
      try clear hcz86_3
      try clear hcz90_0
      try clear hcz90_1
      try clear hcz90_2
      try clear hcz90_3
      try clear hcz91_0
      try clear hcz91_1
      try clear hcz94_0
      try clear hcz94_1
      try clear hcz94_2
      try clear hcz94_3
      try clear hcz94_4
      try clear hcz94_5
      try clear hcz97_0
      try clear hcz97_1
      try clear hcz97_2
      try clear hcz97_3
      try clear hfz101_0
      try clear hfz101_1
      try clear hfz101_2
      try clear hfz101_3
      try clear hfz102_0
      try clear hfz102_1
      try clear hfz105_0
      try clear hfz105_1
      try clear hfz105_2
      try clear hfz105_3
      try clear hfz105_4
      try clear hfz105_5
      try clear hfz108_0
      try clear hfz108_1
      try clear hfz108_2
      try clear hfz108_3
      try clear hfz114_0
      try clear hfz114_1
      try clear hfz114_2
      try clear hfz114_3
      try clear hfz114_4
      try clear hfz114_5
      try clear hfz123_0
      try clear hfz123_1
      try clear hfz123_2
      try clear hfz123_3
      try clear hfz123_4
      try clear hfz123_5
      try clear hfz125_0
      try clear hfz125_1
      try clear hfz125_2
      try clear hfz125_3
      try clear hfz131_0
      try clear hfz131_1
      try clear hfz131_2
      try clear hfz131_3
      try clear hfz139_0
      try clear hfz139_1
      try clear hfz139_2
      try clear hfz139_3
      try clear hfz143_0
      try clear hfz143_1
      try clear hfz143_2
      try clear hfz143_3
      try clear hfz147_0
      try clear hfz147_1
      try clear hfz147_2
      try clear hfz147_3
      try clear hfz151_0
      try clear hfz151_1
      try clear hfz151_2
      try clear hfz151_3
      try clear hfz155_0
      try clear hfz155_1
      try clear hfz155_2
      try clear hfz155_3
      try clear hfz15_0
      try clear hfz15_1
      try clear hfz15_2
      try clear hfz15_3
      try clear hfz15_4
      try clear hfz15_5
      try clear hfz18_0
      try clear hfz18_1
      try clear hfz18_2
      try clear hfz18_3
      try clear hfz22_0
      try clear hfz22_1
      try clear hfz22_2
      try clear hfz22_3
      try clear hfz26_0
      try clear hfz26_1
      try clear hfz26_2
      try clear hfz26_3
      try clear hfz26_4
      try clear hfz26_5
      try clear hfz29_0
      try clear hfz29_1
      try clear hfz29_2
      try clear hfz29_3
      try clear hfz33_0
      try clear hfz33_1
      try clear hfz33_2
      try clear hfz33_3
      try clear hfz37_0
      try clear hfz37_1
      try clear hfz37_2
      try clear hfz37_3
      try clear hfz37_4
      try clear hfz37_5
      try clear hfz40_0
      try clear hfz40_1
      try clear hfz40_2
      try clear hfz40_3
      try clear hfz44_0
      try clear hfz44_1
      try clear hfz44_2
      try clear hfz44_3
      try clear hfz48_0
      try clear hfz48_1
      try clear hfz48_2
      try clear hfz48_3
      try clear hfz48_4
      try clear hfz48_5
      try clear hfz51_0
      try clear hfz51_1
      try clear hfz51_2
      try clear hfz51_3
      try clear hfz55_0
      try clear hfz55_1
      try clear hfz55_2
      try clear hfz55_3
      try clear hfz59_0
      try clear hfz59_1
      try clear hfz59_2
      try clear hfz59_3
      try clear hfz59_4
      try clear hfz59_5
      try clear hfz62_0
      try clear hfz62_1
      try clear hfz62_2
      try clear hfz62_3
      try clear hfz66_0
      try clear hfz66_1
      try clear hfz66_2
      try clear hfz66_3
      try clear hfz67_0
      try clear hfz67_1
      try clear hfz71_0
      try clear hfz71_1
      try clear hfz71_2
      try clear hfz71_3
      try clear hfz71_4
      try clear hfz71_5
      try clear hfz74_0
      try clear hfz74_1
      try clear hfz74_2
      try clear hfz74_3
      try clear hfz78_0
      try clear hfz78_1
      try clear hfz78_2
      try clear hfz78_3
      try clear hfz79_0
      try clear hfz79_1
      try clear hfz83_0
      try clear hfz83_1
      try clear hfz83_2
      try clear hfz83_3
      try clear hfz83_4
      try clear hfz83_5
      try clear hfz86_0
      try clear hfz86_1
      try clear hfz86_2
      try clear hfz86_3
      try clear hfz90_0
      try clear hfz90_1
      try clear hfz90_2
      try clear hfz90_3
      try clear hfz91_0
      try clear hfz91_1
      try clear hfz94_0
      try clear hfz94_1
      try clear hfz94_2
      try clear hfz94_3
      try clear hfz94_4
      try clear hfz94_5
      try clear hfz97_0
      try clear hfz97_1
      try clear hfz97_2
      try clear hfz97_3
      try clear p2
      try clear p6
      try clear p64
      obtain ⟨kq, x111_119, rfl, HA, HJ119, BK595, BK596, BK597, BK609, HB⟩ := hcut
      cases kq with
      | zero => exact absurd HA.out (by simp [imageeditorlaw12_AffineContains.j1])
      | succ kj119 =>
        have H := HA.out
        clear HA
        simp only [imageeditorlaw12_AffineContains.j1] at H
        by_cases c159 : x111_119 = true
        · subst c159
          have H1 : (none) = some r := by rw [if_pos rfl] at H; exact H
          clear H
          have H := H1
          clear H1
          exact absurd H (by simp)
        · replace c159 := Bool.eq_false_iff.mpr c159
          subst c159
          have H1 : (if t606 = 0 then (imageeditorlaw12_AffineContains.j2 kj119 true a0_0 a0_1 a0_2 a0_3 a0_4 a0_5 a2_0 a2_1 t604 t605 t606 t607) else (imageeditorlaw12_AffineContains.j2 kj119 (t607 == 0) a0_0 a0_1 a0_2 a0_3 a0_4 a0_5 a2_0 a2_1 t604 t605 t606 t607)) = some r := by rw [if_neg (show ¬ (false = true) by decide)] at H; exact H
          clear H
          have H := H1
          clear H1
          have HC160 := Aside0.mk H
          clear H
          go_upto_region 6 with (fail)
          go_cut [119] (fun v119 wc => ∃ (kq : Nat) (x119_159 : Bool), v119 = .bool x119_159 ∧ Aside0 (imageeditorlaw12_AffineContains.j2 kq x119_159 a0_0 a0_1 a0_2 a0_3 a0_4 a0_5 a2_0 a2_1 t604 t605 t606 t607 = some r) ∧ Aside0 (kq ≤ kj119) ∧ Aside0 (wc.heap[gb595]? = some (.cells #[.int .i64 a0_0, .int .i64 a0_1, .int .i64 a0_2, .int .i64 a0_3, .int .i64 a0_4, .int .i64 a0_5] 23 (0, 0))) ∧ Aside0 (wc.heap[gb596]? = some (.cells #[.int .i64 a1_0, .int .i64 a1_1, .int .i64 a1_2, .int .i64 a1_3] 44 (0, 0))) ∧ Aside0 (wc.heap[gb597]? = some (.cells #[.int .i64 a2_0, .int .i64 a2_1] 25 (0, 0))) ∧ Aside0 (wc.heap[gb609]? = some (.cells #[.int .i64 t604, .int .i64 t605, .int .i64 t606, .int .i64 t607] 44 (0, 0))) ∧ Aside0 (Below w.heap.size w wc))
          case first =>
            have H := HC160.out
            clear HC160
            by_cases c161 : t606 = 0
            · rw [if_pos c161] at H
              have c161b0 : (t606 == 0) = true := beq_iff_eq.mpr c161
              have c161b1 : (t606 != 0) = false := bne_eq_false_iff_eq.mpr c161
              clear c161
              (first | rw [c161b0] | (simp only [i64_w, i32_w]; rw [c161b0]) | skip)
              have H' := Aside0.mk H
              clear H
              have hnb162 := NB609_595.out
              have hnc162 := NB595_609.out
              have hnb163 := NB609_596.out
              have hnc163 := NB596_609.out
              have hnb164 := NB609_597.out
              have hnc164 := NB597_609.out
              have hcz165_0 : wc.cell? ⟨gb609, 0, none⟩ = some (.int .i64 t604) := (blk_cell BK609.out 0).trans rfl
              have hcz165_1 : wc.cell? ⟨gb609, 1, none⟩ = some (.int .i64 t605) := (blk_cell BK609.out 1).trans rfl
              have hcz165_2 : wc.cell? ⟨gb609, 2, none⟩ = some (.int .i64 t606) := (blk_cell BK609.out 2).trans rfl
              have hcz165_3 : wc.cell? ⟨gb609, 3, none⟩ = some (.int .i64 t607) := (blk_cell BK609.out 3).trans rfl
              have hfz165_0 := blk_frozen BK609.out 0
              have hfz165_1 := blk_frozen BK609.out 1
              have hfz165_2 := blk_frozen BK609.out 2
              have hfz165_3 := blk_frozen BK609.out 3
              go_wp2
              go_meet
              case rel => exact ⟨_, (true), (by first | rfl | (simp; done) | (simp [*]; done)), H', ⟨by have := HJ3.out; have := HJ119.out; first | omega | exact Nat.le_refl _⟩, ⟨by (with_reducible repeat (first | refine bN_ ?_ _ | refine bD_ ?_ | refine bA_ ?_ _)); exact BK595.out⟩, ⟨by (with_reducible repeat (first | refine bN_ ?_ _ | refine bD_ ?_ | refine bA_ ?_ _)); exact BK596.out⟩, ⟨by (with_reducible repeat (first | refine bN_ ?_ _ | refine bD_ ?_ | refine bA_ ?_ _)); exact BK597.out⟩, ⟨by (with_reducible repeat (first | refine bN_ ?_ _ | refine bD_ ?_ | refine bA_ ?_ _)); exact BK609.out⟩, ⟨by repeat (first | (with_reducible first | exact HB.out | apply lA_ | apply lN_ | apply lD_ | refine lS_ ?_ GE595.out | refine lS_ ?_ GE596.out | refine lS_ ?_ GE597.out | refine lS_ ?_ GE609.out) | exact HB.out)⟩⟩
            · rw [if_neg c161] at H
              have c161b0 : (t606 == 0) = false := beq_eq_false_iff_ne.mpr c161
              have c161b1 : (t606 != 0) = true := bne_iff_ne.mpr c161
              (first | rw [c161b0] | (simp only [i64_w, i32_w]; rw [c161b0]) | skip)
              have H' := Aside0.mk H
              clear H
              have hnb166 := NB609_595.out
              have hnc166 := NB595_609.out
              have hnb167 := NB609_596.out
              have hnc167 := NB596_609.out
              have hnb168 := NB609_597.out
              have hnc168 := NB597_609.out
              have hcz169_0 : wc.cell? ⟨gb609, 0, none⟩ = some (.int .i64 t604) := (blk_cell BK609.out 0).trans rfl
              have hcz169_1 : wc.cell? ⟨gb609, 1, none⟩ = some (.int .i64 t605) := (blk_cell BK609.out 1).trans rfl
              have hcz169_2 : wc.cell? ⟨gb609, 2, none⟩ = some (.int .i64 t606) := (blk_cell BK609.out 2).trans rfl
              have hcz169_3 : wc.cell? ⟨gb609, 3, none⟩ = some (.int .i64 t607) := (blk_cell BK609.out 3).trans rfl
              have hfz169_0 := blk_frozen BK609.out 0
              have hfz169_1 := blk_frozen BK609.out 1
              have hfz169_2 := blk_frozen BK609.out 2
              have hfz169_3 := blk_frozen BK609.out 3
              go_wp2
              go_meet
              case rel => exact ⟨_, ((t607 == 0)), (by first | rfl | (simp; done) | (simp [*]; done)), H', ⟨by have := HJ3.out; have := HJ119.out; first | omega | exact Nat.le_refl _⟩, ⟨by (with_reducible repeat (first | refine bN_ ?_ _ | refine bD_ ?_ | refine bA_ ?_ _)); exact BK595.out⟩, ⟨by (with_reducible repeat (first | refine bN_ ?_ _ | refine bD_ ?_ | refine bA_ ?_ _)); exact BK596.out⟩, ⟨by (with_reducible repeat (first | refine bN_ ?_ _ | refine bD_ ?_ | refine bA_ ?_ _)); exact BK597.out⟩, ⟨by (with_reducible repeat (first | refine bN_ ?_ _ | refine bD_ ?_ | refine bA_ ?_ _)); exact BK609.out⟩, ⟨by repeat (first | (with_reducible first | exact HB.out | apply lA_ | apply lN_ | apply lD_ | refine lS_ ?_ GE595.out | refine lS_ ?_ GE596.out | refine lS_ ?_ GE597.out | refine lS_ ?_ GE609.out) | exact HB.out)⟩⟩
          clear HC160
          try clear c1
          try clear c2
          try clear p2
          try clear c3
          try clear c4
          try clear c5
          try clear c6
          try clear p6
          try clear c7
          try clear c8
          try clear c9
          try clear c10
          try clear c11
          try clear c12
          try clear c12b0
          try clear c13
          try clear c14
          try clear c15
          try clear c16
          try clear c17
          try clear c23
          try clear c23b0
          try clear c24
          try clear c25
          try clear c27
          try clear c28
          try clear c34
          try clear c34b0
          try clear c35
          try clear c36
          try clear c39
          try clear c45
          try clear c45b0
          try clear c46
          try clear c47
          try clear c50
          try clear c56
          try clear c56b0
          try clear c57
          try clear c58
          try clear c61
          try clear p64
          try clear c68
          try clear c68b0
          try clear c69
          try clear c70
          try clear c73
          try clear c80
          try clear c80b0
          try clear c81
          try clear c82
          try clear c85
          try clear c92
          try clear c93
          try clear c96
          try clear c103
          try clear c104
          try clear c107
          try clear c112
          try clear c113
          try clear c116
          try clear c121
          try clear c122
          try clear c124
          try clear c128
          try clear c129
          try clear c130
          try clear c132
          try clear c132b0
          try clear c132b1
          try clear c134
          try clear c135
          try clear c135b0
          try clear c136
          try clear c137
          try clear c138
          try clear c144
          try clear c145
          try clear c146
          try clear c152
          try clear c153
          try clear c154
          try clear c159
          try clear c161
          try clear c161b0
          try clear c161b1
          try clear c162
          try clear c163
          try clear c164
          try clear c166
          try clear c167
          try clear c168
          try clear hcz101_0
          try clear hcz101_1
          try clear hcz101_2
          try clear hcz101_3
          try clear hcz102_0
          try clear hcz102_1
          try clear hcz105_0
          try clear hcz105_1
          try clear hcz105_2
          try clear hcz105_3
          try clear hcz105_4
          try clear hcz105_5
          try clear hcz108_0
          try clear hcz108_1
          try clear hcz108_2
          try clear hcz108_3
          try clear hcz114_0
          try clear hcz114_1
          try clear hcz114_2
          try clear hcz114_3
          try clear hcz114_4
          try clear hcz114_5
          try clear hcz123_0
          try clear hcz123_1
          try clear hcz123_2
          try clear hcz123_3
          try clear hcz123_4
          try clear hcz123_5
          try clear hcz125_0
          try clear hcz125_1
          try clear hcz125_2
          try clear hcz125_3
          try clear hcz131_0
          try clear hcz131_1
          try clear hcz131_2
          try clear hcz131_3
          try clear hcz139_0
          try clear hcz139_1
          try clear hcz139_2
          try clear hcz139_3
          try clear hcz143_0
          try clear hcz143_1
          try clear hcz143_2
          try clear hcz143_3
          try clear hcz147_0
          try clear hcz147_1
          try clear hcz147_2
          try clear hcz147_3
          try clear hcz151_0
          try clear hcz151_1
          try clear hcz151_2
          try clear hcz151_3
          try clear hcz155_0
          try clear hcz155_1
          try clear hcz155_2
          try clear hcz155_3
          try clear hcz15_0
          try clear hcz15_1
          try clear hcz15_2
          try clear hcz15_3
          try clear hcz15_4
          try clear hcz15_5
          try clear hcz165_0
          try clear hcz165_1
          try clear hcz165_2
          try clear hcz165_3
          try clear hcz169_0
          try clear hcz169_1
          try clear hcz169_2
          try clear hcz169_3
          try clear hcz18_0
          try clear hcz18_1
          try clear hcz18_2
          try clear hcz18_3
          try clear hcz22_0
          try clear hcz22_1
          try clear hcz22_2
          try clear hcz22_3
          try clear hcz26_0
          try clear hcz26_1
          try clear hcz26_2
          try clear hcz26_3
          try clear hcz26_4
          try clear hcz26_5
          try clear hcz29_0
          try clear hcz29_1
          try clear hcz29_2
          try clear hcz29_3
          try clear hcz33_0
          try clear hcz33_1
          try clear hcz33_2
          try clear hcz33_3
          try clear hcz37_0
          try clear hcz37_1
          try clear hcz37_2
          try clear hcz37_3
          try clear hcz37_4
          try clear hcz37_5
          try clear hcz40_0
          try clear hcz40_1
          try clear hcz40_2
          try clear hcz40_3
          try clear hcz44_0
          try clear hcz44_1
          try clear hcz44_2
          try clear hcz44_3
          try clear hcz48_0
          try clear hcz48_1
          try clear hcz48_2
          try clear hcz48_3
          try clear hcz48_4
          try clear hcz48_5
          try clear hcz51_0
          try clear hcz51_1
          try clear hcz51_2
          try clear hcz51_3
          try clear hcz55_0
          try clear hcz55_1
          try clear hcz55_2
          try clear hcz55_3
          try clear hcz59_0
          try clear hcz59_1
          try clear hcz59_2
          try clear hcz59_3
          try clear hcz59_4
          try clear hcz59_5
          try clear hcz62_0
          try clear hcz62_1
          try clear hcz62_2
          try clear hcz62_3
          try clear hcz66_0
          try clear hcz66_1
          try clear hcz66_2
          try clear hcz66_3
          try clear hcz67_0
          try clear hcz67_1
          try clear hcz71_0
          try clear hcz71_1
          try clear hcz71_2
          try clear hcz71_3
          try clear hcz71_4
          try clear hcz71_5
          try clear hcz74_0
          try clear hcz74_1
          try clear hcz74_2
          try clear hcz74_3
          try clear hcz78_0
          try clear hcz78_1
          try clear hcz78_2
          try clear hcz78_3
          try clear hcz79_0
          try clear hcz79_1
          try clear hcz83_0
          try clear hcz83_1
          try clear hcz83_2
          try clear hcz83_3
          try clear hcz83_4
          try clear hcz83_5
          try clear hcz86_0
          try clear hcz86_1
          try clear hcz86_2
          try clear hcz86_3
          try clear hcz90_0
          try clear hcz90_1
          try clear hcz90_2
          try clear hcz90_3
          try clear hcz91_0
          try clear hcz91_1
          try clear hcz94_0
          try clear hcz94_1
          try clear hcz94_2
          try clear hcz94_3
          try clear hcz94_4
          try clear hcz94_5
          try clear hcz97_0
          try clear hcz97_1
          try clear hcz97_2
          try clear hcz97_3
          try clear hfz101_0
          try clear hfz101_1
          try clear hfz101_2
          try clear hfz101_3
          try clear hfz102_0
          try clear hfz102_1
          try clear hfz105_0
          try clear hfz105_1
          try clear hfz105_2
          try clear hfz105_3
          try clear hfz105_4
          try clear hfz105_5
          try clear hfz108_0
          try clear hfz108_1
          try clear hfz108_2
          try clear hfz108_3
          try clear hfz114_0
          try clear hfz114_1
          try clear hfz114_2
          try clear hfz114_3
          try clear hfz114_4
          try clear hfz114_5
          try clear hfz123_0
          try clear hfz123_1
          try clear hfz123_2
          try clear hfz123_3
          try clear hfz123_4
          try clear hfz123_5
          try clear hfz125_0
          try clear hfz125_1
          try clear hfz125_2
          try clear hfz125_3
          try clear hfz131_0
          try clear hfz131_1
          try clear hfz131_2
          try clear hfz131_3
          try clear hfz139_0
          try clear hfz139_1
          try clear hfz139_2
          try clear hfz139_3
          try clear hfz143_0
          try clear hfz143_1
          try clear hfz143_2
          try clear hfz143_3
          try clear hfz147_0
          try clear hfz147_1
          try clear hfz147_2
          try clear hfz147_3
          try clear hfz151_0
          try clear hfz151_1
          try clear hfz151_2
          try clear hfz151_3
          try clear hfz155_0
          try clear hfz155_1
          try clear hfz155_2
          try clear hfz155_3
          try clear hfz15_0
          try clear hfz15_1
          try clear hfz15_2
          try clear hfz15_3
          try clear hfz15_4
          try clear hfz15_5
          try clear hfz165_0
          try clear hfz165_1
          try clear hfz165_2
          try clear hfz165_3
          try clear hfz169_0
          try clear hfz169_1
          try clear hfz169_2
          try clear hfz169_3
          try clear hfz18_0
          try clear hfz18_1
          try clear hfz18_2
          try clear hfz18_3
          try clear hfz22_0
          try clear hfz22_1
          try clear hfz22_2
          try clear hfz22_3
          try clear hfz26_0
          try clear hfz26_1
          try clear hfz26_2
          try clear hfz26_3
          try clear hfz26_4
          try clear hfz26_5
          try clear hfz29_0
          try clear hfz29_1
          try clear hfz29_2
          try clear hfz29_3
          try clear hfz33_0
          try clear hfz33_1
          try clear hfz33_2
          try clear hfz33_3
          try clear hfz37_0
          try clear hfz37_1
          try clear hfz37_2
          try clear hfz37_3
          try clear hfz37_4
          try clear hfz37_5
          try clear hfz40_0
          try clear hfz40_1
          try clear hfz40_2
          try clear hfz40_3
          try clear hfz44_0
          try clear hfz44_1
          try clear hfz44_2
          try clear hfz44_3
          try clear hfz48_0
          try clear hfz48_1
          try clear hfz48_2
          try clear hfz48_3
          try clear hfz48_4
          try clear hfz48_5
          try clear hfz51_0
          try clear hfz51_1
          try clear hfz51_2
          try clear hfz51_3
          try clear hfz55_0
          try clear hfz55_1
          try clear hfz55_2
          try clear hfz55_3
          try clear hfz59_0
          try clear hfz59_1
          try clear hfz59_2
          try clear hfz59_3
          try clear hfz59_4
          try clear hfz59_5
          try clear hfz62_0
          try clear hfz62_1
          try clear hfz62_2
          try clear hfz62_3
          try clear hfz66_0
          try clear hfz66_1
          try clear hfz66_2
          try clear hfz66_3
          try clear hfz67_0
          try clear hfz67_1
          try clear hfz71_0
          try clear hfz71_1
          try clear hfz71_2
          try clear hfz71_3
          try clear hfz71_4
          try clear hfz71_5
          try clear hfz74_0
          try clear hfz74_1
          try clear hfz74_2
          try clear hfz74_3
          try clear hfz78_0
          try clear hfz78_1
          try clear hfz78_2
          try clear hfz78_3
          try clear hfz79_0
          try clear hfz79_1
          try clear hfz83_0
          try clear hfz83_1
          try clear hfz83_2
          try clear hfz83_3
          try clear hfz83_4
          try clear hfz83_5
          try clear hfz86_0
          try clear hfz86_1
          try clear hfz86_2
          try clear hfz86_3
          try clear hfz90_0
          try clear hfz90_1
          try clear hfz90_2
          try clear hfz90_3
          try clear hfz91_0
          try clear hfz91_1
          try clear hfz94_0
          try clear hfz94_1
          try clear hfz94_2
          try clear hfz94_3
          try clear hfz94_4
          try clear hfz94_5
          try clear hfz97_0
          try clear hfz97_1
          try clear hfz97_2
          try clear hfz97_3
          try clear p2
          try clear p6
          try clear p64
          obtain ⟨kq, x119_159, rfl, HA, HJ159, BK595, BK596, BK597, BK609, HB⟩ := hcut
          cases kq with
          | zero => exact absurd HA.out (by simp [imageeditorlaw12_AffineContains.j2])
          | succ kj159 =>
            have H := HA.out
            clear HA
            simp only [imageeditorlaw12_AffineContains.j2] at H
            by_cases c170 : x119_159 = true
            · subst c170
              have H1 : (if (t604 == 0 && (t605 == 0 && (t606 == 0 && (t607 == 0)))) = true then ((imageeditorlaw12_awake.f kj159).bind fun t614 => (some t614)) else (none)) = some r := by rw [if_pos rfl] at H; exact H
              clear H
              have H := H1
              clear H1
              by_cases c171 : (t604 == 0 && (t605 == 0 && (t606 == 0 && (t607 == 0)))) = true
              · rw [if_pos c171] at H
                have c171b0 : (t604 == 0 && (t605 == 0 && (t606 == 0 && (t607 == 0)))) = true := c171
                (try (have c171b1 : decide (t604 = 0 && (t605 == 0 && (t606 == 0 && (t607 == 0)))) = true := by simpa using c171))
                (try (have c171b2 : (t604 == 0 && (t605 == 0 && (t606 == 0 && (t607 == 0)))) = true := by simpa using c171))
                clear c171
                replace H := Option.bind_eq_some_iff.mp H
                obtain ⟨t614, A1720, H⟩ := H
                replace H : (some t614) = some r := H
                have A172 := Aside0.mk A1720
                clear A1720
                obtain rfl := Option.some.inj H
                have hnb173 := NB609_595.out
                have hnc173 := NB595_609.out
                have hnb174 := NB609_596.out
                have hnc174 := NB596_609.out
                have hnb175 := NB609_597.out
                have hnc175 := NB597_609.out
                have hcz176_0 : wc.cell? ⟨gb609, 0, none⟩ = some (.int .i64 t604) := (blk_cell BK609.out 0).trans rfl
                have hcz176_1 : wc.cell? ⟨gb609, 1, none⟩ = some (.int .i64 t605) := (blk_cell BK609.out 1).trans rfl
                have hcz176_2 : wc.cell? ⟨gb609, 2, none⟩ = some (.int .i64 t606) := (blk_cell BK609.out 2).trans rfl
                have hcz176_3 : wc.cell? ⟨gb609, 3, none⟩ = some (.int .i64 t607) := (blk_cell BK609.out 3).trans rfl
                have hfz176_0 := blk_frozen BK609.out 0
                have hfz176_1 := blk_frozen BK609.out 1
                have hfz176_2 := blk_frozen BK609.out 2
                have hfz176_3 := blk_frozen BK609.out 3
                go_wp2_with (first | (go_at_call 14; (with_reducible refine (imageeditorlaw12_awake.calls kj159  t614 _ A172.out).mono ?_); rintro e w177 ⟨rfl, hb⟩; have n0_ := Aside0.mk (blk_below (g := gb595) (o := .cells #[.int .i64 a0_0, .int .i64 a0_1, .int .i64 a0_2, .int .i64 a0_3, .int .i64 a0_4, .int .i64 a0_5] 23 (0, 0)) (by (with_reducible repeat (first | refine bN_ ?_ _ | refine bD_ ?_ | refine bA_ ?_ _)); exact BK595.out) hb); have n1_ := Aside0.mk (blk_below (g := gb596) (o := .cells #[.int .i64 a1_0, .int .i64 a1_1, .int .i64 a1_2, .int .i64 a1_3] 44 (0, 0)) (by (with_reducible repeat (first | refine bN_ ?_ _ | refine bD_ ?_ | refine bA_ ?_ _)); exact BK596.out) hb); have n2_ := Aside0.mk (blk_below (g := gb597) (o := .cells #[.int .i64 a2_0, .int .i64 a2_1] 25 (0, 0)) (by (with_reducible repeat (first | refine bN_ ?_ _ | refine bD_ ?_ | refine bA_ ?_ _)); exact BK597.out) hb); have n3_ := Aside0.mk (blk_below (g := gb609) (o := .cells #[.int .i64 t604, .int .i64 t605, .int .i64 t606, .int .i64 t607] 44 (0, 0)) (by (with_reducible repeat (first | refine bN_ ?_ _ | refine bD_ ?_ | refine bA_ ?_ _)); exact BK609.out) hb); have n4_ := Aside0.mk (below_step (by repeat (first | (with_reducible first | exact HB.out | apply lA_ | apply lN_ | apply lD_ | refine lS_ ?_ GE595.out | refine lS_ ?_ GE596.out | refine lS_ ?_ GE597.out | refine lS_ ?_ GE609.out) | exact HB.out)) hb); clear BK595; clear BK596; clear BK597; clear BK609; clear HB; have BK595 := n0_; have BK596 := n1_; have BK597 := n2_; have BK609 := n3_; have HB := n4_; clear n0_ n1_ n2_ n3_ n4_; (try clear hb); (try clear hb2); (try clear hk); (try clear hi)))
                go_ret
                exact ⟨by first | rfl | (simp [errW_none, errW_some] <;> rfl) | (simp [*, errW_none, errW_some] <;> rfl), by repeat (first | (with_reducible first | exact HB.out | apply lA_ | apply lN_ | apply lD_ | refine lS_ ?_ GE595.out | refine lS_ ?_ GE596.out | refine lS_ ?_ GE597.out | refine lS_ ?_ GE609.out) | exact HB.out)⟩
              · rw [if_neg c171] at H
                exact absurd H (by simp)
            · replace c170 := Bool.eq_false_iff.mpr c170
              subst c170
              have H1 : ((affine_Apply.f kj159 a0_0 a0_1 a0_2 a0_3 a0_4 a0_5 a2_0 a2_1).bind fun bt615 => (if bt615.1 ≥ (wrap64 (t604 * 65536)) then (if bt615.1 ≤ (wrap64 ((wrap64 (t604 + t606)) * 65536)) then (if bt615.2 ≥ (wrap64 (t605 * 65536)) then (if bt615.2 ≤ (wrap64 ((wrap64 (t605 + t607)) * 65536)) then ((imageeditorlaw12_awake.f kj159).bind fun t618 => (some t618)) else (none)) else (none)) else (none)) else (none))) = some r := by rw [if_neg (show ¬ (false = true) by decide)] at H; exact H
              clear H
              have H := H1
              clear H1
              replace H := Option.bind_eq_some_iff.mp H
              obtain ⟨⟨t615, t616⟩, A1780, H⟩ := H
              replace H : (if t615 ≥ (wrap64 (t604 * 65536)) then (if t615 ≤ (wrap64 ((wrap64 (t604 + t606)) * 65536)) then (if t616 ≥ (wrap64 (t605 * 65536)) then (if t616 ≤ (wrap64 ((wrap64 (t605 + t607)) * 65536)) then ((imageeditorlaw12_awake.f kj159).bind fun t618 => (some t618)) else (none)) else (none)) else (none)) else (none)) = some r := H
              have A178 := Aside0.mk A1780
              clear A1780
              by_cases c179 : t615 ≥ (wrap64 (t604 * 65536))
              · rw [if_pos c179] at H
                have c179b0 : decide ((wrap64 (t604 * 65536)) ≤ t615) = true := decide_eq_true c179
                clear c179
                by_cases c180 : t615 ≤ (wrap64 ((wrap64 (t604 + t606)) * 65536))
                · rw [if_pos c180] at H
                  have c180b0 : decide (t615 ≤ (wrap64 ((wrap64 (t604 + t606)) * 65536))) = true := decide_eq_true c180
                  clear c180
                  by_cases c181 : t616 ≥ (wrap64 (t605 * 65536))
                  · rw [if_pos c181] at H
                    have c181b0 : decide ((wrap64 (t605 * 65536)) ≤ t616) = true := decide_eq_true c181
                    clear c181
                    by_cases c182 : t616 ≤ (wrap64 ((wrap64 (t605 + t607)) * 65536))
                    · rw [if_pos c182] at H
                      have c182b0 : decide (t616 ≤ (wrap64 ((wrap64 (t605 + t607)) * 65536))) = true := decide_eq_true c182
                      clear c182
                      replace H := Option.bind_eq_some_iff.mp H
                      obtain ⟨t618, A1830, H⟩ := H
                      replace H : (some t618) = some r := H
                      have A183 := Aside0.mk A1830
                      clear A1830
                      obtain rfl := Option.some.inj H
                      have hnb184 := NB595_596.out
                      have hnc184 := NB596_595.out
                      have hnb185 := NB595_597.out
                      have hnc185 := NB597_595.out
                      have hnb186 := NB595_609.out
                      have hnc186 := NB609_595.out
                      have hcz187_0 : wc.cell? ⟨gb595, 0, none⟩ = some (.int .i64 a0_0) := (blk_cell BK595.out 0).trans rfl
                      have hcz187_1 : wc.cell? ⟨gb595, 1, none⟩ = some (.int .i64 a0_1) := (blk_cell BK595.out 1).trans rfl
                      have hcz187_2 : wc.cell? ⟨gb595, 2, none⟩ = some (.int .i64 a0_2) := (blk_cell BK595.out 2).trans rfl
                      have hcz187_3 : wc.cell? ⟨gb595, 3, none⟩ = some (.int .i64 a0_3) := (blk_cell BK595.out 3).trans rfl
                      have hcz187_4 : wc.cell? ⟨gb595, 4, none⟩ = some (.int .i64 a0_4) := (blk_cell BK595.out 4).trans rfl
                      have hcz187_5 : wc.cell? ⟨gb595, 5, none⟩ = some (.int .i64 a0_5) := (blk_cell BK595.out 5).trans rfl
                      have hfz187_0 := blk_frozen BK595.out 0
                      have hfz187_1 := blk_frozen BK595.out 1
                      have hfz187_2 := blk_frozen BK595.out 2
                      have hfz187_3 := blk_frozen BK595.out 3
                      have hfz187_4 := blk_frozen BK595.out 4
                      have hfz187_5 := blk_frozen BK595.out 5
                      have hnb188 := NB597_596.out
                      have hnc188 := NB596_597.out
                      have hnb189 := NB597_609.out
                      have hnc189 := NB609_597.out
                      have hcz190_0 : wc.cell? ⟨gb597, 0, none⟩ = some (.int .i64 a2_0) := (blk_cell BK597.out 0).trans rfl
                      have hcz190_1 : wc.cell? ⟨gb597, 1, none⟩ = some (.int .i64 a2_1) := (blk_cell BK597.out 1).trans rfl
                      have hfz190_0 := blk_frozen BK597.out 0
                      have hfz190_1 := blk_frozen BK597.out 1
                      go_wp2_with (first | ((with_reducible refine gate_callee (f := 12) rfl ?_); refine goesL_ (some 128) rfl rfl Try.func12 (by kernel_rfl) rfl #[.agg #[.int .i64 a0_0, .int .i64 a0_1, .int .i64 a0_2, .int .i64 a0_3, .int .i64 a0_4, .int .i64 a0_5], .agg #[.int .i64 a2_0, .int .i64 a2_1]] rfl (by (try simp only [List.map_toArray, List.map_cons, List.map_nil]); first | done | rfl | (simp only [List.length_drop, List.length_take]; rfl)) ?_; (with_reducible refine (affine_Apply.calls kj159 a0_0 a0_1 a0_2 a0_3 a0_4 a0_5 a2_0 a2_1 t615 t616 _ A178.out).mono ?_); rintro e w191 ⟨rfl, hb⟩; refine ⟨_, rfl, ?_⟩; have n0_ := Aside0.mk (blk_below (g := gb595) (o := .cells #[.int .i64 a0_0, .int .i64 a0_1, .int .i64 a0_2, .int .i64 a0_3, .int .i64 a0_4, .int .i64 a0_5] 23 (0, 0)) (by (with_reducible repeat (first | refine bN_ ?_ _ | refine bD_ ?_ | refine bA_ ?_ _)); exact BK595.out) hb); have n1_ := Aside0.mk (blk_below (g := gb596) (o := .cells #[.int .i64 a1_0, .int .i64 a1_1, .int .i64 a1_2, .int .i64 a1_3] 44 (0, 0)) (by (with_reducible repeat (first | refine bN_ ?_ _ | refine bD_ ?_ | refine bA_ ?_ _)); exact BK596.out) hb); have n2_ := Aside0.mk (blk_below (g := gb597) (o := .cells #[.int .i64 a2_0, .int .i64 a2_1] 25 (0, 0)) (by (with_reducible repeat (first | refine bN_ ?_ _ | refine bD_ ?_ | refine bA_ ?_ _)); exact BK597.out) hb); have n3_ := Aside0.mk (blk_below (g := gb609) (o := .cells #[.int .i64 t604, .int .i64 t605, .int .i64 t606, .int .i64 t607] 44 (0, 0)) (by (with_reducible repeat (first | refine bN_ ?_ _ | refine bD_ ?_ | refine bA_ ?_ _)); exact BK609.out) hb); have n4_ := Aside0.mk (below_step (by repeat (first | (with_reducible first | exact HB.out | apply lA_ | apply lN_ | apply lD_ | refine lS_ ?_ GE595.out | refine lS_ ?_ GE596.out | refine lS_ ?_ GE597.out | refine lS_ ?_ GE609.out) | exact HB.out)) hb); clear BK595; clear BK596; clear BK597; clear BK609; clear HB; have BK595 := n0_; have BK596 := n1_; have BK597 := n2_; have BK609 := n3_; have HB := n4_; clear n0_ n1_ n2_ n3_ n4_; (try clear hb); (try clear hb2); (try clear hk); (try clear hi)) | ((with_reducible refine gate_dst (N := 9) rfl ?_); (try (refine gate_grd (by rfl) ?_; dsimp only)); refine box_event ?hg (N := 9) ?hd (cs := #[.int .i64 0, .int .i64 0]) (t := 25) ?hr ?_; (case hd => rfl); (case hg => rfl); (case hr => first | (go_simp; done) | (go_simp; rfl)); intro gb617 hg w192 hbox hb; have n0_ := Aside0.mk (blk_below (g := gb595) (o := .cells #[.int .i64 a0_0, .int .i64 a0_1, .int .i64 a0_2, .int .i64 a0_3, .int .i64 a0_4, .int .i64 a0_5] 23 (0, 0)) (by (with_reducible repeat (first | refine bN_ ?_ _ | refine bD_ ?_ | refine bA_ ?_ _)); exact BK595.out) hb); have n1_ := Aside0.mk (blk_below (g := gb596) (o := .cells #[.int .i64 a1_0, .int .i64 a1_1, .int .i64 a1_2, .int .i64 a1_3] 44 (0, 0)) (by (with_reducible repeat (first | refine bN_ ?_ _ | refine bD_ ?_ | refine bA_ ?_ _)); exact BK596.out) hb); have n2_ := Aside0.mk (blk_below (g := gb597) (o := .cells #[.int .i64 a2_0, .int .i64 a2_1] 25 (0, 0)) (by (with_reducible repeat (first | refine bN_ ?_ _ | refine bD_ ?_ | refine bA_ ?_ _)); exact BK597.out) hb); have n3_ := Aside0.mk (blk_below (g := gb609) (o := .cells #[.int .i64 t604, .int .i64 t605, .int .i64 t606, .int .i64 t607] 44 (0, 0)) (by (with_reducible repeat (first | refine bN_ ?_ _ | refine bD_ ?_ | refine bA_ ?_ _)); exact BK609.out) hb); have n4_ := Aside0.mk (below_step (by repeat (first | (with_reducible first | exact HB.out | apply lA_ | apply lN_ | apply lD_ | refine lS_ ?_ GE595.out | refine lS_ ?_ GE596.out | refine lS_ ?_ GE597.out | refine lS_ ?_ GE609.out) | exact HB.out)) hb); have n5_ := Aside0.mk (hbox); have n6_ := Aside0.mk ((by rw [hg]; exact (below_size (by repeat (first | (with_reducible first | exact HB.out | apply lA_ | apply lN_ | apply lD_ | refine lS_ ?_ GE595.out | refine lS_ ?_ GE596.out | refine lS_ ?_ GE597.out | refine lS_ ?_ GE609.out) | exact HB.out))) : w.heap.size ≤ gb617)); have n7_ := Aside0.mk ((by rw [hg]; exact (below_size (by repeat (first | (with_reducible first | exact HB.out | apply lA_ | apply lN_ | apply lD_ | refine lS_ ?_ GE595.out | refine lS_ ?_ GE596.out | refine lS_ ?_ GE597.out | refine lS_ ?_ GE609.out) | exact HB.out))) : w.heap.size ≤ gb617)); have n8_ := Aside0.mk ((by rw [hg]; exact Nat.ne_of_lt (blk_lt (g := gb595) (o := .cells #[.int .i64 a0_0, .int .i64 a0_1, .int .i64 a0_2, .int .i64 a0_3, .int .i64 a0_4, .int .i64 a0_5] 23 (0, 0)) (by (with_reducible repeat (first | refine bN_ ?_ _ | refine bD_ ?_ | refine bA_ ?_ _)); exact BK595.out)) : gb595 ≠ gb617)); have n9_ := Aside0.mk ((by rw [hg]; exact Nat.ne_of_gt (blk_lt (g := gb595) (o := .cells #[.int .i64 a0_0, .int .i64 a0_1, .int .i64 a0_2, .int .i64 a0_3, .int .i64 a0_4, .int .i64 a0_5] 23 (0, 0)) (by (with_reducible repeat (first | refine bN_ ?_ _ | refine bD_ ?_ | refine bA_ ?_ _)); exact BK595.out)) : gb617 ≠ gb595)); have n10_ := Aside0.mk ((by rw [hg]; exact Nat.ne_of_lt (blk_lt (g := gb596) (o := .cells #[.int .i64 a1_0, .int .i64 a1_1, .int .i64 a1_2, .int .i64 a1_3] 44 (0, 0)) (by (with_reducible repeat (first | refine bN_ ?_ _ | refine bD_ ?_ | refine bA_ ?_ _)); exact BK596.out)) : gb596 ≠ gb617)); have n11_ := Aside0.mk ((by rw [hg]; exact Nat.ne_of_gt (blk_lt (g := gb596) (o := .cells #[.int .i64 a1_0, .int .i64 a1_1, .int .i64 a1_2, .int .i64 a1_3] 44 (0, 0)) (by (with_reducible repeat (first | refine bN_ ?_ _ | refine bD_ ?_ | refine bA_ ?_ _)); exact BK596.out)) : gb617 ≠ gb596)); have n12_ := Aside0.mk ((by rw [hg]; exact Nat.ne_of_lt (blk_lt (g := gb597) (o := .cells #[.int .i64 a2_0, .int .i64 a2_1] 25 (0, 0)) (by (with_reducible repeat (first | refine bN_ ?_ _ | refine bD_ ?_ | refine bA_ ?_ _)); exact BK597.out)) : gb597 ≠ gb617)); have n13_ := Aside0.mk ((by rw [hg]; exact Nat.ne_of_gt (blk_lt (g := gb597) (o := .cells #[.int .i64 a2_0, .int .i64 a2_1] 25 (0, 0)) (by (with_reducible repeat (first | refine bN_ ?_ _ | refine bD_ ?_ | refine bA_ ?_ _)); exact BK597.out)) : gb617 ≠ gb597)); have n14_ := Aside0.mk ((by rw [hg]; exact Nat.ne_of_lt (blk_lt (g := gb609) (o := .cells #[.int .i64 t604, .int .i64 t605, .int .i64 t606, .int .i64 t607] 44 (0, 0)) (by (with_reducible repeat (first | refine bN_ ?_ _ | refine bD_ ?_ | refine bA_ ?_ _)); exact BK609.out)) : gb609 ≠ gb617)); have n15_ := Aside0.mk ((by rw [hg]; exact Nat.ne_of_gt (blk_lt (g := gb609) (o := .cells #[.int .i64 t604, .int .i64 t605, .int .i64 t606, .int .i64 t607] 44 (0, 0)) (by (with_reducible repeat (first | refine bN_ ?_ _ | refine bD_ ?_ | refine bA_ ?_ _)); exact BK609.out)) : gb617 ≠ gb609)); clear BK595; clear BK596; clear BK597; clear BK609; clear HB; have BK595 := n0_; have BK596 := n1_; have BK597 := n2_; have BK609 := n3_; have HB := n4_; have BK617 := n5_; have GW617 := n6_; have GE617 := n7_; have NB595_617 := n8_; have NB617_595 := n9_; have NB596_617 := n10_; have NB617_596 := n11_; have NB597_617 := n12_; have NB617_597 := n13_; have NB609_617 := n14_; have NB617_609 := n15_; clear n0_ n1_ n2_ n3_ n4_ n5_ n6_ n7_ n8_ n9_ n10_ n11_ n12_ n13_ n14_ n15_; clear hb hbox hg; have hnb193 := NB617_595.out; have hnc193 := NB595_617.out; have hnb194 := NB617_596.out; have hnc194 := NB596_617.out; have hnb195 := NB617_597.out; have hnc195 := NB597_617.out; have hnb196 := NB617_609.out; have hnc196 := NB609_617.out; have hcz197_0 : w192.cell? ⟨gb617, 0, none⟩ = some (.int .i64 0) := (blk_cell BK617.out 0).trans rfl; have hcz197_1 : w192.cell? ⟨gb617, 1, none⟩ = some (.int .i64 0) := (blk_cell BK617.out 1).trans rfl; have hfz197_0 := blk_frozen BK617.out 0; have hfz197_1 := blk_frozen BK617.out 1; have hnb198 := NB609_596.out; have hnc198 := NB596_609.out; have hcz199_0 : w192.cell? ⟨gb609, 0, none⟩ = some (.int .i64 t604) := (blk_cell BK609.out 0).trans rfl; have hcz199_1 : w192.cell? ⟨gb609, 1, none⟩ = some (.int .i64 t605) := (blk_cell BK609.out 1).trans rfl; have hcz199_2 : w192.cell? ⟨gb609, 2, none⟩ = some (.int .i64 t606) := (blk_cell BK609.out 2).trans rfl; have hcz199_3 : w192.cell? ⟨gb609, 3, none⟩ = some (.int .i64 t607) := (blk_cell BK609.out 3).trans rfl; have hfz199_0 := blk_frozen BK609.out 0; have hfz199_1 := blk_frozen BK609.out 1; have hfz199_2 := blk_frozen BK609.out 2; have hfz199_3 := blk_frozen BK609.out 3) | (go_at_call 14; (with_reducible refine (imageeditorlaw12_awake.calls kj159  t618 _ A183.out).mono ?_); rintro e w200 ⟨rfl, hb⟩; have n0_ := Aside0.mk (blk_below (g := gb595) (o := .cells #[.int .i64 a0_0, .int .i64 a0_1, .int .i64 a0_2, .int .i64 a0_3, .int .i64 a0_4, .int .i64 a0_5] 23 (0, 0)) (by (with_reducible repeat (first | refine bN_ ?_ _ | refine bD_ ?_ | refine bA_ ?_ _)); refine blk_far ?_ NB595_617.out _; (with_reducible repeat (first | refine bN_ ?_ _ | refine bD_ ?_ | refine bA_ ?_ _)); refine blk_far ?_ NB595_617.out _; (with_reducible repeat (first | refine bN_ ?_ _ | refine bD_ ?_ | refine bA_ ?_ _)); exact BK595.out) hb); have n1_ := Aside0.mk (blk_below (g := gb596) (o := .cells #[.int .i64 a1_0, .int .i64 a1_1, .int .i64 a1_2, .int .i64 a1_3] 44 (0, 0)) (by (with_reducible repeat (first | refine bN_ ?_ _ | refine bD_ ?_ | refine bA_ ?_ _)); refine blk_far ?_ NB596_617.out _; (with_reducible repeat (first | refine bN_ ?_ _ | refine bD_ ?_ | refine bA_ ?_ _)); refine blk_far ?_ NB596_617.out _; (with_reducible repeat (first | refine bN_ ?_ _ | refine bD_ ?_ | refine bA_ ?_ _)); exact BK596.out) hb); have n2_ := Aside0.mk (blk_below (g := gb597) (o := .cells #[.int .i64 a2_0, .int .i64 a2_1] 25 (0, 0)) (by (with_reducible repeat (first | refine bN_ ?_ _ | refine bD_ ?_ | refine bA_ ?_ _)); refine blk_far ?_ NB597_617.out _; (with_reducible repeat (first | refine bN_ ?_ _ | refine bD_ ?_ | refine bA_ ?_ _)); refine blk_far ?_ NB597_617.out _; (with_reducible repeat (first | refine bN_ ?_ _ | refine bD_ ?_ | refine bA_ ?_ _)); exact BK597.out) hb); have n3_ := Aside0.mk (blk_below (g := gb609) (o := .cells #[.int .i64 t604, .int .i64 t605, .int .i64 t606, .int .i64 t607] 44 (0, 0)) (by (with_reducible repeat (first | refine bN_ ?_ _ | refine bD_ ?_ | refine bA_ ?_ _)); refine blk_far ?_ NB609_617.out _; (with_reducible repeat (first | refine bN_ ?_ _ | refine bD_ ?_ | refine bA_ ?_ _)); refine blk_far ?_ NB609_617.out _; (with_reducible repeat (first | refine bN_ ?_ _ | refine bD_ ?_ | refine bA_ ?_ _)); exact BK609.out) hb); have n4_ := Aside0.mk (blk_below (g := gb617) (o := .cells #[.int .i64 t615, .int .i64 t616] 25 (0, 0)) (by (with_reducible repeat (first | refine bN_ ?_ _ | refine bD_ ?_ | refine bA_ ?_ _)); refine blk_put (cs := #[.int .i64 t615, .int .i64 0]) ?_ 1 _ rfl; (with_reducible repeat (first | refine bN_ ?_ _ | refine bD_ ?_ | refine bA_ ?_ _)); refine blk_put (cs := #[.int .i64 0, .int .i64 0]) ?_ 0 _ rfl; (with_reducible repeat (first | refine bN_ ?_ _ | refine bD_ ?_ | refine bA_ ?_ _)); exact BK617.out) hb); have n5_ := Aside0.mk (below_step (by repeat (first | (with_reducible first | exact HB.out | apply lA_ | apply lN_ | apply lD_ | refine lS_ ?_ GE595.out | refine lS_ ?_ GE596.out | refine lS_ ?_ GE597.out | refine lS_ ?_ GE609.out | refine lS_ ?_ GE617.out) | exact HB.out)) hb); clear BK595; clear BK596; clear BK597; clear BK609; clear BK617; clear HB; have BK595 := n0_; have BK596 := n1_; have BK597 := n2_; have BK609 := n3_; have BK617 := n4_; have HB := n5_; clear n0_ n1_ n2_ n3_ n4_ n5_; (try clear hb); (try clear hb2); (try clear hk); (try clear hi)))
                      go_ret
                      exact ⟨by first | rfl | (simp [errW_none, errW_some] <;> rfl) | (simp [*, errW_none, errW_some] <;> rfl), by repeat (first | (with_reducible first | exact HB.out | apply lA_ | apply lN_ | apply lD_ | refine lS_ ?_ GE595.out | refine lS_ ?_ GE596.out | refine lS_ ?_ GE597.out | refine lS_ ?_ GE609.out | refine lS_ ?_ GE617.out) | exact HB.out)⟩
                    · rw [if_neg c182] at H
                      exact absurd H (by simp)
                  · rw [if_neg c181] at H
                    exact absurd H (by simp)
                · rw [if_neg c180] at H
                  exact absurd H (by simp)
              · rw [if_neg c179] at H
                exact absurd H (by simp)


end Go.Proofs.Ytgciphmmfbgkeaa.Q
